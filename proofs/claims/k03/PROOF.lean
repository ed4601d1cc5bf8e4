import PyProof.Rows.All
import Wide.All
import OpenK.AllK
import Wide.FinOn
import HandS.ForMost
import HandS.NoneIn
import HandS.More
import HandS.SortInts
import HandS.Wide
import HandS.IsInst
import HandS.EndBits
import HandS.TupAny
import HandS.Walk
import HandS.ForExc
import HandS.TryMany
import HandS.ExcInit
import HandS.ExcField
import HandS.ExcIs
import HandS.Strs
import HandS.ExcOwn
import PyProof.EnumMake
import PyProof.Draws
import KE.GoesMore
import PySem.Challenge.RW_pactford_k03_pacts_refused
set_option Elab.async false
set_option linter.all false
set_option maxRecDepth 100000
set_option maxHeartbeats 4000000
/-! Rules that the hand layer lacks, for these programs. -/
namespace L2
open PySem PySem.Spec PyProof.Rows
section
variable {X : Cx}
theorem get_list : PGet X (rIxL X.K) := by
  intro pins s σ H x y v u Q I rx ry h
  obtain ⟨p, xs, i, z, rfl, rfl, hq, he, q⟩ := h
  cases rx
  obtain ⟨t, rfl⟩ := ry
  obtain ⟨its, r, pl, hz⟩ := I.list hq
  obtain ⟨j, h1, h2, h3, h4, h5⟩ := atI_get he
  obtain ⟨w, ew, rw'⟩ := r.get h2
  have hl := r.length
  have hn := line63
  have fin : EP X pins σ Q w s := ⟨z, H, I, rw', q⟩
  by_cases h0 : 0 ≤ i
  · have hj : i.toNat = j := by
      rw [seqIndex_of h0 h5] at h1
      exact Option.some.inj h1
    exact wpAny_getItem_list pl.isList h0 (by omega) (by rw [hj]; simpa using ew) fin
  · have hj : (i + (its.toArray.size : Int)).toNat = j := by
      rw [seqIndex_neg (by omega) h4] at h1
      rw [List.size_toArray, ← hl]
      exact Option.some.inj h1
    exact wpAny_getItem_list_neg pl.isList (by omega) (by rw [List.size_toArray] <;> omega) (by omega) (by rw [hj]; simpa using ew) fin
end
section
variable {X : Cx} {CX : CXT} {k : Nat} {f C : Addr} {fd : FuncData} {ps ks : List Str} {sp : Sp} {E : XK} {x m : Str} {p pos apos kpos : Pos} {e o : Expr} {es : List Expr} {kws : List Keyword} {te ta : TE} {t tk : TA} {nm : Option Str}
variable {g : List Value → List Value → List Value} {gV : List V → List V → List V}
/-- o.m(.., k = v, ..) -/
def tMethK (C : Addr) (m : Str) (sp : Sp) (gV : List V → List V → List V) (E : XK) (ta : TE) (t tk : TA) : TE := fun σ H Q => ta σ H fun x H1 => ∃ a dx fs, x = .ref a ∧ H1 a = some (.ins C dx fs) ∧ fs.lookup m = none ∧
  t σ H1 fun vs H2 => tk σ H2 fun zs H3 => sp (gV (x :: vs) zs) H3 Q E
theorem pe_methK0 {pl : Sem Bool} (he : PE X o ta) (c : Cls X.K C) (hm : Meth X.K C m f) (F : FnOk X.prog X.w X.K X.mg X.base CX k f fd ps sp) (hr : Room k X.A) (hb : KBinds X.K fd ps ks g gV) (hx : Passes CX X E) (hkw : PK X kws tk)
    (hall : (backToKw pos (keywordEach kws X.env)).all (·.1.isSome) = true := by rfl) (hks : (backToKw pos (keywordEach kws X.env)).filterMap (·.1) = ks := by rfl)
    (hpl : ((backTo pos (starEach [] X.env)).any (·.1) || (backToKw pos (keywordEach kws X.env)).any (·.1.isNone)) = false := by rfl)
    (ht : eval (.Call (.Attribute o m apos) [] kws pos) X.env = (do
      let ov ← eval o X.env
      standAt apos.atName
      let (f, first) ← holding [ov] (getMethod ov m pl)
      callWith pos f first (backTo pos (starEach [] X.env)) (backToKw pos (keywordEach kws X.env))) := by rfl) :
    PE X (.Call (.Attribute o m apos) [] kws pos) (tMethK C m sp gV E ta tNil tk) := by
  refine ⟨fun pins s σ H Q I h => ?_⟩
  refine PySem.W.methodCall_KW (pl := pl) (thn (he.run pins s σ H _ I h) fun u s1 ⟨x, H1, I1, rx, a, dx, fs, ex, ea, l, q⟩ => ?_) ht
  subst ex
  obtain rfl : u = Value.ref a := rx
  refine getmeth_ok I1 ea c hm l ?_
  refine PySem.W.callWith_KW0 (first := [.ref a]) (h₀ := X.base) I.ok.mod.kin hm.kp hall (thn (hkw.run pos pins s1 σ H1 _ I1 q) fun ws s2 ⟨zs, H2, I2, rz, q2⟩ => ⟨I2.kIn, ?_⟩) hpl
  rw [hks]
  exact run_fnk (us := [.ref a]) (vs := [.ref a]) F hr hb hx I2 (.cons rfl .nil) rz q2
theorem pe_methK {pl : Sem Bool} (he : PE X o ta) (c : Cls X.K C) (hm : Meth X.K C m f) (F : FnOk X.prog X.w X.K X.mg X.base CX k f fd ps sp) (hr : Room k X.A) (hb : KBinds X.K fd ps ks g gV) (hx : Passes CX X E) (ha : PA X (e :: es) t) (hkw : PK X kws tk)
    (hall : (backToKw pos (keywordEach kws X.env)).all (·.1.isSome) = true := by rfl) (hks : (backToKw pos (keywordEach kws X.env)).filterMap (·.1) = ks := by rfl)
    (hst : starEach (e :: es) X.env = (false, eval e X.env) :: starEach es X.env := by rfl)
    (hpl : ((backTo pos (starEach (e :: es) X.env)).any (·.1) || (backToKw pos (keywordEach kws X.env)).any (·.1.isNone)) = false := by rfl)
    (ht : eval (.Call (.Attribute o m apos) (e :: es) kws pos) X.env = (do
      let ov ← eval o X.env
      standAt apos.atName
      let (f, first) ← holding [ov] (getMethod ov m pl)
      callWith pos f first (backTo pos (starEach (e :: es) X.env)) (backToKw pos (keywordEach kws X.env))) := by rfl) :
    PE X (.Call (.Attribute o m apos) (e :: es) kws pos) (tMethK C m sp gV E ta t tk) := by
  refine ⟨fun pins s σ H Q I h => ?_⟩
  refine PySem.W.methodCall_KW (pl := pl) (thn (he.run pins s σ H _ I h) fun u s1 ⟨x, H1, I1, rx, a, dx, fs, ex, ea, l, q⟩ => ?_) ht
  subst ex
  obtain rfl : u = Value.ref a := rx
  refine getmeth_ok I1 ea c hm l ?_
  refine PySem.W.callWith_KW (first := [.ref a]) (h₀ := X.base) I.ok.mod.kin hm.kp hall (thn (ha.run pos pins s1 σ H1 _ I1 q) fun us s2 ⟨vs, H2, I2, r, q2⟩ => ?_) hpl hst
  refine thn (hkw.run pos pins s2 σ H2 _ I2 q2) fun ws s3 ⟨zs, H3, I3, rz, q3⟩ => ⟨I3.kIn, ?_⟩
  rw [hks]
  exact run_fnk (us := .ref a :: us) (vs := .ref a :: vs) F hr hb hx I3 (.cons rfl r) rz q3
/-- len(o) by an own __len__ -/
theorem call_lenO (hm : Meth X.K C "__len__" f) (F : FnOk X.prog X.w X.K X.mg X.base CX k f fd ps sp) (hr : Room (k + 1) X.A) (hb : Binds X.K fd ps []) (hx : Passes CX X E) :
    CallR X (.builtin "len") (fun xs H Q => ∃ a dx fs, xs = [V.ref a] ∧ H a = some (.ins C dx fs) ∧ sp [.ref a] H (fun v H2 => ∃ n : Int, v = .int n ∧ 0 ≤ n ∧ n < 2 ^ 63 ∧ Q (.int n) H2) E) := by
  intro pins s σ H xs us Q I r h
  obtain ⟨a, dx, fs, rfl, ea, q⟩ := h
  obtain ⟨u, rfl, ru⟩ := vals1 r
  cases ru
  obtain ⟨m', hF⟩ := I.fr
  obtain ⟨mA, O, _, _, _, _⟩ := ins_get I.hok ea
  obtain ⟨od, J, _⟩ := O.look
  have hl : ([Value.ref a] ++ ([] : List Value)).length = ps.length := by
    have := F.len _ _ _ _ q
    simpa using this
  refine PySem.W.len_K hF I.ok.mod.kin J hm.at_ hm.fn (wpAny_call (codeAny_mono (F.run X.A.in1 X.stack s H ⟨[.ref a], []⟩ [.ref a] [.ref a] _ E hr.in1 I.env0.in1 (hb s [.ref a] I.kIn hl) (.cons rfl .nil) q) fun r s' hq => ?_))
  cases r with
  | error e => exact hx pins σ H s e s' I hq
  | ok fl =>
    cases fl with
    | ret u =>
      obtain ⟨v, H', I', rv, n, rfl, h0, h1, q'⟩ := I.after hq
      obtain ⟨t, rfl⟩ := rv
      exact ⟨⟨h0, h1⟩, .int n, H', I'.tok _, ⟨_, rfl⟩, q'⟩
    | next => exact False.elim hq
    | brk => exact False.elim hq
    | cont => exact False.elim hq
end
section
variable {X : Cx}
/-- the keys that were gathered are these ints -/
theorem gathered {P : Program} {w : World} {vs : List (Key × Value)} {acc : Array Value} {ks : List Int} (hk : vs.map (·.1) = ks.map Sum.inl) (hn : acc.size = vs.length)
    (ha : ∀ (j : Nat) (v : Value), acc[j]? = some v → ∃ k x, vs[j]? = some (k, x) ∧ (mixKind P w).is k v = true) : IntsAre acc.toList ks := by
  have hlk : vs.length = ks.length := by simpa using congrArg List.length hk
  refine ints_each (by rw [Array.length_toList, hn, hlk]) fun j v ev => ?_
  obtain ⟨k, x, hv, hi⟩ := ha j v (by rw [← Array.getElem?_toList]; exact ev)
  have hj : (ks.map (Sum.inl : Int → Key))[j]? = some k := by rw [← hk, List.getElem?_map, hv]; rfl
  rw [List.getElem?_map] at hj
  cases hz : ks[j]? with
  | none => rw [hz] at hj; cases hj
  | some n =>
    rw [hz] at hj
    cases hj
    rcases keyIs_shape (show keyIs (Sum.inl n) v = true from hi) with ⟨i, t, hl, hr⟩ | ⟨z, t, hl, _⟩
    · cases hl
      exact ⟨n, t, rfl, hr⟩
    · cases hl
/-- sorted(d) of a dict whose keys are ints, any number -/
def rSortD : List V → Hp → VK → Prop := fun xs H Q => ∃ (d : Addr) (kvs : List (Key × V)) (ks : List Int), xs = [.ref d] ∧ Rd H d (.dK kvs) ∧ kvs.map (·.1) = ks.map Sum.inl ∧
  ∀ (ys : List Int) (l : Addr), ys.Perm ks → ys.Pairwise (· ≤ ·) → H l = none → Q (.ref l) (upd H l (.lst (ys.map V.int)))
theorem call_sortedDX (hcalm : X.calm = true) : CallR X (.builtin "sorted") rSortD := by
  intro pins s σ H xs us Q I r h
  obtain ⟨d, kvs, ks, rfl, hd, hks, q⟩ := h
  obtain ⟨u, rfl, ru⟩ := vals1 r
  cases ru
  obtain ⟨hsz, hmod, vs, hkv, hD⟩ := dk_rd I.hok hd
  obtain ⟨ep, hat⟩ := hD.dictAt
  have hvk : vs.map (·.1) = ks.map Sum.inl := hkv.keys.symm.trans hks
  have hvl : vs.length = kvs.length := by
    have e1 : vs.length = ks.length := by simpa using congrArg List.length hvk
    have e2 : kvs.length = ks.length := by simpa using congrArg List.length hks
    omega
  have hvs : vs.length ≤ sizeLine := hvl ▸ hsz
  refine Calls.call_function_entry kind_sorted plain_sorted entry_sorted (args_sorted1 _) ?_
  unfold Builtin.«sorted»
  refine wpAny_bind (m := checkCount "sorted" 1 1 _) (wpAny_pure (wpAny_bind ?_))
  refine PySem.W.kdu_collect (A := X.A.in1) (PySem.W.kdl_dict (knd := mixKind X.prog X.w) (kvs := vs) (ep := ep) hmod) (I.ok.hd hcalm) hat hvs fun hp tk acc hold hacc => ?_
  have J : Inv X pins σ H { s with heap := hp, toks := tk } := I.kept hold
  have hint : IntsAre acc.toList ks := gathered hvk hacc.1 hacc.2
  have hal : acc.toList.length ≤ sizeLine := by rw [Array.length_toList, hacc.1]; exact hvs
  refine wpAny_bind (wpAny_newList ?_ hal)
  have hnew : (hp.push (seqObj "list" acc.toList.toArray 0)).get? hp.objs.size = some (seqObj "list" acc.toList.toArray 0) := Heap.get?_push_size _ rfl
  show wpAny _ _ _ _ _ (Shared.mk (hp.push (seqObj "list" acc.toList.toArray 0)) s.gens s.drawn tk s.os)
  refine wpAny_bind (wpAny_holding (wpAny_call_entry slot_list_sort ⟨_, hnew, rfl⟩ entry_list_sort ?_ (args_list_sort _)))
  refine SrtO.list_sort_ord (s := Shared.mk (hp.push (seqObj "list" acc.toList.toArray 0)) s.gens s.drawn tk s.os) SrtO.swo_int hnew hal (fun h2 => SrtO.ints_sortable hint h2) fun out h1 h2 => ⟨_, rfl, ?_⟩
  obtain ⟨k1, k2, k3⟩ := SrtO.ints_out hint h1 h2
  obtain ⟨e', he'⟩ := sortedHeap_at (vs := acc.toList) (out := out.toArray) hnew
  have hol : ((out.map SrtO.iv).map V.int).length ≤ sizeLine := by
    have : ks.length = vs.length := by simpa using (congrArg List.length hvk).symm
    rw [List.length_map, k2.length_eq, this]
    exact hvs
  refine wpAny_pure ⟨_, rfl, .ref hp.objs.size, upd H hp.objs.size (.lst ((out.map SrtO.iv).map V.int)), ?_, rfl, q _ _ k2 k3 (J.hok.fresh (Nat.le_refl _))⟩
  refine J.laid (t' := tk) (fun b u e => ?_) (Nat.le_refl _) (show ObjOk X.prog X.w _ _ _ (.lst ((out.map SrtO.iv).map V.int)) from ⟨hol, out, e', vals_of_ints k1, he'⟩)
  have hb : b < hp.objs.size := Heap.lt_size e
  rw [sortedHeap_old (Nat.ne_of_lt hb) (by rw [size_push']; exact Nat.lt_succ_of_lt hb)]
  exact Heap.get?_push_of_some _ e
end
section
variable {X : Cx}
/-- a statement, then the rest, with a word between them -/
@[irreducible] def tMid (t u : TS) : TS := fun D σ H => ∃ Mid : St → Hp → Prop, t { D with nx := Mid } σ H ∧ ∀ σ' H', Mid σ' H' → u D σ' H'
theorem pss_mid {st : Stmt} {rest : List Stmt} {t u : TS} (h1 : PS X st t) (h2 : PSs X rest u) : PSs X (st :: rest) (tMid t u) := by
  refine ⟨fun pins s σ H D I h => ?_⟩
  unfold tMid at h
  obtain ⟨Mid, hm, hu⟩ := h
  refine wpAny_execs_cons (thn (h1.run pins s σ H { D with nx := Mid } I hm) fun f s1 q => ?_)
  cases f with
  | next =>
    obtain ⟨σ', H', I', q⟩ := q
    exact h2.run pins s1 σ' H' D I' (hu σ' H' q)
  | ret v => exact q
  | brk => exact q
  | cont => exact q
end
/-- what the walk doesn't look into -/
@[irreducible] def Wait (p : Prop) : Prop := p
theorem wait {p : Prop} (h : p) : Wait p := by
  unfold Wait
  exact h
theorem Wait.out {p : Prop} (h : Wait p) : p := by
  unfold Wait at h
  exact h
theorem mid_of {t u : TS} {D : Ends} {σ : St} {H : Hp} (Mid : St → Hp → Prop) (h1 : t { D with nx := fun σ H => Wait (Mid σ H) } σ H) (h2 : ∀ σ' H', Mid σ' H' → u D σ' H') : tMid t u D σ H := by
  unfold tMid
  exact ⟨fun σ H => Wait (Mid σ H), h1, fun σ' H' h => h2 σ' H' h.out⟩
/-- a loop: the walk stops ahead of it -/
@[irreducible] def tStop (t : TS) : TS := t
theorem ps_stop {X : Cx} {st : Stmt} {t : TS} (h : PS X st t) : PS X st (tStop t) := by
  unfold tStop
  exact h
theorem stop_in {t : TS} {D : Ends} {σ : St} {H : Hp} (h : t D σ H) : tStop t D σ H := by
  unfold tStop
  exact h
theorem sq_seq {t u : TS} {D : Ends} {σ : St} {H : Hp} (h : t { D with nx := u D } σ H) : tSeq t u D σ H := h
theorem ifT {c : Bool} {A B : Prop} (hc : c = true) (h : A) : if c = true then A else B := by rw [if_pos hc]; exact h
theorem ifF {c : Bool} {A B : Prop} (hc : c = false) (h : B) : if c = true then A else B := by rw [hc, if_neg Bool.false_ne_true]; exact h
theorem ifD {p : Prop} [Decidable p] {A B : Prop} (h1 : p → A) (h2 : ¬ p → B) : if decide p = true then A else B := by
  by_cases h : p
  · rw [if_pos (decide_eq_true h)]; exact h1 h
  · rw [if_neg (by rw [decide_eq_false h]; exact Bool.false_ne_true)]; exact h2 h
theorem ifN {p : Prop} [Decidable p] {A B : Prop} (h1 : ¬ p → A) (h2 : p → B) : if (!decide p) = true then A else B := by
  by_cases h : p
  · rw [decide_eq_true h, if_neg (by decide)]; exact h2 h
  · rw [decide_eq_false h, if_pos (by decide)]; exact h1 h
theorem ifB {c : Bool} {A B : Prop} (h1 : c = true → A) (h2 : c = false → B) : if c = true then A else B := by
  cases c with
  | true => rw [if_pos rfl]; exact h1 rfl
  | false => rw [if_neg Bool.false_ne_true]; exact h2 rfl
theorem upd_get {H : Hp} {a b : Addr} {o : HO} {u : Option HO} (h : b ≠ a) (e : H b = u) : upd H a o b = u := (upd_ne h).trans e
theorem fmod_pos {i j : Int} (h : 0 < j) : 0 ≤ i.fmod j ∧ i.fmod j < j := ⟨Int.fmod_nonneg_of_pos _ h, Int.fmod_lt_of_pos _ h⟩
theorem atI_in {α : Type} {xs : List α} {i : Int} (h0 : 0 ≤ i) (h1 : i < (xs.length : Int)) : ∃ v, atI xs i = some v ∧ xs[i.toNat]? = some v := by
  obtain ⟨j, rfl⟩ : ∃ j : Nat, i = (j : Int) := ⟨i.toNat, by omega⟩
  have hj : j < xs.length := by omega
  have e : xs[j]? = some xs[j] := List.getElem?_eq_getElem hj
  exact ⟨_, atI_nat e, by rw [Int.toNat_natCast]; exact e⟩
theorem atI_ints {ns : List Int} {i : Int} (h0 : 0 ≤ i) (h1 : i < (ns.length : Int)) : ∃ z, atI (ns.map V.int) i = some (.int z) ∧ ns[i.toNat]? = some z := by
  obtain ⟨v, e1, e2⟩ := atI_in (xs := ns.map V.int) h0 (by rw [List.length_map]; exact h1)
  rw [List.getElem?_map] at e2
  cases e : ns[i.toNat]? with
  | none => rw [e] at e2; cases e2
  | some z =>
    rw [e] at e2
    cases e2
    exact ⟨z, e1, rfl⟩
/-- a while by a word that bears its own measure -/
theorem while_W {c : TT} {tb : TS} {D : Ends} {σ : St} {H : Hp} (W : Nat → St → Hp → Prop) (m : Nat) (h0 : W m σ H)
    (hs : ∀ m σ H, W m σ H → c σ H fun b H1 => if b = true then ∃ N : St → Hp → Prop, (∀ σ' H', N σ' H' → ∃ m', m' < m ∧ W m' σ' H') ∧ tb { D with nx := N, ct := N, bk := D.nx } σ H1 else D.nx σ H1) : tStop (tWhile c tb) D σ H :=
  stop_in ⟨W, ⟨m, h0⟩, hs⟩
theorem next_W {tb : TS} {D : Ends} {σ : St} {H : Hp} {W : Nat → St → Hp → Prop} {m : Nat}
    (h : tb { D with nx := fun σ' H' => Wait (∃ m', m' < m ∧ W m' σ' H'), ct := fun σ' H' => Wait (∃ m', m' < m ∧ W m' σ' H'), bk := D.nx } σ H) :
    ∃ N : St → Hp → Prop, (∀ σ' H', N σ' H' → ∃ m', m' < m ∧ W m' σ' H') ∧ tb { D with nx := N, ct := N, bk := D.nx } σ H := ⟨_, fun _ _ h => h.out, h⟩
theorem forL {K : PySem.W.Frag} {a : Addr} {xs : List V} {g : TG} {tb : TS} {D : Ends} {σ : St} {H : Hp} (Pv : Nat → St → Hp → Prop) (h0 : Pv 0 σ H) (hl : ∀ i σ H, i ≤ xs.length → Pv i σ H → SqL K H a xs)
    (hs : ∀ i x σ H, xs[i]? = some x → Pv i σ H → g x σ H fun σ2 H2 => tb { D with nx := fun σ H => Wait (Pv (i + 1) σ H), ct := fun σ H => Wait (Pv (i + 1) σ H), bk := D.nx } σ2 H2) (hd : ∀ σ H, Pv xs.length σ H → D.nx σ H) :
    ∃ W : Nat → Nat → St → Hp → Prop, (∃ m, W 0 m σ H) ∧ ∀ i m σ H, W i m σ H →
      ((Itl K a).stop i H ∧ D.nx σ H) ∨ ((Itl K a).go i H ∧ ∃ N : St → Hp → Prop, (∀ σ' H', N σ' H' → ∃ m', m' < m ∧ W (i + 1) m' σ' H') ∧ ∀ x H', (Itl K a).yld i H x H' → g x σ H' fun σ2 H2 => tb { D with nx := N, ct := N, bk := D.nx } σ2 H2) :=
  for_list (fun i σ H => Wait (Pv i σ H)) (wait h0) (fun i σ H hi p => hl i σ H hi p.out) (fun i x σ H hx p => hs i x σ H hx p.out) fun σ H p => hd σ H p.out
theorem forT {K : PySem.W.Frag} {a : Addr} {xs : List V} {g : TG} {tb : TS} {D : Ends} {σ : St} {H : Hp} (Pv : Nat → St → Hp → Prop) (h0 : Pv 0 σ H) (hl : ∀ i σ H, i ≤ xs.length → Pv i σ H → SqT K H a xs)
    (hs : ∀ i x σ H, xs[i]? = some x → Pv i σ H → g x σ H fun σ2 H2 => tb { D with nx := fun σ H => Wait (Pv (i + 1) σ H), ct := fun σ H => Wait (Pv (i + 1) σ H), bk := D.nx } σ2 H2) (hd : ∀ σ H, Pv xs.length σ H → D.nx σ H) :
    ∃ W : Nat → Nat → St → Hp → Prop, (∃ m, W 0 m σ H) ∧ ∀ i m σ H, W i m σ H →
      ((Itt K a).stop i H ∧ D.nx σ H) ∨ ((Itt K a).go i H ∧ ∃ N : St → Hp → Prop, (∀ σ' H', N σ' H' → ∃ m', m' < m ∧ W (i + 1) m' σ' H') ∧ ∀ x H', (Itt K a).yld i H x H' → g x σ H' fun σ2 H2 => tb { D with nx := N, ct := N, bk := D.nx } σ2 H2) :=
  for_tup (fun i σ H => Wait (Pv i σ H)) (wait h0) (fun i σ H hi p => hl i σ H hi p.out) (fun i x σ H hx p => hs i x σ H hx p.out) fun σ H p => hd σ H p.out
theorem forR {lo : Int} {n : Nat} {g : TG} {tb : TS} {D : Ends} {σ : St} {H : Hp} (Pv : Nat → St → Hp → Prop) (h0 : Pv 0 σ H)
    (hs : ∀ i σ H, i < n → Pv i σ H → g (.int (lo + i)) σ H fun σ2 H2 => tb { D with nx := fun σ H => Wait (Pv (i + 1) σ H), ct := fun σ H => Wait (Pv (i + 1) σ H), bk := D.nx } σ2 H2) (hd : ∀ σ H, Pv n σ H → D.nx σ H) :
    ∃ W : Nat → Nat → St → Hp → Prop, (∃ m, W 0 m σ H) ∧ ∀ i m σ H, W i m σ H →
      ((Itr lo n).stop i H ∧ D.nx σ H) ∨ ((Itr lo n).go i H ∧ ∃ N : St → Hp → Prop, (∀ σ' H', N σ' H' → ∃ m', m' < m ∧ W (i + 1) m' σ' H') ∧ ∀ x H', (Itr lo n).yld i H x H' → g x σ H' fun σ2 H2 => tb { D with nx := N, ct := N, bk := D.nx } σ2 H2) :=
  for_range (fun i σ H => Wait (Pv i σ H)) (wait h0) (fun i σ H hi p => hs i σ H hi p.out) fun σ H p => hd σ H p.out
theorem lcL {K : PySem.W.Frag} {a : Addr} {xs : List V} {g : TG} {tt : TT} {te : TE} {vs : List Nat} {σ : St} {H1 : Hp} {D : Addr} {Qd : Hp → Prop} (Pv : Nat → Hp → Prop) (h0 : Pv 0 (upd H1 D (.lst []))) (hl : ∀ i H, i ≤ xs.length → Pv i H → SqL K H a xs)
    (hs : ∀ i x H, xs[i]? = some x → Pv i H → g x (wipe σ vs) H fun σ2 H2 => wipe σ2 vs = wipe σ vs ∧ tt σ2 H2 fun b H3 =>
      if b = true then te σ2 H3 fun y H4 => ∃ acc, H4 D = some (.lst acc) ∧ acc.length < sizeLine ∧ Wait (Pv (i + 1) (upd H4 D (.lst (acc ++ [y])))) else Wait (Pv (i + 1) H3)) (hd : ∀ H, Pv xs.length H → Qd H) :
    ∃ W : Nat → Nat → Hp → Prop, (∃ m, W 0 m (upd H1 D (.lst []))) ∧ ∀ i m H, W i m H →
      ((Itl K a).stop i H ∧ Qd H) ∨ ((Itl K a).go i H ∧ ∃ Nx : Hp → Prop, (∀ H', Nx H' → ∃ m', m' < m ∧ W (i + 1) m' H') ∧ ∀ x H', (Itl K a).yld i H x H' → g x (wipe σ vs) H' fun σ2 H2 => wipe σ2 vs = wipe σ vs ∧ tt σ2 H2 fun b H3 =>
        if b = true then te σ2 H3 fun y H4 => ∃ acc, H4 D = some (.lst acc) ∧ acc.length < sizeLine ∧ Nx (upd H4 D (.lst (acc ++ [y]))) else Nx H3) :=
  lc_list (fun i H => Wait (Pv i H)) (wait h0) (fun i H hi p => hl i H hi p.out) (fun i x H hx p => hs i x H hx p.out) fun H p => hd H p.out
theorem lcT {K : PySem.W.Frag} {a : Addr} {xs : List V} {g : TG} {tt : TT} {te : TE} {vs : List Nat} {σ : St} {H1 : Hp} {D : Addr} {Qd : Hp → Prop} (Pv : Nat → Hp → Prop) (h0 : Pv 0 (upd H1 D (.lst []))) (hl : ∀ i H, i ≤ xs.length → Pv i H → SqT K H a xs)
    (hs : ∀ i x H, xs[i]? = some x → Pv i H → g x (wipe σ vs) H fun σ2 H2 => wipe σ2 vs = wipe σ vs ∧ tt σ2 H2 fun b H3 =>
      if b = true then te σ2 H3 fun y H4 => ∃ acc, H4 D = some (.lst acc) ∧ acc.length < sizeLine ∧ Wait (Pv (i + 1) (upd H4 D (.lst (acc ++ [y])))) else Wait (Pv (i + 1) H3)) (hd : ∀ H, Pv xs.length H → Qd H) :
    ∃ W : Nat → Nat → Hp → Prop, (∃ m, W 0 m (upd H1 D (.lst []))) ∧ ∀ i m H, W i m H →
      ((Itt K a).stop i H ∧ Qd H) ∨ ((Itt K a).go i H ∧ ∃ Nx : Hp → Prop, (∀ H', Nx H' → ∃ m', m' < m ∧ W (i + 1) m' H') ∧ ∀ x H', (Itt K a).yld i H x H' → g x (wipe σ vs) H' fun σ2 H2 => wipe σ2 vs = wipe σ vs ∧ tt σ2 H2 fun b H3 =>
        if b = true then te σ2 H3 fun y H4 => ∃ acc, H4 D = some (.lst acc) ∧ acc.length < sizeLine ∧ Nx (upd H4 D (.lst (acc ++ [y]))) else Nx H3) :=
  lc_tup (fun i H => Wait (Pv i H)) (wait h0) (fun i H hi p => hl i H hi p.out) (fun i x H hx p => hs i x H hx p.out) fun H p => hd H p.out
theorem lcR {lo : Int} {n : Nat} {g : TG} {tt : TT} {te : TE} {vs : List Nat} {σ : St} {H1 : Hp} {D : Addr} {Qd : Hp → Prop} (Pv : Nat → Hp → Prop) (h0 : Pv 0 (upd H1 D (.lst [])))
    (hs : ∀ i H, i < n → Pv i H → g (.int (lo + i)) (wipe σ vs) H fun σ2 H2 => wipe σ2 vs = wipe σ vs ∧ tt σ2 H2 fun b H3 =>
      if b = true then te σ2 H3 fun y H4 => ∃ acc, H4 D = some (.lst acc) ∧ acc.length < sizeLine ∧ Wait (Pv (i + 1) (upd H4 D (.lst (acc ++ [y])))) else Wait (Pv (i + 1) H3)) (hd : ∀ H, Pv n H → Qd H) :
    ∃ W : Nat → Nat → Hp → Prop, (∃ m, W 0 m (upd H1 D (.lst []))) ∧ ∀ i m H, W i m H →
      ((Itr lo n).stop i H ∧ Qd H) ∨ ((Itr lo n).go i H ∧ ∃ Nx : Hp → Prop, (∀ H', Nx H' → ∃ m', m' < m ∧ W (i + 1) m' H') ∧ ∀ x H', (Itr lo n).yld i H x H' → g x (wipe σ vs) H' fun σ2 H2 => wipe σ2 vs = wipe σ vs ∧ tt σ2 H2 fun b H3 =>
        if b = true then te σ2 H3 fun y H4 => ∃ acc, H4 D = some (.lst acc) ∧ acc.length < sizeLine ∧ Nx (upd H4 D (.lst (acc ++ [y]))) else Nx H3) :=
  lc_range (fun i H => Wait (Pv i H)) (wait h0) (fun i H hi p => hs i H hi p.out) fun H p => hd H p.out
theorem ints_at {ns : List Int} {i : Nat} {y : V} (h : (ns.map V.int)[i]? = some y) : ∃ u, y = V.int u ∧ ns[i]? = some u ∧ i < ns.length := by
  rw [List.getElem?_map] at h
  cases e : ns[i]? with
  | none => rw [e] at h; cases h
  | some u =>
    rw [e] at h
    exact ⟨u, (Option.some.inj h).symm, rfl, (List.getElem?_eq_some_iff.mp e).1⟩
theorem filt_len {α : Type} (p : α → Bool) (xs : List α) (i : Nat) : ((xs.take i).filter p).length ≤ xs.length := Nat.le_trans (List.length_filter_le _ _) (by rw [List.length_take]; omega)
theorem take_filt_yes {α : Type} {p : α → Bool} {xs : List α} {i : Nat} {x : α} (h : xs[i]? = some x) (hp : p x = true) : (xs.take (i + 1)).filter p = (xs.take i).filter p ++ [x] := by
  rw [List.take_add_one, h, Option.toList_some, List.filter_append, List.filter_cons, if_pos hp] <;> rfl
theorem take_filt_no {α : Type} {p : α → Bool} {xs : List α} {i : Nat} {x : α} (h : xs[i]? = some x) (hp : p x = false) : (xs.take (i + 1)).filter p = (xs.take i).filter p := by
  rw [List.take_add_one, h, Option.toList_some, List.filter_append, List.filter_cons, if_neg (by rw [hp]; decide), List.filter_nil, List.append_nil]
theorem small_lt {n : Nat} (h : n ≤ 100000) : n < sizeLine := Nat.lt_of_le_of_lt h (by decide)
theorem small_le {n : Nat} (h : n ≤ 100000) : n ≤ sizeLine := Nat.le_of_lt (small_lt h)
theorem isi_b {K : PySem.W.Frag} {H : Hp} {Q : VK} {x : V} {t c : String} {b : Bool} (ty : TyX K H x (.type t)) (h : kitB t c = some b) (q : Q (.bl b) H) : rIsi K [x, .ty c] H Q :=
  ⟨x, .ty c, .type t, .type c, b, rfl, .ty c, ty, kit_ty h, q⟩
theorem Same.seqT {K : PySem.W.Frag} {H H' : Hp} {a : Addr} {xs : List V} (e : Same H H') (h : SqT K H a xs) : SqT K H' a xs := by
  rcases h with (h | ⟨o, h⟩) | h
  · exact .inl (.inl (e _ _ h))
  · exact .inl (.inr ⟨o, e _ _ h⟩)
  · exact .inr h
theorem Same.upd_new {H : Hp} {p : Addr} {o : HO} (h : H p = none) : Same H (upd H p o) := fun b u e => by rw [upd_ne (ne_of_none e h)]; exact e
mutual
theorem Dp.same {K : PySem.W.Frag} {H H' : Hp} (e : Same H H') : ∀ {v : V} {d : PyData}, Dp K H v d → Dp K H' v d
  | _, _, .non => .non
  | _, _, .bl b => .bl b
  | _, _, .int i => .int i
  | _, _, .str x => .str x
  | _, _, .lst h r => .lst (e.seq h) (DpAll.same e r)
  | _, _, .tup h r => .tup (e.seqT h) (DpAll.same e r)
theorem DpAll.same {K : PySem.W.Frag} {H H' : Hp} (e : Same H H') : ∀ {vs : List V} {ds : List PyData}, DpAll K H vs ds → DpAll K H' vs ds
  | _, _, .nil => .nil
  | _, _, .cons h r => .cons (Dp.same e h) (DpAll.same e r)
end
theorem DpAll.snoc {K : PySem.W.Frag} {H : Hp} : ∀ {vs : List V} {ds : List PyData} {v : V} {d : PyData}, DpAll K H vs ds → Dp K H v d → DpAll K H (vs ++ [v]) (ds ++ [d])
  | _, _, _, _, .nil, h => .cons h .nil
  | _, _, _, _, .cons a r, h => .cons a (DpAll.snoc r h)
theorem DpAll.len {K : PySem.W.Frag} {H : Hp} : ∀ {vs : List V} {ds : List PyData}, DpAll K H vs ds → vs.length = ds.length
  | _, _, .nil => rfl
  | _, _, .cons _ r => by rw [List.length_cons, List.length_cons, DpAll.len r]
/-- two whole numbers -/
def pairD (p : Int × Int) : PyData := .tuple [.int p.1, .int p.2]
theorem pairD_of {K : PySem.W.Frag} {H : Hp} {t : Addr} {p : Int × Int} (h : H t = some (.tup [.int p.1, .int p.2])) : Dp K H (.ref t) (pairD p) := .tup (SqT.of h) (.cons (.int _) (.cons (.int _) .nil))
theorem lay_pairs : ∀ l : List (Int × Int), PyData.canLayAll0 (l.map pairD) = true
  | [] => rfl
  | p :: r => by
    show (PyData.canLay0 (pairD p) && PyData.canLayAll0 (r.map pairD)) = true
    rw [lay_pairs r] <;> rfl
theorem depth_pairs : ∀ l : List (Int × Int), PyData.depthAll (l.map pairD) ≤ 1
  | [] => Nat.zero_le _
  | p :: r => by
    show max (PyData.depth (pairD p)) (PyData.depthAll (r.map pairD)) ≤ 1
    have := depth_pairs r
    have e : PyData.depth (pairD p) = 1 := rfl
    omega
theorem shaped_pairs (l : List (Int × Int)) : SeqAt.shaped (.list (l.map pairD)) = true := by
  unfold SeqAt.shaped
  rw [Bool.and_eq_true]
  refine ⟨lay_pairs l, decide_eq_true ?_⟩
  show PyData.depthAll (l.map pairD) + 1 ≤ 64
  have := depth_pairs l
  omega
theorem shaped_pair (p : Int × Int) : SeqAt.shaped (pairD p) = true := rfl
theorem eqv_self {d : PyData} (h : SeqAt.shaped d = true) : PyData.eqv d d = true := SeqAt.eqv_refl d (SeqAt.canLay_of_shaped h)
theorem ifYes {p : Prop} [Decidable p] {A B : Prop} (h : p) (hA : A) : if decide p = true then A else B := ifT (decide_eq_true h) hA
theorem ifNo {p : Prop} [Decidable p] {A B : Prop} (h : ¬ p) (hB : B) : if decide p = true then A else B := ifF (decide_eq_false h) hB
theorem ifNY {p : Prop} [Decidable p] {A B : Prop} (h : ¬ p) (hA : A) : if (!decide p) = true then A else B := ifT (by rw [decide_eq_false h]; rfl) hA
theorem ifNN {p : Prop} [Decidable p] {A B : Prop} (h : p) (hB : B) : if (!decide p) = true then A else B := ifF (by rw [decide_eq_true h]; rfl) hB
/-- for k in d, d locked -/
theorem forK {d : Addr} {o : Obj} {kvs : List (Key × V)} {g : TG} {tb : TS} {D : Ends} {σ : St} {H : Hp} (Pv : Nat → St → Hp → Prop) (h0 : Pv 0 σ H) (hl : ∀ i σ H, i ≤ kvs.length → Pv i σ H → H d = some (.frz o (.dK kvs)))
    (hs : ∀ (i : Nat) (k : Key) (v : V) (σ : St) (H : Hp), kvs[i]? = some (k, v) → Pv i σ H → g (kV k) σ H fun σ2 H2 => tb { D with nx := fun σ H => Wait (Pv (i + 1) σ H), ct := fun σ H => Wait (Pv (i + 1) σ H), bk := D.nx } σ2 H2) (hd : ∀ σ H, Pv kvs.length σ H → D.nx σ H) :
    ∃ W : Nat → Nat → St → Hp → Prop, (∃ m, W 0 m σ H) ∧ ∀ i m σ H, W i m σ H →
      ((Itk d o kvs).stop i H ∧ D.nx σ H) ∨ ((Itk d o kvs).go i H ∧ ∃ N : St → Hp → Prop, (∀ σ' H', N σ' H' → ∃ m', m' < m ∧ W (i + 1) m' σ' H') ∧ ∀ x H', (Itk d o kvs).yld i H x H' → g x σ H' fun σ2 H2 => tb { D with nx := N, ct := N, bk := D.nx } σ2 H2) := by
  refine ⟨fun i m σ H => m = kvs.length - i ∧ i ≤ kvs.length ∧ Wait (Pv i σ H), ⟨kvs.length, by simp, Nat.zero_le _, wait h0⟩, ?_⟩
  rintro i m σ H ⟨rfl, hi, p⟩
  have q := hl i σ H hi p.out
  by_cases hlt : i < kvs.length
  · refine .inr ⟨⟨q, hlt⟩, fun σ H => Wait (Pv (i + 1) σ H), fun σ' H' p' => ⟨kvs.length - (i + 1), by omega, rfl, hlt, p'⟩, fun x H' y => ?_⟩
    obtain ⟨rfl, k, v, e, rfl⟩ := y
    exact hs i k v σ _ e p.out
  · have e : i = kvs.length := by omega
    subst e
    exact .inl ⟨⟨q, Nat.le_refl _⟩, hd σ H p.out⟩
/-- tuples of two whole numbers at these addresses -/
def Tups (H : Hp) (ts : List Addr) (ps : List (Int × Int)) : Prop := Paired (fun (t : Addr) (p : Int × Int) => H t = some (.tup [.int p.1, .int p.2])) ts ps
theorem Tups.keep {H H' : Hp} {ts : List Addr} {ps : List (Int × Int)} (h : Tups H ts ps) (k : ∀ t xs, H t = some (.tup xs) → H' t = some (.tup xs)) : Tups H' ts ps := Paired.mapP h fun _ _ e => k _ _ e
theorem Tups.dp {K : PySem.W.Frag} {H : Hp} {ts : List Addr} {ps : List (Int × Int)} (h : Tups H ts ps) : DpAll K H (ts.map V.ref) (ps.map pairD) := by
  unfold Tups at h
  induction h with
  | nil => exact .nil
  | cons e _ ih => exact .cons (pairD_of e) ih
theorem Tups.snoc {H : Hp} {ts : List Addr} {ps : List (Int × Int)} {t : Addr} {p : Int × Int} (h : Tups H ts ps) (e : H t = some (.tup [.int p.1, .int p.2])) : Tups H (ts ++ [t]) (ps ++ [p]) := Paired.snoc h e
theorem Tups.len {H : Hp} {ts : List Addr} {ps : List (Int × Int)} (h : Tups H ts ps) : ts.length = ps.length := Paired.length h
theorem keepT_upd {H : Hp} {D : Addr} {o : HO} {xs : List V} (h : H D = some (.lst xs)) : ∀ t ys, H t = some (.tup ys) → upd H D o t = some (.tup ys) := fun t ys e => by
  rw [upd_ne (ne_of e h (by intro z; cases z))]
  exact e
theorem kV_int (i : Int) : V.int i = kV (Sum.inl i) := rfl
theorem kV_str (x : Str) : V.str x = kV (Sum.inr x) := rfl
def rLenK (K : PySem.W.Frag) : List V → Hp → VK → Prop := fun xs H Q => ∃ p ys, xs = [V.ref p] ∧ (SqL K H p ys ∨ SqT K H p ys) ∧ Q (.int ys.length) H
theorem call_lenK {X : Cx} : CallR X (.builtin "len") (rLenK X.K) := call_len_seq
theorem sorted_same {a b : List Int} (hp : a.Perm b) (ha : a.Pairwise (· ≤ ·)) (hb : b.Pairwise (· ≤ ·)) : a = b := hp.eq_of_pairwise (fun _ _ _ _ h1 h2 => Int.le_antisymm h1 h2) ha hb
/-- a test whose ways are joined -/
@[irreducible] def tMidT (t : TT) : TT := fun σ H Q => ∃ M : Bool → Hp → Prop, t σ H M ∧ ∀ b H', M b H' → Q b H'
theorem pt_mid {X : Cx} {e : Expr} {t : TT} (h : PT X e t) : PT X e (tMidT t) := by
  refine ⟨fun pins s σ H Q I q => ?_⟩
  unfold tMidT at q
  obtain ⟨M, h1, h2⟩ := q
  exact thn (h.run pins s σ H M I h1) fun b s' ⟨H', I', m⟩ => ⟨H', I', h2 b H' m⟩
theorem midT_of {t : TT} {σ : St} {H : Hp} {Q : Bool → Hp → Prop} (M : Bool → Hp → Prop) (h1 : t σ H fun b H' => Wait (M b H')) (h2 : ∀ b H', M b H' → Q b H') : tMidT t σ H Q := by
  unfold tMidT
  exact ⟨fun b H' => Wait (M b H'), h1, fun b H' m => h2 b H' m.out⟩
/-- an expression whose ways are joined -/
@[irreducible] def tMidE (t : TE) : TE := fun σ H Q => ∃ M : V → Hp → Prop, t σ H M ∧ ∀ b H', M b H' → Q b H'
theorem pe_mid {X : Cx} {e : Expr} {t : TE} (h : PE X e t) : PE X e (tMidE t) := by
  refine ⟨fun pins s σ H Q I q => ?_⟩
  unfold tMidE at q
  obtain ⟨M, h1, h2⟩ := q
  exact thn (h.run pins s σ H M I h1) fun b s' ⟨v, H', I', r, m⟩ => ⟨v, H', I', r, h2 v H' m⟩
theorem midE_of {t : TE} {σ : St} {H : Hp} {Q : VK} (M : V → Hp → Prop) (h1 : t σ H fun b H' => Wait (M b H')) (h2 : ∀ b H', M b H' → Q b H') : tMidE t σ H Q := by
  unfold tMidE
  exact ⟨fun b H' => Wait (M b H'), h1, fun b H' m => h2 b H' m.out⟩
/-- for a, b in zip(xs, ys), lists of one length -/
theorem forZ {K : PySem.W.Frag} {a b : Addr} {xs ys : List V} {g : TG} {tb : TS} {D : Ends} {σ : St} {H : Hp} (hl : xs.length = ys.length) (Pv : Nat → St → Hp → Prop) (h0 : Pv 0 σ H) (hq : ∀ i σ H, Pv i σ H → SqL K H a xs ∧ SqL K H b ys)
    (hs : ∀ (i : Nat) (x y : V) (t : Addr) (σ : St) (H : Hp), xs[i]? = some x → ys[i]? = some y → Pv i σ H → H t = none →
      g (.ref t) σ (upd H t (.tup [x, y])) fun σ2 H2 => tb { D with nx := fun σ H => Wait (Pv (i + 1) σ H), ct := fun σ H => Wait (Pv (i + 1) σ H), bk := D.nx } σ2 H2) (hd : ∀ σ H, Pv xs.length σ H → D.nx σ H) :
    ∃ W : Nat → Nat → St → Hp → Prop, (∃ m, W 0 m σ H) ∧ ∀ i m σ H, W i m σ H →
      ((Itz K a b).stop i H ∧ D.nx σ H) ∨ ((Itz K a b).go i H ∧ ∃ N : St → Hp → Prop, (∀ σ' H', N σ' H' → ∃ m', m' < m ∧ W (i + 1) m' σ' H') ∧ ∀ v H', (Itz K a b).yld i H v H' → g v σ H' fun σ2 H2 => tb { D with nx := N, ct := N, bk := D.nx } σ2 H2) := by
  refine ⟨fun i m σ H => m = xs.length - i ∧ i ≤ xs.length ∧ Wait (Pv i σ H), ⟨xs.length, by simp, Nat.zero_le _, wait h0⟩, ?_⟩
  rintro i m σ H ⟨rfl, hi, p⟩
  obtain ⟨q1, q2⟩ := hq i σ H p.out
  by_cases hlt : i < xs.length
  · have e1 : xs[i]? = some xs[i] := List.getElem?_eq_getElem hlt
    have e2 : ys[i]? = some ys[i] := List.getElem?_eq_getElem (by omega)
    refine .inr ⟨⟨xs, ys, _, _, q1, q2, e1, e2⟩, fun σ H => Wait (Pv (i + 1) σ H), fun σ' H' p' => ⟨xs.length - (i + 1), by omega, rfl, hlt, p'⟩, fun v H' y => ?_⟩
    obtain ⟨t, x, z, rfl, ht, rfl, f1, f2⟩ := y
    exact hs i x z t σ H (f1 xs q1) (f2 ys q2) p.out ht
  · have e : i = xs.length := by omega
    subst e
    exact .inl ⟨⟨xs, ys, q1, q2, .inl (Nat.le_refl _)⟩, hd σ H p.out⟩
end L2
set_option Elab.async false
set_option linter.all false
set_option maxRecDepth 100000
set_option maxHeartbeats 4000000
/-! Rules for own errors: methods that may raise within a try, several clauses with names, isinstance of an error that has fields. -/
namespace PySem.W
open PySem PySem.Spec PySem.Calls PyProof.Rows
section
variable {prog : Program} {w : World} {A : Around} {E : Value → Shared → Prop} {s : Shared} {K : Frag} {x D : Addr} {ox od : Obj}
/-- e.__class__ of an error with a dict of its own -/
theorem pf_class {Q : Option Value → Shared → Prop} (C : L2.ExcC K D) (X : K.In s.heap) (I : InstAt s.heap x ox D (some od)) (h : Q (some (.ref D)) { s with toks := s.toks + 1 }) :
    wpAny (model prog w) A (getAttr? (.ref x) "__class__") Q E s := by
  obtain ⟨cd, hcd, _⟩ := any_some C.hd
  have hfo : findObj K D (some od) "__class__" = some (.bind (.builtin "getset_descriptor.__get__") (.builtin "object.__class__")) := findObj_data (by rw [hcd]; rfl) C.ha C.hn C.ht
  obtain ⟨hp, g, dr, t, os⟩ := s
  have lt := I.type (M := model prog w)
  have lg := looks_findIn (M := model prog w) X C.hg
  have lh := looks_findIn (M := model prog w) X C.hk
  have lf := looks_find (M := model prog w) X I hfo
  have lb : Looks (model prog w) hp (isInstance (.ref x) (.type "BaseException")) true := lt.andThen (looks_subIn X C.hs)
  have b2 : (Value.builtin "BaseException.__getattribute__" == Value.builtin "object.__getattribute__") = false := by decide +kernel
  unfold getAttr? getAttrBy? getAttrBy
  refine wpAny_bind (wpAny_mkText (wpAny_bind (wpAny_attempt (wpAny_holding (wpAny_bind (lt.at (wpAny_bind (lg.at ?_))))))))
  show wpAny _ _ (if (onTheHeap (Value.ref D) && Value.builtin "BaseException.__getattribute__" == Value.builtin "object.__getattribute__") = true then _ else _) _ _ _
  rw [b2, Bool.and_false, if_neg Bool.false_ne_true]
  unfold getAttrByItsOwn hookBefore
  refine wpAny_bind ?_
  rw [if_pos (show onTheHeap (Value.ref D) = true from rfl)]
  refine lh.at (wpAny_bind (wpAny_attempt (wpAny_holding ?_)))
  unfold callGetattribute
  rw [if_neg (show ¬ (false && onTheHeap (Value.builtin "BaseException.__getattribute__")) = true from Bool.false_ne_true)]
  unfold boundAndCalled
  rw [PySem.F.excAttr_ValueError.ga.bind (.ref x)]
  refine wpAny_bind (wpAny_pure ?_)
  show wpAny _ _ (call (.builtin "BaseException.__getattribute__") [.ref x, .str "__class__" t]) _ _ _
  refine wpAny_call (codeAny_call_builtin PySem.F.excAttr_ValueError.ga.plain PySem.F.entry_bexc_ga ?_)
  refine @check_slot (model prog w) _ _ ⟨hp, g, dr, t + 1, os⟩ "BaseException.__getattribute__" "BaseException" "__getattribute__" (.ref x) [.str "__class__" t] [] _ (by decide +kernel) (by decide +kernel) lb (PySem.F.args_bexc_ga (.ref x) (.str "__class__" t)) ?_
  unfold Builtin.«object.__getattribute__»
  refine wpAny_bind (wpAny_of_eq (a := ((Value.ref x : Value), [Value.str "__class__" t])) (by first | rfl | (simp only [slotArgs]; rfl)) ?_)
  refine wpAny_bind (wpAny_pure (wpAny_bind (lt.at (wpAny_bind (lf.at ?_)))))
  show wpAny _ _ (holding [Value.builtin "object.__class__"] (call (.builtin "getset_descriptor.__get__") [.builtin "object.__class__", .ref x, .ref D]) >>= ret) _ _ _
  refine wpAny_bind (wpAny_holding (wpAny_call (class_get (s := ⟨hp, g, dr, t + 1, os⟩) (ox := ox) (od := some od) X I C.hm ?_)))
  refine wpAny_pure ?_
  show wpAny _ _ (handedOut (.ref D)) _ _ _
  rw [handedOut_of (v := .ref D) rfl]
  first
    | exact wpAny_pure (wpAny_pure h)
    | exact wpAny_pure h
    | exact wpAny_pure (wpAny_bind (wpAny_pure (wpAny_pure h)))
theorem pf_kitx (C : L2.ExcC K D) : KitX K (.ref x) (.ref D) (fun h => InstAt h x ox D (some od)) := by
  obtain ⟨cd, hcd, _⟩ := any_some C.hd
  have hob : ∃ o sl c dd, K.lookup D = some ⟨c, dd, .cls o, sl⟩ := by
    unfold clsIn at hcd
    split at hcd
    · rename_i c' d' cd' sl' ho
      exact ⟨_, _, _, _, ho⟩
    · cases hcd
  obtain ⟨cl, sl, c, dd, hl⟩ := hob
  refine ⟨fun _ _ _ I => I.type, fun _ _ X _ => ?_, fun h tp d' its n sl' X htp => ?_, fun X I k => pf_class C X I k⟩
  · intro A' Q' E' s' k q
    unfold isType loadHead
    exact wpAny_bind (wpAny_loadPart (k _ _ (X _ _ hl)) (wpAny_pure q))
  · refine Bool.eq_false_iff.mpr fun q => ?_
    have e : D = tp := Value.ref.inj (beq_iff_eq.mp q)
    subst e
    have z := (X _ _ hl).symm.trans htp
    cases z
end
end PySem.W
namespace L2
open PySem PySem.Spec PyProof.Rows
section
variable {X : Cx} {CX : CXT} {k : Nat} {f C : Addr} {fd : FuncData} {ps : List Str} {sp : Sp} {E : St → XK} {x m : Str} {p pos apos : Pos} {e o : Expr} {es : List Expr} {ta : TE} {t : TA}
/-- o.m(e, ..), what is raised is wished for at the slots -/
def tMethW (C : Addr) (m : Str) (sp : Sp) (E : St → XK) (ta : TE) (t : TA) : TE := fun σ H Q => ta σ H fun x H1 => ∃ a dx fs, x = .ref a ∧ H1 a = some (.ins C dx fs) ∧ fs.lookup m = none ∧ t σ H1 fun vs H2 => sp (x :: vs) H2 Q (E σ)
theorem pe_methW {pl : Sem Bool} (he : PE X o ta) (c : Cls X.K C) (hm : Meth X.K C m f) (F : FnOk X.prog X.w X.K X.mg X.base CX k f fd ps sp) (hr : Room k X.A) (hb : Binds X.K fd ps []) (hx : ∀ σ, PassesAt CX X σ (E σ)) (ha : PA X (e :: es) t)
    (hst : starEach (e :: es) X.env = (false, eval e X.env) :: starEach es X.env := by rfl) (hpl : (backTo pos (starEach es X.env)).any (·.1) = false := by rfl)
    (ht : eval (.Call (.Attribute o m apos) (e :: es) [] pos) X.env = (do
      let ov ← eval o X.env
      standAt apos.atName
      let (f, first) ← holding [ov] (getMethod ov m pl)
      callWith pos f first (backTo pos (starEach (e :: es) X.env)) (backToKw pos (keywordEach [] X.env))) := by rfl) :
    PE X (.Call (.Attribute o m apos) (e :: es) [] pos) (tMethW C m sp E ta t) := by
  refine ⟨fun pins s σ H Q I h => ?_⟩
  refine PySem.W.methodCall_KW (pl := pl) (thn (he.run pins s σ H _ I h) fun u s1 ⟨x, H1, I1, rx, a, dx, fs, ex, ea, l, q⟩ => ?_) ht
  subst ex
  obtain rfl : u = Value.ref a := rx
  refine getmeth_ok I1 ea c hm l ?_
  refine PySem.W.callWith_K (first := [.ref a]) (h₀ := X.base) I.ok.mod.kin hm.kp (thn (ha.run pos pins s1 σ H1 _ I1 q) fun us s2 ⟨vs, H2, I2, r, q2⟩ => ⟨I2.kIn, ?_⟩) hst hpl
  exact run_fnS (us := .ref a :: us) (vs := .ref a :: vs) F hr hb (hx σ) I2 (.cons rfl r) q2
end
/-! ### walks of any kind, with Wait -/
theorem forW {J : It} {n : Nat} {G : Hp → Prop} {Y : Nat → Hp → V → Hp → Prop} (w : Walk J n G Y) {g : TG} {tb : TS} {D : Ends} {σ : St} {H : Hp} (Pv : Nat → St → Hp → Prop) (h0 : Pv 0 σ H) (hG : ∀ i σ H, i ≤ n → Pv i σ H → G H)
    (hs : ∀ i x σ H H', i < n → Pv i σ H → Y i H x H' → g x σ H' fun σ2 H2 => tb { D with nx := fun σ H => Wait (Pv (i + 1) σ H), ct := fun σ H => Wait (Pv (i + 1) σ H), bk := D.nx } σ2 H2) (hd : ∀ σ H, Pv n σ H → D.nx σ H) :
    ∃ W : Nat → Nat → St → Hp → Prop, (∃ m, W 0 m σ H) ∧ ∀ i m σ H, W i m σ H →
      (J.stop i H ∧ D.nx σ H) ∨ (J.go i H ∧ ∃ N : St → Hp → Prop, (∀ σ' H', N σ' H' → ∃ m', m' < m ∧ W (i + 1) m' σ' H') ∧ ∀ x H', J.yld i H x H' → g x σ H' fun σ2 H2 => tb { D with nx := N, ct := N, bk := D.nx } σ2 H2) :=
  for_it w (fun i σ H => Wait (Pv i σ H)) (wait h0) (fun i σ H hi p => hG i σ H hi p.out) (fun i x σ H H' hi p y => hs i x σ H H' hi p.out y) fun σ H p => hd σ H p.out
theorem lcW {J : It} {n : Nat} {G : Hp → Prop} {Y : Nat → Hp → V → Hp → Prop} (w : Walk J n G Y) {g : TG} {tt : TT} {te : TE} {vs : List Nat} {σ : St} {H1 : Hp} {D : Addr} {Qd : Hp → Prop} (Pv : Nat → Hp → Prop) (h0 : Pv 0 (upd H1 D (.lst []))) (hG : ∀ i H, i ≤ n → Pv i H → G H)
    (hs : ∀ i x H H', i < n → Pv i H → Y i H x H' → g x (wipe σ vs) H' fun σ2 H2 => wipe σ2 vs = wipe σ vs ∧ tt σ2 H2 fun b H3 =>
      if b = true then te σ2 H3 fun y H4 => ∃ acc, H4 D = some (.lst acc) ∧ acc.length < sizeLine ∧ Wait (Pv (i + 1) (upd H4 D (.lst (acc ++ [y])))) else Wait (Pv (i + 1) H3)) (hd : ∀ H, Pv n H → Qd H) :
    ∃ W : Nat → Nat → Hp → Prop, (∃ m, W 0 m (upd H1 D (.lst []))) ∧ ∀ i m H, W i m H →
      (J.stop i H ∧ Qd H) ∨ (J.go i H ∧ ∃ Nx : Hp → Prop, (∀ H', Nx H' → ∃ m', m' < m ∧ W (i + 1) m' H') ∧ ∀ x H', J.yld i H x H' → g x (wipe σ vs) H' fun σ2 H2 => wipe σ2 vs = wipe σ vs ∧ tt σ2 H2 fun b H3 =>
        if b = true then te σ2 H3 fun y H4 => ∃ acc, H4 D = some (.lst acc) ∧ acc.length < sizeLine ∧ Nx (upd H4 D (.lst (acc ++ [y]))) else Nx H3) :=
  lc_it w (fun i H => Wait (Pv i H)) (wait h0) (fun i H hi p => hG i H hi p.out) (fun i x H H' hi p y => hs i x H H' hi p.out y) fun H p => hd H p.out
/-! ### keywords -/
def kbGn (n : Nat) (us ws : List Value) : List Value := if us.length = n then us ++ ws else []
def kbVn (n : Nat) (us ws : List V) : List V := if us.length = n then us ++ ws else []
theorem kb_ofn {K : PySem.W.Frag} {x qual : Str} {st : Stmt} {f : Addr} {fd : FuncData} {ps ks : List Str} {n m : Nat} (F : Fun K x qual st f fd) (hp : ps.length = n + m) (h0 : 0 < n + m)
    (h : ∀ (kV doc pm : Value) (an : Option Addr) (cdv ct : Value) (us ws : List Value), us.length = n → ws.length = m → bindArgs (PySem.W.fnOf x qual (defArgs st) (defBody st) (defScope st) .none kV doc pm an cdv ct) ⟨us, ks.zip ws⟩ = pure (ps.zip (us ++ ws))) : KBinds K fd ps ks (kbGn n) (kbVn n) := by
  obtain ⟨oc, od, kV, doc, pm, an, cdv, ct, osl, rfl, lk, hcd⟩ := F.ex
  constructor
  · intro s us ws _ hl
    by_cases e : us.length = n
    · have hg : kbGn n us ws = us ++ ws := if_pos e
      rw [hg] at hl ⊢
      rw [List.length_append, e, hp] at hl
      exact .of_eq (h kV doc pm an cdv ct us ws e (by omega))
    · have hg : kbGn n us ws = [] := if_neg e
      rw [hg, hp] at hl
      have : 0 = n + m := hl
      omega
  · intro vs us zs ws r1 r2
    have hl := r1.length
    by_cases e : us.length = n
    · rw [show kbGn n us ws = us ++ ws from if_pos e, show kbVn n vs zs = vs ++ zs from if_pos (hl.trans e)]
      exact r1.append r2
    · rw [show kbGn n us ws = [] from if_neg e, show kbVn n vs zs = [] from if_neg (fun z => e (hl.symm.trans z))]
      exact .nil
section
variable {X : Cx} {CX : CXT} {k : Nat} {f C : Addr} {fd : FuncData} {ps ks : List Str} {sp : Sp} {E : St → XK} {x m : Str} {p pos apos kpos : Pos} {e o : Expr} {es : List Expr} {kws : List Keyword} {te ta : TE} {t tk : TA} {nm : Option Str}
variable {g : List Value → List Value → List Value} {gV : List V → List V → List V}
theorem run_fnkS {pins : List (Addr × Obj)} {σ : St} {H : Hp} {s : Shared} {Q : VK} {us ws : List Value} {vs zs : List V} (F : FnOk X.prog X.w X.K X.mg X.base CX k f fd ps sp) (hr : Room k X.A) (hb : KBinds X.K fd ps ks g gV) (hx : PassesAt CX X σ (E σ))
    (I : Inv X pins σ H s) (r : Vals vs us) (rz : Vals zs ws) (h : sp (gV vs zs) H Q (E σ)) : wpAny (model X.prog X.w) X.A (call (.ref f) us (ks.zip ws)) (EP X pins σ Q) X.xe s := by
  have r2 := hb.rel r rz
  have hl : (g us ws).length = ps.length := by rw [← r2.length]; exact F.len _ _ _ _ h
  refine wpAny_call (codeAny_mono (F.run X.A X.stack s H ⟨us, ks.zip ws⟩ (g us ws) (gV vs zs) Q (E σ) hr I.env0 (hb.to s us ws I.kIn hl) r2 h) fun r s' hq => ?_)
  cases r with
  | error e => exact hx pins H s e s' I hq
  | ok fl =>
    cases fl with
    | ret u => exact I.after hq
    | next => exact False.elim hq
    | brk => exact False.elim hq
    | cont => exact False.elim hq
/-- o.m(e, .., k = v), what is raised is wished for at the slots -/
def tMethKW (C : Addr) (m : Str) (sp : Sp) (gV : List V → List V → List V) (E : St → XK) (ta : TE) (t tk : TA) : TE := fun σ H Q => ta σ H fun x H1 => ∃ a dx fs, x = .ref a ∧ H1 a = some (.ins C dx fs) ∧ fs.lookup m = none ∧
  t σ H1 fun vs H2 => tk σ H2 fun zs H3 => sp (gV (x :: vs) zs) H3 Q (E σ)
theorem pe_methKW {pl : Sem Bool} (he : PE X o ta) (c : Cls X.K C) (hm : Meth X.K C m f) (F : FnOk X.prog X.w X.K X.mg X.base CX k f fd ps sp) (hr : Room k X.A) (hb : KBinds X.K fd ps ks g gV) (hx : ∀ σ, PassesAt CX X σ (E σ)) (ha : PA X (e :: es) t) (hkw : PK X kws tk)
    (hall : (backToKw pos (keywordEach kws X.env)).all (·.1.isSome) = true := by rfl) (hks : (backToKw pos (keywordEach kws X.env)).filterMap (·.1) = ks := by rfl)
    (hst : starEach (e :: es) X.env = (false, eval e X.env) :: starEach es X.env := by rfl)
    (hpl : ((backTo pos (starEach (e :: es) X.env)).any (·.1) || (backToKw pos (keywordEach kws X.env)).any (·.1.isNone)) = false := by rfl)
    (ht : eval (.Call (.Attribute o m apos) (e :: es) kws pos) X.env = (do
      let ov ← eval o X.env
      standAt apos.atName
      let (f, first) ← holding [ov] (getMethod ov m pl)
      callWith pos f first (backTo pos (starEach (e :: es) X.env)) (backToKw pos (keywordEach kws X.env))) := by rfl) :
    PE X (.Call (.Attribute o m apos) (e :: es) kws pos) (tMethKW C m sp gV E ta t tk) := by
  refine ⟨fun pins s σ H Q I h => ?_⟩
  refine PySem.W.methodCall_KW (pl := pl) (thn (he.run pins s σ H _ I h) fun u s1 ⟨x, H1, I1, rx, a, dx, fs, ex, ea, l, q⟩ => ?_) ht
  subst ex
  obtain rfl : u = Value.ref a := rx
  refine getmeth_ok I1 ea c hm l ?_
  refine PySem.W.callWith_KW (first := [.ref a]) (h₀ := X.base) I.ok.mod.kin hm.kp hall (thn (ha.run pos pins s1 σ H1 _ I1 q) fun us s2 ⟨vs, H2, I2, r, q2⟩ => ?_) hpl hst
  refine thn (hkw.run pos pins s2 σ H2 _ I2 q2) fun ws s3 ⟨zs, H3, I3, rz, q3⟩ => ⟨I3.kIn, ?_⟩
  rw [hks]
  exact run_fnkS (us := .ref a :: us) (vs := .ref a :: vs) F hr hb (hx σ) I3 (.cons rfl r) rz q3
end
/-- isinstance(e, c), e the error that the suite holds, of the class at D, its fields at dd -/
def rIsX (K : PySem.W.Frag) (D a dd : Addr) : List V → Hp → VK → Prop := fun xs H Q => ∃ (c : V) (cv : Value) (b : Bool) (fs : List (Str × V)), xs = [.ref a, c] ∧ (∀ u, RelV c u → u = cv) ∧ H dd = some (.xd fs) ∧ PySem.W.kitOne K (.ref D) cv = some b ∧ Q (.bl b) H
theorem call_isX {X : Cx} {a D dd : Addr} {oe : Obj} {pn : List (Addr × Obj)} (C : ExcC X.K D) (hz : Zc (.ref D) (some dd) oe) (hf : ∃ vs, oe.data = .fields vs) : CallR (X.suite a ((a, oe) :: pn)) (.builtin "isinstance") (rIsX X.K D a dd) := by
  intro pins s σ H xs us Q I r h
  obtain ⟨c, cv, b, fs, rfl, hcv, hx, e, q⟩ := h
  obtain ⟨u1, u2, rfl, r1, r2⟩ := vals2 r
  cases r1
  have ec := hcv _ r2
  subst ec
  obtain ⟨hget, _⟩ := I.pin (a, oe) (List.mem_append.mpr (.inl List.mem_cons_self))
  obtain ⟨vs, hv⟩ := hf
  obtain ⟨mA, ⟨od, es, ep, ho, _⟩, _⟩ := (show ObjOk X.prog X.w H s.heap dd (.xd fs) from I.hok dd _ hx)
  have J : PySem.W.InstAt s.heap a oe D (some od) := ⟨hget, hz.1, by unfold PySem.W.notCls; rw [hv] <;> rfl, by rw [hz.2]; exact ho⟩
  exact PySem.W.kia_one (PySem.W.pf_kitx C) I.kIn J e (fun z => nomatch z) fun tk => ⟨.bl b, H, I.kept (t' := tk) fun _ _ z => z, rfl, q⟩
/-- .. whatever class it has -/
def rIsW (K : PySem.W.Frag) (a : Addr) (cls : Value) (d : Option Addr) : List V → Hp → VK → Prop := fun xs H Q => ∃ D dd : Addr, cls = .ref D ∧ d = some dd ∧ ExcC K D ∧ rIsX K D a dd xs H Q
theorem call_isW {X : Cx} {a : Addr} {oe : Obj} {cls : Value} {d : Option Addr} {pn : List (Addr × Obj)} (hz : Zc cls d oe) (hf : ∃ vs, oe.data = .fields vs) : CallR (X.suite a ((a, oe) :: pn)) (.builtin "isinstance") (rIsW X.K a cls d) := by
  intro pins s σ H xs us Q I r h
  obtain ⟨D, dd, rfl, rfl, C, h⟩ := h
  exact call_isX C hz hf pins s σ H xs us Q I r h
theorem kit_exm {K : PySem.W.Frag} {A B : Addr} {b : Bool} (h1 : PySem.W.exmOne K (.ref A) (.ref A) = some true) (h2 : PySem.W.exmOne K (.ref A) (.ref B) = some b) : PySem.W.kitOne K (.ref A) (.ref B) = some b := by
  unfold PySem.W.kitOne
  by_cases e : A = B
  · subst e
    rw [h1] at h2
    rw [if_pos (by simp)]
    exact h2
  · rw [if_neg (by simpa using e)]
    unfold PySem.W.exmOne at h2
    split at h2
    · exact h2
    · cases h2
theorem kit_bl {K : PySem.W.Frag} {A : Addr} {T : String} {b : Bool} (h1 : PySem.W.subIn K (.ref A) (.type T) = some b) (h2 : PySem.W.kitMeta T = true) : PySem.W.kitOne K (.ref A) (.type T) = some b := by
  unfold PySem.W.kitOne
  rw [if_neg (by simp)]
  show (if PySem.W.kitMeta T = true then PySem.W.subIn K (.ref A) (.type T) else none) = some b
  rw [if_pos h2]
  exact h1
/-! ### several clauses, each with a name or without one -/
structure Cl where
  c : Value
  i : Option Nat
  ts : Addr → Value → Option Addr → TS
def Cl.at (cl : Cl) (a : Addr) (cls : Value) (d : Option Addr) (D : Ends) (σ : St) (H : Hp) : Prop := match cl.i with
  | none => cl.ts a cls d D σ H
  | some i => cl.ts a cls d { nx := fun σ' H' => D.nx (σ'.set i none) H', rt := D.rt, bk := fun σ' H' => D.bk (σ'.set i none) H', ct := fun σ' H' => D.ct (σ'.set i none) H' } (σ.set i (some (.ref a))) H
def wCls (K : PySem.W.Frag) (Wout : WX) (D : Ends) : List Cl → WX
  | [] => Wout
  | cl :: r => fun cls d σ H => ∃ b, PySem.W.exmOne K cls cl.c = some b ∧ (b = true → ∀ a, H a = none → cl.at a cls d D σ H) ∧ (b = false → wCls K Wout D r cls d σ H)
inductive ClsOk (X : Cx) : List ExceptHandler → List Cl → Prop
  | nil : ClsOk X [] []
  | plain {x : Str} {c : Value} {ts : Addr → Value → Option Addr → TS} {b₀ : Stmt} {suite : List Stmt} {np pos' : Pos} {hds : List ExceptHandler} {l : List Cl} (hc : Names X x c)
      (hsu : ∀ (a : Addr) (oe : Obj) (cls : Value) (d : Option Addr) (pn : List (Addr × Obj)), Zc cls d oe → (∃ vs, oe.data = .fields vs) → PSs (X.suite a ((a, oe) :: pn)) (b₀ :: suite) (ts a cls d)) (r : ClsOk X hds l) :
      ClsOk X (.ExceptHandler (some (.Name x np)) none (b₀ :: suite) pos' :: hds) (⟨c, none, ts⟩ :: l)
  | named {x n : Str} {i : Nat} {c : Value} {ts : Addr → Value → Option Addr → TS} {b₀ : Stmt} {suite : List Stmt} {np pos' : Pos} {hds : List ExceptHandler} {l : List Cl} (hN : X.N.Nodup) (hi : X.N[i]? = some n) (hln : X.env.kindOf n = some .local) (hc : Names X x c)
      (hsu : ∀ (a : Addr) (oe : Obj) (cls : Value) (d : Option Addr) (pn : List (Addr × Obj)), Zc cls d oe → (∃ vs, oe.data = .fields vs) → PSs (X.suite a ((a, oe) :: pn)) (b₀ :: suite) (ts a cls d)) (r : ClsOk X hds l) :
      ClsOk X (.ExceptHandler (some (.Name x np)) (some n) (b₀ :: suite) pos' :: hds) (⟨c, some i, ts⟩ :: l)
section
variable {X : Cx} {body : List Stmt} {h₀ : ExceptHandler} {hds : List ExceptHandler} {l : List Cl} {pos : Pos} {tb : WX → TS} {Wout : WX}
/-- the error stands on the ground ahead of the clauses -/
structure Ground (X : Cx) (pins : List (Addr × Obj)) (a : Addr) (B : Heap) (sI s' : Shared) (h3 : Heap) (σ : St) (H : Hp) (cls : Value) (d : Option Addr) : Prop where
  J : Inv X pins σ H sI
  nb : ∀ b o, sI.heap.get? b = some o → b ∉ frs X.stack → B.get? b = some o
  up : sI.heap.UpToSlots h3
  fl : HandSPX.FlyingZ B (X.env :: X.outer) a (Zc cls d) h3
  na : H a = none
  os : s'.os = sI.os
  ag : AllBare s'.gens
theorem Ground.inv {pins : List (Addr × Obj)} {a : Addr} {B : Heap} {sI s' : Shared} {h3 : Heap} {σ : St} {H : Hp} {cls : Value} {d : Option Addr} (G : Ground X pins a B sI s' h3 σ H cls d) : Inv X pins σ H { s' with heap := h3 } :=
  G.J.landed G.nb G.fl.1 G.up G.os G.ag
theorem Ground.off {pins : List (Addr × Obj)} {a : Addr} {B : Heap} {sI s' : Shared} {h3 : Heap} {σ : St} {H : Hp} {cls : Value} {d : Option Addr} (G : Ground X pins a B sI s' h3 σ H cls d) (hf : X.env.frame = some X.env.locals) : a ≠ X.env.locals ∧ a ∉ X.fs := by
  obtain ⟨oe, vs, he, _, hd⟩ := G.fl.there
  have nfr : a ∉ frs (X.env :: X.outer) := fun hm => by
    obtain ⟨_, o', e', hnf⟩ := G.fl.2.2.1.mem hm
    rw [he] at e'
    cases e'
    exact hnf _ hd
  refine ⟨fun z => nfr (List.mem_filterMap.mpr ⟨X.env, List.mem_cons_self, by rw [hf, z]⟩), fun hm => ?_⟩
  obtain ⟨ev, hev, q⟩ := List.mem_filterMap.mp hm
  exact nfr (List.mem_filterMap.mpr ⟨ev, List.mem_cons_of_mem _ hev, q⟩)
theorem clauses (hs : X.stack = X.env :: X.outer) (hf : X.env.frame = some X.env.locals) (tk : Takes X Wout) {pins : List (Addr × Obj)} {a : Addr} {B : Heap} {sI s' : Shared} {h3 : Heap} {σ : St} {H : Hp} {cls : Value} {d : Option Addr} {D : Ends}
    (G : Ground X pins a B sI s' h3 σ H cls d) (ok : X.Ok) {hds : List ExceptHandler} {l : List Cl} (hk : ClsOk X hds l) (w : wCls X.K Wout D l cls d σ H) :
    wpAny (model X.prog X.w) X.A (handleBy (.ref a) X.env hds) (SP X pins D) X.xe { s' with heap := h3 } := by
  obtain ⟨nL, nF⟩ := G.off hf
  have J3 := G.inv
  obtain ⟨oe3, vs3, he3, hz3, hd3⟩ := G.fl.there
  have S3 := J3.suite he3 hd3 G.na nL nF
  have LT : PySem.W.Looks (model X.prog X.w) h3 (typeOf (.ref a)) cls := fun A Q E s k q => wpAny_typeOf_ref (k _ _ he3) (by rw [hz3.1]; exact q)
  have name : ∀ {x : Str} {c : Value} {np : Pos} {Q : Value → Shared → Prop} {E : Value → Shared → Prop}, Names X x c → Q c { s' with heap := h3 } → wpAny (model X.prog X.w) (X.A.mark (some (.ref a))) (eval (.Name x np) X.env) Q E { s' with heap := h3 } := fun {x c np Q E} hc q => by
    obtain ⟨hg, hdbg, hm | ⟨hm, hv, hnn⟩⟩ := hc
    · exact ld_glob (X := X.suite a ((a, oe3) :: (X.pn ++ pins))) S3 hg hm q hdbg
    · exact ld_blt (X := X.suite a ((a, oe3) :: (X.pn ++ pins))) S3 hg hm hv q hnn hdbg
  have again : ∀ {h4 : Heap}, HandSPX.FlyingZ B (X.env :: X.outer) a (Zc cls d) h4 → Heap.UpToSlots h3 h4 → ∃ oe4 vs4, Zc cls d oe4 ∧ oe4.data = .fields vs4 ∧ Inv (X.suite a ((a, oe4) :: (X.pn ++ pins))) [] σ H { s' with heap := h4 } := fun {h4} fl4 up4 => by
    have J4 : Inv X pins σ H { s' with heap := h4 } := G.J.landed G.nb fl4.1 (G.up.trans up4) G.os G.ag
    obtain ⟨oe4, vs4, he4, hz4, hd4⟩ := fl4.there
    exact ⟨oe4, vs4, hz4, hd4, J4.suite he4 hd4 G.na nL nF⟩
  induction hk with
  | nil =>
    refine wpAny_handleBy_nil ?_
    obtain ⟨k1, k2, k3, oe, vs, T, oT, ts', he, hz, hd, h1, hr⟩ := id G.fl
    unfold PySem.passOn
    refine wpAny_bind (wpAny_field he hd h1 ?_)
    rw [if_neg (show ¬ ((Value.ref T == Value.none) = true) from by simp)]
    have fin : wpAny (model X.prog X.w) X.A (setFlight (.ref a) X.env.frame) (fun _ s4 => wpAny (model X.prog X.w) X.A (throw (.ref a) : Sem Flow) (SP X pins D) X.xe s4) X.xe { s' with heap := h3 } := by
      rw [hf]
      refine HandSPX.setFlight_upZ G.fl fun h4 hh4 up4 => wpAny_throw (tk _ _ ?_)
      exact ⟨a, B, sI, pins, σ, H, cls, d, rfl, G.J, G.nb, G.up.trans up4, .inr (.inr (by rw [hs]; exact hh4)), G.na, G.os, G.ag, w⟩
    first
      | exact wpAny_bind (wpAny_pure (wpAny_bind fin))
      | exact wpAny_bind fin
  | @plain x c ts b₀ suite np pos' hds2 l2 hc hsu r ih =>
    obtain ⟨b, hb1, hyes, hno⟩ := w
    refine wpAny_handleBy_cons (codeAny_handlers_test ?_) (by intro q; cases q)
    refine name hc ((PySem.W.exm_one (M := model X.prog X.w) J3.kIn LT hb1).here ?_)
    cases b with
    | true =>
      refine codeAny_handlers_suite (HandSPX.lands_againZ G.fl fun h4 fl4 up4 => ?_)
      obtain ⟨oe4, vs4, hz4, hd4, S4⟩ := again fl4 up4
      refine wpAny_mono ((hsu a oe4 cls d (X.pn ++ pins) hz4 ⟨_, hd4⟩).run [] _ _ H _ S4 (hyes rfl a G.na)) (fun f s6 hsp => ?_) (fun _ _ z => False.elim z)
      cases f with
      | next => obtain ⟨σ6, H6, S6, q6⟩ := hsp; exact ⟨_, _, S6.unsuite ok, q6⟩
      | brk => obtain ⟨σ6, H6, S6, q6⟩ := hsp; exact ⟨_, _, S6.unsuite ok, q6⟩
      | cont => obtain ⟨σ6, H6, S6, q6⟩ := hsp; exact ⟨_, _, S6.unsuite ok, q6⟩
      | ret u => obtain ⟨v6, σ6, H6, S6, r6, q6⟩ := hsp; exact ⟨_, _, _, S6.unsuite ok, r6, q6⟩
    | false =>
      show wpAny _ X.A (handleBy (.ref a) X.env hds2) _ _ _
      exact ih (hno rfl)
  | @named x n i c ts b₀ suite np pos' hds2 l2 hN hi hln hc hsu r ih =>
    obtain ⟨b, hb1, hyes, hno⟩ := w
    refine wpAny_handleBy_cons (codeAny_handlers_test ?_) (by intro q; cases q)
    refine name hc ((PySem.W.exm_one (M := model X.prog X.w) J3.kIn LT hb1).here ?_)
    cases b with
    | true =>
      refine codeAny_handlers_suite_as (HandSPX.lands_againZ G.fl fun h4 fl4 up4 => ?_)
      obtain ⟨oe4, vs4, hz4, hd4, S4⟩ := again fl4 up4
      refine store_ok (X := X.suite a ((a, oe4) :: (X.pn ++ pins))) (v := .ref a) S4 hN hi (.inl hln) rfl (fun s5 S5 => ?_) (.inr hln)
      refine wpAny_mono ((hsu a oe4 cls d (X.pn ++ pins) hz4 ⟨_, hd4⟩).run [] s5 _ H _ S5 (hyes rfl a G.na)) (fun f s6 hsp => ?_) (fun _ _ z => False.elim z)
      have fin : ∀ {σ6 : St} {H6 : Hp} {Q : Shared → Prop}, Inv (X.suite a ((a, oe4) :: (X.pn ++ pins))) [] σ6 H6 s6 → (∀ s7, Inv X pins (σ6.set i none) H6 s7 → Q s7) →
          wpAny (model X.prog X.w) X.A (do bindName X.env n .none; unbindBehindTheSuite X.env n pos') (fun _ s7 => Q s7) X.xe s6 := fun {σ6 H6 Q} S6 hq => gone_ok (S6.unsuite ok) hN hi hln hq
      cases f with
      | next => obtain ⟨σ6, H6, S6, q6⟩ := hsp; exact fin S6 fun s7 J7 => ⟨_, _, J7, q6⟩
      | brk => obtain ⟨σ6, H6, S6, q6⟩ := hsp; exact fin S6 fun s7 J7 => ⟨_, _, J7, q6⟩
      | cont => obtain ⟨σ6, H6, S6, q6⟩ := hsp; exact fin S6 fun s7 J7 => ⟨_, _, J7, q6⟩
      | ret u => obtain ⟨v6, σ6, H6, S6, r6, q6⟩ := hsp; exact fin S6 fun s7 J7 => ⟨_, _, _, J7, r6, q6⟩
    | false =>
      show wpAny _ X.A (handleBy (.ref a) X.env hds2) _ _ _
      exact ih (hno rfl)
theorem ps_try_cls (hs : X.stack = X.env :: X.outer) (hf : X.env.frame = some X.env.locals) (tk : Takes X Wout)
    (hb : ∀ (W : WX) (pn : List (Addr × Obj)) (xe : Value → Shared → Prop), Takes (X.tr pn xe) W → PassesOwn (model X.prog X.w) X.A X.env xe → PSs (X.tr pn xe) body (tb W))
    (hh : ClsOk X (h₀ :: hds) l) : PS X (.Try body (h₀ :: hds) [] [] pos) (fun D σ H => tb (wCls X.K Wout D l) D σ H) := by
  refine ⟨fun pins s σ H D I h => ?_⟩
  have ok := I.ok
  have hfr : X.A.frames = some (X.env :: X.outer) := by rw [ok.frames, hs]
  refine wpAny_Try_except ?_
  refine wpAny_mono ((hb (wCls X.K Wout D l) (X.pn ++ pins) (fun e s₁ => wpAny (model X.prog X.w) X.A (noteFrame e X.env) (fun _ s₂ => wpAny (model X.prog X.w) X.A (setFlight e none) (fun _ s₃ =>
    wpAny (model X.prog X.w) X.A (handleBy e X.env (h₀ :: hds)) (SP X pins D) X.xe s₃) X.xe s₂) X.xe s₁) (fun u s' xx => ?_) PassesOwn.looking).run [] s σ H D (I.toTry _) h) (fun f s1 hsp => ?_) (fun e s1 he => he)
  · obtain ⟨a, B, sI, pins', σ', H', cls, d, rfl, J', nb, up, sky, na, os, ag, w⟩ := xx
    have sky' : Sky B (X.env :: X.outer) a (Zc cls d) X.env.locals s'.heap := by rw [← hs]; exact sky
    show wpAny (model X.prog X.w) X.A (noteFrame (.ref a) X.env) _ _ _
    refine Sky.land Zc.steady hfr hf sky' fun h3 fl3 up3 => ?_
    exact clauses hs hf tk ⟨J'.ofTry ok, nb, up.trans up3, fl3, na, os, ag⟩ ok hh w
  · cases f with
    | next => obtain ⟨σ', H', J', q⟩ := hsp; exact wpAny_execs_nil ⟨σ', H', J'.ofTry ok, q⟩
    | brk => obtain ⟨σ', H', J', q⟩ := hsp; exact ⟨σ', H', J'.ofTry ok, q⟩
    | cont => obtain ⟨σ', H', J', q⟩ := hsp; exact ⟨σ', H', J'.ofTry ok, q⟩
    | ret u => obtain ⟨v, σ', H', J', r, q⟩ := hsp; exact ⟨v, σ', H', J'.ofTry ok, r, q⟩
end
/-- an own error's __init__(self, x): self.f = x -/
def spErr (C : Addr) (f : Str) : Sp := fun vs H Q _ => ∃ (e : Addr) (v : V), vs = [.ref e, v] ∧ H e = some (exo e C none) ∧ ∀ d, H d = none → d ≠ e → Q .non (upd (upd H d (exd d [(f, v)])) e (exo e C (some d)))
/-- what a raise C(v) of such a class leaves: its dict is new -/
theorem raise_err {C : Addr} {f : Str} {v : V} {H : Hp} {W : Value → Option Addr → Hp → Prop} (h : ∀ d H', H d = none → H' d = some (.xd [(f, v)]) → Same H H' → W (.ref C) (some d) H') :
    [v].length ≤ 1000 ∧ ∀ a, H a = none → spErr C f (.ref a :: ([v] ++ [])) (upd H a (exo a C none))
      (fun u H2 => u = .non ∧ ∃ (d : Addr) (fs : List (Str × V)), H2 a = some (exo a C (some d)) ∧ H2 d = some (exd d fs) ∧ H d = none ∧ W (.ref C) (some d) (upd (del H2 a) d (.xd fs))) (fun _ _ _ => False) := by
  refine ⟨by show 1 ≤ 1000; decide, fun a ha => ⟨a, v, rfl, upd_same, fun d hd nd => ⟨rfl, d, [(f, v)], upd_same, ?_, ?_, ?_⟩⟩⟩
  · rw [upd_ne nd, upd_same]
  · rw [upd_ne nd] at hd
    exact hd
  · rw [upd_ne nd] at hd
    refine h d _ hd upd_same fun b o e => ?_
    have nb : b ≠ d := ne_of_none e hd
    have na : b ≠ a := ne_of_none e ha
    rw [upd_ne nb, del_ne na, upd_ne na, upd_ne nb, upd_ne na]
    exact e
section
variable {X : Cx}
/-- a module's constant -/
theorem pe_globI {x : Str} {n : Int} {pos : Pos} (hg : Gl X x) (hm : ∃ t, X.mg x = some (.int n t)) (hd : (x == ("__debug__" : Str)) = false := by decide) : PE X (.Name x pos) (tC (.int n)) := by
  obtain ⟨t, h⟩ := hm
  exact pe_glob hg h ⟨t, rfl⟩ hd
theorem pe_globS {x z : Str} {pos : Pos} (hg : Gl X x) (hm : ∃ t, X.mg x = some (.str z t)) (hd : (x == ("__debug__" : Str)) = false := by decide) : PE X (.Name x pos) (tC (.str z)) := by
  obtain ⟨t, h⟩ := hm
  exact pe_glob hg h ⟨t, rfl⟩ hd
/-- the walk stops ahead of a loop's turns -/
def iWait (w : TI) : TI := fun σ H R => w σ H fun J H1 => Wait (R J H1)
theorem pi_wait {tg iter : Expr} {w : TI} (h : PI X tg iter w) : PI X tg iter (iWait w) :=
  ⟨fun pins s σ H R I q => thn (h.run pins s σ H _ I q) fun v s1 h1 => thn h1 fun itv s2 ⟨it, fp, tn, J, H2, e, I2, T, st2, f2, r⟩ => ⟨it, fp, tn, J, H2, e, I2, T, st2, f2, r.out⟩⟩
end
end L2
set_option Elab.async false
set_option linter.all false
set_option maxRecDepth 100000
set_option maxHeartbeats 4000000
/-! len(set(t)) of texts; an object made within a try. -/
namespace PfS
open PySem PySem.Spec PyProof.Rows
/-- each text once, in the order in which they come -/
def uniq (ws : List Str) : List Str := ws.foldl (fun acc z => if z ∈ acc then acc else acc ++ [z]) []
theorem uniq_snoc (ws : List Str) (z : Str) : uniq (ws ++ [z]) = if z ∈ uniq ws then uniq ws else uniq ws ++ [z] := by
  unfold uniq
  rw [List.foldl_append] <;> rfl
theorem snoc_ind {α : Type} {p : List α → Prop} (h0 : p []) (hs : ∀ l x, p l → p (l ++ [x])) (l : List α) : p l := by
  have : ∀ r : List α, p r.reverse := fun r => by
    induction r with
    | nil => exact h0
    | cons x r ih =>
      rw [List.reverse_cons]
      exact hs _ _ ih
  have := this l.reverse
  rwa [List.reverse_reverse] at this
theorem mem_uniq (ws : List Str) : ∀ z, z ∈ uniq ws ↔ z ∈ ws := by
  refine snoc_ind (p := fun ws => ∀ z, z ∈ uniq ws ↔ z ∈ ws) (fun z => Iff.rfl) (fun l x ih z => ?_) ws
  rw [uniq_snoc]
  split
  · rename_i h
    rw [ih z, List.mem_append, List.mem_singleton]
    constructor
    · exact .inl
    · rintro (q | q)
      · exact q
      · rw [q]; exact (ih x).mp h
  · rw [List.mem_append, List.mem_append, ih z]
theorem uniq_le (ws : List Str) : (uniq ws).length ≤ ws.length := by
  refine snoc_ind (p := fun ws => (uniq ws).length ≤ ws.length) (Nat.le_refl _) (fun l x ih => ?_) ws
  rw [uniq_snoc, List.length_append]
  split
  · exact Nat.le_trans ih (Nat.le_add_right _ _)
  · rw [List.length_append]
    exact Nat.add_le_add_right ih _
theorem uniq_len (ws : List Str) : (uniq ws).length = ws.length ↔ ws.Nodup := by
  refine snoc_ind (p := fun ws => (uniq ws).length = ws.length ↔ ws.Nodup) ⟨fun _ => List.nodup_nil, fun _ => rfl⟩ (fun l x ih => ?_) ws
  rw [uniq_snoc, List.length_append]
  have hle := uniq_le l
  split
  · rename_i h
    have hx := (mem_uniq l x).mp h
    constructor
    · intro e
      exact absurd e (by show ¬ _ = _ + 1; omega)
    · intro nd
      rw [List.nodup_append] at nd
      exact absurd rfl (nd.2.2 x hx x List.mem_cons_self)
  · rename_i h
    have hx : x ∉ l := fun q => h ((mem_uniq l x).mpr q)
    rw [List.length_append]
    constructor
    · intro e
      have e2 : (uniq l).length = l.length := by
        have : (uniq l).length + 1 = l.length + 1 := e
        omega
      rw [List.nodup_append]
      refine ⟨ih.mp e2, List.nodup_cons.mpr ⟨(fun z => nomatch z), List.nodup_nil⟩, fun y hy z hz => ?_⟩
      rw [List.mem_singleton.mp hz]
      exact fun q => hx (q ▸ hy)
    · intro nd
      rw [List.nodup_append] at nd
      show (uniq l).length + 1 = l.length + 1
      rw [ih.mpr nd.1]
theorem any_uniq (ws : List Str) (z y : Str) : (ws.any (· == y) || decide (y = z)) = (ws ++ [z]).any (· == y) := by
  rw [List.any_append]
  by_cases e : y = z
  · subst e; simp
  · have hb : (z == y) = false := by simpa [beq_iff_eq] using (fun q : z = y => e q.symm)
    simp [hb, e]
section
variable {prog : Program} {w : World} {A : Around} {R : Result → Shared → Prop} {J : Addr} {fp wr : List Addr} {G : Array GenState → Array GenState → Prop} {n : Nat} {P : Nat → Value → Prop} {St : Nat → Shared → Prop}
/-- the loop of set.update over texts -/
theorem loopU (W : WalksS prog w A.in1 J fp wr G n P St) (S : Addr) (hSf : S ∉ fp) (ws : List Str) (hsz : ws.length = n) (hn1 : n ≤ 4000)
    (hval : ∀ i v, P i v → ∃ t, v = .str (ws.getD i Str.empty) t) :
    ∀ (k i : Nat) (s : Shared), n - i = k → i ≤ n → St i s → s.heap.SetOf (PySem.strKind prog w) S (fun y => (ws.take i).any (· == y)) (uniq (ws.take i)).length →
      (∀ s', Moved (S :: wr) G s s' → s'.heap.SetOf (PySem.strKind prog w) S (fun y => (ws.take n).any (· == y)) (uniq (ws.take n)).length → R (.ok (.ret .none)) s') →
      codeAny (model prog w) A (.builtin "set.update.loop" ⟨[.ref S, .ref J], []⟩) R s := by
  have hSw : S ∉ wr := fun q => hSf (W.sub _ q)
  have sub1 : ∀ b ∈ wr, b ∈ S :: wr := fun b q => List.mem_cons_of_mem _ q
  intro k
  induction k with
  | zero =>
    intro i s hk hi st hS hR
    have e : i = n := by omega
    subst e
    refine codeAny_builtin F.entry_set_update_loop ?_
    rw [Around.under_plainId F.plain_set_update_loop _]
    show wpAny _ A.in1 (pyNext (.ref J) >>= _) _ _ s
    refine wpAny_bind (W.done s _ _ st fun s1 mv => ?_)
    show wpAny _ A.in1 (ret Value.none) _ _ s1
    refine wpAny_pure (hR s1 (mv.mono sub1) ?_)
    obtain ⟨o, es, ep, tb, ho, q⟩ := hS
    exact ⟨o, es, ep, tb, mv.heap S _ hSw ho, q⟩
  | succ k ih =>
    intro i s hk hi st hS hR
    have lt : i < n := by omega
    refine codeAny_builtin F.entry_set_update_loop ?_
    rw [Around.under_plainId F.plain_set_update_loop _]
    show wpAny _ A.in1 (pyNext (.ref J) >>= _) _ _ s
    refine wpAny_bind (W.item i s _ _ lt st fun v s1 hP st1 mv => ?_)
    obtain ⟨t, rfl⟩ := hval i v hP
    obtain ⟨z, ez⟩ : ∃ z, z = ws.getD i Str.empty := ⟨_, rfl⟩
    rw [← ez]
    have hz : ws[i]? = some z := by
      rw [ez, List.getD_eq_getElem?_getD, List.getElem?_eq_getElem (by omega)] <;> rfl
    have S1 : s1.heap.SetOf (PySem.strKind prog w) S (fun y => (ws.take i).any (· == y)) (uniq (ws.take i)).length := by
      obtain ⟨o, es, ep, tb, ho, q⟩ := hS
      exact ⟨o, es, ep, tb, mv.heap S _ hSw ho, q⟩
    have few : (uniq (ws.take i)).length ≤ 4000 := Nat.le_trans (uniq_le _) (by rw [List.length_take]; omega)
    show wpAny _ A.in1 (holding [Value.str z t] (setAdd S (.str z t)) >>= _) _ _ s1
    refine wpAny_bind (wpAny_holding ?_)
    unfold setAdd
    refine wpAny_holding (wpAny_bind ((PySem.strKind prog w).pyHash (k := z) (strKind_is _ _ _ _) ?_))
    refine wpAny_setAddHashed_of (knd := PySem.strKind prog w) (s := { s1 with toks := s1.toks + 1 }) (strKind_is _ _ _ _) rfl S1 (by unfold scanBound; omega) fun h2 sb S2 => ?_
    have tk : ws.take (i + 1) = ws.take i ++ [z] := by rw [List.take_add_one, hz] <;> rfl
    have S3 : h2.SetOf (PySem.strKind prog w) S (fun y => (ws.take (i + 1)).any (· == y)) (uniq (ws.take (i + 1))).length := by
      rw [tk]
      refine SetOf_congr S2 (fun y => any_uniq _ _ _) ?_
      rw [uniq_snoc]
      have hany : (ws.take i).any (· == z) = decide (z ∈ uniq (ws.take i)) := by
        by_cases q : z ∈ ws.take i
        · rw [decide_eq_true ((mem_uniq _ _).mpr q)]
          exact List.any_eq_true.mpr ⟨z, q, by simp⟩
        · rw [decide_eq_false (fun y => q ((mem_uniq _ _).mp y))]
          refine List.any_eq_false.mpr fun y hy e => q ?_
          rw [← beq_iff_eq.mp e]
          exact hy
      rw [hany]
      by_cases q : z ∈ uniq (ws.take i)
      · rw [if_pos (decide_eq_true q), if_pos q]
      · rw [if_neg (by rw [decide_eq_false q]; exact Bool.false_ne_true), if_neg q, List.length_append] <;> rfl
    refine wpAny_pure ⟨plainId_quiet F.plain_set_update_loop _, ih (i + 1) _ (by omega) lt (W.frame _ s1 _ _ st1 (Nat.le_succ _) fun b hb o e => ?_) S3 fun s3 mv3 q3 => ?_⟩
    · rw [sb.2 b (fun q : b = S => hSf (by rw [← q]; exact hb))]
      exact e
    · refine hR s3 (Moved.trans W.gtrans ((mv.mono sub1).then_heap (Nat.le_succ _) fun b o hb e => ?_) mv3) q3
      rw [sb.2 b (fun q : b = S => hb (by rw [q]; exact List.mem_cons_self))]
      exact e
end
section
variable {prog : Program} {w : World} {A : Around} {E : Value → Shared → Prop} {s : Shared}
abbrev emptySet (ld : Bool) : Obj := { cls := .type "set", dict := none, data := .set #[] 0 (.fresh 0 0 ld) }
/-- set(t), t a tuple of texts -/
theorem callSetT {l : Addr} {its : Array Value} {ws : List Str} {Q : Value → Shared → Prop} (hh : A.handled = none) (hl : s.heap.IsTuple l its) (hi : StrsAre its.toList ws) (hn : ws.length ≤ 4000)
    (q : ∀ (h2 : Heap) (tk : Nat), h2.SetOf (PySem.strKind prog w) s.heap.objs.size (fun y => ws.any (· == y)) (uniq ws).length → (∀ b o, b < s.heap.objs.size → s.heap.get? b = some o → h2.get? b = some o) → Q (.ref s.heap.objs.size) { s with heap := h2, toks := tk }) :
    wpAny (model prog w) A (call (.type "set") [.ref l]) Q E s := by
  obtain ⟨c, tl, hmro⟩ := PySem.F.called_set.mro
  have g1 := PySem.F.called_set.made
  have g2 := PySem.F.called_set.sub
  have g3 := PySem.F.called_set.notType
  have g4 := PySem.F.called_set.canCreate
  have g5 := PySem.F.typeCall_set_1 (.ref l)
  have hsz : ws.length = its.size := by rw [← StrsAre.len_eq hi, Array.length_toList]
  refine wpAny_call (codeAny_of_tree ?_)
  show wpAny _ _ (callAny (.type "set") _) _ _ _
  refine wpAny_pure ⟨Code.quiet_builtin _ (by decide +kernel), codeAny_builtin PySem.F.entry_type_call ?_⟩
  rw [Around.under_plain (weight_type_call_type "set" [.ref l] []) rfl]
  repeat (any_goals (first | assumption | wp_step))
  refine codeAny_mono (code_set_new_1 (.ref l) (E := E) (Q₁ := fun ob s1 => ∃ ld : Bool, ob = .ref s.heap.objs.size ∧ s1 = { s with heap := s.heap.push (emptySet ld) }) fun ld => ⟨ld, rfl, rfl⟩) fun r s1 hr => ?_
  cases r with
  | error e => exact hr
  | ok fl =>
    cases fl with
    | ret ob =>
      obtain ⟨ld, rfl, rfl⟩ := hr
      have hS : (s.heap.push (emptySet ld)).get? s.heap.objs.size = some (emptySet ld) := Heap.get?_push_size _ rfl
      have hT : Shared.TypeIs { s with heap := s.heap.push (emptySet ld) } (.ref s.heap.objs.size) "set" := ⟨_, hS, rfl⟩
      have g6 := PySem.F.called_set.init.lookup
      have g7 := PySem.F.called_set.init.bind (.ref s.heap.objs.size)
      repeat (any_goals (first | assumption | wp_step))
      refine codeAny_mono (codeAny_call_builtin (R := wants (fun r s2 => r = .none ∧ ∃ h2 tk, s2 = { s with heap := h2, toks := tk } ∧ h2.SetOf (PySem.strKind prog w) s.heap.objs.size (fun y => ws.any (· == y)) (uniq ws).length ∧
          (∀ b o, b < s.heap.objs.size → s.heap.get? b = some o → h2.get? b = some o)) E) PySem.F.called_set.init.plain PySem.F.entry_set_init (check_set_init_1 hT ?_)) fun r2 s2 hr2 => ?_
      · obtain ⟨ol, hol, hcl, nl, hdl⟩ := hl
        obtain ⟨oc, od, odt, os⟩ := ol
        simp only at hcl hdl
        subst hcl
        subst hdl
        have hol2 : (s.heap.push (emptySet ld)).get? l = some { cls := .type "tuple", dict := od, data := .seq its nl, slots := os } := Heap.get?_push_of_some _ hol
        have g8 := PySem.F.sub_tuple_set
        have g9 := PySem.F.sub_tuple_frozenset
        have g10 : (Value.type "tuple" == Value.type "dict") = false := by decide
        have hl1 : (s.heap.push (emptySet ld)).IsTuple l its := ⟨_, hol2, rfl, nl, rfl⟩
        unfold Builtin.«set.__init__» noKeywords Builtin.Frozenset.updateFrom
        generalize ePI : pyIter = PI
        wp_walk
        subst ePI
        refine wpAny_pyIter_tuple hl1 (wpAny_bind (wpAny_runValue ?_))
        have lS : l < s.heap.objs.size := Heap.lt_size hol
        have hh3 : A.in1.in1.in1.handled = none := by simp [hh]
        have neI : l ≠ (s.heap.push (emptySet ld)).objs.size := by
          rw [Heap.size_push]
          exact Nat.ne_of_lt (Nat.lt_succ_of_lt lS)
        have hSf : s.heap.objs.size ∉ [(s.heap.push (emptySet ld)).objs.size, l] := by
          rw [Heap.size_push]
          simp only [List.mem_cons, List.mem_singleton, List.not_mem_nil, or_false, not_or]
          exact ⟨Nat.ne_of_lt (Nat.lt_succ_self _), Nat.ne_of_gt lS⟩
        have hval : ∀ (i : Nat) (v : Value), its[i]? = some v → ∃ t, v = .str (ws.getD i Str.empty) t := fun i v hv => SS.strs_at hi i v (by rw [Array.getElem?_toList]; exact hv)
        have tkall : ws.take its.size = ws := by rw [← hsz, List.take_length]
        refine loopU ((Walks.tuple hh3 _ l neI its).toS) s.heap.objs.size hSf ws hsz (by omega) hval (its.size - 0) 0 _ (by omega) (Nat.zero_le _) ⟨⟨_, Heap.get?_push_size _ rfl, rfl, rfl⟩, (hl1.push _)⟩ ?hS0 ?hR
        case hS0 =>
          have hget : ((s.heap.push (emptySet ld)).push { cls := .type "tuple_iterator", data := .fields #[.ref l, .int 0 0] }).get? s.heap.objs.size = some (emptySet ld) := Heap.get?_push_of_some _ hS
          exact SetOf_congr ((setObjOf_fresh (knd := PySem.strKind prog w) ld).setOf hget (by unfold scanBound; omega)) (fun _ => rfl) rfl
        case hR =>
          intro s3 mv S3
          rw [tkall] at S3
          obtain ⟨h3, gn, dr, tk, os3⟩ := s3
          have eg : gn = s.gens := mv.gens
          have ed : dr = s.drawn := mv.drawn
          have eo : os3 = s.os := mv.os
          subst eg
          subst ed
          subst eo
          show wpAny _ _ _ _ _ _
          refine wpAny_pure ?_
          show wpAny _ _ (ret Value.none) _ _ _
          refine wpAny_pure ⟨rfl, h3, tk, rfl, S3, fun b o hb e => ?_⟩
          have b1 : b ≠ s.heap.objs.size := Nat.ne_of_lt hb
          have b2 : b ≠ (s.heap.push (emptySet ld)).objs.size := by
            rw [Heap.size_push]
            exact Nat.ne_of_lt (Nat.lt_succ_of_lt hb)
          refine mv.heap b o ?_ (Heap.get?_push_of_some _ (Heap.get?_push_of_some _ e))
          simp only [List.mem_cons, List.mem_singleton, List.not_mem_nil, or_false, not_or]
          exact ⟨b1, b2⟩
      · cases r2 with
        | error e => exact hr2
        | ok fl2 =>
          cases fl2 with
          | ret r =>
            obtain ⟨rfl, h2, tk, rfl, S2, k2⟩ := hr2
            repeat (any_goals (first | assumption | wp_step))
            exact q _ _ S2 k2
          | _ => exact hr2.elim
    | _ => exact hr.elim
end
end PfS
namespace L2
open PySem PySem.Spec PyProof.Rows
/-- len(set(t)), t a tuple of texts -/
def tLenU (K : PySem.W.Frag) (ta : TE) : TE := fun σ H Q => ta σ H fun x H1 => ∃ l, ∃ ws : List Str, x = .ref l ∧ SqT K H1 l (ws.map V.str) ∧ ws.length ≤ 1000 ∧ Q (.int (PfS.uniq ws).length) H1
section
variable {X : Cx}
theorem pe_lenU {a : Expr} {ta : TE} {p p2 q pos : Pos} (hc : X.calm = true) (hg : Gl X "len") (hm : X.mg "len" = none) (hg2 : Gl X "set") (hm2 : X.mg "set" = none) (ha : PE X a ta)
    (na : starEach [a] X.env = (false, eval a X.env) :: starEach [] X.env := by rfl) : PE X (.Call (.Name "len" p) [.Call (.Name "set" p2) [a] [] q] [] pos) (tLenU X.K ta) := by
  refine ⟨fun pins s σ H Q I h => ?_⟩
  refine Call_ (ld_blt I hg hm boot_len (callWith_builtin1 (args_cons ?_ rfl) rfl rfl))
  refine Call_ (ld_blt I hg2 hm2 boot_set (callWith_type1 (args_cons (thn (ha.run pins s σ H _ I h) fun v s1 ⟨x, H1, I1, r1, q1⟩ => args_nil ?_) na) na rfl))
  obtain ⟨l, ws, rfl, hq, hn, q1⟩ := q1
  cases r1
  obtain ⟨its, r, pl, hz⟩ := I1.tuple hq
  refine PfS.callSetT (I1.ok.hd hc) pl (by simpa using strsAre_of r) (by omega) fun h2 tk S2 k2 => args_nil ?_
  have hle := PfS.uniq_le ws
  obtain ⟨o, es, ep, t, ho, hex, hd, _, _, _, hf, hcn⟩ := S2
  have I2 : Inv X pins σ H1 { s1 with heap := h2, toks := tk } := I1.kept fun b o e => k2 b o (Heap.lt_size e) e
  exact call_len_set ho hex hd hf (by rw [hcn] <;> omega) ⟨.int (PfS.uniq ws).length, H1, I2.tok _, ⟨_, by rw [hcn]⟩, q1⟩
end
/-! ### an object made within a try -/
section
variable {X : Cx} {CX : CXT} {k : Nat} {f C : Addr} {fd : FuncData} {ps : List Str} {sp : Sp} {E : St → XK} {x : Str} {p pos : Pos} {e : Expr} {es : List Expr} {t : TA}
def tMakeW (C : Addr) (sp : Sp) (E : St → XK) (t : TA) : TE := fun σ H Q => t σ H fun vs H1 => ∀ x dx, H1 x = none → H1 dx = none → dx ≠ x →
  sp (.ref x :: vs) (upd (upd H1 dx (.own x)) x (.ins C dx [])) (fun v H2 => v = .non ∧ Q (.ref x) H2) (E σ)
theorem pe_makeW (M : Mk X.K C f) (F : FnOk X.prog X.w X.K X.mg X.base CX k f fd ps sp) (hr : Room (k + 1) X.A) (hg : Gl X x) (hm : X.mg x = some (.ref C)) (hb : Binds X.K fd ps []) (hx : ∀ σ, PassesAt CX X σ (E σ))
    (ha : PA X (e :: es) t) (hdb : (x == ("__debug__" : Str)) = false := by decide) (he : starEach (e :: es) X.env = (false, eval e X.env) :: starEach es X.env := by rfl) (hpl : (backTo pos (starEach es X.env)).any (·.1) = false := by rfl) :
    PE X (.Call (.Name x p) (e :: es) [] pos) (tMakeW C sp E t) := by
  refine ⟨fun pins s σ H Q I h => ?_⟩
  refine wpAny_Call_Name_kw (ld_glob I hg hm ?_ hdb)
  refine PySem.W.callWith_K (h₀ := X.base) I.ok.mod.kin M.kp (thn (ha.run pos pins s σ H _ I h) fun us s1 ⟨vs, H1, I1, r, q⟩ => ⟨I1.kIn, ?_⟩) he hpl
  have hq := q (s1.heap.objs.size + 1) s1.heap.objs.size (I1.hok.fresh (Nat.le_succ _)) (I1.hok.fresh (Nat.le_refl _)) (Nat.ne_of_lt (Nat.lt_succ_self _))
  have I2 := Inv.made (C := C) I1
  have r2 : Vals (V.ref (s1.heap.objs.size + 1) :: vs) (Value.ref (s1.heap.objs.size + 1) :: us) := .cons rfl r
  have hl : (Value.ref (s1.heap.objs.size + 1) :: us).length = ps.length := by
    rw [← r2.length]
    exact F.len _ _ _ _ hq
  refine wpAny_call (make_map (f := f) I1.kIn M.makes M.init (beq_iff_eq.mp M.fn) (codeAny_mono (F.run _ X.stack _ _ ⟨Value.ref (s1.heap.objs.size + 1) :: us, []⟩ (Value.ref (s1.heap.objs.size + 1) :: us) _ _ (E σ) (hr.make C us [])
    (I2.env0.make C us []) (by
      have := hb _ (Value.ref (s1.heap.objs.size + 1) :: us) I2.kIn (by rw [List.append_nil]; exact hl)
      rw [List.append_nil] at this
      exact this) r2 hq) fun r s2 hq2 => ?_))
  cases r with
  | error er => exact hx σ pins _ _ er s2 I2 hq2
  | ok fl =>
    cases fl with
    | ret u =>
      obtain ⟨v, H3, I3, rv, ev, q3⟩ := I2.after hq2
      subst ev
      exact ⟨rv, ⟨V.ref (s1.heap.objs.size + 1), H3, I3, rfl, q3⟩⟩
    | next => exact False.elim hq2
    | brk => exact False.elim hq2
    | cont => exact False.elim hq2
end
end L2
set_option Elab.async false
set_option linter.all false
set_option maxRecDepth 100000
set_option maxHeartbeats 4000000
/-! enumerate(t), t a tuple -/
namespace PySem
open PySem.Spec PyProof.Rows
open AutoSeq1 (wpAny_loadPart')
set_option maxHeartbeats 1000000 in
theorem pf_meets_enumT (l : Addr) (its : Array Value) (n : Nat) (dc : Option Addr) (sl : Array (Option Value)) :
    Meets (Builtin.«enumerate.__new__» ⟨[.type "enumerate", .ref l], []⟩) (fun _ R s => s.heap.get? l = some { cls := .type "tuple", dict := dc, data := .seq its n, slots := sl } ∧
      R (.ok (.ret (.ref (s.heap.push { cls := .type "tuple_iterator", data := .fields #[.ref l, .int 0 0] }).objs.size)))
        { s with heap := (s.heap.push { cls := .type "tuple_iterator", data := .fields #[.ref l, .int 0 0] }).push { cls := .type "enumerate", data := .fields #[.none, .bool false, .ref s.heap.objs.size, rawInt 0, .none, .none] } }) :=
  .of_wp fun prog w A R s q => by
    obtain ⟨hp, g, d, tk, os⟩ := s
    obtain ⟨hl, q⟩ := q
    have hsub := sub_enumerate
    have hL : Heap.IsTuple (Shared.heap ⟨hp, g, d, tk, os⟩) l its := ⟨_, hl, rfl, n, rfl⟩
    wp_walk using wpAny_loadPart' hl
    refine wpAny_stack_any fun st => wpAny_pure ?_
    split
    · rename_i c _ _ _ _ _
      cases (c == Value.type "enumerate")
      · wp_walk using wpAny_loadPart' hl, wpAny_pyIter_tuple hL
        exact ⟨_, rfl, q⟩
      · wp_walk using wpAny_loadPart' hl, wpAny_pyIter_tuple hL
        exact ⟨_, rfl, q⟩
    · wp_walk using wpAny_loadPart' hl, wpAny_pyIter_tuple hL
      exact ⟨_, rfl, q⟩
section
variable {prog : Program} {w : World} {A : Around} {E : Value → Shared → Prop} {s : Shared}
theorem pf_call_enumT {l : Addr} {its : Array Value} {Q : Value → Shared → Prop} (hL : s.heap.IsTuple l its)
    (q : ∀ h2, IsEnum h2 (s.heap.objs.size + 1) s.heap.objs.size 0 .none → h2.IsTupleIter s.heap.objs.size l 0 → (∀ b o, s.heap.get? b = some o → h2.get? b = some o) → Q (.ref (s.heap.objs.size + 1)) { s with heap := h2 }) :
    wpAny (model prog w) A (call (.type "enumerate") [.ref l]) Q E s := by
  obtain ⟨⟨c, dc, dt, sl⟩, hl, hc, n, hd⟩ := hL
  have hc1 : c = .type "tuple" := hc
  have hd1 : dt = .seq its n := hd
  subst hc1
  subst hd1
  refine callType_new F.called_enumerate (by decide) (F.typeCall_enumerate_1 _) (F.newCall_enumerate_1 _) (fun ob => F.args_object_init_2 ob _) F.entry_enumerate_new (pf_meets_enumT l its n dc sl) ⟨hl, ?_⟩
  have hz : (s.heap.push { cls := .type "tuple_iterator", data := .fields #[.ref l, .int 0 0] }).objs.size = s.heap.objs.size + 1 := Heap.size_push ..
  show _ ∧ _
  rw [hz]
  have he : IsEnum ((s.heap.push { cls := .type "tuple_iterator", data := .fields #[.ref l, .int 0 0] }).push { cls := .type "enumerate", data := .fields #[.none, .bool false, .ref s.heap.objs.size, rawInt 0, .none, .none] }) (s.heap.objs.size + 1) s.heap.objs.size 0 .none := by
    have e := Heap.get?_push_size (s.heap.push { cls := .type "tuple_iterator", data := .fields #[.ref l, .int 0 0] }) (o := { cls := .type "enumerate", data := .fields #[.none, .bool false, .ref s.heap.objs.size, rawInt 0, .none, .none] }) rfl
    rw [hz] at e
    exact e
  exact ⟨⟨_, he, rfl⟩, q _ he ⟨_, Heap.get?_push_of_some _ (Heap.get?_push_size _ rfl), rfl, rfl⟩ fun b o x => Heap.get?_push_of_some _ (Heap.get?_push_of_some _ x)⟩
end
end PySem
namespace L2
open PySem PySem.Spec PyProof.Rows
/-- the tuple at a, each item in a new pair -/
def IteT (K : PySem.W.Frag) (a : Addr) : It :=
  ⟨fun i H => ∃ (xs : List V) (x : V), SqT K H a xs ∧ xs[i]? = some x, fun i H v H2 => ∃ T x, v = .ref T ∧ H T = none ∧ H2 = upd H T (.tup [.int (i : Nat), x]) ∧ ∀ xs, SqT K H a xs → xs[i]? = some x, fun i H => ∃ xs : List V, SqT K H a xs ∧ xs.length = i⟩
theorem turn_enumT {P : Program} {w : World} {K : PySem.W.Frag} {elts : List Expr} {kk : Nat} {tpos : Pos} (a e it : Addr) (hai : a ≠ it) :
    Turn P w K (.Tuple elts kk tpos) (IteT K a) [e, it] e (fun i h => (∃ old, IsEnum h e it ((i : Nat) : Int) old) ∧ h.IsTupleIter it a i ∧ e ≠ it ∧ e ≠ a) where
  mem := by simp
  obj := fun i h st b hb => by
    obtain ⟨⟨old, he⟩, ⟨o, ho, hc, hd⟩, _⟩ := st
    have eb : b = e ∨ b = it := by simpa using hb
    rcases eb with z | z
    · rw [z]; exact ⟨_, he, fun v q => nomatch q⟩
    · rw [z]; exact ⟨o, ho, fun v q => by rw [hd] at q; cases q⟩
  keep := fun i h h2 st k => let ⟨⟨old, he⟩, hi, hne⟩ := st; ⟨⟨old, k e (by simp) _ he⟩, hi.at fun o q => k it (by simp) o q, hne⟩
  item := by
    intro X hP hw hK hc i pins s σ H E I hf st hg
    subst hP hw hK
    obtain ⟨⟨old, he⟩, hit, hne, hea⟩ := st
    obtain ⟨xs, x, hq, hx⟩ := hg
    obtain ⟨its, rv, p, hz⟩ := I.tuple hq
    obtain ⟨u, hu, ru⟩ := rv.get hx
    have hel : e < s.heap.objs.size := Heap.lt_size he
    have hil : it < s.heap.objs.size := by
      obtain ⟨_, q, _⟩ := hit
      exact Heap.lt_size q
    have hh : X.A.in1.handled = none := by
      have := I.ok.hd hc
      simpa using this
    have hlt : i < its.toArray.size := by
      rw [List.size_toArray]
      exact (List.getElem?_eq_some_iff.mp hu).1
    refine wpAny_pyNext_enum_itemD (Draws.tuple hh it a hai its.toArray) he ⟨hit, p⟩ hlt hne (by simp [hne, hea]) fun y h2 tk hy ho hst hT hsz hk => ?_
    have hy2 : y = u := by
      have e1 : its[i]? = some y := by simpa using hy
      rw [hu] at e1
      exact (Option.some.inj e1).symm
    subst hy2
    refine ⟨_, rfl, wpAny_letOwnedTupleGo_enum (s := { s with heap := h2, toks := tk + 1 }) ho fun h3 he3 sb => ?_⟩
    have hT2 : h3.get? s.heap.objs.size = some { cls := .type "tuple", data := .seq #[.int i tk, y] } := (sb.2 _ (Nat.ne_of_gt hel)).trans hT
    have new : ObjOk X.prog X.w (upd H s.heap.objs.size (.tup [.int (i : Nat), x])) h3 s.heap.objs.size (.tup [.int (i : Nat), x]) :=
      ⟨by show 2 ≤ sizeLine; decide, [.int i tk, y], .cons ⟨_, rfl⟩ (.cons ru .nil), ⟨_, hT2, rfl, _, rfl⟩⟩
    have I1 : Inv X pins σ (upd H s.heap.objs.size (.tup [.int (i : Nat), x])) { s with heap := h3, toks := tk + 1 } :=
      I.turnedNew (ch := [e, it]) (fun b ob hb q => (sb.2 b (fun z => hb (by simp [z]))).trans (hk b ob (fun z => hb (by simp [z])) (fun z => hb (by simp [z])) q)) hf (Nat.le_refl _) new
    refine ⟨.ref s.heap.objs.size, _, I1, rfl, ⟨_, x, rfl, I.hok.fresh (Nat.le_refl _), rfl, fun ys hy => by rw [I.tuple_inj hy hq]; exact hx⟩, ⟨⟨y, ?_⟩, hst.1.at fun o q => (sb.2 it (Ne.symm hne)).trans q, hne, hea⟩, fun b hb => ?_⟩
    · have e1 : ((i + 1 : Nat) : Int) = (i : Int) + 1 := by omega
      rw [e1]
      exact he3
    · have hlb : b < s.heap.objs.size := by
        have eb : b = e ∨ b = it := by simpa using hb
        rcases eb with z | z
        · rw [z]; exact hel
        · rw [z]; exact hil
      rw [upd_ne (Nat.ne_of_lt hlb)]
      exact (hf b hb).1
  done := by
    intro X hP hw hK hc i pins s σ H E I hf st hg
    subst hP hw hK
    obtain ⟨⟨old, he⟩, hit, hne, hea⟩ := st
    obtain ⟨xs, hq, hx⟩ := hg
    obtain ⟨its, rv, p, hz⟩ := I.tuple hq
    obtain ⟨f0, f1, f2, f3, f4, f5⟩ := hf it (by simp)
    have hh : X.A.in1.handled = none := by
      have := I.ok.hd hc
      simpa using this
    have hl : i = its.toArray.size := by
      rw [List.size_toArray, ← rv.length]
      exact hx.symm
    refine wpAny_pyNext_enum_endD (Draws.tuple hh it a hai its.toArray) he ?_ fun h2 eb => ⟨rfl, I.turned (t' := s.toks) (fun b o hb q => eb b o hb q) f0 f1 f3 f4 f5⟩
    rw [← hl]
    exact ⟨hit, p⟩
  self := fun A i s Q E st q => let ⟨⟨_, he⟩, _⟩ := st; wpAny_pyIter_enum he q
def iEnumT (K : PySem.W.Frag) (ta : TA) : TI := fun σ H R => ta σ H fun vs H1 => ∃ a xs, vs = [.ref a] ∧ SqT K H1 a xs ∧ R (IteT K a) H1
theorem pi_enumT {X : Cx} {e : Expr} {ta : TA} {p pos tpos : Pos} {elts : List Expr} {kk : Nat} (hg : Gl X "enumerate") (hm : X.mg "enumerate" = none) (ha : PA X [e] ta) (hs : starEach [e] X.env = [(false, eval e X.env)] := by rfl) :
    PI X (.Tuple elts kk tpos) (.Call (.Name "enumerate" p) [e] [] pos) (iEnumT X.K ta) := by
  refine ⟨fun pins s σ H R I h => ?_⟩
  refine Call_ (ld_blt I hg hm boot_enumerate (callWith_type1 (thn (ha.run pos pins s σ H _ I h) fun us s1 ⟨vs, H1, I1, r1, q1⟩ => ?_) hs rfl))
  obtain ⟨a, xs, ex, hq, q⟩ := q1
  subst ex
  cases r1 with
  | cons r rr =>
    cases rr
    cases r
    obtain ⟨its, rv, p', hz⟩ := I1.tuple hq
    have hal : a < s1.heap.objs.size := by
      obtain ⟨o, ho, _⟩ := p'
      exact Heap.lt_size ho
    refine pf_call_enumT p' fun h2 he hit hk => wpAny_pyIter_enum he ?_
    have I2 : Inv X pins σ H1 { s1 with heap := h2 } := I1.kept (t' := s1.toks) hk
    refine ⟨s1.heap.objs.size + 1, [s1.heap.objs.size + 1, s1.heap.objs.size], _, _, H1, rfl, I2, turn_enumT a (s1.heap.objs.size + 1) s1.heap.objs.size (Nat.ne_of_lt hal), ⟨⟨.none, he⟩, hit, Nat.succ_ne_self _, Nat.ne_of_gt (Nat.lt_succ_of_lt hal)⟩, fun b hb => ?_, q⟩
    have eb : b = s1.heap.objs.size + 1 ∨ b = s1.heap.objs.size := by simpa using hb
    have hle : s1.heap.objs.size ≤ b := by
      rcases eb with z | z
      · rw [z]; exact Nat.le_add_right _ _
      · rw [z]; exact Nat.le_refl _
    exact I1.fpOk hle (I1.hok.fresh hle)
theorem walk_enumT {K : PySem.W.Frag} {a : Addr} {xs : List V} : Walk (IteT K a) xs.length (fun H => SqT K H a xs) (YPair (fun i => some (.int (i : Nat))) (fun i => xs[i]?)) := by
  refine ⟨fun i H hi hq => ⟨xs, _, hq, List.getElem?_eq_getElem hi⟩, fun H hq => ⟨xs, hq, rfl⟩, fun i H v H2 hi hq y => ?_⟩
  obtain ⟨T, x, ev, hT, e2, hx⟩ := y
  exact ⟨T, _, x, ev, hT, e2, rfl, hx xs hq⟩
end L2
set_option Elab.async false
set_option linter.all false
set_option maxRecDepth 100000
set_option maxHeartbeats 4000000
namespace Pf
open PySem L2
def top (i : Nat) : Stmt := PySem.Challenge.pw_pactford_k03_pacts_refused.main.body.getD i (.Pass ⟨0, 0, 0, 0⟩)
abbrev s_NoPact___init__ : Stmt := inClass (top 3) 0
abbrev n_NoPact___init__ : List Str := ["self", "at"]
theorem sc_NoPact___init__ : FnScope n_NoPact___init__ ["self", "at"] (defScope s_NoPact___init__) := ⟨rfl, rfl, rfl, by decide +kernel, rfl, by decide +kernel, by decide +kernel⟩
abbrev s_is_name : Stmt := top 9
abbrev n_is_name : List Str := ["word", "sign"]
theorem sc_is_name : FnScope n_is_name ["word"] (defScope s_is_name) := ⟨rfl, rfl, rfl, by decide +kernel, rfl, by decide +kernel, by decide +kernel⟩
abbrev s_Pacts___init__ : Stmt := inClass (top 16) 0
abbrev n_Pacts___init__ : List Str := ["self", "pairs", "helpers", "at", "pair", "helper"]
theorem sc_Pacts___init__ : FnScope n_Pacts___init__ ["self", "pairs", "helpers"] (defScope s_Pacts___init__) := ⟨rfl, rfl, rfl, by decide +kernel, rfl, by decide +kernel, by decide +kernel⟩
abbrev s_Pacts_fits_pair : Stmt := inClass (top 16) 1
abbrev n_Pacts_fits_pair : List Str := ["self", "pair", "near", "far", "laden"]
theorem sc_Pacts_fits_pair : FnScope n_Pacts_fits_pair ["self", "pair"] (defScope s_Pacts_fits_pair) := ⟨rfl, rfl, rfl, by decide +kernel, rfl, by decide +kernel, by decide +kernel⟩
abbrev s_Pacts_fits_helper : Stmt := inClass (top 16) 2
abbrev n_Pacts_fits_helper : List Str := ["self", "helper", "name", "side", "takes", "gives", "throws", "how", "word"]
theorem sc_Pacts_fits_helper : FnScope n_Pacts_fits_helper ["self", "helper"] (defScope s_Pacts_fits_helper) := ⟨rfl, rfl, rfl, by decide +kernel, rfl, by decide +kernel, by decide +kernel⟩
abbrev s_Pacts_words_called : Stmt := inClass (top 16) 3
abbrev n_Pacts_words_called : List Str := ["self", "side", "pair"]
theorem sc_Pacts_words_called : FnScope n_Pacts_words_called ["self", "side"] (defScope s_Pacts_words_called) := ⟨rfl, rfl, rfl, by decide +kernel, rfl, by decide +kernel, by decide +kernel⟩
abbrev s_Pacts_pairs : Stmt := inClass (top 16) 5
abbrev n_Pacts_pairs : List Str := ["self"]
theorem sc_Pacts_pairs : FnScope n_Pacts_pairs ["self"] (defScope s_Pacts_pairs) := ⟨rfl, rfl, rfl, by decide +kernel, rfl, by decide +kernel, by decide +kernel⟩
abbrev s_Pacts_names : Stmt := inClass (top 16) 6
abbrev n_Pacts_names : List Str := ["self", "side", "name", "pact"]
theorem sc_Pacts_names : FnScope n_Pacts_names ["self", "side"] (defScope s_Pacts_names) := ⟨rfl, rfl, rfl, by decide +kernel, rfl, by decide +kernel, by decide +kernel⟩
abbrev s_Pacts_pact : Stmt := inClass (top 16) 7
abbrev n_Pacts_pact : List Str := ["self", "name"]
theorem sc_Pacts_pact : FnScope n_Pacts_pact ["self", "name"] (defScope s_Pacts_pact) := ⟨rfl, rfl, rfl, by decide +kernel, rfl, by decide +kernel, by decide +kernel⟩
abbrev s_Pacts___len__ : Stmt := inClass (top 16) 11
abbrev n_Pacts___len__ : List Str := ["self"]
theorem sc_Pacts___len__ : FnScope n_Pacts___len__ ["self"] (defScope s_Pacts___len__) := ⟨rfl, rfl, rfl, by decide +kernel, rfl, by decide +kernel, by decide +kernel⟩
abbrev s__law_box : Stmt := top 20
abbrev n__law_box : List Str := ["_law_script", "_law_great", "_law_cell"]
theorem sc__law_box : FnScope n__law_box ["_law_script"] (defScope s__law_box) := ⟨rfl, rfl, rfl, by decide +kernel, rfl, by decide +kernel, by decide +kernel⟩
abbrev s__law_mixed : Stmt := top 21
abbrev n__law_mixed : List Str := ["_law_cell", "_law_k", "_law_whole"]
theorem sc__law_mixed : FnScope n__law_mixed ["_law_cell", "_law_k"] (defScope s__law_mixed) := ⟨rfl, rfl, rfl, by decide +kernel, rfl, by decide +kernel, by decide +kernel⟩
abbrev s__law_take : Stmt := top 22
abbrev n__law_take : List Str := ["_law_box_here", "_law_size", "_law_found", "_law_cell", "_law_reach"]
theorem sc__law_take : FnScope n__law_take ["_law_box_here", "_law_size"] (defScope s__law_take) := ⟨rfl, rfl, rfl, by decide +kernel, rfl, by decide +kernel, by decide +kernel⟩
abbrev s__law_name : Stmt := top 23
abbrev n__law_name : List Str := ["_law_box_here", "_law_many", "_law_k"]
theorem sc__law_name : FnScope n__law_name ["_law_box_here"] (defScope s__law_name) := ⟨rfl, rfl, rfl, by decide +kernel, rfl, by decide +kernel, by decide +kernel⟩
abbrev s__law_names : Stmt := top 24
abbrev n__law_names : List Str := ["_law_box_here", "_law_many", "_law_found", "_law_k", "_law_name_here", "_law_spare"]
theorem sc__law_names : FnScope n__law_names ["_law_box_here", "_law_many"] (defScope s__law_names) := ⟨rfl, rfl, rfl, by decide +kernel, rfl, by decide +kernel, by decide +kernel⟩
abbrev s__law_pairs : Stmt := top 25
abbrev n__law_pairs : List Str := ["_law_box_here", "_law_most", "_law_nears", "_law_fars", "_law_near", "_law_far"]
theorem sc__law_pairs : FnScope n__law_pairs ["_law_box_here", "_law_most"] (defScope s__law_pairs) := ⟨rfl, rfl, rfl, by decide +kernel, rfl, by decide +kernel, by decide +kernel⟩
abbrev s__law_some : Stmt := top 26
abbrev n__law_some : List Str := ["_law_box_here", "_law_things", "_law_most", "_law_pool", "_law_k"]
theorem sc__law_some : FnScope n__law_some ["_law_box_here", "_law_things", "_law_most"] (defScope s__law_some) := ⟨rfl, rfl, rfl, by decide +kernel, rfl, by decide +kernel, by decide +kernel⟩
abbrev s__law_helpers : Stmt := top 27
abbrev n__law_helpers : List Str := ["_law_box_here", "_law_pairs_here", "_law_names_here", "_law_counts", "_law_found", "_law_side", "_law_k", "_law_takes", "_law_throws", "_law_helper", "_law_j", "_law_pair"]
theorem sc__law_helpers : FnScope n__law_helpers ["_law_box_here", "_law_pairs_here"] (defScope s__law_helpers) := ⟨rfl, rfl, rfl, by decide +kernel, rfl, by decide +kernel, by decide +kernel⟩
abbrev s__law_is_name : Stmt := top 28
abbrev n__law_is_name : List Str := ["_law_word", "_law_sign"]
theorem sc__law_is_name : FnScope n__law_is_name ["_law_word"] (defScope s__law_is_name) := ⟨rfl, rfl, rfl, by decide +kernel, rfl, by decide +kernel, by decide +kernel⟩
abbrev s__law_pair_fits : Stmt := top 29
abbrev n__law_pair_fits : List Str := ["_law_ahead", "_law_pair", "_law_near", "_law_far", "_law_laden", "_law_one"]
theorem sc__law_pair_fits : FnScope n__law_pair_fits ["_law_ahead", "_law_pair"] (defScope s__law_pair_fits) := ⟨rfl, rfl, rfl, by decide +kernel, rfl, by decide +kernel, by decide +kernel⟩
abbrev s__law_helper_fits : Stmt := top 30
abbrev n__law_helper_fits : List Str := ["_law_pairs_here", "_law_ahead", "_law_helper", "_law_name_here", "_law_side", "_law_takes", "_law_gives", "_law_throws", "_law_words", "_law_at", "_law_word", "_law_one", "_law_pair", "_law_how"]
theorem sc__law_helper_fits : FnScope n__law_helper_fits ["_law_pairs_here", "_law_ahead", "_law_helper"] (defScope s__law_helper_fits) := ⟨rfl, rfl, rfl, by decide +kernel, rfl, by decide +kernel, by decide +kernel⟩
abbrev s__law_first_bad : Stmt := top 31
abbrev n__law_first_bad : List Str := ["_law_pairs_here", "_law_helpers_here", "_law_at", "_law_pair", "_law_helper"]
theorem sc__law_first_bad : FnScope n__law_first_bad ["_law_pairs_here", "_law_helpers_here"] (defScope s__law_first_bad) := ⟨rfl, rfl, rfl, by decide +kernel, rfl, by decide +kernel, by decide +kernel⟩
abbrev s__law_odd_word : Stmt := top 32
abbrev n__law_odd_word : List Str := ["_law_box_here", "_law_words", "_law_odd"]
theorem sc__law_odd_word : FnScope n__law_odd_word ["_law_box_here", "_law_words"] (defScope s__law_odd_word) := ⟨rfl, rfl, rfl, by decide +kernel, rfl, by decide +kernel, by decide +kernel⟩
abbrev s__law_pair_spoilt : Stmt := top 33
abbrev n__law_pair_spoilt : List Str := ["_law_box_here", "_law_pairs_here", "_law_way", "_law_at", "_law_near", "_law_far", "_law_laden", "_law_more", "_law_pair"]
theorem sc__law_pair_spoilt : FnScope n__law_pair_spoilt ["_law_box_here", "_law_pairs_here"] (defScope s__law_pair_spoilt) := ⟨rfl, rfl, rfl, by decide +kernel, rfl, by decide +kernel, by decide +kernel⟩
abbrev s__law_helper_spoilt : Stmt := top 34
abbrev n__law_helper_spoilt : List Str := ["_law_box_here", "_law_pairs_here", "_law_helpers_here", "_law_way", "_law_at", "_law_name_here", "_law_side", "_law_takes", "_law_gives", "_law_throws", "_law_words", "_law_more", "_law_pair", "_law_helper", "_law_spare"]
theorem sc__law_helper_spoilt : FnScope n__law_helper_spoilt ["_law_box_here", "_law_pairs_here", "_law_helpers_here"] (defScope s__law_helper_spoilt) := ⟨rfl, rfl, rfl, by decide +kernel, rfl, by decide +kernel, by decide +kernel⟩
abbrev s__law_made : Stmt := top 35
abbrev n__law_made : List Str := ["_law_pairs_here", "_law_helpers_here", "_law_found", "_law_pacts", "e"]
theorem sc__law_made : FnScope n__law_made ["_law_pairs_here", "_law_helpers_here"] (defScope s__law_made) := ⟨rfl, rfl, rfl, by decide +kernel, rfl, by decide +kernel, by decide +kernel⟩
abbrev s_law : Stmt := top 36
abbrev n_law : List Str := ["_law_script", "_law_box_here", "_law_changes", "_law_pairs_here", "_law_helpers_here", "_law_k", "_law_mine", "_law_found", "_law_pacts", "_law_helper"]
theorem sc_law : FnScope n_law ["_law_script"] (defScope s_law) := ⟨rfl, rfl, rfl, by decide +kernel, rfl, by decide +kernel, by decide +kernel⟩
structure Ad where
  k_HOWS : Addr
  c_Pacts : Addr
  c_PactError : Addr
  c_NoPact : Addr
  c_NoText : Addr
  f_NoPact___init__ : Addr
  d_NoPact___init__ : FuncData
  f_is_name : Addr
  d_is_name : FuncData
  f_Pacts___init__ : Addr
  d_Pacts___init__ : FuncData
  f_Pacts_fits_pair : Addr
  d_Pacts_fits_pair : FuncData
  f_Pacts_fits_helper : Addr
  d_Pacts_fits_helper : FuncData
  f_Pacts_words_called : Addr
  d_Pacts_words_called : FuncData
  f_Pacts_pairs : Addr
  d_Pacts_pairs : FuncData
  f_Pacts_names : Addr
  d_Pacts_names : FuncData
  f_Pacts_pact : Addr
  d_Pacts_pact : FuncData
  f_Pacts___len__ : Addr
  d_Pacts___len__ : FuncData
  f__law_box : Addr
  d__law_box : FuncData
  f__law_mixed : Addr
  d__law_mixed : FuncData
  f__law_take : Addr
  d__law_take : FuncData
  f__law_name : Addr
  d__law_name : FuncData
  f__law_names : Addr
  d__law_names : FuncData
  f__law_pairs : Addr
  d__law_pairs : FuncData
  f__law_some : Addr
  d__law_some : FuncData
  f__law_helpers : Addr
  d__law_helpers : FuncData
  f__law_is_name : Addr
  d__law_is_name : FuncData
  f__law_pair_fits : Addr
  d__law_pair_fits : FuncData
  f__law_helper_fits : Addr
  d__law_helper_fits : FuncData
  f__law_first_bad : Addr
  d__law_first_bad : FuncData
  f__law_odd_word : Addr
  d__law_odd_word : FuncData
  f__law_pair_spoilt : Addr
  d__law_pair_spoilt : FuncData
  f__law_helper_spoilt : Addr
  d__law_helper_spoilt : FuncData
  f__law_made : Addr
  d__law_made : FuncData
  f_law : Addr
  d_law : FuncData
structure Txt (K : PySem.W.Frag) (mg : Str → Option Value) (a : Ad) : Prop where
  m_Pacts : mg "Pacts" = some (.ref a.c_Pacts)
  cl_Pacts : Cls K a.c_Pacts
  mk_Pacts : Mk K a.c_Pacts a.f_Pacts___init__
  na_Pacts_kept_pairs : NoAttr K a.c_Pacts "kept_pairs"
  na_Pacts_kept_pacts : NoAttr K a.c_Pacts "kept_pacts"
  m_PactError : mg "PactError" = some (.ref a.c_PactError)
  m_NoPact : mg "NoPact" = some (.ref a.c_NoPact)
  ox_NoPact : OexC K a.c_NoPact
  xf_NoPact : XfC K a.c_NoPact
  ec_NoPact : ExcC K a.c_NoPact
  ini_NoPact : PySem.W.findIn K (.ref a.c_NoPact) "__init__" = some (some (.ref a.f_NoPact___init__))
  ti_NoPact : PySem.W.typeIn K (.ref a.f_NoPact___init__) = some (.type "function")
  na_NoPact_at : PySem.W.findIn K (.ref a.c_NoPact) "at" = some none
  m_NoText : mg "NoText" = some (.ref a.c_NoText)
  ex_NoPact_NoPact : PySem.W.exmOne K (.ref a.c_NoPact) (.ref a.c_NoPact) = some true
  ex_NoPact_PactError : PySem.W.exmOne K (.ref a.c_NoPact) (.ref a.c_PactError) = some true
  ex_NoPact_NoText : PySem.W.exmOne K (.ref a.c_NoPact) (.ref a.c_NoText) = some false
  ex_NoPact_ValueError : PySem.W.subIn K (.ref a.c_NoPact) (.type "ValueError") = some true
  F_NoPact___init__ : Fun K "__init__" "NoPact.__init__" s_NoPact___init__ a.f_NoPact___init__ a.d_NoPact___init__
  b_NoPact___init__ : Binds K a.d_NoPact___init__ ["self", "at"] []
  F_is_name : Fun K "is_name" "is_name" s_is_name a.f_is_name a.d_is_name
  b_is_name : Binds K a.d_is_name ["word"] []
  m_is_name : mg "is_name" = some (.ref a.f_is_name)
  F_Pacts___init__ : Fun K "__init__" "Pacts.__init__" s_Pacts___init__ a.f_Pacts___init__ a.d_Pacts___init__
  b_Pacts___init__ : Binds K a.d_Pacts___init__ ["self", "pairs", "helpers"] []
  F_Pacts_fits_pair : Fun K "fits_pair" "Pacts.fits_pair" s_Pacts_fits_pair a.f_Pacts_fits_pair a.d_Pacts_fits_pair
  b_Pacts_fits_pair : Binds K a.d_Pacts_fits_pair ["self", "pair"] []
  mt_Pacts_fits_pair : Meth K a.c_Pacts "fits_pair" a.f_Pacts_fits_pair
  F_Pacts_fits_helper : Fun K "fits_helper" "Pacts.fits_helper" s_Pacts_fits_helper a.f_Pacts_fits_helper a.d_Pacts_fits_helper
  b_Pacts_fits_helper : Binds K a.d_Pacts_fits_helper ["self", "helper"] []
  mt_Pacts_fits_helper : Meth K a.c_Pacts "fits_helper" a.f_Pacts_fits_helper
  F_Pacts_words_called : Fun K "words_called" "Pacts.words_called" s_Pacts_words_called a.f_Pacts_words_called a.d_Pacts_words_called
  b_Pacts_words_called : Binds K a.d_Pacts_words_called ["self", "side"] []
  mt_Pacts_words_called : Meth K a.c_Pacts "words_called" a.f_Pacts_words_called
  F_Pacts_pairs : Fun K "pairs" "Pacts.pairs" s_Pacts_pairs a.f_Pacts_pairs a.d_Pacts_pairs
  b_Pacts_pairs : Binds K a.d_Pacts_pairs ["self"] []
  mt_Pacts_pairs : Meth K a.c_Pacts "pairs" a.f_Pacts_pairs
  F_Pacts_names : Fun K "names" "Pacts.names" s_Pacts_names a.f_Pacts_names a.d_Pacts_names
  b_Pacts_names : Binds K a.d_Pacts_names ["self", "side"] []
  mt_Pacts_names : Meth K a.c_Pacts "names" a.f_Pacts_names
  F_Pacts_pact : Fun K "pact" "Pacts.pact" s_Pacts_pact a.f_Pacts_pact a.d_Pacts_pact
  b_Pacts_pact : Binds K a.d_Pacts_pact ["self", "name"] []
  mt_Pacts_pact : Meth K a.c_Pacts "pact" a.f_Pacts_pact
  F_Pacts___len__ : Fun K "__len__" "Pacts.__len__" s_Pacts___len__ a.f_Pacts___len__ a.d_Pacts___len__
  b_Pacts___len__ : Binds K a.d_Pacts___len__ ["self"] []
  mt_Pacts___len__ : Meth K a.c_Pacts "__len__" a.f_Pacts___len__
  F__law_box : Fun K "_law_box" "_law_box" s__law_box a.f__law_box a.d__law_box
  b__law_box : Binds K a.d__law_box ["_law_script"] []
  m__law_box : mg "_law_box" = some (.ref a.f__law_box)
  F__law_mixed : Fun K "_law_mixed" "_law_mixed" s__law_mixed a.f__law_mixed a.d__law_mixed
  b__law_mixed : Binds K a.d__law_mixed ["_law_cell", "_law_k"] []
  m__law_mixed : mg "_law_mixed" = some (.ref a.f__law_mixed)
  F__law_take : Fun K "_law_take" "_law_take" s__law_take a.f__law_take a.d__law_take
  b__law_take : Binds K a.d__law_take ["_law_box_here", "_law_size"] []
  m__law_take : mg "_law_take" = some (.ref a.f__law_take)
  F__law_name : Fun K "_law_name" "_law_name" s__law_name a.f__law_name a.d__law_name
  b__law_name : Binds K a.d__law_name ["_law_box_here"] []
  m__law_name : mg "_law_name" = some (.ref a.f__law_name)
  F__law_names : Fun K "_law_names" "_law_names" s__law_names a.f__law_names a.d__law_names
  b__law_names : Binds K a.d__law_names ["_law_box_here", "_law_many"] []
  m__law_names : mg "_law_names" = some (.ref a.f__law_names)
  F__law_pairs : Fun K "_law_pairs" "_law_pairs" s__law_pairs a.f__law_pairs a.d__law_pairs
  b__law_pairs : Binds K a.d__law_pairs ["_law_box_here", "_law_most"] []
  m__law_pairs : mg "_law_pairs" = some (.ref a.f__law_pairs)
  F__law_some : Fun K "_law_some" "_law_some" s__law_some a.f__law_some a.d__law_some
  b__law_some : Binds K a.d__law_some ["_law_box_here", "_law_things", "_law_most"] []
  m__law_some : mg "_law_some" = some (.ref a.f__law_some)
  F__law_helpers : Fun K "_law_helpers" "_law_helpers" s__law_helpers a.f__law_helpers a.d__law_helpers
  b__law_helpers : Binds K a.d__law_helpers ["_law_box_here", "_law_pairs_here"] []
  m__law_helpers : mg "_law_helpers" = some (.ref a.f__law_helpers)
  F__law_is_name : Fun K "_law_is_name" "_law_is_name" s__law_is_name a.f__law_is_name a.d__law_is_name
  b__law_is_name : Binds K a.d__law_is_name ["_law_word"] []
  m__law_is_name : mg "_law_is_name" = some (.ref a.f__law_is_name)
  F__law_pair_fits : Fun K "_law_pair_fits" "_law_pair_fits" s__law_pair_fits a.f__law_pair_fits a.d__law_pair_fits
  b__law_pair_fits : Binds K a.d__law_pair_fits ["_law_ahead", "_law_pair"] []
  m__law_pair_fits : mg "_law_pair_fits" = some (.ref a.f__law_pair_fits)
  F__law_helper_fits : Fun K "_law_helper_fits" "_law_helper_fits" s__law_helper_fits a.f__law_helper_fits a.d__law_helper_fits
  b__law_helper_fits : Binds K a.d__law_helper_fits ["_law_pairs_here", "_law_ahead", "_law_helper"] []
  m__law_helper_fits : mg "_law_helper_fits" = some (.ref a.f__law_helper_fits)
  F__law_first_bad : Fun K "_law_first_bad" "_law_first_bad" s__law_first_bad a.f__law_first_bad a.d__law_first_bad
  b__law_first_bad : Binds K a.d__law_first_bad ["_law_pairs_here", "_law_helpers_here"] []
  m__law_first_bad : mg "_law_first_bad" = some (.ref a.f__law_first_bad)
  F__law_odd_word : Fun K "_law_odd_word" "_law_odd_word" s__law_odd_word a.f__law_odd_word a.d__law_odd_word
  b__law_odd_word : Binds K a.d__law_odd_word ["_law_box_here", "_law_words"] []
  m__law_odd_word : mg "_law_odd_word" = some (.ref a.f__law_odd_word)
  F__law_pair_spoilt : Fun K "_law_pair_spoilt" "_law_pair_spoilt" s__law_pair_spoilt a.f__law_pair_spoilt a.d__law_pair_spoilt
  b__law_pair_spoilt : Binds K a.d__law_pair_spoilt ["_law_box_here", "_law_pairs_here"] []
  m__law_pair_spoilt : mg "_law_pair_spoilt" = some (.ref a.f__law_pair_spoilt)
  F__law_helper_spoilt : Fun K "_law_helper_spoilt" "_law_helper_spoilt" s__law_helper_spoilt a.f__law_helper_spoilt a.d__law_helper_spoilt
  b__law_helper_spoilt : Binds K a.d__law_helper_spoilt ["_law_box_here", "_law_pairs_here", "_law_helpers_here"] []
  m__law_helper_spoilt : mg "_law_helper_spoilt" = some (.ref a.f__law_helper_spoilt)
  F__law_made : Fun K "_law_made" "_law_made" s__law_made a.f__law_made a.d__law_made
  b__law_made : Binds K a.d__law_made ["_law_pairs_here", "_law_helpers_here"] []
  m__law_made : mg "_law_made" = some (.ref a.f__law_made)
  F_law : Fun K "law" "law" s_law a.f_law a.d_law
  b_law : Binds K a.d_law ["_law_script"] []
  m_law : mg "law" = some (.ref a.f_law)
  g_LETTERS : ∃ t, mg "LETTERS" = some (.str "abcdefghijklmnopqrstuvwxyz" t)
  g_MOST : ∃ t, mg "MOST" = some (.int 8 t)
  g_MOST_PAIRS : ∃ t, mg "MOST_PAIRS" = some (.int 6 t)
  g_MOST_HELPERS : ∃ t, mg "MOST_HELPERS" = some (.int 4 t)
  g_MOST_TAKES : ∃ t, mg "MOST_TAKES" = some (.int 3 t)
  g_MOST_THROWS : ∃ t, mg "MOST_THROWS" = some (.int 4 t)
  g_HOWS : mg "HOWS" = some (.ref a.k_HOWS)
  tp_HOWS : ∀ H, SqT K H a.k_HOWS [.str "lent", .str "given"]
  z_all : mg "all" = none
  z_len : mg "len" = none
  z_enumerate : mg "enumerate" = none
  z_any : mg "any" = none
  z_set : mg "set" = none
  z_list : mg "list" = none
  z_range : mg "range" = none
  z_zip : mg "zip" = none
  z_min : mg "min" = none
  z_tuple : mg "tuple" = none
  z_isinstance : mg "isinstance" = none
  z_ValueError : mg "ValueError" = none
  z_bool : mg "bool" = none
/-! ### what all laws share: the box of draws -/
/-- all but the two objects of the box stand as they were -/
def Keep2 (b g : Addr) (H H' : Hp) : Prop := ∀ a o, a ≠ b → a ≠ g → H a = some o → H' a = some o
theorem Keep2.refl (b g : Addr) (H : Hp) : Keep2 b g H H := fun _ _ _ _ h => h
theorem Keep2.trans {b g : Addr} {H H1 H2 : Hp} (x : Keep2 b g H H1) (y : Keep2 b g H1 H2) : Keep2 b g H H2 := fun a o h1 h2 h => y a o h1 h2 (x a o h1 h2 h)
/-- all but one object stand as they were -/
def Keep1 (b : Addr) (H H' : Hp) : Prop := ∀ a o, a ≠ b → H a = some o → H' a = some o
/-- a box at b, its list of great cells at g, of lesser ones at l; n draws were made -/
structure BoxAt (H : Hp) (b g l : Addr) (n : Int) : Prop where
  ex : ∃ (gs ls : List Int) (d : Int), H b = some (.lst [.ref g, .int d, .ref l, .int n]) ∧ H g = some (.lst (gs.map V.int)) ∧ H l = some (.lst (ls.map V.int)) ∧
    0 ≤ d ∧ (∀ z ∈ gs, 0 ≤ z) ∧ gs.length ≤ 63 ∧ ls.length ≤ 63 ∧ b ≠ g ∧ b ≠ l ∧ g ≠ l
  pos : 0 ≤ n
theorem BoxAt.keep {H H' : Hp} {b g l : Addr} {n : Int} (B : BoxAt H b g l n) (k : ∀ a o, H a = some o → a = b ∨ a = g ∨ a = l → H' a = some o) : BoxAt H' b g l n := by
  obtain ⟨gs, ls, d, h1, h2, h3, h⟩ := B.ex
  exact ⟨⟨gs, ls, d, k _ _ h1 (.inl rfl), k _ _ h2 (.inr (.inl rfl)), k _ _ h3 (.inr (.inr rfl)), h⟩, B.pos⟩
theorem BoxAt.same {H H' : Hp} {b g l : Addr} {n : Int} (B : BoxAt H b g l n) (k : ∀ a o, H a = some o → H' a = some o) : BoxAt H' b g l n := B.keep fun a o h _ => k a o h
/-- the three are lists -/
theorem BoxAt.lists {H : Hp} {b g l : Addr} {n : Int} (B : BoxAt H b g l n) : (∃ xs, H b = some (.lst xs)) ∧ (∃ xs, H g = some (.lst xs)) ∧ ∃ xs, H l = some (.lst xs) := by
  obtain ⟨gs, ls, d, h1, h2, h3, _⟩ := B.ex
  exact ⟨⟨_, h1⟩, ⟨_, h2⟩, ⟨_, h3⟩⟩
theorem BoxAt.fresh {H : Hp} {b g l D : Addr} {n : Int} (B : BoxAt H b g l n) (hD : H D = none) : D ≠ b ∧ D ≠ g ∧ D ≠ l := by
  obtain ⟨⟨_, h1⟩, ⟨_, h2⟩, ⟨_, h3⟩⟩ := B.lists
  exact ⟨(ne_of_none h1 hD).symm, (ne_of_none h2 hD).symm, (ne_of_none h3 hD).symm⟩
theorem BoxAt.upd {H : Hp} {b g l D : Addr} {n : Int} {o : HO} (B : BoxAt H b g l n) (h : D ≠ b ∧ D ≠ g ∧ D ≠ l) : BoxAt (upd H D o) b g l n := by
  refine B.keep fun x o e z => ?_
  have hx : x ≠ D := by
    rcases z with z | z | z
    · rw [z]; exact h.1.symm
    · rw [z]; exact h.2.1.symm
    · rw [z]; exact h.2.2.symm
  exact upd_get hx e
/-- _law_mixed: some number -/
def spMixed : Sp := fun vs H Q _ => ∃ (c k : Int), vs = [.int c, .int k] ∧ 0 ≤ k ∧ k ≤ 10000000 ∧ ∀ r : Int, Q (.int r) H
/-- _law_take: a number below the size -/
def spTake : Sp := fun vs H Q _ => ∃ (b g l : Addr) (n sz : Int), vs = [.ref b, .int sz] ∧ BoxAt H b g l n ∧ n ≤ 1000000 ∧ 0 < sz ∧ sz < 2 ^ 200 ∧
  ∀ (r : Int) (H' : Hp), 0 ≤ r → r < sz → BoxAt H' b g l (n + 1) → Keep2 b g H H' → Q (.int r) H'
/-- _law_box: a new box -/
def spBox (K : PySem.W.Frag) : Sp := fun vs H Q _ => ∃ (a : Addr) (ns : List Int), vs = [.ref a] ∧ SqL K H a (ns.map V.int) ∧ ns.length ≤ 63 ∧
  ∀ (b g l : Addr) (H' : Hp), H b = none → H g = none → H l = none → BoxAt H' b g l 0 → Same H H' → Q (.ref b) H'
local macro_rules | `(tactic| walk_at "nz") => `(tactic| (show (_ : Int) ≠ 0; omega))
local macro_rules | `(tactic| walk_at "ne") => `(tactic| first | assumption | (apply Ne.symm; assumption))
local macro_rules | `(tactic| walk_at "hp") => `(tactic| first | assumption | exact upd_same | (refine upd_get ?_ ?_; walk_at "ne"; walk_at "hp"))
local macro_rules | `(tactic| walk_at "sd") => `(tactic| first
  | (with_reducible show (_ : Int) < _; omega)
  | (with_reducible show (_ : Int) ≤ _; omega)
  | (with_reducible show (_ : Nat) < _; omega)
  | (with_reducible show (_ : Nat) ≤ _; omega)
  | rfl
  | assumption
  | exact kV_int _
  | exact kV_str _
  | (show (_ : Int) ≠ 0; omega)
  | exact SqL.of (by walk_at "hp")
  | exact ⟨_, SqL.of (by walk_at "hp")⟩
  | exact ⟨_, SqT.of (by walk_at "hp")⟩
  | exact ⟨_, (by assumption)⟩
  | exact SqT.of (by walk_at "hp")
  | exact Rd.of (by walk_at "hp")
  | exact Or.inl (SqL.of (by walk_at "hp"))
  | exact Or.inr (SqT.of (by walk_at "hp"))
  | exact Or.inr (by assumption)
  | (walk_at "hp")
  | (exact Or.inl ⟨rfl, _, SqL.of (by walk_at "hp")⟩)
  | (exact Or.inl ⟨by omega, by omega⟩)
  | (exact Or.inr ⟨by omega, by omega⟩)
  | (refine ⟨?_, ?_, ?_⟩ <;> omega)
  | omega
  | (exact small_le (by first | omega | (simp only [List.length_cons, List.length_nil]; omega)))
  | (exact small_lt (by first | omega | (simp only [List.length_cons, List.length_nil]; omega)))
  | exact Nat.le_of_ble_eq_true rfl
  | exact ⟨_, rfl⟩
  | decide)
local macro_rules | `(tactic| walk_at "st") => `(tactic| first
  | with_reducible refine sq_seq ?_
  | apply Exists.intro
  | (refine And.intro ?_ ?_; (walk_at "sd")))
local macro_rules | `(tactic| walk_at "go") => `(tactic| repeat (walk_at "st"))
section
variable {P : Program} {w : World} {K : PySem.W.Frag} {mg : Str → Option Value} {base : Heap} {a : Ad}
theorem ok__law_mixed (T : Txt K mg a) : FnOk P w K mg base CX0 1 a.f__law_mixed a.d__law_mixed ["_law_cell", "_law_k"] spMixed := by
  refine T.F__law_mixed.ok sc__law_mixed (fun vs H Q E h => ?_) (fun cdv A outer s H vs Q E hr h => ?_)
  · obtain ⟨c, k, rfl, _⟩ := h
    rfl
  · obtain ⟨c, k, rfl, h0, h1, q⟩ := h
    refine ⟨_, (pss_cons (ps_set (i := 2) sc__law_mixed.nd rfl (Or.inl rfl) (pe_op op_modN (pe_op op_pow (pe_op op_add (pe_op op_add (pe_op op_add (pe_op op_modN (pv 0) pe_int) (pe_op op_mul (pe_op op_mul pe_int (pv 1)) (pv 1))) (pe_op op_mul pe_int (pv 1))) pe_int) pe_int) pe_int))
      (pss_one (ps_ret (pe_op op_modN (pe_op op_add (pe_op op_mul (pv 2) pe_int) (pe_op op_mul pe_int (pv 1))) pe_int)))), ?_⟩
    have m1 := fmod_pos (i := c) (j := 2147483647) (by decide)
    have e1 : 1009 * k ≤ 10090000000 := by omega
    have e2 : 0 ≤ 1009 * k * k := Int.mul_nonneg (by omega) h0
    have e3 : 1009 * k * k ≤ 10090000000 * 10000000 := Int.mul_le_mul e1 h1 h0 (by decide)
    walk_at "go"
    exact q _
theorem ok__law_take (T : Txt K mg a) : FnOk P w K mg base CX0 2 a.f__law_take a.d__law_take ["_law_box_here", "_law_size"] spTake := by
  have G__law_mixed := ok__law_mixed (P := P) (w := w) (base := base) T
  refine T.F__law_take.ok sc__law_take (fun vs H Q E h => ?_) (fun cdv A outer s H vs Q E hr h => ?_)
  · obtain ⟨b, g, l, n, sz, rfl, _⟩ := h
    rfl
  · obtain ⟨b, g, l, n, sz, rfl, B, hn, s0, s1, q⟩ := h
    obtain ⟨gs, ls, d, hb, hg, hl, d0, g0, lg, ll, nbg, nbl, ngl⟩ := B.ex
    have n0 := B.pos
    refine ⟨_, (pss_cons (ps_asg (pe_op op_add (pe_ix ix_list (pv 0) pe_int (fun _ _ => rfl)) pe_int) (pg_sub (pv 0) pe_int set_list))
      (pss_mid (ps_if (PW.pt (pw_and (pt_cmpR op_eq (pe_ix ix_list (pv 0) pe_int (fun _ _ => rfl)) pe_int (nomark _)) (pw_and1 (pt_cmpR op_gt (pe_callB call_lenK (by rfl) T.z_len PySem.boot_len (pa_cons (pe_ix ix_list (pv 0) pe_int (fun _ _ => rfl)) pa_nil)) pe_int (nomark _))))) (pss_one (ps_asg (pe_bm PySem.F.plainAttrs_list PySem.F.slot_list_pop PySem.F.type_list_pop mt_popAt (pe_ix ix_list (pv 0) pe_int (fun _ _ => rfl)) (pa_cons pe_int pa_nil)) (pg_sub (pv 0) pe_int set_list))) pss_nil)
      (pss_cons (ps_if (pt_cmpR op_gt (pe_ix ix_list (pv 0) pe_int (fun _ _ => rfl)) pe_int (nomark _)) (pss_cons (ps_set (i := 2) sc__law_take.nd rfl (Or.inl rfl) (pe_op op_modN (pe_ix ix_list (pv 0) pe_int (fun _ _ => rfl)) (pv 1)))
      (pss_cons (ps_asg (pe_op op_fdivW (pe_ix ix_list (pv 0) pe_int (fun _ _ => rfl)) (pv 1)) (pg_sub (pv 0) pe_int set_list))
      (pss_one (ps_ret (pv 2))))) pss_nil)
      (pss_cons (ps_set (i := 3) sc__law_take.nd rfl (Or.inl rfl) (pe_op op_mul pe_int (pe_ix ix_list (pv 0) pe_int (fun _ _ => rfl))))
      (pss_mid (ps_if (pt_cmpR op_gt (pe_callB call_lenK (by rfl) T.z_len PySem.boot_len (pa_cons (pe_ix ix_list (pv 0) pe_int (fun _ _ => rfl)) pa_nil)) pe_int (nomark _)) (pss_one (ps_set (i := 3) sc__law_take.nd rfl (Or.inl rfl) (pe_ix ix_list (pe_ix ix_list (pv 0) pe_int (fun _ _ => rfl)) (pe_op op_modN (pe_ix ix_list (pv 0) pe_int (fun _ _ => rfl)) (pe_callB call_lenK (by rfl) T.z_len PySem.boot_len (pa_cons (pe_ix ix_list (pv 0) pe_int (fun _ _ => rfl)) pa_nil))) (fun _ _ => rfl)))) pss_nil)
      (pss_cons (ps_set (i := 2) sc__law_take.nd rfl (Or.inl rfl) pe_int)
      (pss_cons (ps_set (i := 4) sc__law_take.nd rfl (Or.inl rfl) pe_int)
      (pss_cons (ps_stop (ps_while PassesOwn.never (pt_cmpR op_lt (pv 4) (pv 1) (nomark _)) (pss_cons (ps_set (i := 2) sc__law_take.nd rfl (Or.inl rfl) (pe_op op_add (pe_op op_mul (pv 2) pe_int) (pe_call G__law_mixed (hr.mono (by decide)) rfl T.m__law_mixed T.F__law_mixed.kp T.b__law_mixed .nil pass0 (pa_cons (pv 3) (pa_cons (pe_op op_add (pe_ix ix_list (pv 0) pe_int (fun _ _ => rfl)) (pe_op op_mul pe_int (pe_op op_modN (pv 2) pe_int))) pa_nil)))))
      (pss_one (ps_set (i := 4) sc__law_take.nd rfl (Or.inl rfl) (pe_op op_mul (pv 4) pe_int))))))
      (pss_one (ps_ret (pe_op op_modN (pv 2) (pv 1)))))))))))), ?_⟩
    walk_at "go"
    -- if box[1] == 0 and len(box[0]) > 0
    refine mid_of (fun σ H1 => ∃ (gs1 : List Int) (d1 : Int), σ = [some (.ref b), some (.int sz), none, none, none] ∧ H1 b = some (.lst [.ref g, .int d1, .ref l, .int (n + 1)]) ∧ H1 g = some (.lst (gs1.map V.int)) ∧ H1 l = some (.lst (ls.map V.int)) ∧
      0 ≤ d1 ∧ (∀ z ∈ gs1, 0 ≤ z) ∧ gs1.length ≤ 63 ∧ Keep2 b g H H1) ?_ ?_
    · have k1 : Keep2 b g H (upd H b (.lst [.ref g, .int d, .ref l, .int (n + 1)])) := fun x o n1 n2 e => by rw [upd_ne n1]; exact e
      walk_at "go"
      refine ifD (fun e => ?_) (fun _ => ?_)
      · walk_at "go"
        refine ifD (fun e2 => ?_) (fun _ => ?_)
        · cases gs with
          | nil => exact absurd e2 (by decide)
          | cons z r =>
            walk_at "go"
            refine ⟨(seqIndex_of (by decide) e2 : seqIndex? 0 _ = some 0), rfl, ?_⟩
            walk_at "go"
            refine wait ⟨r, z, rfl, upd_same, upd_get nbg.symm upd_same, upd_get nbl.symm (upd_get ngl.symm (upd_get nbl.symm hl)), g0 _ List.mem_cons_self, fun y hy => g0 y (List.mem_cons_of_mem _ hy), ?_, ?_⟩
            · rw [List.length_cons] at lg
              omega
            · intro x o n1 n2 e
              rw [upd_ne n1, upd_ne n2, upd_ne n1]
              exact e
        · exact wait ⟨gs, d, rfl, upd_same, upd_get nbg.symm hg, upd_get nbl.symm hl, d0, g0, lg, k1⟩
      · refine ifF rfl ?_
        exact wait ⟨gs, d, rfl, upd_same, upd_get nbg.symm hg, upd_get nbl.symm hl, d0, g0, lg, k1⟩
    · rintro σ H1 ⟨gs1, d1, rfl, hb1, hg1, hl1, d10, g10, lg1, k1⟩
      walk_at "go"
      refine ifD (fun e => ?_) (fun e => ?_)
      · have m := fmod_pos (i := d1) (j := sz) s0
        have hd : CDivW d1 sz := wide_div (b := 200) s0 (by omega) (by decide) (by decide)
        walk_at "go"
        refine q _ _ m.1 m.2 ⟨⟨gs1, ls, d1 / sz, upd_same, upd_get nbg.symm hg1, upd_get nbl.symm hl1, Int.ediv_nonneg d10 (by omega), g10, lg1, ll, nbg, nbl, ngl⟩, by omega⟩ ?_
        intro x o n1 n2 e
        rw [upd_ne n1]
        exact k1 x o n1 n2 e
      · walk_at "go"
        refine mid_of (fun σ H2 => H2 = H1 ∧ ∃ c : Int, σ = [some (.ref b), some (.int sz), none, some (.int c), none]) ?_ ?_
        · walk_at "go"
          refine ifD (fun e2 => ?_) (fun _ => ?_)
          · have e3 : (0 : Int) < (ls.length : Int) := by rw [List.length_map] at e2; exact e2
            have m := fmod_pos (i := n + 1) (j := (ls.length : Int)) e3
            obtain ⟨z, hz, _⟩ := atI_ints m.1 m.2
            have hz2 : atI (ls.map V.int) ((n + 1).fmod ((ls.map V.int).length : Int)) = some (.int z) := by rw [List.length_map]; exact hz
            walk_at "go"
            exact wait ⟨rfl, _, rfl⟩
          · exact wait ⟨rfl, _, rfl⟩
        · rintro σ H2 ⟨rfl, c, rfl⟩
          walk_at "go"
          refine while_W (fun m σ H3 => H3 = H2 ∧ ∃ f r : Int, σ = [some (.ref b), some (.int sz), some (.int f), some (.int c), some (.int r)] ∧ 0 < r ∧ m = (sz - r).toNat) (sz - 1).toNat ?_ ?_
          · exact ⟨rfl, 0, 1, rfl, by decide, rfl⟩
          · rintro m σ H3 ⟨rfl, f, r, rfl, r0, rfl⟩
            walk_at "go"
            refine ifD (fun e2 => ?_) (fun _ => ?_)
            · have m := fmod_pos (i := f) (j := 89) (by decide)
              refine next_W ?_
              walk_at "go"
              intro x
              walk_at "go"
              exact wait ⟨_, (show (sz - r * 1000000007).toNat < (sz - r).toNat by omega), rfl, _, _, rfl, by omega, rfl⟩
            · have m := fmod_pos (i := f) (j := sz) s0
              walk_at "go"
              exact q _ _ m.1 m.2 ⟨⟨gs1, ls, d1, hb1, hg1, hl1, d10, g10, lg1, ll, nbg, nbl, ngl⟩, by omega⟩ k1
theorem ok__law_box (T : Txt K mg a) : FnOk P w K mg base CX0 1 a.f__law_box a.d__law_box ["_law_script"] (spBox K) := by
  refine T.F__law_box.ok sc__law_box (fun vs H Q E h => ?_) (fun cdv A outer s H vs Q E hr h => ?_)
  · obtain ⟨c, ns, rfl, _⟩ := h
    rfl
  · obtain ⟨c, ns, rfl, hS, hl, q⟩ := h
    refine ⟨_, (pss_cons (ps_setLc (i := 1) (own := [("_law_cell", 2)]) (g := gName 2) rfl sc__law_box.nd rfl rfl (sw_true rfl rfl rfl (by decide +kernel)) (pi_list (pv 0)) (blkOk_by (own := [("_law_cell", 2)]) (N := n__law_box) (sc := defScope s__law_box) (by decide +kernel)) (fun _ _ _ _ _ => (pg_name (i := 2) sc__law_box.nd rfl (Or.inl rfl))) (fun _ _ _ _ _ => (pts_one (pt_cmpR op_ge (pv 2) (pe_op op_pow pe_int pe_int) (nomark _)))) (fun _ _ _ _ _ => (pv 2)))
      (pss_one (ps_ret (pe_lst (pa_cons (pv 1) (pa_cons pe_int (pa_cons (pe_lc (own := [("_law_cell", 2)]) (g := gName 2) rfl sc__law_box.nd (pi_list (pv 0)) (blkOk_by (own := [("_law_cell", 2)]) (N := n__law_box) (sc := defScope s__law_box) (by decide +kernel)) (fun _ _ _ _ _ => (pg_name (i := 2) sc__law_box.nd rfl (Or.inl rfl))) (fun _ _ _ _ _ => (pts_one (pt_cmpR op_lt (pv 2) (pe_op op_pow pe_int pe_int) (nomark _)))) (fun _ _ _ _ _ => (pv 2))) (pa_cons pe_int pa_nil)))))))), ?_⟩
    walk_at "go"
    intro D hD
    refine lcL (K := K) (a := c) (xs := ns.map V.int) (fun i H' => H' D = some (.lst (((ns.take i).filter fun z => decide ((10 : Int) ^ 18 ≤ z)).map V.int)) ∧ Same H H') ?_ ?_ ?_ ?_
    · exact ⟨upd_same, fun x o e => by rw [upd_ne (ne_of_none e hD)]; exact e⟩
    · exact fun i H' _ h => h.2.seq hS
    · rintro i y H' hi ⟨h1, h2⟩
      obtain ⟨u, rfl, hu, _⟩ := ints_at hi
      have hlen := filt_len (fun z => decide ((10 : Int) ^ 18 ≤ z)) ns i
      refine ⟨rfl, ?_⟩
      walk_at "go"
      refine ifD (fun p => ?_) (fun p => ?_)
      · walk_at "go"
        refine ⟨small_lt (by rw [List.length_map]; omega), wait ⟨?_, fun x o e => ?_⟩⟩
        · rw [upd_same, take_filt_yes hu (decide_eq_true p), List.map_append] <;> rfl
        · rw [upd_ne (ne_of_none e hD)]
          exact h2 x o e
      · refine wait ⟨?_, h2⟩
        rw [take_filt_no hu (decide_eq_false p)]
        exact h1
    · rintro H1 ⟨h1, s1⟩
      rw [List.length_map, List.take_length] at h1
      have hS1 := s1.seq hS
      walk_at "go"
      intro L hL
      refine lcL (K := K) (a := c) (xs := ns.map V.int) (fun i H' => H' L = some (.lst (((ns.take i).filter fun z => decide (z < (10 : Int) ^ 18)).map V.int)) ∧ Same H1 H') ?_ ?_ ?_ ?_
      · exact ⟨upd_same, fun x o e => by rw [upd_ne (ne_of_none e hL)]; exact e⟩
      · exact fun i H' _ h => h.2.seq hS1
      · rintro i y H' hi ⟨g1, g2⟩
        obtain ⟨u, rfl, hu, _⟩ := ints_at hi
        have hlen := filt_len (fun z => decide (z < (10 : Int) ^ 18)) ns i
        refine ⟨rfl, ?_⟩
        walk_at "go"
        refine ifD (fun p => ?_) (fun p => ?_)
        · walk_at "go"
          refine ⟨small_lt (by rw [List.length_map]; omega), wait ⟨?_, fun x o e => ?_⟩⟩
          · rw [upd_same, take_filt_yes hu (decide_eq_true p), List.map_append] <;> rfl
          · rw [upd_ne (ne_of_none e hL)]
            exact g2 x o e
        · refine wait ⟨?_, g2⟩
          rw [take_filt_no hu (decide_eq_false p)]
          exact g1
      · rintro H2 ⟨g1, s2⟩
        rw [List.length_map, List.take_length] at g1
        refine ⟨(by show 4 ≤ sizeLine; decide), fun b hb => ?_⟩
        have hD2 := s2 _ _ h1
        have nbD : b ≠ D := fun z => by rw [z, hD2] at hb; cases hb
        have nbL : b ≠ L := fun z => by rw [z, g1] at hb; cases hb
        have nDL : D ≠ L := ne_of_none h1 hL
        have s12 : Same H (upd H2 b (.lst [.ref D, .int 0, .ref L, .int 0])) := fun x o e => by
          have e2 := s2 _ _ (s1 _ _ e)
          rw [upd_ne (ne_of_none e2 hb)]
          exact e2
        refine q b D L _ ((s1.trans s2).free hb) hD (s1.free hL) ⟨⟨_, _, 0, upd_same, upd_get nbD.symm hD2, upd_get nbL.symm g1, by decide, fun z hz => ?_, ?_, ?_, nbD, nbL, nDL⟩, by decide⟩ s12
        · have := (List.mem_filter.mp hz).2
          have p : (10 : Int) ^ 18 ≤ z := of_decide_eq_true this
          omega
        · exact Nat.le_trans (List.length_filter_le _ _) hl
        · exact Nat.le_trans (List.length_filter_le _ _) hl
/-! ### names -/
structure IsName (w : Str) : Prop where
  lo : 1 ≤ w.length
  hi : w.length ≤ 8
  cs : ∀ c ∈ w.cps.toList, 97 ≤ c ∧ c ≤ 122
theorem abc_cps : (Str.ofString "abcdefghijklmnopqrstuvwxyz").cps.toList = (List.range 26).map (97 + ·) := by decide +kernel
theorem abc_at {r : Int} (h0 : 0 ≤ r) (h1 : r < 26) : ∃ c, atI (Str.ofString "abcdefghijklmnopqrstuvwxyz").cps.toList r = some c ∧ 97 ≤ c ∧ c ≤ 122 := by
  obtain ⟨v, e1, e2⟩ := atI_in (xs := (Str.ofString "abcdefghijklmnopqrstuvwxyz").cps.toList) (i := r) h0 (by rw [abc_cps]; exact h1)
  refine ⟨v, e1, ?_⟩
  have := List.mem_of_getElem? e2
  rw [abc_cps] at this
  obtain ⟨k, hk, rfl⟩ := List.mem_map.mp this
  have := List.mem_range.mp hk
  omega
theorem abc_len : (Str.ofString "abcdefghijklmnopqrstuvwxyz").length ≤ sizeLine := by decide +kernel
theorem joinL_one : ∀ cs : List Nat, TL.joinL [] (cs.map fun c => [c]) = cs
  | [] => rfl
  | [_] => rfl
  | c :: d :: r => by
    show [c] ++ ([] ++ TL.joinL [] ((d :: r).map fun c => [c])) = _
    rw [joinL_one (d :: r)] <;> rfl
theorem joined_one (cs : List Nat) : (Txt.join (Str.ofString "") (cs.map fun c => (⟨#[c]⟩ : Str))).cps.toList = cs := by
  rw [TL.join_eq]
  have := TL.tl_join (Str.ofString "") (cs.map fun c => (⟨#[c]⟩ : Str))
  rw [List.map_map] at this
  refine Eq.trans (Eq.trans this ?_) (joinL_one cs)
  rfl
def spName : Sp := fun vs H Q _ => ∃ (b g l : Addr) (n : Int), vs = [.ref b] ∧ BoxAt H b g l n ∧ n ≤ 900000 ∧
  ∀ (w : Str) (n' : Int) (H' : Hp), IsName w → BoxAt H' b g l n' → n' ≤ n + 10 → Keep2 b g H H' → Q (.str w) H'
theorem ok__law_name (T : Txt K mg a) : FnOk P w K mg base CX0 3 a.f__law_name a.d__law_name ["_law_box_here"] spName := by
  have G__law_take := ok__law_take (P := P) (w := w) (base := base) T
  refine T.F__law_name.ok sc__law_name (fun vs H Q E h => ?_) (fun cdv A outer s H vs Q E hr h => ?_)
  · obtain ⟨b, g, l, n, rfl, _⟩ := h
    rfl
  · obtain ⟨b, g, l, n, rfl, B, hn, q⟩ := h
    refine ⟨_, (pss_cons (ps_set (i := 1) sc__law_name.nd rfl (Or.inl rfl) (pe_op op_add pe_int (pe_call G__law_take (hr.mono (by decide)) rfl T.m__law_take T.F__law_take.kp T.b__law_take .nil pass0 (pa_cons (pv 0) (pa_cons (pe_ix ix_list (pe_lst (pa_cons pe_int (pa_cons pe_int (pa_cons pe_int pa_nil)))) (pe_call G__law_take (hr.mono (by decide)) rfl T.m__law_take T.F__law_take.kp T.b__law_take .nil pass0 (pa_cons (pv 0) (pa_cons pe_int pa_nil))) (fun _ _ => rfl)) pa_nil)))))
      (pss_one (ps_ret (pe_join pe_str (pe_lc (own := [("_law_k", 2)]) (g := gName 2) (tt := tYes) rfl sc__law_name.nd (pi_range1 rfl T.z_range (pa_cons (pv 1) pa_nil)) (blkOk_by (own := [("_law_k", 2)]) (N := n__law_name) (sc := defScope s__law_name) (by decide +kernel)) (fun _ _ _ _ _ => (pg_name (i := 2) sc__law_name.nd rfl (Or.inl rfl))) (fun _ _ _ _ _ => pts_nil) (fun _ _ _ _ _ => (pe_ix ix_str pe_str (pe_call G__law_take (hr.mono (by decide)) rfl T.m__law_take T.F__law_take.kp T.b__law_take .nil pass0 (pa_cons (pv 0) (pa_cons pe_int pa_nil))) (fun _ _ => rfl)))))))), ?_⟩
    walk_at "go"
    intro p1 hp1
    have s1 : Same H (upd H p1 (.lst [.int 1, .int 2, .int 8])) := Same.upd_new hp1
    have B1 := B.same s1
    obtain ⟨⟨xb, hb⟩, ⟨xg, hg⟩, _⟩ := B.lists
    refine ⟨_, rfl, b, g, l, n, 3, rfl, B1, by omega, by decide, by decide, fun r1 H2 r10 r11 B2 k2 => ?_⟩
    have hp2 := k2 _ _ (ne_of_none hb hp1).symm (ne_of_none hg hp1).symm upd_same
    obtain ⟨v, e1, e2⟩ := atI_in (xs := [V.int 1, .int 2, .int 8]) (i := r1) r10 r11
    have hm := List.mem_of_getElem? e2
    obtain ⟨sz, rfl, z0, z1⟩ : ∃ sz : Int, v = .int sz ∧ 0 < sz ∧ sz ≤ 8 := by
      simp only [List.mem_cons, List.not_mem_nil, or_false] at hm
      rcases hm with rfl | rfl | rfl
      · exact ⟨_, rfl, by decide, by decide⟩
      · exact ⟨_, rfl, by decide, by decide⟩
      · exact ⟨_, rfl, by decide, by decide⟩
    walk_at "go"
    intro r2 H3 r20 r21 B3 k3
    walk_at "go"
    intro D hD
    refine lcR (lo := 0) (n := (1 + r2).toNat) (fun i H' => ∃ cs : List Nat, cs.length = i ∧ (∀ c ∈ cs, 97 ≤ c ∧ c ≤ 122) ∧ H' D = some (.lst (cs.map fun c => V.str ⟨#[c]⟩)) ∧ BoxAt H' b g l (n + 1 + 1 + i) ∧ (∀ x o, x ≠ b → x ≠ g → x ≠ D → H3 x = some o → H' x = some o)) ?_ ?_ ?_
    · refine ⟨[], rfl, (fun _ h => nomatch h), upd_same, ?_, fun x o _ _ h3 e => upd_get h3 e⟩
      have := B3.same (Same.upd_new (o := .lst []) hD)
      rw [show n + 1 + 1 + ((0 : Nat) : Int) = n + 1 + 1 by omega]
      exact this
    · rintro i H' hi ⟨cs, hl, hc, h1, B', k'⟩
      have nD := B3.fresh hD
      have al := abc_len
      refine ⟨rfl, ?_⟩
      walk_at "go"
      intro r4 H4 r40 r41 B4 k4
      obtain ⟨c, e4, c0, c1⟩ := abc_at r40 r41
      have h4 := k4 _ _ nD.1 nD.2.1 h1
      walk_at "go"
      refine ⟨small_lt (by rw [List.length_map]; omega), wait ⟨cs ++ [c], by rw [List.length_append, hl] <;> rfl, fun d hd => ?_, ?_, ?_, fun x o n1 n2 n3 e => upd_get n3 (k4 x o n1 n2 (k' x o n1 n2 n3 e))⟩⟩
      · rcases List.mem_append.mp hd with z | z
        · exact hc d z
        · rw [List.mem_singleton.mp z]; exact ⟨c0, c1⟩
      · rw [upd_same, List.map_append] <;> rfl
      · rw [show n + 1 + 1 + ((i + 1 : Nat) : Int) = n + 1 + 1 + (i : Int) + 1 by omega]
        exact B4.upd nD
    · rintro H' ⟨cs, hl, hc, h1, B', k'⟩
      have nD := B3.fresh hD
      have hlen : cs.length ≤ 8 := by omega
      have hsum : ((cs.map fun c => (⟨#[c]⟩ : Str)).map (·.length)).sum + (cs.map fun c => (⟨#[c]⟩ : Str)).length * (Str.ofString "").length ≤ 16777216 := by
        rw [List.map_map, show ((·.length) ∘ fun c => (⟨#[c]⟩ : Str)) = fun _ => 1 from rfl, List.map_const', List.sum_replicate_nat, List.length_map]
        show cs.length * 1 + cs.length * 0 ≤ _
        omega
      refine ⟨_, D, cs.map fun c => (⟨#[c]⟩ : Str), rfl, rfl, .inl (SqL.of ?_), hsum, ?_⟩
      · rw [List.map_map]; exact h1
      · refine q _ _ _ ⟨?_, ?_, ?_⟩ B' (by omega) ?_
        · rw [TL.len_tl, TL.tl, joined_one]; omega
        · rw [TL.len_tl, TL.tl, joined_one]; omega
        · rw [joined_one]; exact hc
        · intro x o n1 n2 e
          have e3 := k3 x o n1 n2 (k2 x o n1 n2 (s1 x o e))
          exact k' x o n1 n2 (ne_of_none e3 hD) e3
end
end Pf
set_option Elab.async false
set_option linter.all false
set_option maxRecDepth 100000
set_option maxHeartbeats 4000000
namespace Pf
open PySem L2
local macro_rules | `(tactic| walk_at "nz") => `(tactic| (show (_ : Int) ≠ 0; omega))
local macro_rules | `(tactic| walk_at "ne") => `(tactic| first | assumption | (apply Ne.symm; assumption))
local macro_rules | `(tactic| walk_at "hp") => `(tactic| first | assumption | exact upd_same | (refine upd_get ?_ ?_; walk_at "ne"; walk_at "hp"))
local macro_rules | `(tactic| walk_at "sd") => `(tactic| first
  | (with_reducible show (_ : Int) < _; omega)
  | (with_reducible show (_ : Int) ≤ _; omega)
  | (with_reducible show (_ : Nat) < _; omega)
  | (with_reducible show (_ : Nat) ≤ _; omega)
  | rfl
  | assumption
  | exact kV_int _
  | exact kV_str _
  | (show (_ : Int) ≠ 0; omega)
  | exact SqL.of (by walk_at "hp")
  | exact ⟨_, SqL.of (by walk_at "hp")⟩
  | exact ⟨_, SqT.of (by walk_at "hp")⟩
  | exact ⟨_, (by assumption)⟩
  | exact SqT.of (by walk_at "hp")
  | exact Rd.of (by walk_at "hp")
  | exact Or.inl (SqL.of (by walk_at "hp"))
  | exact Or.inr (SqT.of (by walk_at "hp"))
  | exact Or.inr (by assumption)
  | (walk_at "hp")
  | (exact Or.inl ⟨rfl, _, SqL.of (by walk_at "hp")⟩)
  | (exact Or.inl ⟨by omega, by omega⟩)
  | (exact Or.inr ⟨by omega, by omega⟩)
  | (refine ⟨?_, ?_, ?_⟩ <;> omega)
  | omega
  | (exact small_le (by first | omega | (simp only [List.length_cons, List.length_nil]; omega)))
  | (exact small_lt (by first | omega | (simp only [List.length_cons, List.length_nil]; omega)))
  | exact Nat.le_of_ble_eq_true rfl
  | exact ⟨_, rfl⟩
  | decide)
local macro_rules | `(tactic| walk_at "st") => `(tactic| first
  | with_reducible refine sq_seq ?_
  | apply Exists.intro
  | (refine And.intro ?_ ?_; (walk_at "sd")))
local macro_rules | `(tactic| walk_at "go") => `(tactic| repeat (walk_at "st"))
section
variable {P : Program} {w : World} {K : PySem.W.Frag} {mg : Str → Option Value} {base : Heap} {a : Ad}
theorem nodup_sub_len {α : Type} [DecidableEq α] : ∀ {l m : List α}, l.Nodup → (∀ x ∈ l, x ∈ m) → l.length ≤ m.length
  | [], _, _, _ => Nat.zero_le _
  | a :: r, m, hn, hs => by
    rw [List.nodup_cons] at hn
    have ha := hs a List.mem_cons_self
    have h1 := nodup_sub_len (l := r) (m := m.erase a) hn.2 fun x hx => by
      have hne : x ≠ a := fun z => hn.1 (z ▸ hx)
      exact (List.mem_erase_of_ne hne).mpr (hs x (List.mem_cons_of_mem _ hx))
    rw [List.length_erase_of_mem ha] at h1
    have := List.length_pos_of_mem ha
    rw [List.length_cons]
    omega
theorem flat_strs1 (ys : List Str) : (ys.map V.str).all flatV = true := by
  rw [List.all_map]
  exact List.all_eq_true.mpr fun _ _ => rfl
theorem nodup_snoc {α : Type} {l : List α} {x : α} (h : l.Nodup) (hx : x ∉ l) : (l ++ [x]).Nodup := by
  rw [List.nodup_append]
  refine ⟨h, List.nodup_cons.mpr ⟨(fun z => nomatch z), List.nodup_nil⟩, fun y hy z hz => ?_⟩
  rw [List.mem_singleton.mp hz]
  exact fun e => hx (e ▸ hy)
theorem in_strs (x : Str) (ws : List Str) : inV (.str x) (ws.map V.str) = decide (x ∈ ws) := by
  unfold inV
  rw [List.any_map]
  induction ws with
  | nil => rfl
  | cons y r ih =>
    rw [List.any_cons, ih]
    show ((y == x) || _) = _
    by_cases h : y = x
    · subst h; simp
    · have h2 : ¬ x = y := fun z => h z.symm
      simp [h, h2]
theorem name_app {u : Str} {c : Nat} (h : IsName u) (h1 : 97 ≤ c) (h2 : c ≤ 122) : IsName (cutS u none (some 7) ++ (⟨#[c]⟩ : Str)) := by
  have e : TL.tl (cutS u none (some 7) ++ (⟨#[c]⟩ : Str)) = (TL.tl u).take (min 7 u.length) ++ [c] := by
    rw [TL.tl_append]
    rfl
  have hl := TL.len_tl (cutS u none (some 7) ++ (⟨#[c]⟩ : Str))
  rw [e, List.length_append, List.length_take] at hl
  have h8 := h.hi
  have hu := TL.len_tl u
  refine ⟨by rw [hl]; exact Nat.le_add_left _ _, ?_, fun d hd => ?_⟩
  · rw [hl]
    show _ + 1 ≤ 8
    omega
  · have hd2 : d ∈ (TL.tl u).take (min 7 u.length) ++ [c] := by rw [← e]; exact hd
    rcases List.mem_append.mp hd2 with z | z
    · exact h.cs d (List.mem_of_mem_take z)
    · rw [List.mem_singleton.mp z]; exact ⟨h1, h2⟩
abbrev spares : List Str := ["q", "qa", "qb", "qc", "qd", "qe", "qf", "qg", "qh", "qi", "qj", "qk", "ql", "qm", "qn", "qo"]
theorem spares_nd : spares.Nodup := by decide +kernel
theorem isName_dec {w : Str} (h : (decide (1 ≤ w.length) && decide (w.length ≤ 8) && w.cps.toList.all fun c => decide (97 ≤ c) && decide (c ≤ 122)) = true) : IsName w := by
  rw [Bool.and_eq_true, Bool.and_eq_true, List.all_eq_true] at h
  refine ⟨of_decide_eq_true h.1.1, of_decide_eq_true h.1.2, fun c hc => ?_⟩
  have := h.2 c hc
  rw [Bool.and_eq_true] at this
  exact ⟨of_decide_eq_true this.1, of_decide_eq_true this.2⟩
theorem spares_ok : ∀ w ∈ spares, IsName w := by
  have h : (spares.all fun w => (decide (1 ≤ w.length) && decide (w.length ≤ 8) && w.cps.toList.all fun c => decide (97 ≤ c) && decide (c ≤ 122))) = true := by decide +kernel
  intro w hw
  exact isName_dec (List.all_eq_true.mp h w hw)
def spNames : Sp := fun vs H Q _ => ∃ (b g l : Addr) (n m : Int), vs = [.ref b, .int m] ∧ BoxAt H b g l n ∧ n ≤ 800000 ∧ 0 ≤ m ∧ m ≤ 16 ∧
  ∀ (D : Addr) (ws : List Str) (n' : Int) (H' : Hp), (ws.length : Int) = m → ws.Nodup → (∀ w ∈ ws, IsName w) → H D = none → H' D = some (.lst (ws.map V.str)) → BoxAt H' b g l n' → n' ≤ n + 12 * m → Keep2 b g H H' → Q (.ref D) H'
theorem ok__law_names (T : Txt K mg a) : FnOk P w K mg base CX0 4 a.f__law_names a.d__law_names ["_law_box_here", "_law_many"] spNames := by
  have G__law_take := ok__law_take (P := P) (w := w) (base := base) T
  have G__law_name := ok__law_name (P := P) (w := w) (base := base) T
  refine T.F__law_names.ok sc__law_names (fun vs H Q E h => ?_) (fun cdv A outer s H vs Q E hr h => ?_)
  · obtain ⟨b, g, l, n, m, rfl, _⟩ := h
    rfl
  · obtain ⟨b, g, l, n, m, rfl, B, hn, m0, m1, q⟩ := h
    refine ⟨_, (pss_cons (ps_set (i := 2) sc__law_names.nd rfl (Or.inl rfl) (pe_lst pa_nil))
      (pss_cons (ps_stop (ps_for PassesOwn.never rfl (pi_wait (pi_range1 rfl T.z_range (pa_cons (pv 1) pa_nil))) (pg_name (i := 3) sc__law_names.nd rfl (Or.inl rfl)) (pss_cons (ps_set (i := 4) sc__law_names.nd rfl (Or.inl rfl) (pe_call G__law_name (hr.mono (by decide)) rfl T.m__law_name T.F__law_name.kp T.b__law_name .nil pass0 (pa_cons (pv 0) pa_nil)))
      (pss_mid (ps_if (PW.pt (pw_and (pt_cmpR op_gt (pe_callB call_lenK (by rfl) T.z_len PySem.boot_len (pa_cons (pv 2) pa_nil)) pe_int (nomark _)) (pw_and1 (pt_cmpR op_eq (pe_call G__law_take (hr.mono (by decide)) rfl T.m__law_take T.F__law_take.kp T.b__law_take .nil pass0 (pa_cons (pv 0) (pa_cons pe_int pa_nil))) pe_int (nomark _))))) (pss_one (ps_set (i := 4) sc__law_names.nd rfl (Or.inl rfl) (pe_op op_add_str (pe_slice sl_str (pe_ix ix_list (pv 2) (pe_un un_neg pe_int) (fun _ _ => rfl)) po_none (po_some pe_int)) (pe_ix ix_str pe_str (pe_call G__law_take (hr.mono (by decide)) rfl T.m__law_take T.F__law_take.kp T.b__law_take .nil pass0 (pa_cons (pv 0) (pa_cons pe_int pa_nil))) (fun _ _ => rfl))))) pss_nil)
      (pss_cons (ps_stop (ps_for PassesOwn.never rfl (pi_wait (pi_list (by exact (pe_lst (pa_cons pe_str (pa_cons pe_str (pa_cons pe_str (pa_cons pe_str (pa_cons pe_str (pa_cons pe_str (pa_cons pe_str (pa_cons pe_str (pa_cons pe_str (pa_cons pe_str (pa_cons pe_str (pa_cons pe_str (pa_cons pe_str (pa_cons pe_str (pa_cons pe_str (pa_cons pe_str pa_nil)))))))))))))))))))) (pg_name (i := 5) sc__law_names.nd rfl (Or.inl rfl)) (pss_one (ps_if (pt_cmpR op_in_seq (pv 4) (pv 2) (by rfl)) (pss_one (ps_set (i := 4) sc__law_names.nd rfl (Or.inl rfl) (pv 5))) pss_nil))))
      (pss_one (ps_expr (pe_bm PySem.F.plainAttrs_list PySem.F.slot_list_append PySem.F.type_list_append mt_append (pv 2) (pa_cons (pv 4) pa_nil)))))))))
      (pss_one (ps_ret (pv 2))))), ?_⟩
    refine ⟨Nat.zero_le _, fun D hD => ?_⟩
    have nD := B.fresh hD
    refine stop_in ⟨_, rfl, m, rfl, by omega, by omega, ?_⟩
    refine wait ?_
    refine forR (lo := 0) (n := m.toNat) (fun i σ H' => ∃ (u3 u4 u5 : Option V) (ws : List Str) (n' : Int), σ = [some (.ref b), some (.int m), some (.ref D), u3, u4, u5] ∧ ws.length = i ∧ ws.Nodup ∧ (∀ w ∈ ws, IsName w) ∧ H' D = some (.lst (ws.map V.str)) ∧
      BoxAt H' b g l n' ∧ n' ≤ n + 12 * i ∧ (∀ x o, x ≠ b → x ≠ g → x ≠ D → H x = some o → H' x = some o)) ?_ ?_ ?_
    · exact ⟨_, _, _, [], n, rfl, rfl, .nil, (fun _ h => nomatch h), upd_same, B.upd nD, by omega, fun x o _ _ h3 e => upd_get h3 e⟩
    · rintro i σ H1 hi ⟨u3, u4, u5, ws, n1, rfl, hl, hd, hw, h1, B1, hn1, k1⟩
      walk_at "go"
      intro w2 n2 H2 hw2 B2 hn2 k2
      have h2 := k2 _ _ nD.1 nD.2.1 h1
      refine mid_of (fun σ H3 => ∃ (w3 : Str) (n3 : Int), σ = [some (.ref b), some (.int m), some (.ref D), some (.int (0 + i)), some (.str w3), u5] ∧ IsName w3 ∧ BoxAt H3 b g l n3 ∧ n3 ≤ n2 + 2 ∧ Keep2 b g H2 H3) ?_ ?_
      · walk_at "go"
        refine ifD (fun e => ?_) (fun _ => ?_)
        · walk_at "go"
          intro r3 H3 r30 r31 B3 k3
          have h3 := k3 _ _ nD.1 nD.2.1 h2
          walk_at "go"
          refine ifD (fun _ => ?_) (fun _ => ?_)
          · have e2 : 0 < ws.length := by rw [List.length_map] at e; omega
            obtain ⟨u, hu⟩ : ∃ u, ws[ws.length - 1]? = some u := ⟨_, List.getElem?_eq_getElem (by omega)⟩
            have hix : atI (ws.map V.str) (-1) = some (.str u) := by
              unfold atI ixN
              rw [List.length_map, if_neg (by decide), if_pos (by omega), Option.bind_some, List.getElem?_map, show ((-1 : Int) + (ws.length : Int)).toNat = ws.length - 1 by omega, hu] <;> rfl
            have hun := hw u (List.mem_of_getElem? hu)
            have hul : u.length ≤ sizeLine := small_le (by have := hun.hi; omega)
            have al := abc_len
            walk_at "go"
            intro r4 H4 r40 r41 B4 k4
            obtain ⟨c, e4, c0, c1⟩ := abc_at r40 r41
            have hnn := name_app hun c0 c1
            have hln : (cutS u none (some 7)).length + (⟨#[c]⟩ : Str).length ≤ sizeLine := small_le (by
              have := cutS_length u none (some 7)
              have := hun.hi
              show _ + 1 ≤ _
              omega)
            walk_at "go"
            exact wait ⟨_, _, rfl, hnn, B4, by omega, k3.trans k4⟩
          · exact wait ⟨_, _, rfl, hw2, B3, by omega, k3⟩
        · refine ifF rfl ?_
          exact wait ⟨_, _, rfl, hw2, B2, by omega, Keep2.refl _ _ _⟩
      · rintro σ H3 ⟨w3, n3, rfl, hw3, B3, hn3, k3⟩
        have h3 := k3 _ _ nD.1 nD.2.1 h2
        refine sq_seq (stop_in ⟨by decide, fun L hL => ⟨L, rfl, ⟨_, SqL.of upd_same⟩, ?_⟩⟩)
        have nLD : D ≠ L := ne_of_none h3 hL
        refine wait ?_
        refine forL (K := K) (a := L) (xs := spares.map V.str) (fun j σ H4 => H4 = upd H3 L (.lst (spares.map V.str)) ∧ ∃ (w4 : Str) (u5 : Option V), σ = [some (.ref b), some (.int m), some (.ref D), some (.int (0 + i)), some (.str w4), u5] ∧ IsName w4 ∧ (w4 ∉ ws ∨ ∀ v ∈ spares.take j, v ∈ ws)) ?_ ?_ ?_ ?_
        · exact ⟨rfl, w3, u5, rfl, hw3, .inr fun v hv => nomatch hv⟩
        · rintro j σ H4 _ ⟨rfl, _⟩
          exact SqL.of upd_same
        · rintro j x σ H4 hj ⟨rfl, w4, u5', rfl, hw4, hor⟩
          rw [List.getElem?_map] at hj
          obtain ⟨v, hv, rfl⟩ := Option.map_eq_some_iff.mp hj
          have fl := flat_strs1 ws
          have h4 : upd H3 L (.lst (spares.map V.str)) D = some (.lst (ws.map V.str)) := upd_get nLD h3
          refine ⟨_, rfl, _, rfl, D, _, rfl, .inl (SqL.of h4), rfl, fl, ?_⟩
          rw [if_neg (by decide), in_strs]
          refine ⟨_, rfl, ifD (fun e => ?_) (fun e => ?_)⟩
          · walk_at "go"
            refine wait ⟨rfl, v, _, rfl, spares_ok v (List.mem_of_getElem? hv), ?_⟩
            rcases hor with z | z
            · exact absurd e z
            · by_cases y : v ∈ ws
              · refine .inr fun u hu => ?_
                rw [List.take_add_one, hv, Option.toList_some] at hu
                rcases List.mem_append.mp hu with t | t
                · exact z u t
                · rw [List.mem_singleton.mp t]; exact y
              · exact .inl y
          · exact wait ⟨rfl, w4, _, rfl, hw4, .inl e⟩
        · rintro σ H4 ⟨rfl, w4, u5', rfl, hw4, hor⟩
          have h4 : upd H3 L (.lst (spares.map V.str)) D = some (.lst (ws.map V.str)) := upd_get nLD h3
          have hno : w4 ∉ ws := by
            rcases hor with z | z
            · exact z
            · exfalso
              have := nodup_sub_len spares_nd fun v hv => z v (by rw [List.length_map, List.take_length]; exact hv)
              have e16 : spares.length = 16 := rfl
              omega
          have nL := B3.fresh hL
          walk_at "go"
          refine ⟨small_lt (by rw [List.length_map]; omega), wait ⟨_, _, _, ws ++ [w4], n3, rfl, by rw [List.length_append, hl] <;> rfl, ?_, ?_, ?_, (B3.upd nL).upd nD, by omega, ?_⟩⟩
          · exact nodup_snoc hd hno
          · intro x hx
            rcases List.mem_append.mp hx with z | z
            · exact hw x z
            · rw [List.mem_singleton.mp z]; exact hw4
          · rw [upd_same, List.map_append] <;> rfl
          · intro x o a1 a2 a3 e
            have e3 := k3 x o a1 a2 (k2 x o a1 a2 (k1 x o a1 a2 a3 e))
            rw [upd_ne a3, upd_ne (ne_of_none e3 hL)]
            exact e3
    · rintro σ H' ⟨u3, u4, u5, ws, n1, rfl, hl, hd, hw, h1, B1, hn1, k1⟩
      walk_at "go"
      exact q D ws n1 _ (by omega) hd hw hD h1 B1 (by omega) fun x o a1 a2 e => k1 x o a1 a2 (ne_of_none e hD) e
end
end Pf
set_option Elab.async false
set_option linter.all false
set_option maxRecDepth 100000
set_option maxHeartbeats 4000000
namespace Pf
open PySem L2
local macro_rules | `(tactic| walk_at "nz") => `(tactic| (show (_ : Int) ≠ 0; omega))
local macro_rules | `(tactic| walk_at "ne") => `(tactic| first | assumption | (apply Ne.symm; assumption))
local macro_rules | `(tactic| walk_at "hp") => `(tactic| first | assumption | exact upd_same | (refine upd_get ?_ ?_; walk_at "ne"; walk_at "hp"))
local macro_rules | `(tactic| walk_at "sd") => `(tactic| first
  | (with_reducible show (_ : Int) < _; omega)
  | (with_reducible show (_ : Int) ≤ _; omega)
  | (with_reducible show (_ : Nat) < _; omega)
  | (with_reducible show (_ : Nat) ≤ _; omega)
  | rfl
  | assumption
  | exact kV_int _
  | exact kV_str _
  | (show (_ : Int) ≠ 0; omega)
  | exact SqL.of (by walk_at "hp")
  | exact ⟨_, SqL.of (by walk_at "hp")⟩
  | exact ⟨_, SqT.of (by walk_at "hp")⟩
  | exact ⟨_, (by assumption)⟩
  | exact SqT.of (by walk_at "hp")
  | exact Rd.of (by walk_at "hp")
  | exact Or.inl (SqL.of (by walk_at "hp"))
  | exact Or.inr (SqT.of (by walk_at "hp"))
  | exact Or.inr (by assumption)
  | (walk_at "hp")
  | (exact Or.inl ⟨rfl, _, SqL.of (by walk_at "hp")⟩)
  | (exact Or.inl ⟨by omega, by omega⟩)
  | (exact Or.inr ⟨by omega, by omega⟩)
  | (refine ⟨?_, ?_, ?_⟩ <;> omega)
  | omega
  | (exact small_le (by first | omega | (simp only [List.length_cons, List.length_nil]; omega)))
  | (exact small_lt (by first | omega | (simp only [List.length_cons, List.length_nil]; omega)))
  | exact Nat.le_of_ble_eq_true rfl
  | exact ⟨_, rfl⟩
  | decide)
local macro_rules | `(tactic| walk_at "st") => `(tactic| first
  | with_reducible refine sq_seq ?_
  | apply Exists.intro
  | (refine And.intro ?_ ?_; (walk_at "sd")))
local macro_rules | `(tactic| walk_at "go") => `(tactic| repeat (walk_at "st"))
section
variable {P : Program} {w : World} {K : PySem.W.Frag} {mg : Str → Option Value} {base : Heap} {a : Ad}
theorem BoxAt.tups {H H' : Hp} {b g l : Addr} {n : Int} (B : BoxAt H b g l n) (k : Keep2 b g H H') : ∀ t ys, H t = some (.tup ys) → H' t = some (.tup ys) := fun t ys e => by
  obtain ⟨⟨_, h1⟩, ⟨_, h2⟩, _⟩ := B.lists
  exact k _ _ (ne_of e h1 (by intro z; cases z)) (ne_of e h2 (by intro z; cases z)) e
theorem cutV_from (xs : List V) (k : Nat) : cutV xs (some (k : Int)) none = xs.drop k := by
  unfold cutV
  rw [HT.sIx_nat, HT.sIx_none]
  by_cases h : k ≤ xs.length
  · rw [Nat.min_eq_left h, List.take_of_length_le (by rw [List.length_drop] <;> omega)]
  · rw [Nat.min_eq_right (by omega), List.drop_eq_nil_of_le (by omega), List.drop_eq_nil_of_le (by omega), List.take_nil]
theorem cutV_to (xs : List V) (k : Nat) : cutV xs none (some (k : Int)) = xs.take k := by
  unfold cutV
  rw [HT.sIx_nat, HT.sIx_none, List.drop_zero, Nat.sub_zero]
  by_cases h : k ≤ xs.length
  · rw [Nat.min_eq_left h]
  · rw [Nat.min_eq_right (by omega), List.take_of_length_le (by omega), List.take_of_length_le (by omega)]
theorem cutV_f1 (xs : List V) : cutV xs (some 1) none = xs.drop 1 := cutV_from xs 1
theorem cutV_t1 (xs : List V) : cutV xs none (some 1) = xs.take 1 := cutV_to xs 1
theorem drop_take_perm {α : Type} (l : List α) (k : Nat) : (l.drop k ++ l.take k).Perm l := (List.perm_append_comm).trans (by rw [List.take_append_drop])
/-! ### pairs -/
structure Pr where
  near : Str
  far : Str
  laden : Bool
def PrAt (H : Hp) (e : Addr × Pr) : Prop := H e.1 = some (.tup [.str e.2.near, .str e.2.far, .bl e.2.laden])
structure PairsAt (H : Hp) (D : Addr) (L : List (Addr × Pr)) : Prop where
  ls : H D = some (.lst (L.map fun e => V.ref e.1))
  at_ : ∀ e ∈ L, PrAt H e
theorem PairsAt.keep {H H' : Hp} {D : Addr} {L : List (Addr × Pr)} (h : PairsAt H D L) (k : ∀ o, H D = some o → H' D = some o) (kt : ∀ t ys, H t = some (.tup ys) → H' t = some (.tup ys)) : PairsAt H' D L :=
  ⟨k _ h.ls, fun e he => kt _ _ (h.at_ e he)⟩
theorem PairsAt.same {H H' : Hp} {D : Addr} {L : List (Addr × Pr)} (h : PairsAt H D L) (k : Same H H') : PairsAt H' D L := h.keep (fun o e => k _ _ e) fun t ys e => k _ _ e
structure Good (ps : List Pr) : Prop where
  len : ps.length ≤ 6
  nn : (ps.map (·.near)).Nodup
  nf : (ps.map (·.far)).Nodup
  kn : ∀ p ∈ ps, IsName p.near
  kf : ∀ p ∈ ps, IsName p.far
def spPairs : Sp := fun vs H Q _ => ∃ (b g l : Addr) (n m : Int), vs = [.ref b, .int m] ∧ BoxAt H b g l n ∧ n ≤ 700000 ∧ 0 ≤ m ∧ m ≤ 6 ∧
  ∀ (D : Addr) (L : List (Addr × Pr)) (n' : Int) (H' : Hp), Good (L.map (·.2)) → H D = none → PairsAt H' D L → (∀ e ∈ L, H e.1 = none) → BoxAt H' b g l n' → n' ≤ n + 200 → Keep2 b g H H' → Q (.ref D) H'
theorem keep_none {b g : Addr} {H H' : Hp} {x : Addr} (k : Keep2 b g H H') (n1 : x ≠ b) (n2 : x ≠ g) (h : H' x = none) : H x = none := by
  cases z : H x with
  | none => rfl
  | some o => rw [k x o n1 n2 z] at h; cases h
theorem ok__law_pairs (T : Txt K mg a) : FnOk P w K mg base CX0 5 a.f__law_pairs a.d__law_pairs ["_law_box_here", "_law_most"] spPairs := by
  have G__law_take := ok__law_take (P := P) (w := w) (base := base) T
  have G__law_names := ok__law_names (P := P) (w := w) (base := base) T
  refine T.F__law_pairs.ok sc__law_pairs (fun vs H Q E h => ?_) (fun cdv A outer s H vs Q E hr h => ?_)
  · obtain ⟨b, g, l, n, m, rfl, _⟩ := h
    rfl
  · obtain ⟨b, g, l, n, m, rfl, B, hn, m0, m1, q⟩ := h
    refine ⟨_, (pss_cons (ps_set (i := 2) sc__law_pairs.nd rfl (Or.inl rfl) (pe_call G__law_names (hr.mono (by decide)) rfl T.m__law_names T.F__law_names.kp T.b__law_names .nil pass0 (pa_cons (pv 0) (pa_cons (pe_call G__law_take (hr.mono (by decide)) rfl T.m__law_take T.F__law_take.kp T.b__law_take .nil pass0 (pa_cons (pv 0) (pa_cons (pe_op op_add (pv 1) pe_int) pa_nil))) pa_nil))))
      (pss_cons (ps_set (i := 3) sc__law_pairs.nd rfl (Or.inl rfl) (pe_call G__law_names (hr.mono (by decide)) rfl T.m__law_names T.F__law_names.kp T.b__law_names .nil pass0 (pa_cons (pv 0) (pa_cons (pe_callB call_lenK (by rfl) T.z_len PySem.boot_len (pa_cons (pv 2) pa_nil)) pa_nil))))
      (pss_mid (ps_if (pt_cmpR op_eq (pe_call G__law_take (hr.mono (by decide)) rfl T.m__law_take T.F__law_take.kp T.b__law_take .nil pass0 (pa_cons (pv 0) (pa_cons pe_int pa_nil))) pe_int (nomark _)) (pss_one (ps_set (i := 3) sc__law_pairs.nd rfl (Or.inl rfl) (pe_op op_cat (pe_slice sl_list (pv 2) (po_some pe_int) po_none) (pe_slice sl_list (pv 2) po_none (po_some pe_int))))) pss_nil)
      (pss_one (ps_ret (pe_lc (own := [("_law_near", 4), ("_law_far", 5)]) (g := gTup K 2 (gCons (gName 4) (gCons (gName 5) gNil))) (tt := tYes) rfl sc__law_pairs.nd (pi_zip rfl T.z_zip (pa_cons (pv 2) (pa_cons (pv 3) pa_nil))) (blkOk_by (own := [("_law_near", 4), ("_law_far", 5)]) (N := n__law_pairs) (sc := defScope s__law_pairs) (by decide +kernel)) (fun _ _ _ _ _ => (pg_tup rfl (pgs_cons (pg_name (i := 4) sc__law_pairs.nd rfl (Or.inl rfl)) (pgs_cons (pg_name (i := 5) sc__law_pairs.nd rfl (Or.inl rfl)) pgs_nil)))) (fun _ _ _ _ _ => pts_nil) (fun _ _ _ _ _ => (pe_tup (pa_cons (pv 4) (pa_cons (pv 5) (pa_cons (pe_cmpR op_eq (pe_call G__law_take (hr.mono (by decide)) rfl T.m__law_take T.F__law_take.kp T.b__law_take .nil pass0 (pa_cons (pv 0) (pa_cons pe_int pa_nil))) pe_int (nomark _)) pa_nil))))))))))), ?_⟩
    walk_at "go"
    intro r1 H1 r10 r11 B1 k1
    walk_at "go"
    intro N ns n2 H2 hl2 nd2 hn2 hN h2 B2 hb2 k2
    have nN := B1.fresh hN
    have lm : (ns.map V.str).length = ns.length := List.length_map _
    walk_at "go"
    intro F fs n3 H3 hl3 nd3 hn3 hF h3 B3 hb3 k3
    have nF := B2.fresh hF
    have h3N := k3 _ _ nN.1 nN.2.1 h2
    refine mid_of (fun σ H4 => ∃ (F' : Addr) (fs' : List Str) (n4 : Int), σ = [some (.ref b), some (.int m), some (.ref N), some (.ref F'), none, none] ∧ H4 N = some (.lst (ns.map V.str)) ∧ H4 F' = some (.lst (fs'.map V.str)) ∧ fs'.length = ns.length ∧ fs'.Nodup ∧ (∀ w ∈ fs', IsName w) ∧ BoxAt H4 b g l n4 ∧ n4 ≤ n3 + 1 ∧ F' ≠ b ∧ F' ≠ g ∧ Keep2 b g H3 H4) ?_ ?_
    · walk_at "go"
      intro r4 H4 r40 r41 B4 k4
      have h4N := k4 _ _ nN.1 nN.2.1 h3N
      have h4F := k4 _ _ nF.1 nF.2.1 h3
      walk_at "go"
      refine ifD (fun _ => ?_) (fun _ => ?_)
      · walk_at "go"
        intro p5 hp5
        rw [cutV_f1]
        have h5N := Same.upd_new (o := .lst ((ns.map V.str).drop 1)) hp5 _ _ h4N
        have B5 := B4.same (Same.upd_new (o := .lst ((ns.map V.str).drop 1)) hp5)
        walk_at "go"
        intro p6 hp6
        rw [cutV_t1]
        have n56 : p5 ≠ p6 := fun z => by rw [← z, upd_same] at hp6; cases hp6
        have h6N := Same.upd_new (o := .lst ((ns.map V.str).take 1)) hp6 _ _ h5N
        have B6 := B5.same (Same.upd_new (o := .lst ((ns.map V.str).take 1)) hp6)
        have hsz : ((ns.map V.str).drop 1).length + ((ns.map V.str).take 1).length ≤ sizeLine := small_le (by rw [List.length_drop, List.length_take]; omega)
        walk_at "go"
        intro p7 hp7
        have h7N := Same.upd_new (o := .lst ((ns.map V.str).drop 1 ++ (ns.map V.str).take 1)) hp7 _ _ h6N
        have B7 := B6.same (Same.upd_new (o := .lst ((ns.map V.str).drop 1 ++ (ns.map V.str).take 1)) hp7)
        have f7 := B6.fresh hp7
        have pp := drop_take_perm ns 1
        refine wait ⟨p7, ns.drop 1 ++ ns.take 1, _, rfl, h7N, ?_, ?_, ?_, fun x hx => hn2 x (pp.mem_iff.mp hx), B7, by omega, f7.1, f7.2.1, ?_⟩
        · rw [upd_same, List.map_append, List.map_drop, List.map_take]
        · exact pp.length_eq
        · exact pp.nodup_iff.mpr nd2
        · exact k4.trans fun x o _ _ e => Same.upd_new hp7 _ _ (Same.upd_new hp6 _ _ (Same.upd_new hp5 _ _ e))
      · refine wait ⟨F, fs, _, rfl, h4N, h4F, ?_, nd3, hn3, B4, by omega, nF.1, nF.2.1, k4⟩
        rw [List.length_map] at hl3
        omega
    · rintro σ H4 ⟨F', fs', n4, rfl, h4N, h4F, hl4, nd4, hn4, B4, hb4, nF1, nF2, k4⟩
      have lmf : (fs'.map V.str).length = fs'.length := List.length_map _
      have back : ∀ x, H4 x = none → H x = none := fun x hx => by
        have nx := B4.fresh hx
        exact keep_none k1 nx.1 nx.2.1 (keep_none k2 nx.1 nx.2.1 (keep_none k3 nx.1 nx.2.1 (keep_none k4 nx.1 nx.2.1 hx)))
      walk_at "go"
      intro D hD
      have nD := B4.fresh hD
      refine lcW (walk_zip (K := K) (xs := ns.map V.str) (ys := fs'.map V.str) (n := ns.length) (by omega)) (fun i H' => ∃ (L : List (Addr × Pr)) , L.length = i ∧ L.map (·.2.near) = ns.take i ∧ L.map (·.2.far) = fs'.take i ∧ PairsAt H' D L ∧ (∀ e ∈ L, H4 e.1 = none ∧ e.1 ≠ D) ∧ BoxAt H' b g l (n4 + i) ∧ (∀ x o, x ≠ b → x ≠ g → x ≠ D → H4 x = some o → H' x = some o)) ?_ ?_ ?_ ?_
      · exact ⟨[], rfl, rfl, rfl, ⟨upd_same, fun _ h => nomatch h⟩, (fun _ h => nomatch h), by rw [show n4 + ((0 : Nat) : Int) = n4 by omega]; exact B4.upd nD, fun x o _ _ a3 e => upd_get a3 e⟩
      · rintro i H' _ ⟨L, _, _, _, _, _, _, k5⟩
        exact ⟨SqL.of (k5 _ _ nN.1 nN.2.1 (ne_of_none h4N hD) h4N), SqL.of (k5 _ _ nF1 nF2 (ne_of_none h4F hD) h4F)⟩
      · rintro i x H5 H6 hi ⟨L, hL, e1, e2, PA, fr, B5, k5⟩ ⟨t, x1, x2, rfl, ht, rfl, hx1, hx2⟩
        have s6 : Same H5 (upd H5 t (.tup [x1, x2])) := Same.upd_new ht
        have hx1 : (ns.map V.str)[i]? = some x1 := hx1
        have hx2 : (fs'.map V.str)[i]? = some x2 := hx2
        rw [List.getElem?_map] at hx1 hx2
        obtain ⟨u1, hu1, rfl⟩ := Option.map_eq_some_iff.mp hx1
        obtain ⟨u2, hu2, rfl⟩ := Option.map_eq_some_iff.mp hx2
        have B6 := B5.same s6
        walk_at "go"
        intro r7 H7 r70 r71 B7 k7
        walk_at "go"
        intro p8 hp8
        have h7D := k7 _ _ nD.1 nD.2.1 (s6 _ _ PA.ls)
        have s8 : Same H7 (upd H7 p8 (.tup [.str u1, .str u2, .bl (decide (V.int r7 = V.int 1))])) := Same.upd_new hp8
        have n8D : p8 ≠ D := (ne_of_none h7D hp8).symm
        have B8 := B7.same s8
        have PA8 : PairsAt (upd H7 p8 (.tup [.str u1, .str u2, .bl (decide (V.int r7 = V.int 1))])) D L := PA.keep (fun o e => s8 _ _ (k7 _ _ nD.1 nD.2.1 (s6 _ _ e))) fun t ys e => s8 _ _ (B6.tups k7 _ _ (s6 _ _ e))
        have n8 := B7.fresh hp8
        refine ⟨_, s8 _ _ h7D, small_lt (by rw [List.length_map]; omega), wait ⟨L ++ [(p8, ⟨u1, u2, decide (V.int r7 = V.int 1)⟩)], by rw [List.length_append, hL] <;> rfl, ?_, ?_, ⟨?_, ?_⟩, ?_, ?_, ?_⟩⟩
        · rw [List.map_append, e1, List.take_add_one, hu1] <;> rfl
        · rw [List.map_append, e2, List.take_add_one, hu2] <;> rfl
        · rw [upd_same, List.map_append] <;> rfl
        · intro e he
          rcases List.mem_append.mp he with z | z
          · exact upd_get (fr e z).2 (PA8.at_ e z)
          · rw [List.mem_singleton.mp z]
            exact upd_get n8D upd_same
        · intro e he
          rcases List.mem_append.mp he with z | z
          · exact fr e z
          · rw [List.mem_singleton.mp z]
            refine ⟨?_, n8D⟩
            cases y : H4 p8 with
            | none => rfl
            | some o => rw [k7 _ _ n8.1 n8.2.1 (s6 _ _ (k5 _ _ n8.1 n8.2.1 n8D y))] at hp8; cases hp8
        · rw [show n4 + ((i + 1 : Nat) : Int) = n4 + (i : Int) + 1 by omega]
          exact B8.upd nD
        · exact fun x o a1 a2 a3 e => upd_get a3 (s8 _ _ (k7 x o a1 a2 (s6 _ _ (k5 x o a1 a2 a3 e))))
      · rintro H5 ⟨L, hL, e1, e2, PA, fr, B5, k5⟩
        have ef : L.map (fun e => e.2.far) = fs' := by rw [e2, ← hl4, List.take_length]
        rw [List.take_length] at e1
        refine q D L _ _ ⟨?_, ?_, ?_, ?_, ?_⟩ ?_ PA ?_ B5 ?_ ?_
        · rw [List.length_map]; omega
        · rw [List.map_map]; exact e1 ▸ nd2
        · rw [List.map_map]; exact ef ▸ nd4
        · intro p hp
          obtain ⟨e, he, rfl⟩ := List.mem_map.mp hp
          exact hn2 _ (by rw [← e1]; exact List.mem_map.mpr ⟨e, he, rfl⟩)
        · intro p hp
          obtain ⟨e, he, rfl⟩ := List.mem_map.mp hp
          exact hn4 _ (by rw [← ef]; exact List.mem_map.mpr ⟨e, he, rfl⟩)
        · exact back _ hD
        · exact fun e he => back _ (fr e he).1
        · omega
        · intro x o a1 a2 e
          have e4 := k4 x o a1 a2 (k3 x o a1 a2 (k2 x o a1 a2 (k1 x o a1 a2 e)))
          exact k5 x o a1 a2 (ne_of_none e4 hD) e4
end
end Pf
set_option Elab.async false
set_option linter.all false
set_option maxRecDepth 100000
set_option maxHeartbeats 4000000
namespace Pf
open PySem L2
local macro_rules | `(tactic| walk_at "nz") => `(tactic| (show (_ : Int) ≠ 0; omega))
local macro_rules | `(tactic| walk_at "ne") => `(tactic| first | assumption | (apply Ne.symm; assumption))
local macro_rules | `(tactic| walk_at "hp") => `(tactic| first | assumption | exact upd_same | (refine upd_get ?_ ?_; walk_at "ne"; walk_at "hp"))
local macro_rules | `(tactic| walk_at "sd") => `(tactic| first
  | (with_reducible show (_ : Int) < _; omega)
  | (with_reducible show (_ : Int) ≤ _; omega)
  | (with_reducible show (_ : Nat) < _; omega)
  | (with_reducible show (_ : Nat) ≤ _; omega)
  | rfl
  | assumption
  | exact kV_int _
  | exact kV_str _
  | (show (_ : Int) ≠ 0; omega)
  | exact SqL.of (by walk_at "hp")
  | exact ⟨_, SqL.of (by walk_at "hp")⟩
  | exact ⟨_, SqT.of (by walk_at "hp")⟩
  | exact ⟨_, (by assumption)⟩
  | exact SqT.of (by walk_at "hp")
  | exact Rd.of (by walk_at "hp")
  | exact Or.inl (SqL.of (by walk_at "hp"))
  | exact Or.inr (SqT.of (by walk_at "hp"))
  | exact Or.inr (by assumption)
  | (walk_at "hp")
  | (exact Or.inl ⟨rfl, _, SqL.of (by walk_at "hp")⟩)
  | (exact Or.inl ⟨by omega, by omega⟩)
  | (exact Or.inr ⟨by omega, by omega⟩)
  | (refine ⟨?_, ?_, ?_⟩ <;> omega)
  | omega
  | (exact small_le (by first | omega | (simp only [List.length_cons, List.length_nil]; omega)))
  | (exact small_lt (by first | omega | (simp only [List.length_cons, List.length_nil]; omega)))
  | exact Nat.le_of_ble_eq_true rfl
  | exact ⟨_, rfl⟩
  | decide)
local macro_rules | `(tactic| walk_at "st") => `(tactic| first
  | with_reducible refine sq_seq ?_
  | apply Exists.intro
  | (refine And.intro ?_ ?_; (walk_at "sd")))
local macro_rules | `(tactic| walk_at "go") => `(tactic| repeat (walk_at "st"))
section
variable {P : Program} {w : World} {K : PySem.W.Frag} {mg : Str → Option Value} {base : Heap} {a : Ad}
/-! ### Pacts -/
def nameB (w : Str) : Bool := (decide (1 ≤ w.length) && decide (w.length ≤ 8)) && w.cps.toList.all fun c => decide (c ∈ (Str.ofString "abcdefghijklmnopqrstuvwxyz").cps.toList)
theorem mem_abc {c : Nat} : c ∈ (Str.ofString "abcdefghijklmnopqrstuvwxyz").cps.toList ↔ 97 ≤ c ∧ c ≤ 122 := by
  rw [abc_cps, List.mem_map]
  constructor
  · rintro ⟨k, hk, rfl⟩
    have := List.mem_range.mp hk
    omega
  · intro h
    exact ⟨c - 97, List.mem_range.mpr (by omega), by omega⟩
theorem nameB_iff {w : Str} : nameB w = true ↔ IsName w := by
  unfold nameB
  rw [Bool.and_eq_true, Bool.and_eq_true, List.all_eq_true]
  constructor
  · intro h
    exact ⟨of_decide_eq_true h.1.1, of_decide_eq_true h.1.2, fun c hc => mem_abc.mp (of_decide_eq_true (h.2 c hc))⟩
  · intro h
    exact ⟨⟨decide_eq_true h.lo, decide_eq_true h.hi⟩, fun c hc => decide_eq_true (mem_abc.mpr (h.cs c hc))⟩
def spIsName : Sp := fun vs H Q _ => ∃ w : Str, vs = [.str w] ∧ w.length ≤ 100000 ∧ ∀ H', Same H H' → Q (.bl (nameB w)) H'
theorem ok_is_name (T : Txt K mg a) : FnOk P w K mg base CX0 1 a.f_is_name a.d_is_name ["word"] spIsName := by
  refine T.F_is_name.ok sc_is_name (fun vs H Q E h => ?_) (fun cdv A outer s H vs Q E hr h => ?_)
  · obtain ⟨w, rfl, _⟩ := h
    rfl
  · obtain ⟨w, rfl, hl, q⟩ := h
    have hsz : w.length ≤ sizeLine := small_le hl
    refine ⟨_, (pss_one (ps_ret (pe_and (pe_chain op_le op_le pe_int (pe_callB call_len_str (by rfl) T.z_len PySem.boot_len (pa_cons (pv 0) pa_nil)) (pe_globI rfl T.g_MOST)) (pe_one (pe_callB (cr_all rfl) (by rfl) T.z_all (by decide +kernel) (pa_cons (pe_lc (own := [("sign", 1)]) (g := gName 1) (tt := tYes) rfl sc_is_name.nd (pi_str (pv 0)) (blkOk_by (own := [("sign", 1)]) (N := n_is_name) (sc := defScope s_is_name) (by decide +kernel)) (fun _ _ _ _ _ => (pg_name (i := 1) sc_is_name.nd rfl (Or.inl rfl))) (fun _ _ _ _ _ => pts_nil) (fun _ _ _ _ _ => (pe_cmpR op_in_str (pv 1) (pe_globS rfl T.g_LETTERS) rfl))) pa_nil)))))), ?_⟩
    walk_at "go"
    refine ifD (fun h1 => ?_) (fun h1 => ?_)
    · walk_at "go"
      refine ifD (fun h2 => ?_) (fun h2 => ?_)
      · walk_at "go"
        intro D hD
        refine lcW (walk_str (z := w)) (fun i H' => H' D = some (.lst ((((w.cps.toList.take i).map fun c => decide (c ∈ (Str.ofString "abcdefghijklmnopqrstuvwxyz").cps.toList))).map V.bl)) ∧ Same H H') ?_ ?_ ?_ ?_
        · exact ⟨upd_same, Same.upd_new hD⟩
        · exact fun _ _ _ _ => trivial
        · rintro i x H1 _ hi ⟨g1, g2⟩ ⟨rfl, c, hc, rfl⟩
          have hc2 : w.cps.toList[i]? = some c := by rw [Array.getElem?_toList]; exact hc
          have hlt : (w.cps.toList.take i).length ≤ 8 := by
            rw [List.length_take, Array.length_toList]
            have : w.length = w.cps.size := rfl
            omega
          refine ⟨rfl, ?_⟩
          walk_at "go"
          refine ⟨small_lt (by rw [List.length_map, List.length_map]; omega), wait ⟨?_, fun x o e => upd_get (ne_of_none e hD) (g2 x o e)⟩⟩
          rw [upd_same, StrLaws.found_one, List.take_add_one, hc2, List.map_append, List.map_append] <;> rfl
        · rintro H1 ⟨g1, g2⟩
          walk_at "go"
          have e1 : nameB w = ((w.cps.toList.take w.cps.size).map fun c => decide (c ∈ (Str.ofString "abcdefghijklmnopqrstuvwxyz").cps.toList)).all id := by
            rw [List.take_of_length_le (by rw [Array.length_toList] <;> omega), List.all_map]
            unfold nameB
            rw [decide_eq_true (show 1 ≤ w.length by omega), decide_eq_true (show w.length ≤ 8 by omega)] <;> rfl
          rw [← e1]
          exact q _ g2
      · have e1 : nameB w = false := by
          unfold nameB
          rw [decide_eq_false (show ¬ w.length ≤ 8 by omega), Bool.and_false, Bool.false_and]
        rw [← e1]
        exact q _ (fun _ _ e => e)
    · have e1 : nameB w = false := by
        unfold nameB
        rw [decide_eq_false (show ¬ 1 ≤ w.length by omega), Bool.false_and, Bool.false_and]
      refine ⟨_, rfl, ifF rfl ?_⟩
      rw [← e1]
      exact q _ (fun _ _ e => e)
abbrev pf (kp kd : Addr) : List (Str × V) := [(("kept_pairs" : Str), V.ref kp), (("kept_pacts" : Str), V.ref kd)]
structure PactsAt (C : Addr) (H : Hp) (x kp kd : Addr) (L : List (Addr × Pr)) (kvs : List (Key × V)) : Prop where
  ob : ∃ dx, H x = some (.ins C dx (pf kp kd))
  pr : PairsAt H kp L
  pc : H kd = some (.dK kvs)
theorem PactsAt.same {C : Addr} {H H' : Hp} {x kp kd : Addr} {L : List (Addr × Pr)} {kvs : List (Key × V)} (h : PactsAt C H x kp kd L kvs) (k : Same H H') : PactsAt C H' x kp kd L kvs := by
  obtain ⟨dx, ho⟩ := h.ob
  exact ⟨⟨dx, k _ _ ho⟩, h.pr.same k, k _ _ h.pc⟩
def Pr.word (p : Pr) (s : Int) : Str := if s = 0 then p.near else p.far
theorem pr_at (p : Pr) {s : Int} (hs : s = 0 ∨ s = 1) : atI [V.str p.near, .str p.far, .bl p.laden] s = some (.str (p.word s)) := by
  rcases hs with rfl | rfl <;> rfl
theorem pr_at1 (p : Pr) {s : Int} (hs : s = 0 ∨ s = 1) : atI [V.str p.near, .str p.far, .bl p.laden] (1 - s) = some (.str (p.word (1 - s))) := by
  rcases hs with rfl | rfl <;> rfl
def spWords (C : Addr) : Sp := fun vs H Q _ => ∃ (x kp kd : Addr) (L : List (Addr × Pr)) (kvs : List (Key × V)) (s : Int), vs = [.ref x, .int s] ∧ PactsAt C H x kp kd L kvs ∧ (s = 0 ∨ s = 1) ∧ L.length ≤ 10000 ∧
  ∀ D H', H D = none → H' D = some (.lst ((L.map fun e => e.2.word s).map V.str)) → Same H H' → Q (.ref D) H'
theorem ok_Pacts_words_called (T : Txt K mg a) : FnOk P w K mg base CX0 1 a.f_Pacts_words_called a.d_Pacts_words_called ["self", "side"] (spWords a.c_Pacts) := by
  have cl := T.cl_Pacts
  have n1 := T.na_Pacts_kept_pairs
  refine T.F_Pacts_words_called.ok sc_Pacts_words_called (fun vs H Q E h => ?_) (fun cdv A outer s H vs Q E hr h => ?_)
  · obtain ⟨x, kp, kd, L, kvs, s, rfl, _⟩ := h
    rfl
  · obtain ⟨x, kp, kd, L, kvs, s, rfl, PA, hs, hl, q⟩ := h
    obtain ⟨dx, ho⟩ := PA.ob
    have hls := PA.pr.ls
    refine ⟨_, (pss_one (ps_ret (pe_lc (own := [("pair", 2)]) (g := gName 2) (tt := tYes) (te := (tOp (rIxT K) _ _)) rfl sc_Pacts_words_called.nd (pi_list (by exact (pe_fld (pv 0) rfl))) (blkOk_by (own := [("pair", 2)]) (N := n_Pacts_words_called) (sc := defScope s_Pacts_words_called) (by decide +kernel)) (fun _ _ _ _ _ => (pg_name (i := 2) sc_Pacts_words_called.nd rfl (Or.inl rfl))) (fun _ _ _ _ _ => pts_nil) (fun _ _ _ _ _ => (pe_ix ix_tup (pv 2) (pv 1) (fun _ _ => rfl)))))), ?_⟩
    walk_at "go"
    intro D hD
    refine lcL (K := K) (a := kp) (xs := L.map fun e => V.ref e.1) (fun i H' => H' D = some (.lst (((L.take i).map fun e => e.2.word s).map V.str)) ∧ Same H H') ?_ ?_ ?_ ?_
    · exact ⟨upd_same, Same.upd_new hD⟩
    · exact fun i H' _ h => SqL.of (h.2 _ _ hls)
    · rintro i y H' hi ⟨g1, g2⟩
      rw [List.getElem?_map] at hi
      obtain ⟨e, he, rfl⟩ := Option.map_eq_some_iff.mp hi
      have hp : H' e.1 = _ := g2 _ _ (PA.pr.at_ e (List.mem_of_getElem? he))
      have hlt := (List.getElem?_eq_some_iff.mp he).1
      have hat := pr_at e.2 hs
      refine ⟨rfl, ?_⟩
      walk_at "go"
      refine ⟨small_lt (by rw [List.length_map, List.length_map, List.length_take]; omega), wait ⟨?_, fun x o e => upd_get (ne_of_none e hD) (g2 x o e)⟩⟩
      rw [upd_same, List.take_add_one, he, List.map_append, List.map_append] <;> rfl
    · rintro H' ⟨g1, g2⟩
      rw [List.length_map, List.take_length] at g1
      walk_at "go"
      exact q D _ hD g1 g2
end
end Pf
set_option Elab.async false
set_option linter.all false
set_option maxRecDepth 100000
set_option maxHeartbeats 4000000
namespace Pf
open PySem L2
local macro_rules | `(tactic| walk_at "nz") => `(tactic| (show (_ : Int) ≠ 0; omega))
local macro_rules | `(tactic| walk_at "ne") => `(tactic| first | assumption | (apply Ne.symm; assumption))
local macro_rules | `(tactic| walk_at "hp") => `(tactic| first | assumption | exact upd_same | (refine upd_get ?_ ?_; walk_at "ne"; walk_at "hp"))
local macro_rules | `(tactic| walk_at "sd") => `(tactic| first
  | (with_reducible show (_ : Int) < _; omega)
  | (with_reducible show (_ : Int) ≤ _; omega)
  | (with_reducible show (_ : Nat) < _; omega)
  | (with_reducible show (_ : Nat) ≤ _; omega)
  | rfl
  | assumption
  | exact kV_int _
  | exact kV_str _
  | (show (_ : Int) ≠ 0; omega)
  | exact SqL.of (by walk_at "hp")
  | exact ⟨_, SqL.of (by walk_at "hp")⟩
  | exact ⟨_, SqT.of (by walk_at "hp")⟩
  | exact ⟨_, (by assumption)⟩
  | exact SqT.of (by walk_at "hp")
  | exact Rd.of (by walk_at "hp")
  | exact Or.inl (SqL.of (by walk_at "hp"))
  | exact Or.inr (SqT.of (by walk_at "hp"))
  | exact Or.inr (by assumption)
  | (walk_at "hp")
  | (exact Or.inl ⟨rfl, _, SqL.of (by walk_at "hp")⟩)
  | (exact Or.inl ⟨by omega, by omega⟩)
  | (exact Or.inr ⟨by omega, by omega⟩)
  | (refine ⟨?_, ?_, ?_⟩ <;> omega)
  | omega
  | (exact small_le (by first | omega | (simp only [List.length_cons, List.length_nil]; omega)))
  | (exact small_lt (by first | omega | (simp only [List.length_cons, List.length_nil]; omega)))
  | exact Nat.le_of_ble_eq_true rfl
  | exact ⟨_, rfl⟩
  | decide)
local macro_rules | `(tactic| walk_at "st") => `(tactic| first
  | with_reducible refine sq_seq ?_
  | apply Exists.intro
  | (refine And.intro ?_ ?_; (walk_at "sd")))
local macro_rules | `(tactic| walk_at "go") => `(tactic| repeat (walk_at "st"))
section
variable {P : Program} {w : World} {K : PySem.W.Frag} {mg : Str → Option Value} {base : Heap} {a : Ad}
def spPairsM (C : Addr) : Sp := fun vs H Q _ => ∃ (x kp kd : Addr) (L : List (Addr × Pr)) (kvs : List (Key × V)), vs = [.ref x] ∧ PactsAt C H x kp kd L kvs ∧
  ∀ D, H D = none → Q (.ref D) (upd H D (.lst (L.map fun e => V.ref e.1)))
theorem ok_Pacts_pairs (T : Txt K mg a) : FnOk P w K mg base CX0 1 a.f_Pacts_pairs a.d_Pacts_pairs ["self"] (spPairsM a.c_Pacts) := by
  have cl_Pacts := T.cl_Pacts
  have na_Pacts_kept_pairs := T.na_Pacts_kept_pairs
  have na_Pacts_kept_pacts := T.na_Pacts_kept_pacts
  refine T.F_Pacts_pairs.ok sc_Pacts_pairs (fun vs H Q E h => ?_) (fun cdv A outer s H vs Q E hr h => ?_)
  · obtain ⟨x, kp, kd, L, kvs, rfl, _⟩ := h
    rfl
  · obtain ⟨x, kp, kd, L, kvs, rfl, PA, q⟩ := h
    obtain ⟨dx, ho⟩ := PA.ob
    have hls := PA.pr.ls
    refine ⟨_, (pss_one (ps_ret (pe_callTy call_list_of (by rfl) T.z_list (by decide +kernel) (pa_cons (pe_fld (pv 0) rfl) pa_nil)))), ?_⟩
    walk_at "go"
    exact q
def spLenP (C : Addr) : Sp := fun vs H Q _ => ∃ (x kp kd : Addr) (L : List (Addr × Pr)) (kvs : List (Key × V)), vs = [.ref x] ∧ PactsAt C H x kp kd L kvs ∧ Q (.int kvs.length) H
theorem ok_Pacts___len__ (T : Txt K mg a) : FnOk P w K mg base CX0 1 a.f_Pacts___len__ a.d_Pacts___len__ ["self"] (spLenP a.c_Pacts) := by
  have cl_Pacts := T.cl_Pacts
  have na_Pacts_kept_pairs := T.na_Pacts_kept_pairs
  have na_Pacts_kept_pacts := T.na_Pacts_kept_pacts
  refine T.F_Pacts___len__.ok sc_Pacts___len__ (fun vs H Q E h => ?_) (fun cdv A outer s H vs Q E hr h => ?_)
  · obtain ⟨x, kp, kd, L, kvs, rfl, _⟩ := h
    rfl
  · obtain ⟨x, kp, kd, L, kvs, rfl, PA, q⟩ := h
    obtain ⟨dx, ho⟩ := PA.ob
    have hc := PA.pc
    refine ⟨_, (pss_one (ps_ret (pe_callB call_lenD (by rfl) T.z_len PySem.boot_len (pa_cons (pe_fld (pv 0) rfl) pa_nil)))), ?_⟩
    walk_at "go"
    exact q
def fitsP (ps : List Pr) (p : Pr) : Bool := decide (ps.length ≠ 6) && nameB p.near && nameB p.far && decide (p.near ∉ ps.map (·.near)) && decide (p.far ∉ ps.map (·.far))
def spFitsPair (C : Addr) : Sp := fun vs H Q _ => ∃ (x kp kd t : Addr) (L : List (Addr × Pr)) (kvs : List (Key × V)) (p : Pr), vs = [.ref x, .ref t] ∧ PactsAt C H x kp kd L kvs ∧ PrAt H (t, p) ∧ L.length ≤ 10000 ∧ p.near.length ≤ 100000 ∧ p.far.length ≤ 100000 ∧
  ∀ H', Same H H' → Q (.bl (fitsP (L.map (·.2)) p)) H'
theorem ok_Pacts_fits_pair (T : Txt K mg a) : FnOk P w K mg base CX0 2 a.f_Pacts_fits_pair a.d_Pacts_fits_pair ["self", "pair"] (spFitsPair a.c_Pacts) := by
  have G_is_name := ok_is_name (P := P) (w := w) (base := base) T
  have G_Pacts_words_called := ok_Pacts_words_called (P := P) (w := w) (base := base) T
  have cl_Pacts := T.cl_Pacts
  have na_Pacts_kept_pairs := T.na_Pacts_kept_pairs
  have na_Pacts_kept_pacts := T.na_Pacts_kept_pacts
  refine T.F_Pacts_fits_pair.ok sc_Pacts_fits_pair (fun vs H Q E h => ?_) (fun cdv A outer s H vs Q E hr h => ?_)
  · obtain ⟨x, kp, kd, t, L, kvs, p, rfl, _⟩ := h
    rfl
  · obtain ⟨x, kp, kd, t, L, kvs, p, rfl, PA, hp, hl, l1, l2, q⟩ := h
    obtain ⟨dx, ho⟩ := PA.ob
    have hls := PA.pr.ls
    have hp1 : H t = some (.tup [.str p.near, .str p.far, .bl p.laden]) := hp
    have lm : (L.map fun e => V.ref e.1).length = L.length := List.length_map _
    refine ⟨_, (pss_cons (ps_asg (pv 1) (pg_tup rfl (pgs_cons (pg_name (i := 2) sc_Pacts_fits_pair.nd rfl (Or.inl rfl)) (pgs_cons (pg_name (i := 3) sc_Pacts_fits_pair.nd rfl (Or.inl rfl)) (pgs_cons (pg_name (i := 4) sc_Pacts_fits_pair.nd rfl (Or.inl rfl)) pgs_nil)))))
      (pss_cons (ps_if (PW.pt (pw_or (pt_cmpR op_eq (pe_callB call_lenK (by rfl) T.z_len PySem.boot_len (pa_cons (pe_fld (pv 0) rfl) pa_nil)) (pe_globI rfl T.g_MOST_PAIRS) (nomark _)) (pw_or (pt_not (pt_val (pe_call G_is_name (hr.mono (by decide)) rfl T.m_is_name T.F_is_name.kp T.b_is_name .nil pass0 (pa_cons (pv 2) pa_nil)))) (pw_or1 (pt_not (pt_val (pe_call G_is_name (hr.mono (by decide)) rfl T.m_is_name T.F_is_name.kp T.b_is_name .nil pass0 (pa_cons (pv 3) pa_nil)))))))) (pss_one (ps_ret pe_bl)) pss_nil)
      (pss_one (ps_ret (pe_and (pe_cmpR op_notIn_seq (pv 2) (pe_meth (pv 0) T.cl_Pacts T.mt_Pacts_words_called G_Pacts_words_called (hr.mono (by decide)) T.b_Pacts_words_called .nil pass0 (pa_cons pe_int pa_nil)) (by rfl)) (pe_one (pe_cmpR op_notIn_seq (pv 3) (pe_meth (pv 0) T.cl_Pacts T.mt_Pacts_words_called G_Pacts_words_called (hr.mono (by decide)) T.b_Pacts_words_called .nil pass0 (pa_cons pe_int pa_nil)) (by rfl)))))))), ?_⟩
    walk_at "go"
    refine ifD (fun b => ?_) (fun b => ?_)
    · have e6 : L.length = 6 := by have := V.int.inj b; omega
      have ef : fitsP (L.map (·.2)) p = false := by
        unfold fitsP
        rw [decide_eq_false (show ¬ (L.map (·.2)).length ≠ 6 by rw [List.length_map]; exact fun z => z e6)]
        simp
      refine ifT rfl ?_
      walk_at "go"
      rw [← ef]
      exact q _ (fun _ _ e => e)
    · have e6 : (L.map (·.2)).length ≠ 6 := fun z => b (by rw [lm]; rw [List.length_map] at z; rw [z] <;> rfl)
      walk_at "go"
      intro H1 s1
      walk_at "go"
      cases en : nameB p.near with
      | false =>
        have ef : fitsP (L.map (·.2)) p = false := by unfold fitsP; rw [en]; simp
        have qq := q _ s1
        rw [ef] at qq
        walk_at "go"
        exact qq
      | true =>
        walk_at "go"
        intro H2 s2
        walk_at "go"
        cases ef0 : nameB p.far with
        | false =>
          have ef : fitsP (L.map (·.2)) p = false := by unfold fitsP; rw [ef0]; simp
          have qq := q _ (s1.trans s2)
          rw [ef] at qq
          walk_at "go"
          exact qq
        | true =>
          have PA2 := PA.same (s1.trans s2)
          obtain ⟨dx2, ho2⟩ := PA2.ob
          have hs0 : (0 : Int) = 0 ∨ (0 : Int) = 1 := .inl rfl
          have hs1 : (1 : Int) = 0 ∨ (1 : Int) = 1 := .inr rfl
          walk_at "go"
          intro D3 H3 hD3 h3 s3
          refine ⟨D3, _, rfl, .inl (SqL.of h3), rfl, flat_strs1 _, ?_⟩
          rw [if_pos rfl, in_strs]
          have PA3 := PA2.same s3
          obtain ⟨dx3, ho3⟩ := PA3.ob
          by_cases i1 : p.near ∈ L.map fun e => e.2.word 0
          · have ef : fitsP (L.map (·.2)) p = false := by
              unfold fitsP
              rw [decide_eq_false (show ¬ p.near ∉ (L.map (·.2)).map (·.near) by rw [List.map_map]; exact fun z => z i1)]
              simp
            rw [decide_eq_true i1]
            refine ⟨_, rfl, ifF rfl ?_⟩
            rw [← ef]
            exact q _ ((s1.trans s2).trans s3)
          · rw [decide_eq_false i1]
            refine ⟨_, rfl, ifT rfl ?_⟩
            walk_at "go"
            intro D4 H4 hD4 h4 s4
            refine ⟨D4, _, rfl, .inl (SqL.of h4), rfl, flat_strs1 _, ?_⟩
            rw [if_pos rfl, in_strs]
            have ef : fitsP (L.map (·.2)) p = !decide (p.far ∈ L.map fun e => e.2.word 1) := by
              unfold fitsP
              rw [decide_eq_true e6, en, ef0, decide_eq_true (show p.near ∉ (L.map (·.2)).map (·.near) by rw [List.map_map]; exact i1), List.map_map]
              show (true && true && true && true && decide (p.far ∉ L.map fun e => e.2.word 1)) = _
              simp
            rw [← ef]
            exact q _ (((s1.trans s2).trans s3).trans s4)
theorem good_fits {ps : List Pr} {i : Nat} {p : Pr} (G : Good ps) (h : ps[i]? = some p) : fitsP (ps.take i) p = true := by
  have hm := List.mem_of_getElem? h
  have hi := (List.getElem?_eq_some_iff.mp h).1
  have hsplit : ps = ps.take i ++ p :: ps.drop (i + 1) := by
    have := List.take_append_drop i ps
    rw [List.drop_eq_getElem_cons hi] at this
    rw [(List.getElem?_eq_some_iff.mp h).2] at this
    exact this.symm
  have nn := G.nn
  have nf := G.nf
  rw [hsplit, List.map_append, List.nodup_append] at nn nf
  have hl := G.len
  unfold fitsP
  rw [decide_eq_true (show (ps.take i).length ≠ 6 by rw [List.length_take]; omega), nameB_iff.mpr (G.kn p hm), nameB_iff.mpr (G.kf p hm),
    decide_eq_true (show p.near ∉ (ps.take i).map (·.near) from fun z => nn.2.2 _ z _ List.mem_cons_self rfl), decide_eq_true (show p.far ∉ (ps.take i).map (·.far) from fun z => nf.2.2 _ z _ List.mem_cons_self rfl)] <;> rfl
theorem Good.word {L : List (Addr × Pr)} (G : Good (L.map (·.2))) {s : Int} (hs : s = 0 ∨ s = 1) : (L.map fun d => d.2.word s).Nodup := by
  rcases hs with rfl | rfl
  · have := G.nn
    rw [List.map_map] at this
    exact this
  · have := G.nf
    rw [List.map_map] at this
    exact this
end
end Pf
set_option Elab.async false
set_option linter.all false
set_option maxRecDepth 100000
set_option maxHeartbeats 4000000
namespace Pf
open PySem L2
local macro_rules | `(tactic| walk_at "nz") => `(tactic| (show (_ : Int) ≠ 0; omega))
local macro_rules | `(tactic| walk_at "ne") => `(tactic| first | assumption | (apply Ne.symm; assumption))
local macro_rules | `(tactic| walk_at "hp") => `(tactic| first | assumption | exact upd_same | (refine upd_get ?_ ?_; walk_at "ne"; walk_at "hp"))
local macro_rules | `(tactic| walk_at "sd") => `(tactic| first
  | (with_reducible show (_ : Int) < _; omega)
  | (with_reducible show (_ : Int) ≤ _; omega)
  | (with_reducible show (_ : Nat) < _; omega)
  | (with_reducible show (_ : Nat) ≤ _; omega)
  | rfl
  | assumption
  | exact kV_int _
  | exact kV_str _
  | (show (_ : Int) ≠ 0; omega)
  | exact SqL.of (by walk_at "hp")
  | exact ⟨_, SqL.of (by walk_at "hp")⟩
  | exact ⟨_, SqT.of (by walk_at "hp")⟩
  | exact ⟨_, (by assumption)⟩
  | exact SqT.of (by walk_at "hp")
  | exact Rd.of (by walk_at "hp")
  | exact Or.inl (SqL.of (by walk_at "hp"))
  | exact Or.inr (SqT.of (by walk_at "hp"))
  | exact Or.inr (by assumption)
  | (walk_at "hp")
  | (exact Or.inl ⟨rfl, _, SqL.of (by walk_at "hp")⟩)
  | (exact Or.inl ⟨by omega, by omega⟩)
  | (exact Or.inr ⟨by omega, by omega⟩)
  | (refine ⟨?_, ?_, ?_⟩ <;> omega)
  | omega
  | (exact small_le (by first | omega | (simp only [List.length_cons, List.length_nil]; omega)))
  | (exact small_lt (by first | omega | (simp only [List.length_cons, List.length_nil]; omega)))
  | exact Nat.le_of_ble_eq_true rfl
  | exact ⟨_, rfl⟩
  | decide)
local macro_rules | `(tactic| walk_at "st") => `(tactic| first
  | with_reducible refine sq_seq ?_
  | apply Exists.intro
  | (refine And.intro ?_ ?_; (walk_at "sd")))
local macro_rules | `(tactic| walk_at "go") => `(tactic| repeat (walk_at "st"))
section
variable {P : Program} {w : World} {K : PySem.W.Frag} {mg : Str → Option Value} {base : Heap} {a : Ad}
/-! ### helpers -/
structure Hl where
  name : Str
  side : Int
  takes : List Str
  gives : Bool
  throws : List Str
/-- tuples stay -/
def TK (H H' : Hp) : Prop := ∀ t, (∀ ys, H t = some (.tup ys) → H' t = some (.tup ys)) ∧ ∀ o ys, H t = some (.frz o (.tup ys)) → H' t = some (.frz o (.tup ys))
theorem TK.rfl {H : Hp} : TK H H := fun _ => ⟨fun _ e => e, fun _ _ e => e⟩
theorem TK.trans {H H1 H2 : Hp} (x : TK H H1) (y : TK H1 H2) : TK H H2 := fun t => ⟨fun ys e => (y t).1 ys ((x t).1 ys e), fun o ys e => (y t).2 o ys ((x t).2 o ys e)⟩
theorem TK.same {H H' : Hp} (s : Same H H') : TK H H' := fun t => ⟨fun _ e => s _ _ e, fun _ _ e => s _ _ e⟩
/-- no tuple -/
def noT : HO → Prop
  | .tup _ => False
  | .frz _ (.tup _) => False
  | _ => True
theorem TK.of {H H' : Hp} (h : ∀ t o, H t = some o → ¬ noT o → H' t = some o) : TK H H' := fun t => ⟨fun ys e => h _ _ e (fun z => z), fun o ys e => h _ _ e (fun z => z)⟩
theorem TK.upd {H : Hp} {D : Addr} {u o : HO} (h : H D = some u) (hn : noT u) : TK H (upd H D o) := TK.of fun t v e n => upd_get (fun z => by
  subst z
  rw [h] at e
  cases e
  exact n hn) e
theorem TK.lst {H : Hp} {D : Addr} {xs : List V} {o : HO} (h : H D = some (.lst xs)) : TK H (L2.upd H D o) := TK.upd h True.intro
theorem TK.dK {H : Hp} {D : Addr} {xs : List (Key × V)} {o : HO} (h : H D = some (.dK xs)) : TK H (L2.upd H D o) := TK.upd h True.intro
theorem TK.ins {H : Hp} {D C dx : Addr} {fs : List (Str × V)} {o : HO} (h : H D = some (.ins C dx fs)) : TK H (L2.upd H D o) := TK.upd h True.intro
theorem TK.new {H : Hp} {D : Addr} {o : HO} (h : H D = none) : TK H (L2.upd H D o) := TK.same (Same.upd_new h)
theorem BoxAt.tk {H H' : Hp} {b g l : Addr} {n : Int} (B : BoxAt H b g l n) (k : Keep2 b g H H') : TK H H' := TK.of fun t o e nt => by
  obtain ⟨⟨_, h1⟩, ⟨_, h2⟩, _⟩ := B.lists
  refine k _ _ (fun z => ?_) (fun z => ?_) e
  · subst z
    rw [h1] at e
    cases e
    exact nt True.intro
  · subst z
    rw [h2] at e
    cases e
    exact nt True.intro
theorem TK.sq {K : PySem.W.Frag} {H H' : Hp} {a : Addr} {xs : List V} (k : TK H H') (h : SqT K H a xs) : SqT K H' a xs := by
  rcases h with (h | ⟨o, h⟩) | h
  · exact .inl (.inl ((k _).1 _ h))
  · exact .inl (.inr ⟨o, (k _).2 _ _ h⟩)
  · exact .inr h
theorem TK.pairs {H H' : Hp} {D : Addr} {L : List (Addr × Pr)} (k : TK H H') (h : PairsAt H D L) (kd : ∀ o, H D = some o → H' D = some o) : PairsAt H' D L := h.keep kd fun t ys e => (k t).1 ys e
def HlAt (K : PySem.W.Frag) (H : Hp) (e : Addr × Hl) : Prop := ∃ tk th : Addr, H e.1 = some (.tup [.str e.2.name, .int e.2.side, .ref tk, .bl e.2.gives, .ref th]) ∧ SqT K H tk (e.2.takes.map V.str) ∧ SqT K H th (e.2.throws.map V.str)
theorem HlAt.tk {K : PySem.W.Frag} {H H' : Hp} {e : Addr × Hl} (k : TK H H') (h : HlAt K H e) : HlAt K H' e := by
  obtain ⟨tk, th, h1, h2, h3⟩ := h
  exact ⟨tk, th, (k _).1 _ h1, k.sq h2, k.sq h3⟩
structure HelpersAt (K : PySem.W.Frag) (H : Hp) (D : Addr) (M : List (Addr × Hl)) : Prop where
  ls : H D = some (.lst (M.map fun e => V.ref e.1))
  at_ : ∀ e ∈ M, HlAt K H e
theorem HelpersAt.tk {K : PySem.W.Frag} {H H' : Hp} {D : Addr} {M : List (Addr × Hl)} (h : HelpersAt K H D M) (k : TK H H') (kd : ∀ o, H D = some o → H' D = some o) : HelpersAt K H' D M := ⟨kd _ h.ls, fun e he => (h.at_ e he).tk k⟩
theorem HelpersAt.same {K : PySem.W.Frag} {H H' : Hp} {D : Addr} {M : List (Addr × Hl)} (h : HelpersAt K H D M) (k : Same H H') : HelpersAt K H' D M := h.tk (TK.same k) fun o e => k _ _ e
theorem erase_perm {α : Type} : ∀ {l : List α} {k : Nat} {z : α}, l[k]? = some z → (z :: l.eraseIdx k).Perm l
  | [], _, _, h => by simp at h
  | a :: r, 0, z, h => by
    have e : a = z := by simpa using h
    rw [e]
    exact List.Perm.refl _
  | a :: r, k + 1, z, h => by
    have h1 : r[k]? = some z := by simpa using h
    exact (List.Perm.swap a z _).trans ((erase_perm h1).cons a)
theorem erase_map {α β : Type} (f : α → β) : ∀ (l : List α) (k : Nat), (l.map f).eraseIdx k = (l.eraseIdx k).map f
  | [], _ => rfl
  | _ :: _, 0 => rfl
  | a :: r, k + 1 => congrArg (f a :: ·) (erase_map f r k)
/-! ### _law_some -/
def spSome : Sp := fun vs H Q _ => ∃ (b g l D : Addr) (n m : Int) (ws : List Str), vs = [.ref b, .ref D, .int m] ∧ BoxAt H b g l n ∧ n ≤ 800000 ∧ 0 ≤ m ∧ m ≤ 100 ∧ H D = some (.lst (ws.map V.str)) ∧ ws.length ≤ 1000 ∧
  ∀ (R : Addr) (zs rs : List Str) (n' : Int) (H' : Hp), (zs ++ rs).Perm ws → (zs.length : Int) ≤ m → H R = none → H' R = some (.lst (zs.map V.str)) → BoxAt H' b g l n' → n' ≤ n + 1 + m → Keep2 b g H H' → Q (.ref R) H'
theorem ok__law_some (T : Txt K mg a) : FnOk P w K mg base CX0 3 a.f__law_some a.d__law_some ["_law_box_here", "_law_things", "_law_most"] spSome := by
  have G__law_take := ok__law_take (P := P) (w := w) (base := base) T
  have cl_Pacts := T.cl_Pacts
  have na_Pacts_kept_pairs := T.na_Pacts_kept_pairs
  have na_Pacts_kept_pacts := T.na_Pacts_kept_pacts
  refine T.F__law_some.ok sc__law_some (fun vs H Q E h => ?_) (fun cdv A outer s H vs Q E hr h => ?_)
  · obtain ⟨b, g, l, D, n, m, ws, rfl, _⟩ := h
    rfl
  · obtain ⟨b, g, l, D, n, m, ws, rfl, B, hn, m0, m1, hD, hl, q⟩ := h
    have lw : (ws.map V.str).length = ws.length := List.length_map _
    refine ⟨_, (pss_cons (ps_set (i := 3) sc__law_some.nd rfl (Or.inr rfl) (pe_callTy call_list_of (by rfl) T.z_list (by decide +kernel) (pa_cons (pv 1) pa_nil)))
      (pss_one (ps_ret (pe_lc (own := [("_law_k", 4)]) (g := gName 4) (tt := tYes) (te := (tBM K "list" _ _ (tCons (tCall _ _ _ (tCons _ (tCons (tCB (rLenK K) _) tNil))) tNil))) rfl sc__law_some.nd (pi_range1 rfl T.z_range (pa_cons (pe_call G__law_take (hr.mono (by decide)) rfl T.m__law_take T.F__law_take.kp T.b__law_take .nil pass0 (pa_cons (pv 0) (pa_cons (pe_op op_add (pe_callB (call_min2 rfl) (by rfl) T.z_min (by decide +kernel) (pa_cons (pv 2) (pa_cons (pe_callB call_lenK (by rfl) T.z_len PySem.boot_len (pa_cons (pv 3) pa_nil)) pa_nil))) pe_int) pa_nil))) pa_nil)) (blkOk_by (own := [("_law_k", 4)]) (N := n__law_some) (sc := defScope s__law_some) (by decide +kernel)) (fun _ _ _ _ _ => (pg_name (i := 4) sc__law_some.nd rfl (Or.inl rfl))) (fun _ _ _ _ _ => pts_nil) (fun _ _ _ _ _ => (pe_bm PySem.F.plainAttrs_list PySem.F.slot_list_pop PySem.F.type_list_pop mt_popAt (pv 3) (pa_cons (pe_call G__law_take (hr.mono (by decide)) rfl T.m__law_take T.F__law_take.kp T.b__law_take .nil pass0 (pa_cons (pv 0) (pa_cons (pe_callB call_lenK (by rfl) T.z_len PySem.boot_len (pa_cons (pv 3) pa_nil)) pa_nil))) pa_nil))))))), ?_⟩
    walk_at "go"
    intro P hP
    have nP := B.fresh hP
    have s1 : Same H (upd H P (.lst (ws.map V.str))) := Same.upd_new hP
    have B1 := B.same s1
    obtain ⟨H1, e1⟩ : ∃ H1, H1 = upd H P (.lst (ws.map V.str)) := ⟨_, rfl⟩
    rw [← e1] at s1 B1 ⊢
    have hP1 : H1 P = some (.lst (ws.map V.str)) := by rw [e1, upd_same]
    walk_at "go"
    intro r2 H2 r20 r21 B2 k2
    have r2m : r2 ≤ m ∧ r2 ≤ (ws.length : Int) := by
      rw [lw] at r21
      split at r21 <;> omega
    have hP2 := k2 _ _ nP.1 nP.2.1 hP1
    walk_at "go"
    intro R hR
    have nR := B2.fresh hR
    have nPR : P ≠ R := ne_of_none hP2 hR
    refine lcR (lo := 0) (n := r2.toNat) (fun i H' => ∃ zs ps : List Str, zs.length = i ∧ (zs ++ ps).Perm ws ∧ H' R = some (.lst (zs.map V.str)) ∧ H' P = some (.lst (ps.map V.str)) ∧ BoxAt H' b g l (n + 1 + i) ∧ ∀ x o, x ≠ b → x ≠ g → x ≠ R → x ≠ P → H2 x = some o → H' x = some o) ?_ ?_ ?_
    · exact ⟨[], ws, rfl, List.Perm.refl _, upd_same, upd_get nPR hP2, by rw [show n + 1 + ((0 : Nat) : Int) = n + 1 by omega]; exact B2.upd nR, fun x o _ _ a3 _ e => upd_get a3 e⟩
    · rintro i H' hi ⟨zs, ps, hzl, pm, hR3, hP3, B3, k3⟩
      have hpl := pm.length_eq
      rw [List.length_append] at hpl
      have lp : (ps.map V.str).length = ps.length := List.length_map _
      refine ⟨rfl, _, rfl, Or.inl ⟨rfl, _, SqL.of hP3⟩, _, rfl, _, rfl, P, _, rfl, .inl (SqL.of hP3), b, g, l, _, _, rfl, B3, by omega, by omega, by omega, fun r4 H4 r40 r41 B4 k4 => ?_⟩
      have hP4 := k4 _ _ nP.1 nP.2.1 hP3
      have hR4 := k4 _ _ nR.1 nR.2.1 hR3
      have hlt : r4.toNat < ps.length := by omega
      obtain ⟨z, hz⟩ : ∃ z, ps[r4.toNat]? = some z := ⟨_, List.getElem?_eq_getElem hlt⟩
      have hzv : (ps.map V.str)[r4.toNat]? = some (.str z) := by rw [List.getElem?_map, hz] <;> rfl
      have hsi : seqIndex? r4 (ps.map V.str).length = some r4.toNat := seqIndex_of r40 (by rw [lp]; omega)
      walk_at "go"
      refine ⟨small_lt (by rw [List.length_map]; omega), wait ⟨zs ++ [z], ps.eraseIdx r4.toNat, by rw [List.length_append, hzl] <;> rfl, ?_, ?_, ?_, ?_, fun x o a1 a2 a3 a4 e => upd_get a3 (upd_get a4 (k4 x o a1 a2 (k3 x o a1 a2 a3 a4 e)))⟩⟩
      · rw [List.append_assoc]
        exact ((erase_perm hz).append_left zs).trans pm
      · rw [upd_same, List.map_append] <;> rfl
      · rw [upd_ne nPR, upd_same, erase_map]
      · rw [show n + 1 + ((i + 1 : Nat) : Int) = n + 1 + (i : Int) + 1 by omega]
        exact (B4.upd nP).upd nR
    · rintro H' ⟨zs, ps, hzl, pm, hR3, hP3, B3, k3⟩
      refine q R zs ps _ _ pm (by omega) ?_ hR3 B3 (by omega) fun x o a1 a2 e => ?_
      · cases y : H R with
        | none => rfl
        | some o => rw [k2 _ _ nR.1 nR.2.1 (s1 _ _ y)] at hR; cases hR
      · have e2 := k2 x o a1 a2 (s1 _ _ e)
        exact k3 x o a1 a2 (ne_of_none e2 hR) (ne_of_none e hP) e2
/-! ### _law_helpers -/
theorem same_none' {H H' : Hp} {r : Addr} (s : Same H H') (h : H' r = none) : H r = none := by
  cases z : H r with
  | none => rfl
  | some o => rw [s r o z] at h; cases h
def hows : List Str := ["lent", "given"]
/-- what a helper that the law draws is like -/
structure HOk (ps : List Pr) (h : Hl) : Prop where
  sd : h.side = 0 ∨ h.side = 1
  tl : h.takes.length ≤ 3
  tk : ∀ w ∈ h.takes, w ∈ hows
  hl : h.throws.length ≤ 4
  hn : h.throws.Nodup
  hw : ∀ w ∈ h.throws, w ∈ ps.map (·.word h.side)
structure GoodH (ps : List Pr) (hs : List Hl) : Prop where
  ok : ∀ h ∈ hs, HOk ps h
  nd : (hs.map (·.name)).Nodup
  nm : ∀ h ∈ hs, IsName h.name
  few : ∀ s : Int, (hs.filter fun h => decide (h.side = s)).length ≤ 4
  len : hs.length ≤ 8
def spHelpers (K : PySem.W.Frag) : Sp := fun vs H Q _ => ∃ (b g l D : Addr) (n : Int) (L : List (Addr × Pr)), vs = [.ref b, .ref D] ∧ BoxAt H b g l n ∧ n ≤ 600000 ∧ D ≠ b ∧ D ≠ g ∧ PairsAt H D L ∧ Good (L.map (·.2)) ∧
  ∀ (F : Addr) (M : List (Addr × Hl)) (n' : Int) (H' : Hp), GoodH (L.map (·.2)) (M.map (·.2)) → H F = none → HelpersAt K H' F M → BoxAt H' b g l n' → n' ≤ n + 400 → Keep2 b g H H' → Q (.ref F) H'
/-- what stands while the helpers are drawn -/
structure HInv (K : PySem.W.Frag) (H0 H : Hp) (b g l F N D : Addr) (n : Int) (L : List (Addr × Pr)) (ws : List Str) (M : List (Addr × Hl)) (ns : List Str) (k0 k1 : Int) : Prop where
  box : BoxAt H b g l n
  hs : HelpersAt K H F M
  nm : H N = some (.lst (ns.map V.str))
  pm : (M.map (fun e => e.2.name) ++ ns).Perm ws
  ok : ∀ e ∈ M, HOk (L.map (·.2)) e.2
  c0 : ((M.filter fun e => decide (e.2.side = 0)).length : Int) = k0
  c1 : ((M.filter fun e => decide (e.2.side = 1)).length : Int) = k1
  len : (M.length : Int) = k0 + k1
  kp : ∀ x o, x ≠ b → x ≠ g → x ≠ F → x ≠ N → H0 x = some o → H x = some o
theorem ok__law_helpers (T : Txt K mg a) : FnOk P w K mg base CX0 5 a.f__law_helpers a.d__law_helpers ["_law_box_here", "_law_pairs_here"] (spHelpers K) := by
  have G__law_names := ok__law_names (P := P) (w := w) (base := base) T
  have G__law_take := ok__law_take (P := P) (w := w) (base := base) T
  have G__law_some := ok__law_some (P := P) (w := w) (base := base) T
  have cl_Pacts := T.cl_Pacts
  have na_Pacts_kept_pairs := T.na_Pacts_kept_pairs
  have na_Pacts_kept_pacts := T.na_Pacts_kept_pacts
  refine T.F__law_helpers.ok sc__law_helpers (fun vs H Q E h => ?_) (fun cdv A outer s H vs Q E hr h => ?_)
  · obtain ⟨b, g, l, D, n, L, rfl, _⟩ := h
    rfl
  · obtain ⟨b, g, l, D, n, L, rfl, B, hn, nDb, nDg, PP, G, q⟩ := h
    refine ⟨_, (pss_cons (ps_set (i := 2) sc__law_helpers.nd rfl (Or.inl rfl) (pe_call G__law_names (hr.mono (by decide)) rfl T.m__law_names T.F__law_names.kp T.b__law_names .nil pass0 (pa_cons (pv 0) (pa_cons pe_int pa_nil))))
      (pss_cons (ps_set (i := 3) sc__law_helpers.nd rfl (Or.inl rfl) (pe_lst (pa_cons (pe_call G__law_take (hr.mono (by decide)) rfl T.m__law_take T.F__law_take.kp T.b__law_take .nil pass0 (pa_cons (pv 0) (pa_cons pe_int pa_nil))) (pa_cons (pe_call G__law_take (hr.mono (by decide)) rfl T.m__law_take T.F__law_take.kp T.b__law_take .nil pass0 (pa_cons (pv 0) (pa_cons pe_int pa_nil))) pa_nil))))
      (pss_cons (ps_set (i := 4) sc__law_helpers.nd rfl (Or.inl rfl) (pe_lst pa_nil))
      (pss_cons (ps_stop (ps_for PassesOwn.never rfl (pi_wait (pi_range1 rfl T.z_range (pa_cons pe_int pa_nil))) (pg_name (i := 5) sc__law_helpers.nd rfl (Or.inr rfl)) (pss_one (ps_stop (ps_for PassesOwn.never rfl (pi_wait (pi_range1 rfl T.z_range (pa_cons (pe_ix ix_list (pv 3) (pv 5) (fun _ _ => rfl)) pa_nil))) (pg_name (i := 6) sc__law_helpers.nd rfl (Or.inl rfl)) (pss_cons (ps_set (i := 7) sc__law_helpers.nd rfl (Or.inl rfl) (pe_callTy call_tuple_of (by rfl) T.z_tuple (by decide +kernel) (pa_cons (pe_lc (own := [("_law_j", 10)]) (g := gName 10) (tt := tYes) (te := (tOp (rIxL K) _ _)) rfl sc__law_helpers.nd (pi_range1 rfl T.z_range (pa_cons (pe_call G__law_take (hr.mono (by decide)) rfl T.m__law_take T.F__law_take.kp T.b__law_take .nil pass0 (pa_cons (pv 0) (pa_cons pe_int pa_nil))) pa_nil)) (blkOk_by (own := [("_law_j", 10)]) (N := n__law_helpers) (sc := defScope s__law_helpers) (by decide +kernel)) (fun _ _ _ _ _ => (pg_name (i := 10) sc__law_helpers.nd rfl (Or.inl rfl))) (fun _ _ _ _ _ => pts_nil) (fun _ _ _ _ _ => (pe_ix ix_list (pe_lst (pa_cons pe_str (pa_cons pe_str pa_nil))) (pe_call G__law_take (hr.mono (by decide)) rfl T.m__law_take T.F__law_take.kp T.b__law_take .nil pass0 (pa_cons (pv 0) (pa_cons pe_int pa_nil))) (fun _ _ => rfl)))) pa_nil)))
      (pss_cons (ps_set (i := 8) sc__law_helpers.nd rfl (Or.inl rfl) (pe_callTy call_tuple_of (by rfl) T.z_tuple (by decide +kernel) (pa_cons (pe_call G__law_some (hr.mono (by decide)) rfl T.m__law_some T.F__law_some.kp T.b__law_some .nil pass0 (pa_cons (pv 0) (pa_cons (pe_lc (own := [("_law_pair", 11)]) (g := gName 11) (tt := tYes) (te := (tOp (rIxT K) _ _)) rfl sc__law_helpers.nd (pi_list (pv 1)) (blkOk_by (own := [("_law_pair", 11)]) (N := n__law_helpers) (sc := defScope s__law_helpers) (by decide +kernel)) (fun _ _ _ _ _ => (pg_name (i := 11) sc__law_helpers.nd rfl (Or.inl rfl))) (fun _ _ _ _ _ => pts_nil) (fun _ _ _ _ _ => (pe_ix ix_tup (pv 11) (pv 5) (fun _ _ => rfl)))) (pa_cons pe_int pa_nil)))) pa_nil)))
      (pss_cons (ps_set (i := 9) sc__law_helpers.nd rfl (Or.inl rfl) (pe_tup (pa_cons (pe_bm0 PySem.F.plainAttrs_list PySem.F.slot_list_pop PySem.F.type_list_pop mt_pop (pv 2)) (pa_cons (pv 5) (pa_cons (pv 7) (pa_cons (pe_cmpR op_eq (pe_call G__law_take (hr.mono (by decide)) rfl T.m__law_take T.F__law_take.kp T.b__law_take .nil pass0 (pa_cons (pv 0) (pa_cons pe_int pa_nil))) pe_int (nomark _)) (pa_cons (pv 8) pa_nil)))))))
      (pss_one (ps_expr (pe_bm PySem.F.plainAttrs_list PySem.F.slot_list_insert PySem.F.type_list_insert mt_insert (pv 4) (pa_cons (pe_call G__law_take (hr.mono (by decide)) rfl T.m__law_take T.F__law_take.kp T.b__law_take .nil pass0 (pa_cons (pv 0) (pa_cons (pe_op op_add (pe_callB call_lenK (by rfl) T.z_len PySem.boot_len (pa_cons (pv 4) pa_nil)) pe_int) pa_nil))) (pa_cons (pv 9) pa_nil)))))))))))))
      (pss_one (ps_ret (pv 4))))))), ?_⟩
    walk_at "go"
    intro N ws n1 H1 hw1 nd1 nm1 hN hN1 B1 hb1 k1
    have nN := B.fresh hN
    walk_at "go"
    intro c0 H2 c00 c01 B2 k2
    walk_at "go"
    intro c1 H3 c10 c11 B3 k3
    walk_at "go"
    intro Cn hCn
    have s4 : Same H3 (upd H3 Cn (.lst [.int c0, .int c1])) := Same.upd_new hCn
    have B4 := B3.same s4
    obtain ⟨H4, e4⟩ : ∃ H4, H4 = upd H3 Cn (.lst [.int c0, .int c1]) := ⟨_, rfl⟩
    rw [← e4] at s4 B4 ⊢
    have hC4 : H4 Cn = some (.lst [.int c0, .int c1]) := by rw [e4, upd_same]
    have nC := B3.fresh hCn
    walk_at "go"
    intro F hF
    have nF := B4.fresh hF
    have hN4 : H4 N = some (.lst (ws.map V.str)) := s4 _ _ (k3 _ _ nN.1 nN.2.1 (k2 _ _ nN.1 nN.2.1 hN1))
    have nFN : N ≠ F := ne_of_none hN4 hF
    have nFC : Cn ≠ F := ne_of_none hC4 hF
    have nNC : N ≠ Cn := ne_of_none (k3 _ _ nN.1 nN.2.1 (k2 _ _ nN.1 nN.2.1 hN1)) hCn
    have PP4 : PairsAt H4 D L := by
      refine TK.pairs (((B.tk k1).trans (B1.tk k2)).trans ((B2.tk k3).trans (TK.same s4))) PP fun o e => s4 _ _ (k3 _ _ nDb nDg (k2 _ _ nDb nDg (k1 _ _ nDb nDg e)))
    have nDF : D ≠ F := ne_of_none PP4.ls hF
    have nDN : D ≠ N := ne_of_none PP.ls hN
    refine sq_seq (stop_in ?_)
    walk_at "go"
    refine wait ?_
    refine forR (lo := 0) (n := 2) (fun i σ H' => (∃ u5 u6 u7 u8 u9, σ = [some (.ref b), some (.ref D), some (.ref N), some (.ref Cn), some (.ref F), u5, u6, u7, u8, u9, none, none]) ∧
      ∃ M ns n', HInv K H4 H' b g l F N D n' L ws M ns (if 1 ≤ i then c0 else 0) (if 2 ≤ i then c1 else 0) ∧ n' ≤ n1 + 2 + 50 * i) ?_ ?_ ?_
    · refine ⟨⟨_, _, _, _, _, rfl⟩, [], ws, n1 + 1 + 1, ⟨B4.upd nF, ⟨upd_same, fun _ h => nomatch h⟩, upd_get nFN hN4, List.Perm.refl _, (fun _ h => nomatch h), rfl, rfl, rfl, fun x o _ _ a3 _ e => upd_get a3 e⟩, by omega⟩
    · rintro i σ H5 hi ⟨⟨u5, u6, u7, u8, u9, rfl⟩, M, ns, n5, I5, hn5⟩
      have hC5 := I5.kp _ _ nC.1 nC.2.1 nFC (Ne.symm nNC) hC4
      obtain ⟨sd, esd⟩ : ∃ sd : Int, sd = 0 + (i : Int) := ⟨_, rfl⟩
      have hsd : sd = 0 ∨ sd = 1 := by omega
      obtain ⟨cs, hcs, cs0, cs4, ecs⟩ : ∃ cs : Int, atI [V.int c0, .int c1] sd = some (.int cs) ∧ 0 ≤ cs ∧ cs ≤ 4 ∧ cs = (if sd = 0 then c0 else c1) := by
        rcases hsd with e | e
        · rw [e]; exact ⟨c0, rfl, c00, by omega, rfl⟩
        · rw [e]; exact ⟨c1, rfl, c10, by omega, rfl⟩
      rw [← esd]
      refine stop_in ?_
      walk_at "go"
      refine wait ?_
      refine forR (lo := 0) (n := cs.toNat) (fun j σ H' => (∃ u6 u7 u8 u9, σ = [some (.ref b), some (.ref D), some (.ref N), some (.ref Cn), some (.ref F), some (.int sd), u6, u7, u8, u9, none, none]) ∧
        ∃ M ns n', HInv K H4 H' b g l F N D n' L ws M ns (if sd = 0 then (j : Int) else c0) (if sd = 0 then 0 else (j : Int)) ∧ n' ≤ n5 + 12 * j) ?_ ?_ ?_
      · refine ⟨⟨_, _, _, _, rfl⟩, M, ns, n5, ?_, by omega⟩
        rcases hsd with e | e
        · have ei : i = 0 := by omega
          subst ei
          rw [if_pos e, if_pos e]
          exact I5
        · have ei : i = 1 := by omega
          subst ei
          rw [if_neg (by omega), if_neg (by omega)]
          exact I5
      · rintro j σ H6 hj ⟨⟨u6', u7', u8', u9', rfl⟩, M6, ns6, n6, I6, hn6⟩
        clear I5
        have B6 := I6.box
        have hj4 : j < 4 := by omega
        have hnb : n6 ≤ 700000 := by omega
        walk_at "go"
        intro r7 H7 r70 r71 B7 k7
        walk_at "go"
        intro R hR
        have nR := B7.fresh hR
        refine lcR (lo := 0) (n := r7.toNat) (fun i H' => ∃ ts : List Str, ts.length = i ∧ (∀ w ∈ ts, w ∈ hows) ∧ H' R = some (.lst (ts.map V.str)) ∧ BoxAt H' b g l (n6 + 1 + i) ∧ ∀ x o, x ≠ b → x ≠ g → x ≠ R → H7 x = some o → H' x = some o) ?_ ?_ ?_
        · exact ⟨[], rfl, (fun _ h => nomatch h), upd_same, by rw [show n6 + 1 + ((0 : Nat) : Int) = n6 + 1 by omega]; exact B7.upd nR, fun x o _ _ a3 e => upd_get a3 e⟩
        · rintro i' H8 hi8 ⟨ts, htl, hts, hR8, B8, k8⟩
          refine ⟨rfl, ?_⟩
          walk_at "go"
          intro p9 hp9
          have s9 : Same H8 (upd H8 p9 (.lst [.str "lent", .str "given"])) := Same.upd_new hp9
          have B9 := B8.same s9
          have n9 := B8.fresh hp9
          refine ⟨_, rfl, b, g, l, _, 2, rfl, B9, by omega, by decide, by decide, fun r10 H10 r100 r101 B10 k10 => ?_⟩
          have hp10 := k10 _ _ n9.1 n9.2.1 upd_same
          obtain ⟨v, e1, e2⟩ := atI_in (xs := [V.str "lent", .str "given"]) (i := r10) r100 r101
          obtain ⟨z, rfl, hz⟩ : ∃ z : Str, v = .str z ∧ z ∈ hows := by
            have hm := List.mem_of_getElem? e2
            simp only [List.mem_cons, List.not_mem_nil, or_false] at hm
            rcases hm with rfl | rfl
            · exact ⟨_, rfl, List.mem_cons_self⟩
            · exact ⟨_, rfl, List.mem_cons_of_mem _ List.mem_cons_self⟩
          have hR10 := k10 _ _ nR.1 nR.2.1 (s9 _ _ hR8)
          walk_at "go"
          refine ⟨small_lt (by rw [List.length_map]; omega), wait ⟨ts ++ [z], by rw [List.length_append, htl] <;> rfl, ?_, ?_, ?_, fun x o a1 a2 a3 e => upd_get a3 (k10 x o a1 a2 (s9 _ _ (k8 x o a1 a2 a3 e)))⟩⟩
          · intro w hw
            rcases List.mem_append.mp hw with y | y
            · exact hts w y
            · rw [List.mem_singleton.mp y]; exact hz
          · rw [upd_same, List.map_append] <;> rfl
          · rw [show n6 + 1 + ((i' + 1 : Nat) : Int) = n6 + 1 + (i' : Int) + 1 by omega]
            exact B10.upd nR
        · rintro H8 ⟨ts, htl, hts, hR8, B8, k8⟩
          have hts3 : ts.length ≤ 3 := by omega
          refine ⟨R, _, rfl, .inl ⟨SqL.of hR8, fun tk htk => ?_⟩⟩
          have s9 : Same H8 (upd H8 tk (.tup (ts.map V.str))) := Same.upd_new htk
          obtain ⟨H9, e9⟩ : ∃ H9, H9 = upd H8 tk (.tup (ts.map V.str)) := ⟨_, rfl⟩
          rw [← e9] at s9 ⊢
          have htk9 : H9 tk = some (.tup (ts.map V.str)) := by rw [e9, upd_same]
          have B9 := B8.same s9
          have k69 : ∀ x o, x ≠ b → x ≠ g → H6 x = some o → H9 x = some o := fun x o a1 a2 e => by
            have e7 := k7 x o a1 a2 e
            exact s9 _ _ (k8 x o a1 a2 (ne_of_none e7 hR) e7)
          have PP9 : PairsAt H9 D L := by
            have P6 : PairsAt H6 D L := PP4.keep (fun o e => I6.kp _ _ nDb nDg nDF nDN e) fun t ys e => I6.kp _ _ (ne_of e B4.lists.1.choose_spec (by intro z; cases z)) (ne_of e B4.lists.2.1.choose_spec (by intro z; cases z)) (ne_of_none e hF) (ne_of e hN4 (by intro z; cases z)) e
            exact P6.keep (fun o e => k69 _ _ nDb nDg e) (B6.tups k69)
          have ls9 := PP9.ls
          walk_at "go"
          intro Z hZ
          have nZ := B9.fresh hZ
          refine lcL (K := K) (a := D) (xs := L.map fun e => V.ref e.1) (fun i H' => H' Z = some (.lst (((L.take i).map fun e => e.2.word sd).map V.str)) ∧ Same H9 H') ?_ ?_ ?_ ?_
          · exact ⟨upd_same, Same.upd_new hZ⟩
          · exact fun i H' _ h => SqL.of (h.2 _ _ ls9)
          · rintro i' y H' hi' ⟨g1, g2⟩
            rw [List.getElem?_map] at hi'
            obtain ⟨e, he, rfl⟩ := Option.map_eq_some_iff.mp hi'
            have hp : H' e.1 = _ := g2 _ _ (PP9.at_ e (List.mem_of_getElem? he))
            have hlt := (List.getElem?_eq_some_iff.mp he).1
            have hat := pr_at e.2 hsd
            have gl := G.len
            rw [List.length_map] at gl
            refine ⟨rfl, ?_⟩
            walk_at "go"
            refine ⟨small_lt (by rw [List.length_map, List.length_map, List.length_take]; omega), wait ⟨?_, fun x o e => upd_get (ne_of_none e hZ) (g2 x o e)⟩⟩
            rw [upd_same, List.take_add_one, he, List.map_append, List.map_append] <;> rfl
          · rintro H10 ⟨g1, g2⟩
            rw [List.length_map, List.take_length] at g1
            have gl := G.len
            rw [List.length_map] at gl
            have B10 := B9.same g2
            have lw : (L.map fun e => e.2.word sd).length ≤ 1000 := by rw [List.length_map]; omega
            walk_at "go"
            intro R2 zs rs n11 H11 pz hz4 hR2 hR211 B11 hn11 k11
            refine ⟨R2, _, rfl, .inl ⟨SqL.of hR211, fun th hth => ?_⟩⟩
            have s12 : Same H11 (upd H11 th (.tup (zs.map V.str))) := Same.upd_new hth
            obtain ⟨H12, e12⟩ : ∃ H12, H12 = upd H11 th (.tup (zs.map V.str)) := ⟨_, rfl⟩
            rw [← e12] at s12 ⊢
            have hth12 : H12 th = some (.tup (zs.map V.str)) := by rw [e12, upd_same]
            have B12 := B11.same s12
            have k612 : ∀ x o, x ≠ b → x ≠ g → H6 x = some o → H12 x = some o := fun x o a1 a2 e => s12 _ _ (k11 x o a1 a2 (g2 _ _ (k69 x o a1 a2 e)))
            have htk12 : H12 tk = some (.tup (ts.map V.str)) := s12 _ _ (B10.tups k11 _ _ (g2 _ _ htk9))
            have hN12 := k612 _ _ nN.1 nN.2.1 I6.nm
            have hF12 := k612 _ _ nF.1 nF.2.1 I6.hs.ls
            have tk612 : TK H6 H12 := ((B6.tk k69).trans (TK.same g2)).trans ((B10.tk k11).trans (TK.same s12))
            have hM6 : (M6.length : Int) < 8 := by
              rw [I6.len]
              rcases hsd with e | e
              · rw [if_pos e, if_pos e]; omega
              · rw [if_neg (by omega), if_neg (by omega)]; omega
            obtain ⟨ini, z, ens⟩ : ∃ ini z, ns6 = ini ++ [z] := by
              have hl6 := I6.pm.length_eq
              rw [List.length_append, List.length_map] at hl6
              have hne : ns6 ≠ [] := fun e => by rw [e] at hl6; simp at hl6; omega
              exact ⟨_, _, (List.dropLast_concat_getLast hne).symm⟩
            have hlast : (ns6.map V.str)[(ns6.map V.str).length - 1]? = some (.str z) := by
              rw [ens, List.map_append, List.length_append, List.length_map]
              simp
            have hdrop : (ns6.map V.str).dropLast = ini.map V.str := by
              rw [ens, List.map_append]
              simp
            have B13 := B12.upd (o := .lst (ns6.map V.str).dropLast) nN
            have tk13 : TK H12 (upd H12 N (.lst (ns6.map V.str).dropLast)) := TK.lst hN12
            have hF13 := upd_get (o := .lst (ns6.map V.str).dropLast) (Ne.symm nFN) hF12
            have hN13 : upd H12 N (.lst (ns6.map V.str).dropLast) N = some (.lst (ini.map V.str)) := by rw [upd_same, hdrop]
            have k13 : ∀ x o, x ≠ N → H12 x = some o → upd H12 N (.lst (ns6.map V.str).dropLast) x = some o := fun x o a e => upd_get a e
            have lm6 : (M6.map fun e => V.ref e.1).length = M6.length := List.length_map _
            walk_at "go"
            obtain ⟨H13, e13⟩ : ∃ H13, H13 = upd H12 N (.lst (ns6.map V.str).dropLast) := ⟨_, rfl⟩
            rw [← e13] at B13 tk13 hF13 hN13 k13 ⊢
            intro r14 H14 r140 r141 B14 k14
            have tk14 : TK H6 H14 := (tk612.trans tk13).trans (B13.tk k14)
            have hF14 := k14 _ _ nF.1 nF.2.1 hF13
            have hN14 := k14 _ _ nN.1 nN.2.1 hN13
            have htk14 : H14 tk = some (.tup (ts.map V.str)) := ((tk13.trans (B13.tk k14)) _).1 _ htk12
            have hth14 : H14 th = some (.tup (zs.map V.str)) := ((tk13.trans (B13.tk k14)) _).1 _ hth12
            walk_at "go"
            intro t15 ht15
            have s15 : Same H14 (upd H14 t15 (.tup [.str z, .int sd, .ref tk, .bl (decide (V.int r14 = V.int 1)), .ref th])) := Same.upd_new ht15
            obtain ⟨H15, e15⟩ : ∃ H15, H15 = upd H14 t15 (.tup [.str z, .int sd, .ref tk, .bl (decide (V.int r14 = V.int 1)), .ref th]) := ⟨_, rfl⟩
            rw [← e15] at s15 ⊢
            have B15 := B14.same s15
            have hF15 := s15 _ _ hF14
            have hnew : HlAt K H15 (t15, ⟨z, sd, ts, decide (V.int r14 = V.int 1), zs⟩) := ⟨tk, th, by rw [e15, upd_same], SqT.of (s15 _ _ htk14), SqT.of (s15 _ _ hth14)⟩
            refine ⟨_, rfl, Or.inl ⟨rfl, _, SqL.of hF15⟩, _, rfl, _, rfl, F, _, rfl, .inl (SqL.of hF15), _, _, rfl, rfl, b, g, l, _, _, rfl, B15, by omega, by omega, by omega, fun r16 H16 r160 r161 B16 k16 => ?_⟩
            have hF16 := k16 _ _ nF.1 nF.2.1 hF15
            have hN16 := k16 _ _ nN.1 nN.2.1 (s15 _ _ hN14)
            have tk16 : TK H6 H16 := (tk14.trans (TK.same s15)).trans (B15.tk k16)
            have hnew16 := hnew.tk (B15.tk k16)
            refine ⟨_, rfl, F, _, r16, _, rfl, rfl, hF16, small_lt (by omega), r160, by omega, wait ⟨⟨_, _, _, _, rfl⟩, M6.take r16.toNat ++ [(t15, ⟨z, sd, ts, decide (V.int r14 = V.int 1), zs⟩)] ++ M6.drop r16.toNat, ini, n11 + 1 + 1, ?_, ?_⟩⟩
            · have pmM : (M6.take r16.toNat ++ [(t15, (⟨z, sd, ts, decide (V.int r14 = V.int 1), zs⟩ : Hl))] ++ M6.drop r16.toNat).Perm ((t15, (⟨z, sd, ts, decide (V.int r14 = V.int 1), zs⟩ : Hl)) :: M6) := by
                have h1 : (M6.take r16.toNat ++ [(t15, (⟨z, sd, ts, decide (V.int r14 = V.int 1), zs⟩ : Hl))]).Perm ((t15, (⟨z, sd, ts, decide (V.int r14 = V.int 1), zs⟩ : Hl)) :: M6.take r16.toNat) := List.perm_append_comm
                have h2 := h1.append_right (M6.drop r16.toNat)
                rw [List.cons_append, List.take_append_drop] at h2
                exact h2
              have hset : (H16 F = some (.lst (M6.map fun e => V.ref e.1))) := hF16
              have okn : HOk (L.map (·.2)) (⟨z, sd, ts, decide (V.int r14 = V.int 1), zs⟩ : Hl) := by
                have zn : zs.Nodup := by
                  have := pz.nodup_iff.mpr (G.word hsd)
                  rw [List.nodup_append] at this
                  exact this.1
                refine ⟨hsd, hts3, hts, by have : (zs.length : Int) ≤ 4 := hz4; show zs.length ≤ 4; omega, zn, fun w hw => ?_⟩
                have := pz.mem_iff.mp (List.mem_append.mpr (.inl hw))
                rw [List.map_map]
                exact this
              refine ⟨B16.upd nF, ⟨?_, fun e he => ?_⟩, upd_get nFN hN16, ?_, fun e he => ?_, ?_, ?_, ?_, fun x o a1 a2 a3 a4 e => upd_get a3 (k16 x o a1 a2 (s15 _ _ (k14 x o a1 a2 (k13 x o a4 (k612 x o a1 a2 (I6.kp x o a1 a2 a3 a4 e))))))⟩
              · rw [upd_same, List.map_append, List.map_append, List.map_take, List.map_drop] <;> rfl
              · rcases List.mem_cons.mp (pmM.mem_iff.mp he) with y | y
                · rw [y]
                  exact hnew16.tk (TK.lst hF16)
                · exact ((I6.hs.at_ e y).tk tk16).tk (TK.lst hF16)
              · have h1 := (pmM.map fun e => e.2.name).append_right ini
                refine h1.trans ?_
                have h2 := I6.pm
                rw [ens, ← List.append_assoc] at h2
                rw [List.map_cons, List.cons_append]
                exact (List.perm_append_comm (l₁ := [z]) (l₂ := M6.map (fun e => e.2.name) ++ ini)).trans h2
              · rcases List.mem_cons.mp (pmM.mem_iff.mp he) with y | y
                · rw [y]; exact okn
                · exact I6.ok e y
              · have h1 := (pmM.filter fun e => decide (e.2.side = 0)).length_eq
                have c0 := I6.c0
                rcases hsd with e | e
                · subst e
                  rw [h1, List.filter_cons_of_pos (by simp), List.length_cons, if_pos rfl]
                  rw [if_pos rfl] at c0
                  omega
                · subst e
                  rw [h1, List.filter_cons_of_neg (by simp), if_neg (by decide)]
                  rw [if_neg (by decide)] at c0
                  omega
              · have h1 := (pmM.filter fun e => decide (e.2.side = 1)).length_eq
                have c1 := I6.c1
                rcases hsd with e | e
                · subst e
                  rw [h1, List.filter_cons_of_neg (by simp), if_pos rfl]
                  rw [if_pos rfl] at c1
                  omega
                · subst e
                  rw [h1, List.filter_cons_of_pos (by simp), List.length_cons, if_neg (by decide)]
                  rw [if_neg (by decide)] at c1
                  omega
              · have h1 := pmM.length_eq
                have ln := I6.len
                rw [h1, List.length_cons]
                rcases hsd with e | e
                · subst e
                  rw [if_pos rfl, if_pos rfl] at ln ⊢
                  omega
                · subst e
                  rw [if_neg (by decide), if_neg (by decide)] at ln ⊢
                  omega
            · omega
      · rintro σ H6 ⟨⟨u6', u7', u8', u9', rfl⟩, M6, ns6, n6, I6, hn6⟩
        refine wait ⟨⟨_, _, _, _, _, rfl⟩, M6, ns6, n6, ?_, by omega⟩
        have ecs2 : ((cs.toNat : Nat) : Int) = cs := by omega
        rw [ecs2, ecs] at I6
        rcases hsd with e | e
        · have ei : i = 0 := by omega
          subst ei
          rw [if_pos e, if_pos e, if_pos e] at I6
          exact I6
        · have ei : i = 1 := by omega
          subst ei
          rw [if_neg (by omega), if_neg (by omega), if_neg (by omega)] at I6
          exact I6
    · rintro σ H5 ⟨⟨u5, u6, u7, u8, u9, rfl⟩, M, ns, n5, I5, hn5⟩
      walk_at "go"
      have c0' : ((M.filter fun e => decide (e.2.side = 0)).length : Int) = c0 := I5.c0
      have c1' : ((M.filter fun e => decide (e.2.side = 1)).length : Int) = c1 := I5.c1
      have ln := I5.len
      have ln' : (M.length : Int) = c0 + c1 := ln
      have pnd := (I5.pm.nodup_iff.mpr nd1)
      rw [List.nodup_append] at pnd
      refine q F M n5 H5 ⟨?_, ?_, ?_, ?_, ?_⟩ ?_ I5.hs I5.box (by omega) fun x o a1 a2 e => ?_
      · intro h hh
        obtain ⟨e, he, rfl⟩ := List.mem_map.mp hh
        exact I5.ok e he
      · rw [List.map_map]
        exact pnd.1
      · intro h hh
        obtain ⟨e, he, rfl⟩ := List.mem_map.mp hh
        exact nm1 _ (I5.pm.mem_iff.mp (List.mem_append.mpr (.inl (List.mem_map.mpr ⟨e, he, rfl⟩))))
      · intro sd
        by_cases e0 : sd = 0
        · subst e0
          rw [List.filter_map, List.length_map]
          have : (M.filter fun e => decide (e.2.side = 0)).length ≤ 4 := by omega
          exact this
        · by_cases e1 : sd = 1
          · subst e1
            rw [List.filter_map, List.length_map]
            have : (M.filter fun e => decide (e.2.side = 1)).length ≤ 4 := by omega
            exact this
          · have : ((M.map (·.2)).filter fun h => decide (h.side = sd)) = [] := by
              rw [List.filter_eq_nil_iff]
              intro h hh
              obtain ⟨e, he, rfl⟩ := List.mem_map.mp hh
              have := (I5.ok e he).sd
              simp only [decide_eq_true_eq]
              omega
            rw [this]
            exact Nat.zero_le _
      · rw [List.length_map]; omega
      · exact keep_none k1 nF.1 nF.2.1 (keep_none k2 nF.1 nF.2.1 (keep_none k3 nF.1 nF.2.1 (same_none' s4 hF)))
      · have e1 := k1 x o a1 a2 e
        have e3 := s4 _ _ (k3 x o a1 a2 (k2 x o a1 a2 e1))
        exact I5.kp x o a1 a2 (ne_of_none e3 hF) (ne_of_none e hN) e3
end
end Pf
set_option Elab.async false
set_option linter.all false
set_option maxRecDepth 100000
set_option maxHeartbeats 4000000
namespace Pf
open PySem L2
local macro_rules | `(tactic| walk_at "nz") => `(tactic| (show (_ : Int) ≠ 0; omega))
local macro_rules | `(tactic| walk_at "ne") => `(tactic| first | assumption | (apply Ne.symm; assumption))
local macro_rules | `(tactic| walk_at "hp") => `(tactic| first | assumption | exact upd_same | (refine upd_get ?_ ?_; walk_at "ne"; walk_at "hp"))
local macro_rules | `(tactic| walk_at "sd") => `(tactic| first
  | (with_reducible show (_ : Int) < _; omega)
  | (with_reducible show (_ : Int) ≤ _; omega)
  | (with_reducible show (_ : Nat) < _; omega)
  | (with_reducible show (_ : Nat) ≤ _; omega)
  | rfl
  | assumption
  | exact kV_int _
  | exact kV_str _
  | (show (_ : Int) ≠ 0; omega)
  | exact SqL.of (by walk_at "hp")
  | exact ⟨_, SqL.of (by walk_at "hp")⟩
  | exact ⟨_, SqT.of (by walk_at "hp")⟩
  | exact ⟨_, (by assumption)⟩
  | exact SqT.of (by walk_at "hp")
  | exact Rd.of (by walk_at "hp")
  | exact Or.inl (SqL.of (by walk_at "hp"))
  | exact Or.inr (SqT.of (by walk_at "hp"))
  | exact Or.inr (by assumption)
  | (walk_at "hp")
  | (exact Or.inl ⟨rfl, _, SqL.of (by walk_at "hp")⟩)
  | (exact Or.inl ⟨by omega, by omega⟩)
  | (exact Or.inr ⟨by omega, by omega⟩)
  | (refine ⟨?_, ?_, ?_⟩ <;> omega)
  | omega
  | (exact small_le (by first | omega | (simp only [List.length_cons, List.length_nil]; omega)))
  | (exact small_lt (by first | omega | (simp only [List.length_cons, List.length_nil]; omega)))
  | exact Nat.le_of_ble_eq_true rfl
  | exact ⟨_, rfl⟩
  | decide)
local macro_rules | `(tactic| walk_at "st") => `(tactic| first
  | with_reducible refine sq_seq ?_
  | apply Exists.intro
  | (refine And.intro ?_ ?_; (walk_at "sd")))
local macro_rules | `(tactic| walk_at "go") => `(tactic| repeat (walk_at "st"))
section
variable {P : Program} {w : World} {K : PySem.W.Frag} {mg : Str → Option Value} {base : Heap} {a : Ad}
/-! ### Pacts with helpers -/
def hk (M : List (Addr × Hl)) : List (Key × V) := M.map fun e => ((Sum.inr e.2.name : Key), V.ref e.1)
structure PactsH (K : PySem.W.Frag) (C : Addr) (H : Hp) (x kp kd : Addr) (L : List (Addr × Pr)) (M : List (Addr × Hl)) : Prop where
  pa : PactsAt C H x kp kd L (hk M)
  at_ : ∀ e ∈ M, HlAt K H e
theorem PactsH.same {K : PySem.W.Frag} {C : Addr} {H H' : Hp} {x kp kd : Addr} {L : List (Addr × Pr)} {M : List (Addr × Hl)} (h : PactsH K C H x kp kd L M) (k : Same H H') : PactsH K C H' x kp kd L M := ⟨h.pa.same k, fun e he => (h.at_ e he).tk (TK.same k)⟩
theorem hk_none {n : Str} : ∀ {M : List (Addr × Hl)}, n ∉ M.map (fun e => e.2.name) → valV (hk M) (Sum.inr n) = none
  | [], _ => rfl
  | e :: r, h => by
    have h1 : ¬ (Sum.inr e.2.name : Key) = Sum.inr n := fun z => h (by rw [List.map_cons, Sum.inr.inj z]; exact List.mem_cons_self)
    have h2 : n ∉ r.map (fun e => e.2.name) := fun z => h (by rw [List.map_cons]; exact List.mem_cons_of_mem _ z)
    show valV ((Sum.inr e.2.name, V.ref e.1) :: hk r) (Sum.inr n) = none
    rw [valV_neg h1]
    exact hk_none h2
theorem hk_val {e : Addr × Hl} : ∀ {M : List (Addr × Hl)}, (M.map fun e => e.2.name).Nodup → e ∈ M → valV (hk M) (Sum.inr e.2.name) = some (V.ref e.1)
  | [], _, h => by cases h
  | d :: r, hn, h => by
    rw [List.map_cons, List.nodup_cons] at hn
    show valV ((Sum.inr d.2.name, V.ref d.1) :: hk r) (Sum.inr e.2.name) = some (V.ref e.1)
    rcases List.mem_cons.mp h with z | z
    · subst z
      exact valV_pos rfl
    · have hne : ¬ (Sum.inr d.2.name : Key) = Sum.inr e.2.name := fun q => hn.1 (by rw [Sum.inr.inj q]; exact List.mem_map.mpr ⟨e, z, rfl⟩)
      rw [valV_neg hne]
      exact hk_val hn.2 z
theorem hk_in {n : Str} {M : List (Addr × Hl)} (h : n ∈ M.map (fun e => e.2.name)) : ∃ v, valV (hk M) (Sum.inr n) = some v := by
  induction M with
  | nil => cases h
  | cons d r ih =>
    show ∃ v, valV ((Sum.inr d.2.name, V.ref d.1) :: hk r) (Sum.inr n) = some v
    by_cases e : (Sum.inr d.2.name : Key) = Sum.inr n
    · exact ⟨_, valV_pos e⟩
    · rw [valV_neg e]
      refine ih ?_
      rcases List.mem_cons.mp h with z | z
      · exact absurd (congrArg Sum.inr z.symm) e
      · exact z
theorem hk_put {M : List (Addr × Hl)} {n : Str} (v : V) (h : n ∉ M.map (fun e => e.2.name)) : putK (hk M) (Sum.inr n) v = hk M ++ [(Sum.inr n, v)] := putK_new v (hk_none h)
theorem hk_len (M : List (Addr × Hl)) : (hk M).length = M.length := List.length_map _
def spNamesM (K : PySem.W.Frag) (C : Addr) : Sp := fun vs H Q _ => ∃ (x kp kd : Addr) (L : List (Addr × Pr)) (M : List (Addr × Hl)) (s : Int), vs = [.ref x, .int s] ∧ PactsH K C H x kp kd L M ∧ M.length ≤ 10000 ∧
  ∀ D H', H D = none → H' D = some (.lst (((M.filter fun e => decide (e.2.side = s)).map fun e => e.2.name).map V.str)) → Same H H' → Q (.ref D) H'
theorem ok_Pacts_names (T : Txt K mg a) : FnOk P w K mg base CX0 1 a.f_Pacts_names a.d_Pacts_names ["self", "side"] (spNamesM K a.c_Pacts) := by
  have cl_Pacts := T.cl_Pacts
  have na_Pacts_kept_pairs := T.na_Pacts_kept_pairs
  have na_Pacts_kept_pacts := T.na_Pacts_kept_pacts
  refine T.F_Pacts_names.ok sc_Pacts_names (fun vs H Q E h => ?_) (fun cdv A outer s H vs Q E hr h => ?_)
  · obtain ⟨x, kp, kd, L, M, s, rfl, _⟩ := h
    rfl
  · obtain ⟨x, kp, kd, L, M, s, rfl, PA, hl, q⟩ := h
    obtain ⟨dx, ho⟩ := PA.pa.ob
    have hd := PA.pa.pc
    refine ⟨_, (pss_one (ps_ret (pe_lock (pe_lc (own := [("name", 2), ("pact", 3)]) (g := gTup K 2 (gCons (gName 2) (gCons (gName 3) gNil))) (tt := (tTest (tOp _ (tOp (rIxT K) _ _) _))) rfl sc_Pacts_names.nd (pi_items (pe_fld (pv 0) rfl)) (blkOk_by (own := [("name", 2), ("pact", 3)]) (N := n_Pacts_names) (sc := defScope s_Pacts_names) (by decide +kernel)) (fun _ _ _ _ _ => (pg_tup rfl (pgs_cons (pg_name (i := 2) sc_Pacts_names.nd rfl (Or.inl rfl)) (pgs_cons (pg_name (i := 3) sc_Pacts_names.nd rfl (Or.inl rfl)) pgs_nil)))) (fun _ _ _ _ _ => (pts_one (pt_cmpR op_eq (pe_ix ix_tup (pv 3) pe_int (fun _ _ => rfl)) (pv 1) (nomark _)))) (fun _ _ _ _ _ => (pv 2)))))), ?_⟩
    refine ⟨kd, _, hd, trivial, fun od => ?_⟩
    have nxd : x ≠ kd := ne_of ho hd (by intro z; cases z)
    have ho1 : upd H kd (.frz od (.dK (hk M))) x = _ := upd_get nxd ho
    have hd1 : upd H kd (.frz od (.dK (hk M))) kd = some (.frz od (.dK (hk M))) := upd_same
    walk_at "go"
    intro D hD
    have nD : D ≠ kd := fun z => by rw [z, upd_same] at hD; cases hD
    have hD0 : H D = none := by rw [upd_ne nD] at hD; exact hD
    have hlm := hk_len M
    refine lcW (walk_items (d := kd) (o := od) (kvs := hk M)) (fun i H' => H' D = some (.lst ((((M.take i).filter fun e => decide (e.2.side = s)).map fun e => e.2.name).map V.str)) ∧ Same (upd H kd (.frz od (.dK (hk M)))) H') ?_ ?_ ?_ ?_
    · exact ⟨upd_same, Same.upd_new hD⟩
    · exact fun i H' _ h => h.2 _ _ upd_same
    · rintro i v H1 H2 hi ⟨g1, g2⟩ ⟨t, y1, y2, rfl, ht, rfl, hy1, hy2⟩
      have hi2 : i < M.length := by omega
      obtain ⟨e, he⟩ : ∃ e, M[i]? = some e := ⟨_, List.getElem?_eq_getElem hi2⟩
      have hke : (hk M)[i]? = some (Sum.inr e.2.name, V.ref e.1) := by
        show (M.map _)[i]? = _
        rw [List.getElem?_map, he] <;> rfl
      have hy1 : (hk M)[i]?.map (fun kv => kV kv.1) = some y1 := hy1
      have hy2 : (hk M)[i]?.map Prod.snd = some y2 := hy2
      rw [hke] at hy1 hy2
      cases hy1
      cases hy2
      have s2 : Same H1 (upd H1 t (.tup [.str e.2.name, .ref e.1])) := Same.upd_new ht
      obtain ⟨tk, th, h1, h2, h3⟩ := PA.at_ e (List.mem_of_getElem? he)
      have hp : upd H1 t (.tup [.str e.2.name, .ref e.1]) e.1 = _ := s2 _ _ (g2 _ _ (upd_get (ne_of h1 hd (by intro z; cases z)) h1))
      have hat : atI [V.str e.2.name, .int e.2.side, .ref tk, .bl e.2.gives, .ref th] 1 = some (.int e.2.side) := rfl
      have g12 := s2 _ _ g1
      have fl := filt_len (fun e : Addr × Hl => decide (e.2.side = s)) M i
      have ht2 : upd H1 t (.tup [.str e.2.name, .ref e.1]) t = some (.tup [.str e.2.name, .ref e.1]) := upd_same
      refine ⟨t, [.str e.2.name, .ref e.1], rfl, SqT.of ht2, rfl, _, _, rfl, _, _, rfl, rfl, ?_⟩
      refine ⟨rfl, ?_⟩
      walk_at "go"
      refine ifD (fun b => ?_) (fun b => ?_)
      · have b1 : e.2.side = s := V.int.inj b
        walk_at "go"
        refine ⟨small_lt (by rw [List.length_map, List.length_map]; omega), wait ⟨?_, fun x o e => upd_get (ne_of_none e hD) (s2 _ _ (g2 x o e))⟩⟩
        rw [upd_same, take_filt_yes he (decide_eq_true b1), List.map_append, List.map_append] <;> rfl
      · have b1 : ¬ e.2.side = s := fun z => b (congrArg V.int z)
        refine wait ⟨?_, fun x o e => s2 _ _ (g2 x o e)⟩
        rw [take_filt_no he (decide_eq_false b1)]
        exact g12
    · rintro H1 ⟨g1, g2⟩
      rw [hlm, List.take_length] at g1
      refine ⟨g2 _ _ upd_same, ?_⟩
      refine q D _ hD0 (upd_get nD g1) fun y o e => ?_
      by_cases z : y = kd
      · rw [z, hd] at e
        rw [z, upd_same]
        exact e
      · exact upd_get z (g2 _ _ (upd_get z e))
def fitsH (ps : List Pr) (ahead : List Hl) (h : Hl) : Bool :=
  nameB h.name && decide (h.name ∉ ahead.map (·.name)) && decide (h.side = 0 ∨ h.side = 1) && decide ((ahead.filter fun k => decide (k.side = h.side)).length ≠ 4) && decide (h.takes.length ≤ 3) && decide (h.throws.length ≤ 4) &&
    (h.takes.all fun w => decide (w ∈ hows)) && decide h.throws.Nodup && h.throws.all fun w => decide (w ∈ ps.map (·.word h.side))
def spFitsHelper (K : PySem.W.Frag) (C : Addr) : Sp := fun vs H Q _ => ∃ (x kp kd t : Addr) (L : List (Addr × Pr)) (M : List (Addr × Hl)) (h : Hl), vs = [.ref x, .ref t] ∧ PactsH K C H x kp kd L M ∧ HlAt K H (t, h) ∧ L.length ≤ 10000 ∧ M.length ≤ 10000 ∧ h.name.length ≤ 100000 ∧ h.takes.length ≤ 1000 ∧ h.throws.length ≤ 1000 ∧
  ∀ H', Same H H' → Q (.bl (fitsH (L.map (·.2)) (M.map (·.2)) h)) H'
theorem ok_Pacts_fits_helper (T : Txt K mg a) : FnOk P w K mg base CX0 2 a.f_Pacts_fits_helper a.d_Pacts_fits_helper ["self", "helper"] (spFitsHelper K a.c_Pacts) := by
  have G_is_name := ok_is_name (P := P) (w := w) (base := base) T
  have G_Pacts_names := ok_Pacts_names (P := P) (w := w) (base := base) T
  have G_Pacts_words_called := ok_Pacts_words_called (P := P) (w := w) (base := base) T
  have cl_Pacts := T.cl_Pacts
  have na_Pacts_kept_pairs := T.na_Pacts_kept_pairs
  have na_Pacts_kept_pacts := T.na_Pacts_kept_pacts
  refine T.F_Pacts_fits_helper.ok sc_Pacts_fits_helper (fun vs H Q E h => ?_) (fun cdv A outer s H vs Q E hr h => ?_)
  · obtain ⟨x, kp, kd, t, L, M, h, rfl, _⟩ := h
    rfl
  · obtain ⟨x, kp, kd, t, L, M, h, rfl, PA, HA, l1, l2, l3, l4, l5, q⟩ := h
    obtain ⟨tk, th, ht, htk, hth⟩ := HA
    obtain ⟨dx, ho⟩ := PA.pa.ob
    have hd := PA.pa.pc
    refine ⟨_, (pss_cons (ps_asg (pv 1) (pg_tup rfl (pgs_cons (pg_name (i := 2) sc_Pacts_fits_helper.nd rfl (Or.inl rfl)) (pgs_cons (pg_name (i := 3) sc_Pacts_fits_helper.nd rfl (Or.inr rfl)) (pgs_cons (pg_name (i := 4) sc_Pacts_fits_helper.nd rfl (Or.inl rfl)) (pgs_cons (pg_name (i := 5) sc_Pacts_fits_helper.nd rfl (Or.inl rfl)) (pgs_cons (pg_name (i := 6) sc_Pacts_fits_helper.nd rfl (Or.inl rfl)) pgs_nil)))))))
      (pss_cons (ps_if (pt_mid (PW.pt (pw_or (pt_not (pt_val (pe_call G_is_name (hr.mono (by decide)) rfl T.m_is_name T.F_is_name.kp T.b_is_name .nil pass0 (pa_cons (pv 2) pa_nil)))) (pw_or (pt_cmp (pc_din (hu_of hr) (pv 2) (pe_fld (pv 0) rfl))) (pw_or1 (pt_cmpR op_notIn_seq (pv 3) (pe_tup (pa_cons pe_int (pa_cons pe_int pa_nil))) (by rfl))))))) (pss_one (ps_ret pe_bl)) pss_nil)
      (pss_cons (ps_if (pt_mid (PW.pt (pw_or (pt_cmpR op_eq (pe_callB call_lenK (by rfl) T.z_len PySem.boot_len (pa_cons (pe_meth (pv 0) T.cl_Pacts T.mt_Pacts_names G_Pacts_names (hr.mono (by decide)) T.b_Pacts_names .nil pass0 (pa_cons (pv 3) pa_nil)) pa_nil)) (pe_globI rfl T.g_MOST_HELPERS) (nomark _)) (pw_or (pt_cmpR op_gt (pe_callB call_lenK (by rfl) T.z_len PySem.boot_len (pa_cons (pv 4) pa_nil)) (pe_globI rfl T.g_MOST_TAKES) (nomark _)) (pw_or1 (pt_cmpR op_gt (pe_callB call_lenK (by rfl) T.z_len PySem.boot_len (pa_cons (pv 6) pa_nil)) (pe_globI rfl T.g_MOST_THROWS) (nomark _))))))) (pss_one (ps_ret pe_bl)) pss_nil)
      (pss_cons (ps_if (pt_mid (PW.pt (pw_or (pt_val (pe_callB (cr_any rfl) (by rfl) T.z_any (by decide +kernel) (pa_cons (pe_lc (own := [("how", 7)]) (g := gName 7) (tt := tYes) (te := (tOp (rIn K true) _ _)) rfl sc_Pacts_fits_helper.nd (pi_tup (pv 4)) (blkOk_by (own := [("how", 7)]) (N := n_Pacts_fits_helper) (sc := defScope s_Pacts_fits_helper) (by decide +kernel)) (fun _ _ _ _ _ => (pg_name (i := 7) sc_Pacts_fits_helper.nd rfl (Or.inl rfl))) (fun _ _ _ _ _ => pts_nil) (fun _ _ _ _ _ => (pe_cmpR op_notIn_seq (pv 7) (pe_glob (v := .ref a.k_HOWS) rfl T.g_HOWS rfl) (by rfl)))) pa_nil))) (pw_or1 (pt_cmpR op_ne (pe_lenU rfl (by rfl) T.z_len (by rfl) T.z_set (pv 6)) (pe_callB call_lenK (by rfl) T.z_len PySem.boot_len (pa_cons (pv 6) pa_nil)) (nomark _)))))) (pss_one (ps_ret pe_bl)) pss_nil)
      (pss_one (ps_ret (pe_callB (cr_all rfl) (by rfl) T.z_all (by decide +kernel) (pa_cons (pe_lc (own := [("word", 8)]) (g := gName 8) (tt := tYes) (te := (tOp (rIn K false) _ _)) rfl sc_Pacts_fits_helper.nd (pi_tup (pv 6)) (blkOk_by (own := [("word", 8)]) (N := n_Pacts_fits_helper) (sc := defScope s_Pacts_fits_helper) (by decide +kernel)) (fun _ _ _ _ _ => (pg_name (i := 8) sc_Pacts_fits_helper.nd rfl (Or.inl rfl))) (fun _ _ _ _ _ => pts_nil) (fun _ _ _ _ _ => (pe_cmpR op_in_seq (pv 8) (pe_meth (pv 0) T.cl_Pacts T.mt_Pacts_words_called G_Pacts_words_called (hr.mono (by decide)) T.b_Pacts_words_called .nil pass0 (pa_cons (pv 3) pa_nil)) (by rfl)))) pa_nil)))))))), ?_⟩
    have ht : H t = some (.tup [.str h.name, .int h.side, .ref tk, .bl h.gives, .ref th]) := ht
    have bad : ∀ H', Same H H' → fitsH (L.map (·.2)) (M.map (·.2)) h = false → Q (.bl false) H' := fun H' s e => by rw [← e]; exact q H' s
    have lt : (h.takes.map V.str).length = h.takes.length := List.length_map _
    have lh : (h.throws.map V.str).length = h.throws.length := List.length_map _
    walk_at "go"
    refine midT_of (fun c H1 => Same H H1 ∧ (c = true → fitsH (L.map (·.2)) (M.map (·.2)) h = false) ∧ (c = false → nameB h.name = true ∧ h.name ∉ M.map (fun e => e.2.name) ∧ (h.side = 0 ∨ h.side = 1))) ?_ ?_
    · walk_at "go"
      intro H1 s1
      have PA1 := PA.same s1
      obtain ⟨dx1, ho1⟩ := PA1.pa.ob
      have hd1 := PA1.pa.pc
      cases en : nameB h.name with
      | false =>
        walk_at "go"
        exact wait ⟨s1, fun _ => by unfold fitsH; rw [en]; simp, fun z => nomatch z⟩
      | true =>
        by_cases hin : h.name ∈ M.map (fun e => e.2.name)
        · obtain ⟨v, hv⟩ := hk_in hin
          have hget : DGet H1 kd (.str h.name) (some v) := by
            have := DGet.k (k := Sum.inr h.name) hd1
            rw [hv] at this
            exact this
          walk_at "go"
          refine wait ⟨s1, fun _ => ?_, fun z => nomatch z⟩
          unfold fitsH
          rw [decide_eq_false (show ¬ h.name ∉ (M.map (·.2)).map (·.name) by rw [List.map_map]; exact fun z => z hin)]
          simp
        · have hget : DGet H1 kd (.str h.name) none := by
            have := DGet.k (k := Sum.inr h.name) hd1
            rw [hk_none hin] at this
            exact this
          walk_at "go"
          intro p2 hp2
          have s2 : Same H1 (upd H1 p2 (.tup [.int 0, .int 1])) := Same.upd_new hp2
          refine ⟨p2, _, rfl, .inr (SqT.of upd_same), rfl, rfl, ?_⟩
          have ein : inV (.int h.side) [.int 0, .int 1] = decide (h.side = 0 ∨ h.side = 1) := by
            show ((0 == h.side) || ((1 == h.side) || false)) = _
            by_cases e0 : h.side = 0
            · rw [e0] <;> rfl
            · by_cases e1 : h.side = 1
              · rw [e1] <;> rfl
              · have f0 : (0 == h.side) = false := by simpa using fun z : (0 : Int) = h.side => e0 z.symm
                have f1 : (1 == h.side) = false := by simpa using fun z : (1 : Int) = h.side => e1 z.symm
                rw [f0, f1, decide_eq_false (by omega)] <;> rfl
          rw [if_pos rfl, ein]
          refine ⟨_, rfl, wait ⟨s1.trans s2, fun b => ?_, fun b => ?_⟩⟩
          · have b1 : ¬ (h.side = 0 ∨ h.side = 1) := by simpa using b
            unfold fitsH
            rw [decide_eq_false b1]
            simp
          · have b1 : h.side = 0 ∨ h.side = 1 := of_decide_eq_true ((Bool.not_eq_false' (b := decide (h.side = 0 ∨ h.side = 1))).mp b)
            exact ⟨rfl, hin, b1⟩
    · rintro c H1 ⟨s1, c1, c2⟩
      refine ifB (fun ec => ?_) (fun ec => ?_)
      · walk_at "go"
        exact bad _ s1 (c1 ec)
      · obtain ⟨en, hin, hsd⟩ := c2 ec
        have PA1 := PA.same s1
        obtain ⟨dx1, ho1⟩ := PA1.pa.ob
        walk_at "go"
        refine midT_of (fun c H2 => Same H1 H2 ∧ (c = true → fitsH (L.map (·.2)) (M.map (·.2)) h = false) ∧ (c = false → ((M.map (·.2)).filter fun k => decide (k.side = h.side)).length ≠ 4 ∧ h.takes.length ≤ 3 ∧ h.throws.length ≤ 4)) ?_ ?_
        · walk_at "go"
          intro D H2 hD hD2 s2
          have lf : (((M.filter fun e => decide (e.2.side = h.side)).map fun e => e.2.name).map V.str).length = ((M.map (·.2)).filter fun k => decide (k.side = h.side)).length := by
            rw [List.length_map, List.length_map, List.filter_map, List.length_map] <;> rfl
          have s12 := s1.trans s2
          have htk2 := s12.seqT htk
          have hth2 := s12.seqT hth
          refine ⟨_, _, rfl, .inl (SqL.of hD2), rfl, _, rfl, ?_⟩
          rw [lf]
          refine ifD (fun b => ?_) (fun b => ?_)
          · refine wait ⟨s2, fun _ => ?_, fun z => nomatch z⟩
            unfold fitsH
            rw [decide_eq_false (show ¬ ((M.map (·.2)).filter fun k => decide (k.side = h.side)).length ≠ 4 from fun z => z (by have := V.int.inj b; omega))]
            simp
          · have b1 : ((M.map (·.2)).filter fun k => decide (k.side = h.side)).length ≠ 4 := fun z => b (by rw [z] <;> rfl)
            refine ⟨_, rfl, tk, _, rfl, .inr htk2, _, _, rfl, rfl, _, rfl, ?_⟩
            rw [lt]
            refine ifD (fun b2 => ?_) (fun b2 => ?_)
            · refine wait ⟨s2, fun _ => ?_, fun z => nomatch z⟩
              unfold fitsH
              rw [decide_eq_false (show ¬ h.takes.length ≤ 3 by omega)]
              simp
            · refine ⟨_, rfl, th, _, rfl, .inr hth2, _, _, rfl, rfl, _, rfl, ?_⟩
              rw [lh]
              refine wait ⟨s2, fun b3 => ?_, fun b3 => ⟨b1, by omega, ?_⟩⟩
              · have b4 := of_decide_eq_true b3
                unfold fitsH
                rw [decide_eq_false (show ¬ h.throws.length ≤ 4 by omega)]
                simp
              · have b4 := of_decide_eq_false b3
                omega
        · rintro c H2 ⟨s2, c3, c4⟩
          have s12 := s1.trans s2
          refine ifB (fun ed => ?_) (fun ed => ?_)
          · walk_at "go"
            exact bad _ s12 (c3 ed)
          · obtain ⟨n4, t3, h4⟩ := c4 ed
            have htk2 := s12.seqT htk
            have hth2 := s12.seqT hth
            walk_at "go"
            refine midT_of (fun c H3 => Same H2 H3 ∧ (c = true → fitsH (L.map (·.2)) (M.map (·.2)) h = false) ∧ (c = false → (h.takes.all fun w => decide (w ∈ hows)) = true ∧ h.throws.Nodup)) ?_ ?_
            · walk_at "go"
              intro D hD
              refine lcT (K := K) (a := tk) (xs := h.takes.map V.str) (fun i H' => H' D = some (.lst (((h.takes.take i).map fun w => !decide (w ∈ hows)).map V.bl)) ∧ Same H2 H') ?_ ?_ ?_ ?_
              · exact ⟨upd_same, Same.upd_new hD⟩
              · exact fun i H' _ h => h.2.seqT htk2
              · rintro i y H' hi ⟨g1, g2⟩
                rw [List.getElem?_map] at hi
                obtain ⟨w1, hw1, rfl⟩ := Option.map_eq_some_iff.mp hi
                have hlt := (List.getElem?_eq_some_iff.mp hw1).1
                refine ⟨rfl, ?_⟩
                refine ⟨_, rfl, a.k_HOWS, _, rfl, .inr (T.tp_HOWS _), rfl, rfl, ?_⟩
                rw [if_pos rfl, show inV (.str w1) [.str "lent", .str "given"] = decide (w1 ∈ hows) from in_strs w1 hows]
                refine ⟨_, g1, small_lt (by rw [List.length_map, List.length_map, List.length_take]; omega), wait ⟨?_, fun x o e => upd_get (ne_of_none e hD) (g2 x o e)⟩⟩
                rw [upd_same, List.take_add_one, hw1, List.map_append, List.map_append] <;> rfl
              · rintro H3 ⟨g1, g2⟩
                rw [List.length_map, List.take_length] at g1
                have hth3 := g2.seqT hth2
                refine ⟨D, _, rfl, SqL.of g1, _, rfl, ?_⟩
                have eany : (h.takes.map fun w => !decide (w ∈ hows)).any id = !(h.takes.all fun w => decide (w ∈ hows)) := by
                  rw [List.any_map]
                  simp [List.all_eq_not_any_not]
                rw [eany]
                cases ea : (h.takes.all fun w => decide (w ∈ hows)) with
                | false =>
                  refine ifT rfl (wait ⟨g2, fun _ => ?_, fun z => nomatch z⟩)
                  unfold fitsH
                  rw [ea]
                  simp
                | true =>
                  refine ifF rfl ?_
                  refine ⟨_, rfl, th, h.throws, rfl, hth3, l5, _, rfl, th, _, rfl, .inr hth3, rfl, _, rfl, wait ⟨g2, fun b => ?_, fun b => ⟨rfl, ?_⟩⟩⟩
                  · have b1 : (PfS.uniq h.throws).length ≠ h.throws.length := fun z => by
                      rw [lh, z] at b
                      simp at b
                    unfold fitsH
                    rw [decide_eq_false (show ¬ h.throws.Nodup from fun z => b1 ((PfS.uniq_len _).mpr z))]
                    simp
                  · rw [lh] at b
                    have b1 : V.int ((PfS.uniq h.throws).length : Int) = V.int (h.throws.length : Int) := by simpa using b
                    have b2 := V.int.inj b1
                    exact (PfS.uniq_len _).mp (by omega)
            · rintro c H3 ⟨s3, c5, c6⟩
              refine ifB (fun ee => ?_) (fun ee => ?_)
              · walk_at "go"
                exact bad _ (s12.trans s3) (c5 ee)
              · obtain ⟨hw1, hn1⟩ := c6 ee
                have s13 := s12.trans s3
                have hth3 := s13.seqT hth
                have PA3 := PA.same s13
                walk_at "go"
                intro D hD
                refine lcT (K := K) (a := th) (xs := h.throws.map V.str) (fun i H' => H' D = some (.lst (((h.throws.take i).map fun w => decide (w ∈ (L.map (·.2)).map (·.word h.side))).map V.bl)) ∧ Same H3 H') ?_ ?_ ?_ ?_
                · exact ⟨upd_same, Same.upd_new hD⟩
                · exact fun i H' _ h => h.2.seqT hth3
                · rintro i y H' hi ⟨g1, g2⟩
                  rw [List.getElem?_map] at hi
                  obtain ⟨w1, hw1, rfl⟩ := Option.map_eq_some_iff.mp hi
                  have hlt := (List.getElem?_eq_some_iff.mp hw1).1
                  have PA4 := PA3.same g2
                  obtain ⟨dx4, ho4⟩ := PA4.pa.ob
                  have pa4 := PA4.pa
                  refine ⟨rfl, ?_⟩
                  walk_at "go"
                  intro Z H5 hZ hZ5 s5
                  refine ⟨Z, _, rfl, .inl (SqL.of hZ5), rfl, flat_strs1 _, ?_⟩
                  have ein : inV (.str w1) ((L.map fun e => e.2.word h.side).map V.str) = decide (w1 ∈ (L.map (·.2)).map (·.word h.side)) := by
                    rw [in_strs, List.map_map] <;> rfl
                  rw [if_neg (by decide), ein]
                  refine ⟨_, s5 _ _ g1, small_lt (by rw [List.length_map, List.length_map, List.length_take]; omega), wait ⟨?_, fun x o e => upd_get (ne_of_none e hD) (s5 _ _ (g2 x o e))⟩⟩
                  rw [upd_same, List.take_add_one, hw1, List.map_append, List.map_append] <;> rfl
                · rintro H4 ⟨g1, g2⟩
                  rw [List.length_map, List.take_length] at g1
                  refine ⟨D, _, rfl, SqL.of g1, ?_⟩
                  have ef : fitsH (L.map (·.2)) (M.map (·.2)) h = (h.throws.map fun w => decide (w ∈ (L.map (·.2)).map (·.word h.side))).all id := by
                    unfold fitsH
                    rw [en, decide_eq_true (show h.name ∉ (M.map (·.2)).map (·.name) by rw [List.map_map]; exact hin), decide_eq_true hsd, decide_eq_true n4, decide_eq_true t3, decide_eq_true h4, hw1, decide_eq_true hn1, List.all_map] <;> rfl
                  have qq := q _ (s13.trans g2)
                  rw [ef] at qq
                  exact qq
end
end Pf
set_option Elab.async false
set_option linter.all false
set_option maxRecDepth 100000
set_option maxHeartbeats 4000000
namespace Pf
open PySem L2
local macro_rules | `(tactic| walk_at "nz") => `(tactic| (show (_ : Int) ≠ 0; omega))
local macro_rules | `(tactic| walk_at "ne") => `(tactic| first | assumption | (apply Ne.symm; assumption))
local macro_rules | `(tactic| walk_at "hp") => `(tactic| first | assumption | exact upd_same | (refine upd_get ?_ ?_; walk_at "ne"; walk_at "hp"))
local macro_rules | `(tactic| walk_at "sd") => `(tactic| first
  | (with_reducible show (_ : Int) < _; omega)
  | (with_reducible show (_ : Int) ≤ _; omega)
  | (with_reducible show (_ : Nat) < _; omega)
  | (with_reducible show (_ : Nat) ≤ _; omega)
  | rfl
  | assumption
  | exact kV_int _
  | exact kV_str _
  | (show (_ : Int) ≠ 0; omega)
  | exact SqL.of (by walk_at "hp")
  | exact ⟨_, SqL.of (by walk_at "hp")⟩
  | exact ⟨_, SqT.of (by walk_at "hp")⟩
  | exact ⟨_, (by assumption)⟩
  | exact SqT.of (by walk_at "hp")
  | exact Rd.of (by walk_at "hp")
  | exact Or.inl (SqL.of (by walk_at "hp"))
  | exact Or.inr (SqT.of (by walk_at "hp"))
  | exact Or.inr (by assumption)
  | (walk_at "hp")
  | (exact Or.inl ⟨rfl, _, SqL.of (by walk_at "hp")⟩)
  | (exact Or.inl ⟨by omega, by omega⟩)
  | (exact Or.inr ⟨by omega, by omega⟩)
  | (refine ⟨?_, ?_, ?_⟩ <;> omega)
  | omega
  | (exact small_le (by first | omega | (simp only [List.length_cons, List.length_nil]; omega)))
  | (exact small_lt (by first | omega | (simp only [List.length_cons, List.length_nil]; omega)))
  | exact Nat.le_of_ble_eq_true rfl
  | exact ⟨_, rfl⟩
  | decide)
local macro_rules | `(tactic| walk_at "st") => `(tactic| first
  | with_reducible refine sq_seq ?_
  | apply Exists.intro
  | (refine And.intro ?_ ?_; (walk_at "sd")))
local macro_rules | `(tactic| walk_at "go") => `(tactic| repeat (walk_at "st"))
section
variable {P : Program} {w : World} {K : PySem.W.Frag} {mg : Str → Option Value} {base : Heap} {a : Ad}
theorem hk_snoc (M : List (Addr × Hl)) (e : Addr × Hl) : hk (M ++ [e]) = hk M ++ [(Sum.inr e.2.name, V.ref e.1)] := by
  unfold hk
  rw [List.map_append] <;> rfl
/-! ### which one is refused -/
def okPs (ps : List Pr) : Prop := ∀ i p, ps[i]? = some p → fitsP (ps.take i) p = true
def okHs (ps : List Pr) (hs : List Hl) : Prop := ∀ i h, hs[i]? = some h → fitsH ps (hs.take i) h = true
def badP (ps : List Pr) (i : Nat) : Prop := (∃ p, ps[i]? = some p ∧ fitsP (ps.take i) p = false) ∧ ∀ j < i, ∀ p, ps[j]? = some p → fitsP (ps.take j) p = true
def badH (ps : List Pr) (hs : List Hl) (i : Nat) : Prop := (∃ h, hs[i]? = some h ∧ fitsH ps (hs.take i) h = false) ∧ ∀ j < i, ∀ h, hs[j]? = some h → fitsH ps (hs.take j) h = true
def FB (ps : List Pr) (hs : List Hl) (z : Int) : Prop := (z = -1 ∧ okPs ps ∧ okHs ps hs) ∨ (∃ i : Nat, z = i ∧ badP ps i) ∨ ∃ i : Nat, z = ps.length + i ∧ okPs ps ∧ badH ps hs i
theorem badP_not {ps : List Pr} {i : Nat} (b : badP ps i) (o : okPs ps) : False := by
  obtain ⟨⟨p, h1, h2⟩, _⟩ := b
  rw [o i p h1] at h2
  cases h2
theorem badH_not {ps : List Pr} {hs : List Hl} {i : Nat} (b : badH ps hs i) (o : okHs ps hs) : False := by
  obtain ⟨⟨p, h1, h2⟩, _⟩ := b
  rw [o i p h1] at h2
  cases h2
theorem badP_one {ps : List Pr} {i j : Nat} (a : badP ps i) (b : badP ps j) : i = j := by
  obtain ⟨⟨p, h1, h2⟩, h3⟩ := a
  obtain ⟨⟨q, g1, g2⟩, g3⟩ := b
  rcases Nat.lt_trichotomy i j with e | e | e
  · rw [g3 i e p h1] at h2; cases h2
  · exact e
  · rw [h3 j e q g1] at g2; cases g2
theorem badH_one {ps : List Pr} {hs : List Hl} {i j : Nat} (a : badH ps hs i) (b : badH ps hs j) : i = j := by
  obtain ⟨⟨p, h1, h2⟩, h3⟩ := a
  obtain ⟨⟨q, g1, g2⟩, g3⟩ := b
  rcases Nat.lt_trichotomy i j with e | e | e
  · rw [g3 i e p h1] at h2; cases h2
  · exact e
  · rw [h3 j e q g1] at g2; cases g2
theorem FB_one {ps : List Pr} {hs : List Hl} {z y : Int} (a : FB ps hs z) (b : FB ps hs y) : z = y := by
  rcases a with ⟨e, o1, o2⟩ | ⟨i, e, b1⟩ | ⟨i, e, o1, b2⟩
  · rcases b with ⟨f, _, _⟩ | ⟨j, f, c1⟩ | ⟨j, f, p1, c2⟩
    · rw [e, f]
    · exact (badP_not c1 o1).elim
    · exact (badH_not c2 o2).elim
  · rcases b with ⟨f, p1, _⟩ | ⟨j, f, c1⟩ | ⟨j, f, p1, c2⟩
    · exact (badP_not b1 p1).elim
    · rw [e, f, badP_one b1 c1]
    · exact (badP_not b1 p1).elim
  · rcases b with ⟨f, _, p2⟩ | ⟨j, f, c1⟩ | ⟨j, f, p1, c2⟩
    · exact (badH_not b2 p2).elim
    · exact (badP_not c1 o1).elim
    · rw [e, f, badH_one b2 c2]
theorem fitsH_new {ps : List Pr} {hs : List Hl} {h : Hl} (f : fitsH ps hs h = true) : h.name ∉ hs.map (·.name) := by
  unfold fitsH at f
  simp only [Bool.and_eq_true] at f
  exact of_decide_eq_true f.1.1.1.1.1.1.1.2
/-- texts and lists of no great size -/
structure SzP (ps : List Pr) : Prop where
  len : ps.length ≤ 1000
  nl : ∀ p ∈ ps, p.near.length ≤ 1000 ∧ p.far.length ≤ 1000
structure SzH (hs : List Hl) : Prop where
  len : hs.length ≤ 1000
  nl : ∀ h ∈ hs, h.name.length ≤ 1000 ∧ h.takes.length ≤ 1000 ∧ h.throws.length ≤ 1000
theorem ok_NoPact___init__ (T : Txt K mg a) : FnOk P w K mg base CX0 1 a.f_NoPact___init__ a.d_NoPact___init__ ["self", "at"] (spErr a.c_NoPact "at") := by
  refine T.F_NoPact___init__.ok sc_NoPact___init__ (fun vs H Q E h => ?_) (fun cdv A outer s H vs Q E hr h => ?_)
  · obtain ⟨e, v, rfl, _⟩ := h
    rfl
  · obtain ⟨e, v, rfl, he, q⟩ := h
    refine ⟨_, pss_one (ps_ost (pv 0) (pv 1)), ?_⟩
    exact ⟨_, rfl, _, rfl, e, a.c_NoPact, rfl, T.ox_NoPact, T.na_NoPact_at, .inl ⟨he, q⟩⟩
def spInitX (K : PySem.W.Frag) (C N : Addr) : Sp := fun vs H Q E => ∃ (x dx pl hl : Addr) (L : List (Addr × Pr)) (M : List (Addr × Hl)), vs = [.ref x, .ref pl, .ref hl] ∧ H x = some (.ins C dx []) ∧ PairsAt H pl L ∧ HelpersAt K H hl M ∧ SzP (L.map (·.2)) ∧ SzH (M.map (·.2)) ∧
  (okPs (L.map (·.2)) → okHs (L.map (·.2)) (M.map (·.2)) → ∀ (kp kd : Addr) (H' : Hp), H kp = none → H kd = none → PactsH K C H' x kp kd L M → (∀ y o, y ≠ x → H y = some o → H' y = some o) → Q .non H') ∧
  (∀ z, FB (L.map (·.2)) (M.map (·.2)) z → z ≠ -1 → ∀ (d : Addr) (H' : Hp), H d = none → H' d = some (.xd [("at", .int z)]) → (∀ y o, y ≠ x → H y = some o → H' y = some o) → E (.ref N) (some d) H')
theorem ok_Pacts___init__ (T : Txt K mg a) : FnOk P w K mg base (L2.CX P w) 3 a.f_Pacts___init__ a.d_Pacts___init__ ["self", "pairs", "helpers"] (spInitX K a.c_Pacts a.c_NoPact) := by
  have G_Pacts_fits_pair := ok_Pacts_fits_pair (P := P) (w := w) (base := base) T
  have G_NoPact___init__ := ok_NoPact___init__ (P := P) (w := w) (base := base) T
  have G_Pacts_fits_helper := ok_Pacts_fits_helper (P := P) (w := w) (base := base) T
  have cl_Pacts := T.cl_Pacts
  have na_Pacts_kept_pairs := T.na_Pacts_kept_pairs
  have na_Pacts_kept_pacts := T.na_Pacts_kept_pacts
  refine T.F_Pacts___init__.okX sc_Pacts___init__ (fun vs H Q E h => ?_) (fun cdv A outer s H vs Q E hr h => ?_)
  · obtain ⟨x, dx, pl, hl, L, M, rfl, _⟩ := h
    rfl
  · obtain ⟨x, dx, pl, hl, L, M, rfl, hx, PP, HH, zP, zH, q1, q2⟩ := h
    refine ⟨_, (pss_cons (ps_fld (pv 0) (pe_lst pa_nil) rfl)
      (pss_cons (ps_fld (pv 0) pe_dnewK rfl)
      (pss_cons (ps_stop (ps_for (passes_of rfl) rfl (pi_wait (pi_enum rfl T.z_enumerate (pa_cons (pv 1) pa_nil))) (pg_tup rfl (pgs_cons (pg_name (i := 3) sc_Pacts___init__.nd rfl (Or.inl rfl)) (pgs_cons (pg_name (i := 4) sc_Pacts___init__.nd rfl (Or.inl rfl)) pgs_nil))) (pss_cons (ps_if (pt_not (pt_val (pe_meth (pv 0) T.cl_Pacts T.mt_Pacts_fits_pair G_Pacts_fits_pair (hr.mono (by decide)) T.b_Pacts_fits_pair .nil pass0 (pa_cons (pv 4) pa_nil)))) (pss_one (ps_raise rfl (takes_of rfl rfl rfl rfl) (pmk_oex T.ox_NoPact T.ini_NoPact T.ti_NoPact G_NoPact___init__ (hr.mono (by decide)) T.b_NoPact___init__ .nil pass0 rfl T.m_NoPact (by exact (pa_cons (pv 3) pa_nil))))) pss_nil)
      (pss_one (ps_expr (pe_bm PySem.F.plainAttrs_list PySem.F.slot_list_append PySem.F.type_list_append mt_append (pe_fld (pv 0) rfl) (pa_cons (pv 4) pa_nil)))))))
      (pss_one (ps_stop (ps_for (passes_of rfl) rfl (pi_wait (pi_enum rfl T.z_enumerate (pa_cons (pv 2) pa_nil))) (pg_tup rfl (pgs_cons (pg_name (i := 3) sc_Pacts___init__.nd rfl (Or.inl rfl)) (pgs_cons (pg_name (i := 5) sc_Pacts___init__.nd rfl (Or.inl rfl)) pgs_nil))) (pss_cons (ps_if (pt_not (pt_val (pe_meth (pv 0) T.cl_Pacts T.mt_Pacts_fits_helper G_Pacts_fits_helper (hr.mono (by decide)) T.b_Pacts_fits_helper .nil pass0 (pa_cons (pv 5) pa_nil)))) (pss_one (ps_raise rfl (takes_of rfl rfl rfl rfl) (pmk_oex T.ox_NoPact T.ini_NoPact T.ti_NoPact G_NoPact___init__ (hr.mono (by decide)) T.b_NoPact___init__ .nil pass0 rfl T.m_NoPact (by exact (pa_cons (pe_op op_add (pe_callB call_lenK (by rfl) T.z_len PySem.boot_len (pa_cons (pv 1) pa_nil)) (pv 3)) pa_nil))))) pss_nil)
      (pss_one (ps_dput (hu_of hr) (pe_fld (pv 0) rfl) (pe_ix ix_tup (pv 5) pe_int (fun _ _ => rfl)) (pv 5) rfl))))))))), ?_⟩
    refine ⟨Nat.zero_le _, fun kp hkp => ?_⟩
    have nxp : x ≠ kp := ne_of_none hx hkp
    walk_at "go"
    intro kd hkd
    have nxd : x ≠ kd := fun z => by rw [← z, upd_same] at hkd; cases hkd
    have hkd1 : upd H kp (.lst []) kd = none := by rw [upd_ne nxd.symm] at hkd; exact hkd
    have npd : kp ≠ kd := fun z => by rw [← z, upd_same] at hkd1; cases hkd1
    have hkd2 : H kd = none := by rw [upd_ne npd.symm] at hkd1; exact hkd1
    walk_at "go"
    obtain ⟨H0, e0⟩ : ∃ H0, H0 = upd (upd (upd (upd H kp (.lst [])) x (.ins a.c_Pacts dx [(("kept_pairs" : Str), V.ref kp)])) kd (.dK [])) x (.ins a.c_Pacts dx (pf kp kd)) := ⟨_, rfl⟩
    have hx0 : H0 x = some (.ins a.c_Pacts dx (pf kp kd)) := by rw [e0, upd_same]
    have hp0 : H0 kp = some (.lst []) := by rw [e0, upd_ne nxp.symm, upd_ne npd, upd_ne nxp.symm, upd_same]
    have hd0 : H0 kd = some (.dK []) := by rw [e0, upd_ne nxd.symm, upd_same]
    have k0 : ∀ y o, y ≠ x → H y = some o → H0 y = some o := fun y o n e => by
      rw [e0, upd_ne n, upd_ne (ne_of_none e hkd2), upd_ne n, upd_ne (ne_of_none e hkp)]
      exact e
    show tStop _ _ _ (upd (upd (upd (upd H kp (.lst [])) x (.ins a.c_Pacts dx [(("kept_pairs" : Str), V.ref kp)])) kd (.dK [])) x (.ins a.c_Pacts dx (pf kp kd)))
    rw [← e0]
    have nlx : pl ≠ x := ne_of PP.ls hx (by intro z; cases z)
    have nhx : hl ≠ x := ne_of HH.ls hx (by intro z; cases z)
    have hls0 := k0 _ _ nlx PP.ls
    have zl := zP.len
    have zm := zH.len
    rw [List.length_map] at zl zm
    refine stop_in ?_
    walk_at "go"
    refine wait ?_
    refine forW (walk_enum (K := K) (xs := L.map fun e => V.ref e.1)) (fun i σ H' => (∃ u3 u4, σ = [some (.ref x), some (.ref pl), some (.ref hl), u3, u4, none]) ∧ PactsAt a.c_Pacts H' x kp kd (L.take i) [] ∧ (∀ y o, y ≠ x → H y = some o → H' y = some o) ∧ ∀ j < i, ∀ p, (L.map (·.2))[j]? = some p → fitsP ((L.map (·.2)).take j) p = true) ?_ ?_ ?_ ?_
    · exact ⟨⟨_, _, rfl⟩, ⟨⟨dx, hx0⟩, ⟨hp0, fun _ h => nomatch h⟩, hd0⟩, k0, fun j hj => absurd hj (Nat.not_lt_zero _)⟩
    · rintro i σ H' _ ⟨_, _, k, _⟩
      exact SqL.of (k _ _ nlx PP.ls)
    · rintro i v σ H1 H2 hi ⟨⟨u3, u4, rfl⟩, PA, k1, af⟩ ⟨t, y1, y2, rfl, ht, rfl, hy1, hy2⟩
      have hy2 : (L.map fun e => V.ref e.1)[i]? = some y2 := hy2
      rw [List.getElem?_map] at hy2
      obtain ⟨e, he, rfl⟩ := Option.map_eq_some_iff.mp hy2
      have hem := List.mem_of_getElem? he
      have s2 : Same H1 (upd H1 t (.tup [y1, .ref e.1])) := Same.upd_new ht
      have PA2 := PA.same s2
      obtain ⟨dx2, ho2⟩ := PA2.ob
      have hpe : H e.1 = _ := PP.at_ e hem
      have hpe2 : PrAt (upd H1 t (.tup [y1, .ref e.1])) (e.1, e.2) := s2 _ _ (k1 _ _ (ne_of hpe hx (by intro z; cases z)) hpe)
      have l1 : (L.take i).length ≤ 10000 := by rw [List.length_take]; omega
      have hgm : e.2 ∈ L.map (·.2) := List.mem_map.mpr ⟨e, hem, rfl⟩
      have l2 : e.2.near.length ≤ 100000 := Nat.le_trans (zP.nl _ hgm).1 (by decide)
      have l3 : e.2.far.length ≤ 100000 := Nat.le_trans (zP.nl _ hgm).2 (by decide)
      have hei : (L.map (·.2))[i]? = some e.2 := by rw [List.getElem?_map, he] <;> rfl
      cases hy1
      walk_at "go"
      intro H3 s3
      rw [List.map_take]
      cases hfit : fitsP ((L.map (·.2)).take i) e.2 with
      | false =>
        walk_at "go"
        refine (raise_err fun d H4 hd hd4 s4 => q2 i (.inr (.inl ⟨i, rfl, ⟨e.2, hei, hfit⟩, af⟩)) (by omega) d H4 ?_ hd4 fun y o n ey => s4 _ _ (s3 _ _ (s2 _ _ (k1 y o n ey)))).2
        cases yd : H d with
        | none => rfl
        | some o =>
          by_cases n : d = x
          · rw [n, s3 _ _ ho2] at hd; cases hd
          · rw [s3 _ _ (s2 _ _ (k1 d o n yd))] at hd; cases hd
      | true =>
        have PA3 := PA2.same s3
        obtain ⟨dx3, ho3⟩ := PA3.ob
        have hp3 := PA3.pr.ls
        walk_at "go"
        refine ⟨small_lt (by rw [List.length_map, List.length_take]; omega), wait ⟨⟨_, _, rfl⟩, ?_, ?_, ?_⟩⟩
        · refine ⟨⟨dx3, upd_get nxp ho3⟩, ⟨?_, fun d hd => ?_⟩, upd_get npd.symm PA3.pc⟩
          · rw [upd_same, List.take_add_one, he, List.map_append] <;> rfl
          · rw [List.take_add_one, he, Option.toList_some] at hd
            rcases List.mem_append.mp hd with z | z
            · have := PA3.pr.at_ d z
              exact upd_get (ne_of this hp3 (by intro z; cases z)) this
            · rw [List.mem_singleton.mp z]
              have h3 : PrAt H3 e := s3 _ _ hpe2
              exact upd_get (ne_of h3 hp3 (by intro z; cases z)) h3
        · intro y o n e
          exact upd_get (ne_of_none e hkp) (s3 _ _ (s2 _ _ (k1 y o n e)))
        · intro j hj p hp
          by_cases z : j = i
          · subst z
            rw [hei] at hp
            cases hp
            exact hfit
          · exact af j (by omega) p hp
    · rintro σ H1 ⟨⟨u3, u4, rfl⟩, PA, k1, af⟩
      rw [List.length_map, List.take_length] at PA
      have okP : okPs (L.map (·.2)) := fun j p hp => af j (by rw [List.length_map]; have := (List.getElem?_eq_some_iff.mp hp).1; rw [List.length_map] at this; exact this) p hp
      have hh1 := k1 _ _ nhx HH.ls
      refine stop_in ?_
      walk_at "go"
      refine wait ?_
      refine forW (walk_enum (K := K) (xs := M.map fun e => V.ref e.1)) (fun i σ H' => (∃ u3 u4 u5, σ = [some (.ref x), some (.ref pl), some (.ref hl), u3, u4, u5]) ∧ PactsH K a.c_Pacts H' x kp kd L (M.take i) ∧ (∀ y o, y ≠ x → H y = some o → H' y = some o) ∧ ∀ j < i, ∀ h, (M.map (·.2))[j]? = some h → fitsH (L.map (·.2)) ((M.map (·.2)).take j) h = true) ?_ ?_ ?_ ?_
      · exact ⟨⟨_, _, _, rfl⟩, ⟨PA, fun _ h => nomatch h⟩, k1, fun j hj => absurd hj (Nat.not_lt_zero _)⟩
      · rintro i σ H' _ ⟨_, _, k, _⟩
        exact SqL.of (k _ _ nhx HH.ls)
      · rintro i v σ H2 H3 hi ⟨⟨u3', u4', u5', rfl⟩, PH, k2, ah⟩ ⟨t, y1, y2, rfl, ht, rfl, hy1, hy2⟩
        have hy2 : (M.map fun e => V.ref e.1)[i]? = some y2 := hy2
        rw [List.getElem?_map] at hy2
        obtain ⟨e, he, rfl⟩ := Option.map_eq_some_iff.mp hy2
        have hem := List.mem_of_getElem? he
        have s3 : Same H2 (upd H2 t (.tup [y1, .ref e.1])) := Same.upd_new ht
        have PH3 := PH.same s3
        obtain ⟨dx3, ho3⟩ := PH3.pa.ob
        have tkH : TK H H2 := TK.of fun t o e n => k2 _ _ (fun z => by
          subst z
          rw [hx] at e
          cases e
          exact n True.intro) e
        have he3 : HlAt K (upd H2 t (.tup [y1, .ref e.1])) (e.1, e.2) := (HH.at_ e hem).tk (tkH.trans (TK.same s3))
        have hgm : e.2 ∈ M.map (·.2) := List.mem_map.mpr ⟨e, hem, rfl⟩
        have l0 : L.length ≤ 10000 := by omega
        have l1 : (M.take i).length ≤ 10000 := by rw [List.length_take]; omega
        have zz := zH.nl _ hgm
        have l2 : e.2.name.length ≤ 100000 := Nat.le_trans zz.1 (by decide)
        have l3 := zz.2.1
        have l4 := zz.2.2
        have hei : (M.map (·.2))[i]? = some e.2 := by rw [List.getElem?_map, he] <;> rfl
        cases hy1
        walk_at "go"
        intro H4 s4
        rw [List.map_take]
        cases hfit : fitsH (L.map (·.2)) ((M.map (·.2)).take i) e.2 with
        | false =>
          have lp4 : H4 pl = some (.lst (L.map fun e => V.ref e.1)) := s4 _ _ (s3 _ _ (k2 _ _ nlx PP.ls))
          have lml : (L.map fun e => V.ref e.1).length = (L.map (·.2)).length := by rw [List.length_map, List.length_map]
          walk_at "go"
          rw [lml]
          refine (raise_err fun d H5 hd hd5 s5 => q2 _ (.inr (.inr ⟨i, rfl, okP, ⟨e.2, hei, hfit⟩, ah⟩)) (by omega) d H5 ?_ hd5 fun y o n ey => s5 _ _ (s4 _ _ (s3 _ _ (k2 y o n ey)))).2
          cases yd : H d with
          | none => rfl
          | some o =>
            by_cases n : d = x
            · rw [n, s4 _ _ ho3] at hd; cases hd
            · rw [s4 _ _ (s3 _ _ (k2 d o n yd))] at hd; cases hd
        | true =>
          have PH4 := PH3.same s4
          obtain ⟨dx4, ho4⟩ := PH4.pa.ob
          have hd4 := PH4.pa.pc
          obtain ⟨tk, th, he4, _, _⟩ := he3.tk (TK.same s4)
          have hnew := fitsH_new hfit
          rw [← List.map_take, List.map_map] at hnew
          have hnew : e.2.name ∉ (M.take i).map fun e => e.2.name := hnew
          walk_at "go"
          refine ⟨DPut.k (k := Sum.inr e.2.name) hd4 (small_lt (by rw [hk_len, List.length_take]; omega)), ?_⟩
          rw [hk_put _ hnew]
          refine wait ⟨⟨_, _, _, rfl⟩, ⟨⟨⟨dx4, upd_get nxd ho4⟩, PH4.pa.pr.keep (fun o e => upd_get npd e) (fun t ys e => (TK.dK hd4 t).1 ys e), ?_⟩, fun d hd => ?_⟩, fun y o n e => upd_get (ne_of_none e hkd2) (s4 _ _ (s3 _ _ (k2 y o n e))), fun j hj p hp => ?_⟩
          · rw [upd_same, List.take_add_one, he, Option.toList_some, hk_snoc]
          · rw [List.take_add_one, he, Option.toList_some] at hd
            rcases List.mem_append.mp hd with z | z
            · exact (PH4.at_ d z).tk (TK.dK hd4)
            · rw [List.mem_singleton.mp z]
              exact (he3.tk (TK.same s4)).tk (TK.dK hd4)
          · by_cases z : j = i
            · subst z
              rw [hei] at hp
              cases hp
              exact hfit
            · exact ah j (by omega) p hp
      · rintro σ H2 ⟨⟨u3', u4', u5', rfl⟩, PH, k2, ah⟩
        rw [List.length_map, List.take_length] at PH
        exact q1 okP (fun j h hh => ah j (by rw [List.length_map]; have := (List.getElem?_eq_some_iff.mp hh).1; rw [List.length_map] at this; exact this) h hh) kp kd _ hkp hkd2 PH k2
def spPact (K : PySem.W.Frag) (C : Addr) : Sp := fun vs H Q _ => ∃ (x kp kd : Addr) (L : List (Addr × Pr)) (M : List (Addr × Hl)) (e : Addr × Hl), vs = [.ref x, .str e.2.name] ∧ PactsH K C H x kp kd L M ∧ (M.map fun e => e.2.name).Nodup ∧ e ∈ M ∧ Q (.ref e.1) H
theorem ok_Pacts_pact (T : Txt K mg a) : FnOk P w K mg base CX0 3 a.f_Pacts_pact a.d_Pacts_pact ["self", "name"] (spPact K a.c_Pacts) := by
  have cl_Pacts := T.cl_Pacts
  have na_Pacts_kept_pairs := T.na_Pacts_kept_pairs
  have na_Pacts_kept_pacts := T.na_Pacts_kept_pacts
  refine T.F_Pacts_pact.ok sc_Pacts_pact (fun vs H Q E h => ?_) (fun cdv A outer s H vs Q E hr h => ?_)
  · obtain ⟨x, kp, kd, L, M, e, rfl, _⟩ := h
    rfl
  · obtain ⟨x, kp, kd, L, M, e, rfl, PH, nd, he, q⟩ := h
    obtain ⟨dx, ho⟩ := PH.pa.ob
    have hget : DGet H kd (.str e.2.name) (some (.ref e.1)) := by
      have := DGet.k (k := Sum.inr e.2.name) PH.pa.pc
      rw [hk_val nd he] at this
      exact this
    refine ⟨_, (pss_cons (ps_if (pt_cmp (pc_dnotin (hu_of hr) (pv 1) (pe_fld (pv 0) rfl))) (pss_one ps_never) pss_nil)
      (pss_one (ps_ret (pe_dget (hu_of hr) (pe_fld (pv 0) rfl) (pv 1) (fun _ _ => rfl))))), ?_⟩
    walk_at "go"
    exact q
end
end Pf
set_option Elab.async false
set_option linter.all false
set_option maxRecDepth 100000
set_option maxHeartbeats 4000000
namespace Pf
open PySem L2
local macro_rules | `(tactic| walk_at "nz") => `(tactic| (show (_ : Int) ≠ 0; omega))
local macro_rules | `(tactic| walk_at "ne") => `(tactic| first | assumption | (apply Ne.symm; assumption))
local macro_rules | `(tactic| walk_at "hp") => `(tactic| first | assumption | exact upd_same | (refine upd_get ?_ ?_; walk_at "ne"; walk_at "hp"))
local macro_rules | `(tactic| walk_at "sd") => `(tactic| first
  | (with_reducible show (_ : Int) < _; omega)
  | (with_reducible show (_ : Int) ≤ _; omega)
  | (with_reducible show (_ : Nat) < _; omega)
  | (with_reducible show (_ : Nat) ≤ _; omega)
  | rfl
  | assumption
  | exact kV_int _
  | exact kV_str _
  | (show (_ : Int) ≠ 0; omega)
  | exact SqL.of (by walk_at "hp")
  | exact ⟨_, SqL.of (by walk_at "hp")⟩
  | exact ⟨_, SqT.of (by walk_at "hp")⟩
  | exact ⟨_, (by assumption)⟩
  | exact SqT.of (by walk_at "hp")
  | exact Rd.of (by walk_at "hp")
  | exact Or.inl (SqL.of (by walk_at "hp"))
  | exact Or.inr (SqT.of (by walk_at "hp"))
  | exact Or.inr (by assumption)
  | (walk_at "hp")
  | (exact Or.inl ⟨rfl, _, SqL.of (by walk_at "hp")⟩)
  | (exact Or.inl ⟨by omega, by omega⟩)
  | (exact Or.inr ⟨by omega, by omega⟩)
  | (refine ⟨?_, ?_, ?_⟩ <;> omega)
  | omega
  | (exact small_le (by first | omega | (simp only [List.length_cons, List.length_nil]; omega)))
  | (exact small_lt (by first | omega | (simp only [List.length_cons, List.length_nil]; omega)))
  | exact Nat.le_of_ble_eq_true rfl
  | exact ⟨_, rfl⟩
  | decide)
local macro_rules | `(tactic| walk_at "st") => `(tactic| first
  | with_reducible refine sq_seq ?_
  | apply Exists.intro
  | (refine And.intro ?_ ?_; (walk_at "sd")))
local macro_rules | `(tactic| walk_at "go") => `(tactic| repeat (walk_at "st"))
section
variable {P : Program} {w : World} {K : PySem.W.Frag} {mg : Str → Option Value} {base : Heap} {a : Ad}
def spLIsName : Sp := fun vs H Q _ => ∃ w : Str, vs = [.str w] ∧ w.length ≤ 100000 ∧ ∀ H', Same H H' → Q (.bl (nameB w)) H'
theorem ok__law_is_name (T : Txt K mg a) : FnOk P w K mg base CX0 1 a.f__law_is_name a.d__law_is_name ["_law_word"] spLIsName := by
  refine T.F__law_is_name.ok sc__law_is_name (fun vs H Q E h => ?_) (fun cdv A outer s H vs Q E hr h => ?_)
  · obtain ⟨w, rfl, _⟩ := h
    rfl
  · obtain ⟨w, rfl, hl, q⟩ := h
    have hsz : w.length ≤ sizeLine := small_le hl
    refine ⟨_, (pss_one (ps_ret (pe_and (pe_chain op_lt op_lt pe_int (pe_callB call_len_str (by rfl) T.z_len PySem.boot_len (pa_cons (pv 0) pa_nil)) pe_int) (pe_one (pe_callB (cr_all rfl) (by rfl) T.z_all (by decide +kernel) (pa_cons (pe_lc (own := [("_law_sign", 1)]) (g := gName 1) (tt := tYes) rfl sc__law_is_name.nd (pi_str (pv 0)) (blkOk_by (own := [("_law_sign", 1)]) (N := n__law_is_name) (sc := defScope s__law_is_name) (by decide +kernel)) (fun _ _ _ _ _ => (pg_name (i := 1) sc__law_is_name.nd rfl (Or.inl rfl))) (fun _ _ _ _ _ => pts_nil) (fun _ _ _ _ _ => (pe_cmpR op_in_str (pv 1) pe_str rfl))) pa_nil)))))), ?_⟩
    walk_at "go"
    refine ifD (fun h1 => ?_) (fun h1 => ?_)
    · walk_at "go"
      refine ifD (fun h2 => ?_) (fun h2 => ?_)
      · walk_at "go"
        intro D hD
        refine lcW (walk_str (z := w)) (fun i H' => H' D = some (.lst ((((w.cps.toList.take i).map fun c => decide (c ∈ (Str.ofString "abcdefghijklmnopqrstuvwxyz").cps.toList))).map V.bl)) ∧ Same H H') ?_ ?_ ?_ ?_
        · exact ⟨upd_same, Same.upd_new hD⟩
        · exact fun _ _ _ _ => trivial
        · rintro i x H1 _ hi ⟨g1, g2⟩ ⟨rfl, c, hc, rfl⟩
          have hc2 : w.cps.toList[i]? = some c := by rw [Array.getElem?_toList]; exact hc
          have hlt : (w.cps.toList.take i).length ≤ 8 := by
            rw [List.length_take, Array.length_toList]
            have : w.length = w.cps.size := rfl
            omega
          refine ⟨rfl, ?_⟩
          walk_at "go"
          refine ⟨small_lt (by rw [List.length_map, List.length_map]; omega), wait ⟨?_, fun x o e => upd_get (ne_of_none e hD) (g2 x o e)⟩⟩
          rw [upd_same, StrLaws.found_one, List.take_add_one, hc2, List.map_append, List.map_append] <;> rfl
        · rintro H1 ⟨g1, g2⟩
          walk_at "go"
          have e1 : nameB w = ((w.cps.toList.take w.cps.size).map fun c => decide (c ∈ (Str.ofString "abcdefghijklmnopqrstuvwxyz").cps.toList)).all id := by
            rw [List.take_of_length_le (by rw [Array.length_toList] <;> omega), List.all_map]
            unfold nameB
            rw [decide_eq_true (show 1 ≤ w.length by omega), decide_eq_true (show w.length ≤ 8 by omega)] <;> rfl
          rw [← e1]
          exact q _ g2
      · have e1 : nameB w = false := by
          unfold nameB
          rw [decide_eq_false (show ¬ w.length ≤ 8 by omega), Bool.and_false, Bool.false_and]
        rw [← e1]
        exact q _ (fun _ _ e => e)
    · have e1 : nameB w = false := by
        unfold nameB
        rw [decide_eq_false (show ¬ 1 ≤ w.length by omega), Bool.false_and, Bool.false_and]
      refine ⟨_, rfl, ifF rfl ?_⟩
      rw [← e1]
      exact q _ (fun _ _ e => e)
def spPairFits (C : Unit) : Sp := fun vs H Q _ => ∃ (A t : Addr) (L : List (Addr × Pr)) (p : Pr), vs = [.ref A, .ref t] ∧ PairsAt H A L ∧ PrAt H (t, p) ∧ L.length ≤ 6 ∧ p.near.length ≤ 100000 ∧ p.far.length ≤ 100000 ∧
  ∀ H', Same H H' → Q (.bl (fitsP (L.map (·.2)) p)) H'
theorem ok__law_pair_fits (T : Txt K mg a) : FnOk P w K mg base CX0 2 a.f__law_pair_fits a.d__law_pair_fits ["_law_ahead", "_law_pair"] (spPairFits ()) := by
  have G__law_is_name := ok__law_is_name (P := P) (w := w) (base := base) T
  refine T.F__law_pair_fits.ok sc__law_pair_fits (fun vs H Q E h => ?_) (fun cdv A outer s H vs Q E hr h => ?_)
  · obtain ⟨A, t, L, p, rfl, _⟩ := h
    rfl
  · obtain ⟨A, t, L, p, rfl, PA, hp, hl, l1, l2, q⟩ := h
    have hls := PA.ls
    have hp1 : H t = some (.tup [.str p.near, .str p.far, .bl p.laden]) := hp
    have lm : (L.map fun e => V.ref e.1).length = L.length := List.length_map _
    have bad : ∀ H', Same H H' → fitsP (L.map (·.2)) p = false → Q (.bl false) H' := fun H' s e => by rw [← e]; exact q H' s
    refine ⟨_, (pss_cons (ps_asg (pv 1) (pg_tup rfl (pgs_cons (pg_name (i := 2) sc__law_pair_fits.nd rfl (Or.inl rfl)) (pgs_cons (pg_name (i := 3) sc__law_pair_fits.nd rfl (Or.inl rfl)) (pgs_cons (pg_name (i := 4) sc__law_pair_fits.nd rfl (Or.inl rfl)) pgs_nil)))))
      (pss_cons (ps_if (PW.pt (pw_or (pt_cmpR op_gt (pe_callB call_lenK (by rfl) T.z_len PySem.boot_len (pa_cons (pv 0) pa_nil)) pe_int (nomark _)) (pw_or (pt_not (pt_val (pe_call G__law_is_name (hr.mono (by decide)) rfl T.m__law_is_name T.F__law_is_name.kp T.b__law_is_name .nil pass0 (pa_cons (pv 2) pa_nil)))) (pw_or1 (pt_not (pt_val (pe_call G__law_is_name (hr.mono (by decide)) rfl T.m__law_is_name T.F__law_is_name.kp T.b__law_is_name .nil pass0 (pa_cons (pv 3) pa_nil)))))))) (pss_one (ps_ret pe_bl)) pss_nil)
      (pss_one (ps_ret (pe_and (pe_cmpR op_notIn_seq (pv 2) (pe_lc (own := [("_law_one", 5)]) (g := gName 5) (tt := tYes) (te := (tOp (rIxT K) _ _)) rfl sc__law_pair_fits.nd (pi_list (pv 0)) (blkOk_by (own := [("_law_one", 5)]) (N := n__law_pair_fits) (sc := defScope s__law_pair_fits) (by decide +kernel)) (fun _ _ _ _ _ => (pg_name (i := 5) sc__law_pair_fits.nd rfl (Or.inl rfl))) (fun _ _ _ _ _ => pts_nil) (fun _ _ _ _ _ => (pe_ix ix_tup (pv 5) pe_int (fun _ _ => rfl)))) (by rfl)) (pe_one (pe_cmpR op_notIn_seq (pv 3) (pe_lc (own := [("_law_one", 5)]) (g := gName 5) (tt := tYes) (te := (tOp (rIxT K) _ _)) rfl sc__law_pair_fits.nd (pi_list (pv 0)) (blkOk_by (own := [("_law_one", 5)]) (N := n__law_pair_fits) (sc := defScope s__law_pair_fits) (by decide +kernel)) (fun _ _ _ _ _ => (pg_name (i := 5) sc__law_pair_fits.nd rfl (Or.inl rfl))) (fun _ _ _ _ _ => pts_nil) (fun _ _ _ _ _ => (pe_ix ix_tup (pv 5) pe_int (fun _ _ => rfl)))) (by rfl)))))))), ?_⟩
    walk_at "go"
    refine ifD (fun b => ?_) (fun b => ?_)
    · have e6 : L.length = 6 := by omega
      refine ifT rfl ?_
      walk_at "go"
      refine bad _ (fun _ _ e => e) ?_
      unfold fitsP
      rw [decide_eq_false (show ¬ (L.map (·.2)).length ≠ 6 by rw [List.length_map]; exact fun z => z e6)]
      simp
    · have e6 : (L.map (·.2)).length ≠ 6 := by rw [List.length_map]; omega
      walk_at "go"
      intro H1 s1
      cases en : nameB p.near with
      | false =>
        walk_at "go"
        exact bad _ s1 (by unfold fitsP; rw [en]; simp)
      | true =>
        walk_at "go"
        intro H2 s2
        cases ef : nameB p.far with
        | false =>
          walk_at "go"
          exact bad _ (s1.trans s2) (by unfold fitsP; rw [ef]; simp)
        | true =>
          have s12 := s1.trans s2
          have PA2 := PA.same s12
          have ls2 := PA2.ls
          walk_at "go"
          intro D hD
          refine lcL (K := K) (a := A) (xs := L.map fun e => V.ref e.1) (fun i H' => H' D = some (.lst (((L.take i).map fun e => e.2.near).map V.str)) ∧ Same H2 H') ?_ ?_ ?_ ?_
          · exact ⟨upd_same, Same.upd_new hD⟩
          · exact fun i H' _ h => SqL.of (h.2 _ _ ls2)
          · rintro i y H' hi ⟨g1, g2⟩
            rw [List.getElem?_map] at hi
            obtain ⟨e, he, rfl⟩ := Option.map_eq_some_iff.mp hi
            have hp : H' e.1 = _ := g2 _ _ (PA2.at_ e (List.mem_of_getElem? he))
            have hlt := (List.getElem?_eq_some_iff.mp he).1
            have hat : atI [V.str e.2.near, .str e.2.far, .bl e.2.laden] 0 = some (.str e.2.near) := rfl
            refine ⟨rfl, ?_⟩
            walk_at "go"
            refine ⟨small_lt (by rw [List.length_map, List.length_map, List.length_take]; omega), wait ⟨?_, fun x o e => upd_get (ne_of_none e hD) (g2 x o e)⟩⟩
            rw [upd_same, List.take_add_one, he, List.map_append, List.map_append] <;> rfl
          · rintro H3 ⟨g1, g2⟩
            rw [List.length_map, List.take_length] at g1
            refine ⟨D, _, rfl, .inl (SqL.of g1), rfl, flat_strs1 _, ?_⟩
            rw [if_pos rfl, in_strs]
            have PA3 := PA2.same g2
            have ls3 := PA3.ls
            by_cases i1 : p.near ∈ L.map fun e => e.2.near
            · rw [decide_eq_true i1]
              refine ⟨_, rfl, ifF rfl ?_⟩
              refine bad _ (s12.trans g2) ?_
              unfold fitsP
              rw [decide_eq_false (show ¬ p.near ∉ (L.map (·.2)).map (·.near) by rw [List.map_map]; exact fun z => z i1)]
              simp
            · rw [decide_eq_false i1]
              refine ⟨_, rfl, ifT rfl ?_⟩
              walk_at "go"
              intro D2 hD2
              refine lcL (K := K) (a := A) (xs := L.map fun e => V.ref e.1) (fun i H' => H' D2 = some (.lst (((L.take i).map fun e => e.2.far).map V.str)) ∧ Same H3 H') ?_ ?_ ?_ ?_
              · exact ⟨upd_same, Same.upd_new hD2⟩
              · exact fun i H' _ h => SqL.of (h.2 _ _ ls3)
              · rintro i y H' hi ⟨f1, f2⟩
                rw [List.getElem?_map] at hi
                obtain ⟨e, he, rfl⟩ := Option.map_eq_some_iff.mp hi
                have hp : H' e.1 = _ := f2 _ _ (PA3.at_ e (List.mem_of_getElem? he))
                have hlt := (List.getElem?_eq_some_iff.mp he).1
                have hat : atI [V.str e.2.near, .str e.2.far, .bl e.2.laden] 1 = some (.str e.2.far) := rfl
                refine ⟨rfl, ?_⟩
                walk_at "go"
                refine ⟨small_lt (by rw [List.length_map, List.length_map, List.length_take]; omega), wait ⟨?_, fun x o e => upd_get (ne_of_none e hD2) (f2 x o e)⟩⟩
                rw [upd_same, List.take_add_one, he, List.map_append, List.map_append] <;> rfl
              · rintro H4 ⟨f1, f2⟩
                rw [List.length_map, List.take_length] at f1
                refine ⟨D2, _, rfl, .inl (SqL.of f1), rfl, flat_strs1 _, ?_⟩
                rw [if_pos rfl, in_strs]
                have ef2 : fitsP (L.map (·.2)) p = !decide (p.far ∈ L.map fun e => e.2.far) := by
                  unfold fitsP
                  rw [decide_eq_true e6, en, ef, decide_eq_true (show p.near ∉ (L.map (·.2)).map (·.near) by rw [List.map_map]; exact i1), List.map_map]
                  show (true && true && true && true && decide (p.far ∉ L.map fun e => e.2.far)) = _
                  simp
                rw [← ef2]
                exact q _ ((s12.trans g2).trans f2)
end
end Pf
set_option Elab.async false
set_option linter.all false
set_option maxRecDepth 100000
set_option maxHeartbeats 4000000
namespace Pf
open PySem L2
local macro_rules | `(tactic| walk_at "nz") => `(tactic| (show (_ : Int) ≠ 0; omega))
local macro_rules | `(tactic| walk_at "ne") => `(tactic| first | assumption | (apply Ne.symm; assumption))
local macro_rules | `(tactic| walk_at "hp") => `(tactic| first | assumption | exact upd_same | (refine upd_get ?_ ?_; walk_at "ne"; walk_at "hp"))
local macro_rules | `(tactic| walk_at "sd") => `(tactic| first
  | (with_reducible show (_ : Int) < _; omega)
  | (with_reducible show (_ : Int) ≤ _; omega)
  | (with_reducible show (_ : Nat) < _; omega)
  | (with_reducible show (_ : Nat) ≤ _; omega)
  | rfl
  | assumption
  | exact kV_int _
  | exact kV_str _
  | (show (_ : Int) ≠ 0; omega)
  | exact SqL.of (by walk_at "hp")
  | exact ⟨_, SqL.of (by walk_at "hp")⟩
  | exact ⟨_, SqT.of (by walk_at "hp")⟩
  | exact ⟨_, (by assumption)⟩
  | exact SqT.of (by walk_at "hp")
  | exact Rd.of (by walk_at "hp")
  | exact Or.inl (SqL.of (by walk_at "hp"))
  | exact Or.inr (SqT.of (by walk_at "hp"))
  | exact Or.inr (by assumption)
  | (walk_at "hp")
  | (exact Or.inl ⟨rfl, _, SqL.of (by walk_at "hp")⟩)
  | (exact Or.inl ⟨by omega, by omega⟩)
  | (exact Or.inr ⟨by omega, by omega⟩)
  | (refine ⟨?_, ?_, ?_⟩ <;> omega)
  | omega
  | (exact small_le (by first | omega | (simp only [List.length_cons, List.length_nil]; omega)))
  | (exact small_lt (by first | omega | (simp only [List.length_cons, List.length_nil]; omega)))
  | exact Nat.le_of_ble_eq_true rfl
  | exact ⟨_, rfl⟩
  | decide)
local macro_rules | `(tactic| walk_at "st") => `(tactic| first
  | with_reducible refine sq_seq ?_
  | apply Exists.intro
  | (refine And.intro ?_ ?_; (walk_at "sd")))
local macro_rules | `(tactic| walk_at "go") => `(tactic| repeat (walk_at "st"))
section
variable {P : Program} {w : World} {K : PySem.W.Frag} {mg : Str → Option Value} {base : Heap} {a : Ad}
theorem FitsH.cons {ps : List Pr} {hs : List Hl} {h : Hl} (c1 : nameB h.name = true) (c2 : h.name ∉ hs.map (·.name)) (c3 : h.side = 0 ∨ h.side = 1) (c4 : (hs.filter fun k => decide (k.side = h.side)).length ≠ 4) (c5 : h.takes.length ≤ 3) (c6 : h.throws.length ≤ 4) :
    fitsH ps hs h = ((h.takes.all fun w => decide (w ∈ hows)) && decide h.throws.Nodup && h.throws.all fun w => decide (w ∈ ps.map (·.word h.side))) := by
  unfold fitsH
  rw [c1, decide_eq_true c2, decide_eq_true c3, decide_eq_true c4, decide_eq_true c5, decide_eq_true c6] <;> rfl
def spHelperFits (K : PySem.W.Frag) : Sp := fun vs H Q _ => ∃ (D A t : Addr) (L : List (Addr × Pr)) (M : List (Addr × Hl)) (h : Hl), vs = [.ref D, .ref A, .ref t] ∧ PairsAt H D L ∧ HelpersAt K H A M ∧ HlAt K H (t, h) ∧ L.length ≤ 1000 ∧ M.length ≤ 1000 ∧ (∀ s : Int, ((M.map (·.2)).filter fun k => decide (k.side = s)).length ≤ 4) ∧ h.name.length ≤ 100000 ∧ h.takes.length ≤ 1000 ∧ h.throws.length ≤ 1000 ∧
  ∀ H', Same H H' → Q (.bl (fitsH (L.map (·.2)) (M.map (·.2)) h)) H'
theorem nodup_by {ws : List Str} (h : ∀ j w, ws[j]? = some w → w ∉ ws.take j) : ws.Nodup := by
  rw [List.nodup_iff_pairwise_ne, List.pairwise_iff_getElem]
  intro i j hi hj lt e
  refine h j ws[j] (List.getElem?_eq_getElem hj) ?_
  rw [← e]
  exact List.mem_take_iff_getElem.mpr ⟨i, by omega, rfl⟩
theorem not_nodup {ws : List Str} {j : Nat} {w : Str} (h : ws[j]? = some w) (hm : w ∈ ws.take j) : ¬ ws.Nodup := by
  intro nd
  rw [List.nodup_iff_pairwise_ne, List.pairwise_iff_getElem] at nd
  obtain ⟨i, hi, e⟩ := List.mem_take_iff_getElem.mp hm
  obtain ⟨hj, e2⟩ := List.getElem?_eq_some_iff.mp h
  exact nd i j (by omega) hj (by omega) (by rw [e, e2])
theorem slA_of {K : PySem.W.Frag} {a : Addr} {xs : List V} {lo hi : Option Int} {H : Hp} {Q : VK} (ha : SqT K H a xs) (q : ∀ r H', Same H H' → SqT K H' r (cutV xs lo hi) → Q (.ref r) H') : rSlA K (.ref a) lo hi H Q := by
  refine ⟨a, xs, rfl, ha, fun e => q a H (fun _ _ e => e) ?_, fun _ p hp => q p _ (Same.upd_new hp) (SqT.of upd_same)⟩
  unfold cutV
  rw [e.1, e.2, List.drop_zero, Nat.sub_zero, List.take_length]
  exact ha
theorem catA_of {K : PySem.W.Frag} {a b : Addr} {xs ys : List V} {H : Hp} {Q : VK} (ha : SqT K H a xs) (hb : SqT K H b ys) (hz : xs.length + ys.length ≤ sizeLine) (q : ∀ r H', Same H H' → SqT K H' r (xs ++ ys) → Q (.ref r) H') : rCatA K (.ref a) (.ref b) H Q := by
  refine ⟨a, b, xs, ys, rfl, rfl, ha, hb, hz, fun e => q b H (fun _ _ e => e) ?_, fun _ e => q a H (fun _ _ e => e) ?_, fun _ _ p hp => q p _ (Same.upd_new hp) (SqT.of upd_same)⟩
  · rw [e]; exact hb
  · rw [e, List.append_nil]; exact ha
theorem ok__law_helper_fits (T : Txt K mg a) : FnOk P w K mg base CX0 2 a.f__law_helper_fits a.d__law_helper_fits ["_law_pairs_here", "_law_ahead", "_law_helper"] (spHelperFits K) := by
  have G__law_is_name := ok__law_is_name (P := P) (w := w) (base := base) T
  refine T.F__law_helper_fits.ok sc__law_helper_fits (fun vs H Q E h => ?_) (fun cdv A outer s H vs Q E hr h => ?_)
  · obtain ⟨D, A, t, L, M, h, rfl, _⟩ := h
    rfl
  · obtain ⟨D, A, t, L, M, h, rfl, PD, HA, HT, l1, l2, few, l3, l4, l5, q⟩ := h
    obtain ⟨tk, th, ht, htk, hth⟩ := HT
    have ht : H t = some (.tup [.str h.name, .int h.side, .ref tk, .bl h.gives, .ref th]) := ht
    have hls := HA.ls
    have bad : ∀ H', Same H H' → fitsH (L.map (·.2)) (M.map (·.2)) h = false → Q (.bl false) H' := fun H' s e => by rw [← e]; exact q H' s
    have lt : (h.takes.map V.str).length = h.takes.length := List.length_map _
    have lh : (h.throws.map V.str).length = h.throws.length := List.length_map _
    refine ⟨_, (pss_cons (ps_asg (pv 2) (pg_tup rfl (pgs_cons (pg_name (i := 3) sc__law_helper_fits.nd rfl (Or.inl rfl)) (pgs_cons (pg_name (i := 4) sc__law_helper_fits.nd rfl (Or.inr rfl)) (pgs_cons (pg_name (i := 5) sc__law_helper_fits.nd rfl (Or.inl rfl)) (pgs_cons (pg_name (i := 6) sc__law_helper_fits.nd rfl (Or.inl rfl)) (pgs_cons (pg_name (i := 7) sc__law_helper_fits.nd rfl (Or.inl rfl)) pgs_nil)))))))
      (pss_cons (ps_if (pt_mid (PW.pt (pw_or (pt_not (pt_val (pe_call G__law_is_name (hr.mono (by decide)) rfl T.m__law_is_name T.F__law_is_name.kp T.b__law_is_name .nil pass0 (pa_cons (pv 3) pa_nil)))) (pw_or (pt_cmpR op_in_seq (pv 3) (pe_lc (own := [("_law_one", 11)]) (g := gName 11) (tt := tYes) (te := (tOp (rIxT K) _ _)) rfl sc__law_helper_fits.nd (pi_list (pv 1)) (blkOk_by (own := [("_law_one", 11)]) (N := n__law_helper_fits) (sc := defScope s__law_helper_fits) (by decide +kernel)) (fun _ _ _ _ _ => (pg_name (i := 11) sc__law_helper_fits.nd rfl (Or.inl rfl))) (fun _ _ _ _ _ => pts_nil) (fun _ _ _ _ _ => (pe_ix ix_tup (pv 11) pe_int (fun _ _ => rfl)))) (by rfl)) (pw_or (pt_cmpR op_lt (pv 4) pe_int (nomark _)) (pw_or1 (pt_cmpR op_gt (pv 4) pe_int (nomark _)))))))) (pss_one (ps_ret pe_bl)) pss_nil)
      (pss_cons (ps_if (pt_mid (PW.pt (pw_or (pt_cmpR op_gt (pe_callB call_lenK (by rfl) T.z_len PySem.boot_len (pa_cons (pe_lc (own := [("_law_one", 11)]) (g := gName 11) (tt := (tTest (tOp _ (tOp (rIxT K) _ _) _))) rfl sc__law_helper_fits.nd (pi_list (pv 1)) (blkOk_by (own := [("_law_one", 11)]) (N := n__law_helper_fits) (sc := defScope s__law_helper_fits) (by decide +kernel)) (fun _ _ _ _ _ => (pg_name (i := 11) sc__law_helper_fits.nd rfl (Or.inl rfl))) (fun _ _ _ _ _ => (pts_one (pt_cmpR op_eq (pe_ix ix_tup (pv 11) pe_int (fun _ _ => rfl)) (pv 4) (nomark _)))) (fun _ _ _ _ _ => (pv 11))) pa_nil)) pe_int (nomark _)) (pw_or (pt_cmpR op_gt (pe_callB call_lenK (by rfl) T.z_len PySem.boot_len (pa_cons (pv 5) pa_nil)) pe_int (nomark _)) (pw_or1 (pt_cmpR op_gt (pe_callB call_lenK (by rfl) T.z_len PySem.boot_len (pa_cons (pv 7) pa_nil)) pe_int (nomark _))))))) (pss_one (ps_ret pe_bl)) pss_nil)
      (pss_cons (ps_setLc (i := 8) (own := [("_law_pair", 12)]) (g := gName 12) (tt := tYes) (te := (tOp (rIxT K) _ _)) rfl sc__law_helper_fits.nd rfl rfl (sw_true rfl rfl rfl (by decide +kernel)) (pi_list (pv 0)) (blkOk_by (own := [("_law_pair", 12)]) (N := n__law_helper_fits) (sc := defScope s__law_helper_fits) (by decide +kernel)) (fun _ _ _ _ _ => (pg_name (i := 12) sc__law_helper_fits.nd rfl (Or.inl rfl))) (fun _ _ _ _ _ => pts_nil) (fun _ _ _ _ _ => (pe_ix ix_tup (pv 12) (pv 4) (fun _ _ => rfl))))
      (pss_cons (ps_stop (ps_for PassesOwn.never rfl (pi_wait (pi_enumT rfl T.z_enumerate (pa_cons (pv 7) pa_nil))) (pg_tup rfl (pgs_cons (pg_name (i := 9) sc__law_helper_fits.nd rfl (Or.inl rfl)) (pgs_cons (pg_name (i := 10) sc__law_helper_fits.nd rfl (Or.inl rfl)) pgs_nil))) (pss_one (ps_if (PW.pt (pw_or (pt_cmpR op_notIn_seq (pv 10) (pv 8) (by rfl)) (pw_or1 (pt_cmpR op_in_seq (pv 10) (pe_slice sl_tupA (pv 7) po_none (po_some (pv 9))) (by rfl))))) (pss_one (ps_ret pe_bl)) pss_nil))))
      (pss_one (ps_ret (pe_callB (cr_all rfl) (by rfl) T.z_all (by decide +kernel) (pa_cons (pe_lc (own := [("_law_how", 13)]) (g := gName 13) (tt := tYes) (te := (tOp (rIn K false) _ _)) rfl sc__law_helper_fits.nd (pi_tup (pv 5)) (blkOk_by (own := [("_law_how", 13)]) (N := n__law_helper_fits) (sc := defScope s__law_helper_fits) (by decide +kernel)) (fun _ _ _ _ _ => (pg_name (i := 13) sc__law_helper_fits.nd rfl (Or.inl rfl))) (fun _ _ _ _ _ => pts_nil) (fun _ _ _ _ _ => (pe_cmpR op_in_seq (pv 13) (pe_lst (pa_cons pe_str (pa_cons pe_str pa_nil))) (by rfl)))) pa_nil))))))))), ?_⟩
    walk_at "go"
    refine midT_of (fun c H1 => Same H H1 ∧ (c = true → fitsH (L.map (·.2)) (M.map (·.2)) h = false) ∧ (c = false → nameB h.name = true ∧ h.name ∉ (M.map (·.2)).map (·.name) ∧ (h.side = 0 ∨ h.side = 1))) ?_ ?_
    · walk_at "go"
      intro H1 s1
      cases en : nameB h.name with
      | false =>
        walk_at "go"
        exact wait ⟨s1, fun _ => by unfold fitsH; rw [en]; simp, fun z => nomatch z⟩
      | true =>
        have HA1 := HA.same s1
        have ls1 := HA1.ls
        walk_at "go"
        intro Z hZ
        refine lcL (K := K) (a := A) (xs := M.map fun e => V.ref e.1) (fun i H' => H' Z = some (.lst (((M.take i).map fun e => e.2.name).map V.str)) ∧ Same H1 H') ?_ ?_ ?_ ?_
        · exact ⟨upd_same, Same.upd_new hZ⟩
        · exact fun i H' _ h => SqL.of (h.2 _ _ ls1)
        · rintro i y H' hi ⟨g1, g2⟩
          rw [List.getElem?_map] at hi
          obtain ⟨e, he, rfl⟩ := Option.map_eq_some_iff.mp hi
          obtain ⟨tk1, th1, hp, _, _⟩ := (HA1.at_ e (List.mem_of_getElem? he)).tk (TK.same g2)
          have hlt := (List.getElem?_eq_some_iff.mp he).1
          have hat : atI [V.str e.2.name, .int e.2.side, .ref tk1, .bl e.2.gives, .ref th1] 0 = some (.str e.2.name) := rfl
          refine ⟨rfl, ?_⟩
          walk_at "go"
          refine ⟨small_lt (by rw [List.length_map, List.length_map, List.length_take]; omega), wait ⟨?_, fun x o e => upd_get (ne_of_none e hZ) (g2 x o e)⟩⟩
          rw [upd_same, List.take_add_one, he, List.map_append, List.map_append] <;> rfl
        · rintro H2 ⟨g1, g2⟩
          rw [List.length_map, List.take_length] at g1
          refine ⟨Z, _, rfl, .inl (SqL.of g1), rfl, flat_strs1 _, ?_⟩
          rw [if_neg (by decide), in_strs]
          by_cases hin : h.name ∈ M.map fun e => e.2.name
          · rw [decide_eq_true hin]
            refine ⟨_, rfl, ifT rfl (wait ⟨s1.trans g2, fun _ => ?_, fun z => nomatch z⟩)⟩
            unfold fitsH
            rw [decide_eq_false (show ¬ h.name ∉ (M.map (·.2)).map (·.name) by rw [List.map_map]; exact fun z => z hin)]
            simp
          · rw [decide_eq_false hin]
            refine ⟨_, rfl, ifF rfl ?_⟩
            walk_at "go"
            refine ifD (fun b => ?_) (fun b => ?_)
            · refine wait ⟨s1.trans g2, fun _ => ?_, fun z => nomatch z⟩
              unfold fitsH
              rw [decide_eq_false (show ¬ (h.side = 0 ∨ h.side = 1) by omega)]
              simp
            · walk_at "go"
              refine wait ⟨s1.trans g2, fun b2 => ?_, fun b2 => ⟨rfl, by rw [List.map_map]; exact hin, ?_⟩⟩
              · have b3 := of_decide_eq_true b2
                unfold fitsH
                rw [decide_eq_false (show ¬ (h.side = 0 ∨ h.side = 1) by omega)]
                simp
              · have b3 := of_decide_eq_false b2
                omega
    · rintro c H1 ⟨s1, c1, c2⟩
      refine ifB (fun ec => ?_) (fun ec => ?_)
      · walk_at "go"
        exact bad _ s1 (c1 ec)
      · obtain ⟨en, hin, hsd⟩ := c2 ec
        have HA1 := HA.same s1
        have ls1 := HA1.ls
        walk_at "go"
        refine midT_of (fun c H2 => Same H1 H2 ∧ (c = true → fitsH (L.map (·.2)) (M.map (·.2)) h = false) ∧ (c = false → ((M.map (·.2)).filter fun k => decide (k.side = h.side)).length ≠ 4 ∧ h.takes.length ≤ 3 ∧ h.throws.length ≤ 4)) ?_ ?_
        · walk_at "go"
          intro Z hZ
          refine lcL (K := K) (a := A) (xs := M.map fun e => V.ref e.1) (fun i H' => H' Z = some (.lst (((M.take i).filter fun e => decide (e.2.side = h.side)).map fun e => V.ref e.1)) ∧ Same H1 H') ?_ ?_ ?_ ?_
          · exact ⟨upd_same, Same.upd_new hZ⟩
          · exact fun i H' _ h => SqL.of (h.2 _ _ ls1)
          · rintro i y H' hi ⟨g1, g2⟩
            rw [List.getElem?_map] at hi
            obtain ⟨e, he, rfl⟩ := Option.map_eq_some_iff.mp hi
            obtain ⟨tk1, th1, hp, _, _⟩ := (HA1.at_ e (List.mem_of_getElem? he)).tk (TK.same g2)
            have hat : atI [V.str e.2.name, .int e.2.side, .ref tk1, .bl e.2.gives, .ref th1] 1 = some (.int e.2.side) := rfl
            have fl := filt_len (fun e : Addr × Hl => decide (e.2.side = h.side)) M i
            refine ⟨rfl, ?_⟩
            walk_at "go"
            refine ifD (fun b => ?_) (fun b => ?_)
            · have b1 : e.2.side = h.side := V.int.inj b
              walk_at "go"
              refine ⟨small_lt (by rw [List.length_map]; omega), wait ⟨?_, fun x o e => upd_get (ne_of_none e hZ) (g2 x o e)⟩⟩
              rw [upd_same, take_filt_yes he (decide_eq_true b1), List.map_append] <;> rfl
            · have b1 : ¬ e.2.side = h.side := fun z => b (congrArg V.int z)
              refine wait ⟨?_, g2⟩
              rw [take_filt_no he (decide_eq_false b1)]
              exact g1
          · rintro H2 ⟨g1, g2⟩
            rw [List.length_map, List.take_length] at g1
            have lf : ((M.filter fun e => decide (e.2.side = h.side)).map fun e => V.ref e.1).length = ((M.map (·.2)).filter fun k => decide (k.side = h.side)).length := by
              rw [List.length_map, List.filter_map, List.length_map] <;> rfl
            have fw := few h.side
            have s12 := s1.trans g2
            have htk2 := s12.seqT htk
            have hth2 := s12.seqT hth
            refine ⟨_, _, rfl, .inl (SqL.of g1), _, _, rfl, rfl, _, rfl, ?_⟩
            rw [lf]
            refine ifD (fun b => ?_) (fun b => ?_)
            · refine wait ⟨g2, fun _ => ?_, fun z => nomatch z⟩
              unfold fitsH
              rw [decide_eq_false (show ¬ ((M.map (·.2)).filter fun k => decide (k.side = h.side)).length ≠ 4 from fun z => z (by omega))]
              simp
            · have b1 : ((M.map (·.2)).filter fun k => decide (k.side = h.side)).length ≠ 4 := by omega
              refine ⟨_, rfl, tk, _, rfl, .inr htk2, _, _, rfl, rfl, _, rfl, ?_⟩
              rw [lt]
              refine ifD (fun b2 => ?_) (fun b2 => ?_)
              · refine wait ⟨g2, fun _ => ?_, fun z => nomatch z⟩
                unfold fitsH
                rw [decide_eq_false (show ¬ h.takes.length ≤ 3 by omega)]
                simp
              · refine ⟨_, rfl, th, _, rfl, .inr hth2, _, _, rfl, rfl, _, rfl, ?_⟩
                rw [lh]
                refine wait ⟨g2, fun b3 => ?_, fun b3 => ⟨b1, by omega, ?_⟩⟩
                · have b4 := of_decide_eq_true b3
                  unfold fitsH
                  rw [decide_eq_false (show ¬ h.throws.length ≤ 4 by omega)]
                  simp
                · have b4 := of_decide_eq_false b3
                  omega
        · rintro c H2 ⟨s2, c3, c4⟩
          have s12 := s1.trans s2
          refine ifB (fun ed => ?_) (fun ed => ?_)
          · walk_at "go"
            exact bad _ s12 (c3 ed)
          · obtain ⟨n4, t3, h4⟩ := c4 ed
            have fc := FitsH.cons (ps := L.map (·.2)) en hin hsd n4 t3 h4
            have PD2 := PD.same s12
            have ls2 := PD2.ls
            walk_at "go"
            intro W hW
            refine lcL (K := K) (a := D) (xs := L.map fun e => V.ref e.1) (fun i H' => H' W = some (.lst (((L.take i).map fun e => e.2.word h.side).map V.str)) ∧ Same H2 H') ?_ ?_ ?_ ?_
            · exact ⟨upd_same, Same.upd_new hW⟩
            · exact fun i H' _ h => SqL.of (h.2 _ _ ls2)
            · rintro i y H' hi ⟨g1, g2⟩
              rw [List.getElem?_map] at hi
              obtain ⟨e, he, rfl⟩ := Option.map_eq_some_iff.mp hi
              have hp : H' e.1 = _ := g2 _ _ (PD2.at_ e (List.mem_of_getElem? he))
              have hlt := (List.getElem?_eq_some_iff.mp he).1
              have hat := pr_at e.2 hsd
              refine ⟨rfl, ?_⟩
              walk_at "go"
              refine ⟨small_lt (by rw [List.length_map, List.length_map, List.length_take]; omega), wait ⟨?_, fun x o e => upd_get (ne_of_none e hW) (g2 x o e)⟩⟩
              rw [upd_same, List.take_add_one, he, List.map_append, List.map_append] <;> rfl
            · rintro H3 ⟨g1, g2⟩
              rw [List.length_map, List.take_length] at g1
              have s13 := s12.trans g2
              have hth3 := s13.seqT hth
              have htk3 := s13.seqT htk
              refine sq_seq (stop_in ?_)
              walk_at "go"
              refine wait ?_
              refine forW (walk_enumT (K := K) (xs := h.throws.map V.str)) (fun i σ H' => (∃ u9 u10, σ = [some (.ref D), some (.ref A), some (.ref t), some (.str h.name), some (.int h.side), some (.ref tk), some (.bl h.gives), some (.ref th), some (.ref W), u9, u10, none, none, none]) ∧ Same H3 H' ∧ ∀ j < i, ∀ w, h.throws[j]? = some w → w ∈ (L.map fun e => e.2.word h.side) ∧ w ∉ h.throws.take j) ?_ ?_ ?_ ?_
              · exact ⟨⟨_, _, rfl⟩, fun _ _ e => e, fun j hj => absurd hj (Nat.not_lt_zero _)⟩
              · exact fun i σ H' _ h => h.2.1.seqT hth3
              · rintro i v σ H4 H5 hi ⟨⟨u9, u10, rfl⟩, s4, af⟩ ⟨tt, y1, y2, rfl, htt, rfl, hy1, hy2⟩
                have hy2 : (h.throws.map V.str)[i]? = some y2 := hy2
                rw [List.getElem?_map] at hy2
                obtain ⟨w1, hw1, rfl⟩ := Option.map_eq_some_iff.mp hy2
                cases hy1
                have s5 : Same H4 (upd H4 tt (.tup [.int (i : Nat), .str w1])) := Same.upd_new htt
                have g5 := s5 _ _ (s4 _ _ g1)
                have hth5 := (s4.trans s5).seqT hth3
                walk_at "go"
                refine ⟨flat_strs1 _, ?_⟩
                rw [if_pos rfl, in_strs]
                by_cases hin1 : w1 ∈ L.map fun e => e.2.word h.side
                · rw [decide_eq_true hin1]
                  refine ⟨_, rfl, ifF rfl ?_⟩
                  refine ⟨_, rfl, _, rfl, _, rfl, _, rfl, slA_of (xs := h.throws.map V.str) hth5 fun r H6 s6 hr6 => ?_⟩
                  rw [cutV_to] at hr6
                  refine ⟨r, _, rfl, .inr hr6, rfl, ?_, ?_⟩
                  · rw [← List.map_take]; exact flat_strs1 _
                  · rw [if_neg (by decide), ← List.map_take, in_strs]
                    refine ⟨_, rfl, ifD (fun b => ?_) (fun b => ?_)⟩
                    · walk_at "go"
                      refine bad _ ((s13.trans (s4.trans s5)).trans s6) ?_
                      rw [fc, decide_eq_false (not_nodup hw1 b)]
                      simp
                    · refine wait ⟨⟨_, _, rfl⟩, (s4.trans s5).trans s6, fun j hj w hw => ?_⟩
                      by_cases z : j = i
                      · subst z
                        rw [hw1] at hw
                        cases hw
                        exact ⟨hin1, b⟩
                      · exact af j (by omega) w hw
                · rw [decide_eq_false hin1]
                  refine ⟨_, rfl, ifT rfl ?_⟩
                  walk_at "go"
                  refine bad _ (s13.trans (s4.trans s5)) ?_
                  rw [fc]
                  have : (h.throws.all fun w => decide (w ∈ (L.map (·.2)).map (·.word h.side))) = false := by
                    rw [List.all_eq_false]
                    refine ⟨w1, List.mem_of_getElem? hw1, ?_⟩
                    rw [List.map_map]
                    intro z
                    exact hin1 (of_decide_eq_true z)
                  rw [this]
                  simp
              · rintro σ H4 ⟨⟨u9, u10, rfl⟩, s4, af⟩
                have ndt : h.throws.Nodup := nodup_by fun j w hw => (af j (by rw [List.length_map]; exact (List.getElem?_eq_some_iff.mp hw).1) w hw).2
                have allw : (h.throws.all fun w => decide (w ∈ (L.map (·.2)).map (·.word h.side))) = true := by
                  rw [List.all_eq_true]
                  intro w hw
                  obtain ⟨j, hj⟩ := List.getElem?_of_mem hw
                  rw [List.map_map]
                  exact decide_eq_true (af j (by rw [List.length_map]; exact (List.getElem?_eq_some_iff.mp hj).1) w hj).1
                have htk4 := s4.seqT htk3
                walk_at "go"
                intro Z hZ
                refine lcT (K := K) (a := tk) (xs := h.takes.map V.str) (fun i H' => H' Z = some (.lst (((h.takes.take i).map fun w => decide (w ∈ hows)).map V.bl)) ∧ Same H4 H') ?_ ?_ ?_ ?_
                · exact ⟨upd_same, Same.upd_new hZ⟩
                · exact fun i H' _ h => h.2.seqT htk4
                · rintro i y H' hi ⟨f1, f2⟩
                  rw [List.getElem?_map] at hi
                  obtain ⟨w1, hw1, rfl⟩ := Option.map_eq_some_iff.mp hi
                  have hlt := (List.getElem?_eq_some_iff.mp hw1).1
                  refine ⟨rfl, ?_⟩
                  walk_at "go"
                  intro p6 hp6
                  have s6 : Same H' (upd H' p6 (.lst [.str "lent", .str "given"])) := Same.upd_new hp6
                  refine ⟨p6, _, rfl, .inl (SqL.of upd_same), rfl, rfl, ?_⟩
                  rw [if_neg (by decide), show inV (.str w1) [.str "lent", .str "given"] = decide (w1 ∈ hows) from in_strs w1 hows]
                  refine ⟨_, s6 _ _ f1, small_lt (by rw [List.length_map, List.length_map, List.length_take]; omega), wait ⟨?_, fun x o e => upd_get (ne_of_none e hZ) (s6 _ _ (f2 x o e))⟩⟩
                  rw [upd_same, List.take_add_one, hw1, List.map_append, List.map_append] <;> rfl
                · rintro H5 ⟨f1, f2⟩
                  rw [List.length_map, List.take_length] at f1
                  refine ⟨Z, _, rfl, SqL.of f1, ?_⟩
                  have qq := q _ (s13.trans (s4.trans f2))
                  rw [fc, decide_eq_true ndt, allw, Bool.and_true, Bool.and_true] at qq
                  rw [List.all_map]
                  exact qq
end
end Pf
set_option Elab.async false
set_option linter.all false
set_option maxRecDepth 100000
set_option maxHeartbeats 4000000
namespace Pf
open PySem L2
local macro_rules | `(tactic| walk_at "nz") => `(tactic| (show (_ : Int) ≠ 0; omega))
local macro_rules | `(tactic| walk_at "ne") => `(tactic| first | assumption | (apply Ne.symm; assumption))
local macro_rules | `(tactic| walk_at "hp") => `(tactic| first | assumption | exact upd_same | (refine upd_get ?_ ?_; walk_at "ne"; walk_at "hp"))
local macro_rules | `(tactic| walk_at "sd") => `(tactic| first
  | (with_reducible show (_ : Int) < _; omega)
  | (with_reducible show (_ : Int) ≤ _; omega)
  | (with_reducible show (_ : Nat) < _; omega)
  | (with_reducible show (_ : Nat) ≤ _; omega)
  | rfl
  | assumption
  | exact kV_int _
  | exact kV_str _
  | (show (_ : Int) ≠ 0; omega)
  | exact SqL.of (by walk_at "hp")
  | exact ⟨_, SqL.of (by walk_at "hp")⟩
  | exact ⟨_, SqT.of (by walk_at "hp")⟩
  | exact ⟨_, (by assumption)⟩
  | exact SqT.of (by walk_at "hp")
  | exact Rd.of (by walk_at "hp")
  | exact Or.inl (SqL.of (by walk_at "hp"))
  | exact Or.inr (SqT.of (by walk_at "hp"))
  | exact Or.inr (by assumption)
  | (walk_at "hp")
  | (exact Or.inl ⟨rfl, _, SqL.of (by walk_at "hp")⟩)
  | (exact Or.inl ⟨by omega, by omega⟩)
  | (exact Or.inr ⟨by omega, by omega⟩)
  | (refine ⟨?_, ?_, ?_⟩ <;> omega)
  | omega
  | (exact small_le (by first | omega | (simp only [List.length_cons, List.length_nil]; omega)))
  | (exact small_lt (by first | omega | (simp only [List.length_cons, List.length_nil]; omega)))
  | exact Nat.le_of_ble_eq_true rfl
  | exact ⟨_, rfl⟩
  | decide)
local macro_rules | `(tactic| walk_at "st") => `(tactic| first
  | with_reducible refine sq_seq ?_
  | apply Exists.intro
  | (refine And.intro ?_ ?_; (walk_at "sd")))
local macro_rules | `(tactic| walk_at "go") => `(tactic| repeat (walk_at "st"))
section
variable {P : Program} {w : World} {K : PySem.W.Frag} {mg : Str → Option Value} {base : Heap} {a : Ad}
theorem pre_six {ps : List Pr} {i : Nat} (h : ∀ j < i, ∀ p, ps[j]? = some p → fitsP (ps.take j) p = true) (hi : i ≤ ps.length) : i ≤ 6 := by
  by_cases e : i ≤ 6
  · exact e
  · have h6 := h 6 (by omega) ps[6] (List.getElem?_eq_getElem (by omega))
    unfold fitsP at h6
    rw [decide_eq_false (show ¬ (ps.take 6).length ≠ 6 by rw [List.length_take]; omega)] at h6
    simp at h6
theorem pre_few {ps : List Pr} {hs : List Hl} : ∀ {i : Nat}, (∀ j < i, ∀ h, hs[j]? = some h → fitsH ps (hs.take j) h = true) → i ≤ hs.length → ∀ s : Int, ((hs.take i).filter fun k => decide (k.side = s)).length ≤ 4
  | 0, _, _, s => by simp
  | i + 1, h, hi, s => by
    have ih := pre_few (i := i) (fun j hj => h j (by omega)) (by omega) s
    have hh : hs[i]? = some hs[i] := List.getElem?_eq_getElem (by omega)
    have f := h i (by omega) _ hh
    by_cases e : hs[i].side = s
    · rw [take_filt_yes hh (decide_eq_true e), List.length_append]
      unfold fitsH at f
      simp only [Bool.and_eq_true] at f
      have n4 := of_decide_eq_true f.1.1.1.1.1.2
      rw [e] at n4
      show _ + 1 ≤ 4
      omega
    · rw [take_filt_no hh (decide_eq_false e)]
      exact ih
theorem PairsAt.take {H : Hp} {D : Addr} {L : List (Addr × Pr)} (h : ∀ e ∈ L, PrAt H e) {k : Nat} (hd : H D = some (.lst ((L.take k).map fun e => V.ref e.1))) : PairsAt H D (L.take k) := ⟨hd, fun e he => h e (List.mem_of_mem_take he)⟩
def spFirstBad (K : PySem.W.Frag) : Sp := fun vs H Q _ => ∃ (D A : Addr) (L : List (Addr × Pr)) (M : List (Addr × Hl)), vs = [.ref D, .ref A] ∧ PairsAt H D L ∧ HelpersAt K H A M ∧ SzP (L.map (·.2)) ∧ SzH (M.map (·.2)) ∧
  ∀ z H', FB (L.map (·.2)) (M.map (·.2)) z → Same H H' → Q (.int z) H'
theorem ok__law_first_bad (T : Txt K mg a) : FnOk P w K mg base CX0 3 a.f__law_first_bad a.d__law_first_bad ["_law_pairs_here", "_law_helpers_here"] (spFirstBad K) := by
  have G__law_pair_fits := ok__law_pair_fits (P := P) (w := w) (base := base) T
  have G__law_helper_fits := ok__law_helper_fits (P := P) (w := w) (base := base) T
  refine T.F__law_first_bad.ok sc__law_first_bad (fun vs H Q E h => ?_) (fun cdv A outer s H vs Q E hr h => ?_)
  · obtain ⟨D, A, L, M, rfl, _⟩ := h
    rfl
  · obtain ⟨D, A, L, M, rfl, PD, HA, zP, zH, q⟩ := h
    have zl := zP.len
    have zm := zH.len
    rw [List.length_map] at zl zm
    have hls := PD.ls
    refine ⟨_, (pss_cons (ps_stop (ps_for PassesOwn.never rfl (pi_wait (pi_enum rfl T.z_enumerate (pa_cons (pv 0) pa_nil))) (pg_tup rfl (pgs_cons (pg_name (i := 2) sc__law_first_bad.nd rfl (Or.inl rfl)) (pgs_cons (pg_name (i := 3) sc__law_first_bad.nd rfl (Or.inl rfl)) pgs_nil))) (pss_one (ps_if (pt_not (pt_val (pe_call G__law_pair_fits (hr.mono (by decide)) rfl T.m__law_pair_fits T.F__law_pair_fits.kp T.b__law_pair_fits .nil pass0 (pa_cons (pe_slice sl_list (pv 0) po_none (po_some (pv 2))) (pa_cons (pv 3) pa_nil))))) (pss_one (ps_ret (pv 2))) pss_nil))))
      (pss_cons (ps_stop (ps_for PassesOwn.never rfl (pi_wait (pi_enum rfl T.z_enumerate (pa_cons (pv 1) pa_nil))) (pg_tup rfl (pgs_cons (pg_name (i := 2) sc__law_first_bad.nd rfl (Or.inl rfl)) (pgs_cons (pg_name (i := 4) sc__law_first_bad.nd rfl (Or.inl rfl)) pgs_nil))) (pss_one (ps_if (pt_not (pt_val (pe_call G__law_helper_fits (hr.mono (by decide)) rfl T.m__law_helper_fits T.F__law_helper_fits.kp T.b__law_helper_fits .nil pass0 (pa_cons (pv 0) (pa_cons (pe_slice sl_list (pv 1) po_none (po_some (pv 2))) (pa_cons (pv 4) pa_nil)))))) (pss_one (ps_ret (pe_op op_add (pe_callB call_lenK (by rfl) T.z_len PySem.boot_len (pa_cons (pv 0) pa_nil)) (pv 2)))) pss_nil))))
      (pss_one (ps_ret (pe_un un_neg pe_int))))), ?_⟩
    refine sq_seq (stop_in ?_)
    walk_at "go"
    refine wait ?_
    refine forW (walk_enum (K := K) (xs := L.map fun e => V.ref e.1)) (fun i σ H' => (∃ u2 u3, σ = [some (.ref D), some (.ref A), u2, u3, none]) ∧ Same H H' ∧ ∀ j < i, ∀ p, (L.map (·.2))[j]? = some p → fitsP ((L.map (·.2)).take j) p = true) ?_ ?_ ?_ ?_
    · exact ⟨⟨_, _, rfl⟩, fun _ _ e => e, fun j hj => absurd hj (Nat.not_lt_zero _)⟩
    · exact fun i σ H' _ h => SqL.of (h.2.1 _ _ hls)
    · rintro i v σ H1 H2 hi ⟨⟨u2, u3, rfl⟩, s1, af⟩ ⟨t, y1, y2, rfl, ht, rfl, hy1, hy2⟩
      have hy2 : (L.map fun e => V.ref e.1)[i]? = some y2 := hy2
      rw [List.getElem?_map] at hy2
      obtain ⟨e, he, rfl⟩ := Option.map_eq_some_iff.mp hy2
      have hem := List.mem_of_getElem? he
      have hil := (List.getElem?_eq_some_iff.mp he).1
      cases hy1
      have s2 : Same H1 (upd H1 t (.tup [.int (i : Nat), .ref e.1])) := Same.upd_new ht
      have s12 := s1.trans s2
      have PD2 := PD.same s12
      have ls2 := PD2.ls
      have hei : (L.map (·.2))[i]? = some e.2 := by rw [List.getElem?_map, he] <;> rfl
      have six := pre_six af (by rw [List.length_map]; omega)
      have hgm : e.2 ∈ L.map (·.2) := List.mem_map.mpr ⟨e, hem, rfl⟩
      have l2 : e.2.near.length ≤ 100000 := Nat.le_trans (zP.nl _ hgm).1 (by decide)
      have l3 : e.2.far.length ≤ 100000 := Nat.le_trans (zP.nl _ hgm).2 (by decide)
      walk_at "go"
      intro p3 hp3
      rw [cutV_to]
      have s3 := Same.upd_new (o := .lst ((L.map fun e => V.ref e.1).take i)) hp3
      obtain ⟨H3, e3⟩ : ∃ H3, H3 = upd (upd H1 t (.tup [.int (i : Nat), .ref e.1])) p3 (.lst ((L.map fun e => V.ref e.1).take i)) := ⟨_, rfl⟩
      rw [← e3] at s3 ⊢
      have PT : PairsAt H3 p3 (L.take i) := PairsAt.take (PD2.same s3).at_ (by rw [e3, upd_same, List.map_take])
      have hpe : PrAt H3 (e.1, e.2) := (PD2.same s3).at_ e hem
      have l1 : (L.take i).length ≤ 6 := by rw [List.length_take]; omega
      walk_at "go"
      intro H4 s4
      rw [List.map_take]
      cases hfit : fitsP ((L.map (·.2)).take i) e.2 with
      | false =>
        walk_at "go"
        exact q _ _ (.inr (.inl ⟨i, rfl, ⟨e.2, hei, hfit⟩, af⟩)) ((s12.trans s3).trans s4)
      | true =>
        walk_at "go"
        refine wait ⟨⟨_, _, rfl⟩, (s12.trans s3).trans s4, fun j hj p hp => ?_⟩
        by_cases z : j = i
        · subst z
          rw [hei] at hp
          cases hp
          exact hfit
        · exact af j (by omega) p hp
    · rintro σ H1 ⟨⟨u2, u3, rfl⟩, s1, af⟩
      have okP : okPs (L.map (·.2)) := fun j p hp => af j (by rw [List.length_map]; have := (List.getElem?_eq_some_iff.mp hp).1; rw [List.length_map] at this; exact this) p hp
      have HA1 := HA.same s1
      have hh1 := HA1.ls
      refine sq_seq (stop_in ?_)
      walk_at "go"
      refine wait ?_
      refine forW (walk_enum (K := K) (xs := M.map fun e => V.ref e.1)) (fun i σ H' => (∃ u2 u3 u4, σ = [some (.ref D), some (.ref A), u2, u3, u4]) ∧ Same H H' ∧ ∀ j < i, ∀ p, (M.map (·.2))[j]? = some p → fitsH (L.map (·.2)) ((M.map (·.2)).take j) p = true) ?_ ?_ ?_ ?_
      · exact ⟨⟨_, _, _, rfl⟩, s1, fun j hj => absurd hj (Nat.not_lt_zero _)⟩
      · exact fun i σ H' _ h => SqL.of (h.2.1 _ _ HA.ls)
      · rintro i v σ H2 H3 hi ⟨⟨u2', u3', u4', rfl⟩, s2, ah⟩ ⟨t, y1, y2, rfl, ht, rfl, hy1, hy2⟩
        have hy2 : (M.map fun e => V.ref e.1)[i]? = some y2 := hy2
        rw [List.getElem?_map] at hy2
        obtain ⟨e, he, rfl⟩ := Option.map_eq_some_iff.mp hy2
        have hem := List.mem_of_getElem? he
        have hil := (List.getElem?_eq_some_iff.mp he).1
        cases hy1
        have s3 : Same H2 (upd H2 t (.tup [.int (i : Nat), .ref e.1])) := Same.upd_new ht
        have s23 := s2.trans s3
        have HA3 := HA.same s23
        have ls3 := HA3.ls
        have PD3 := PD.same s23
        have hei : (M.map (·.2))[i]? = some e.2 := by rw [List.getElem?_map, he] <;> rfl
        have fw := pre_few ah (by rw [List.length_map]; omega)
        have hgm : e.2 ∈ M.map (·.2) := List.mem_map.mpr ⟨e, hem, rfl⟩
        have zz := zH.nl _ hgm
        have l2 : e.2.name.length ≤ 100000 := Nat.le_trans zz.1 (by decide)
        have l3 := zz.2.1
        have l4 := zz.2.2
        walk_at "go"
        intro p4 hp4
        rw [cutV_to]
        have s4 := Same.upd_new (o := .lst ((M.map fun e => V.ref e.1).take i)) hp4
        obtain ⟨H4, e4⟩ : ∃ H4, H4 = upd (upd H2 t (.tup [.int (i : Nat), .ref e.1])) p4 (.lst ((M.map fun e => V.ref e.1).take i)) := ⟨_, rfl⟩
        rw [← e4] at s4 ⊢
        have HT : HelpersAt K H4 p4 (M.take i) := ⟨by rw [e4, upd_same, List.map_take], fun d hd => (HA3.same s4).at_ d (List.mem_of_mem_take hd)⟩
        have hpe : HlAt K H4 (e.1, e.2) := (HA3.same s4).at_ e hem
        have PD4 := PD3.same s4
        have l1 : (M.take i).length ≤ 1000 := by rw [List.length_take]; omega
        have fw2 : ∀ s : Int, (((M.take i).map (·.2)).filter fun k => decide (k.side = s)).length ≤ 4 := by rw [List.map_take]; exact fw
        walk_at "go"
        intro H5 s5
        rw [List.map_take]
        have ls5 : H5 D = some (.lst (L.map fun e => V.ref e.1)) := s5 _ _ PD4.ls
        have lml : (L.map fun e => V.ref e.1).length = (L.map (·.2)).length := by rw [List.length_map, List.length_map]
        cases hfit : fitsH (L.map (·.2)) ((M.map (·.2)).take i) e.2 with
        | false =>
          walk_at "go"
          rw [lml]
          exact q _ _ (.inr (.inr ⟨i, rfl, okP, ⟨e.2, hei, hfit⟩, ah⟩)) ((s23.trans s4).trans s5)
        | true =>
          walk_at "go"
          refine wait ⟨⟨_, _, _, rfl⟩, (s23.trans s4).trans s5, fun j hj p hp => ?_⟩
          by_cases z : j = i
          · subst z
            rw [hei] at hp
            cases hp
            exact hfit
          · exact ah j (by omega) p hp
      · rintro σ H2 ⟨⟨u2', u3', u4', rfl⟩, s2, ah⟩
        walk_at "go"
        exact q _ _ (.inl ⟨rfl, okP, fun j h hh => ah j (by rw [List.length_map]; have := (List.getElem?_eq_some_iff.mp hh).1; rw [List.length_map] at this; exact this) h hh⟩) s2
end
end Pf
set_option Elab.async false
set_option linter.all false
set_option maxRecDepth 100000
set_option maxHeartbeats 4000000
namespace Pf
open PySem L2
local macro_rules | `(tactic| walk_at "nz") => `(tactic| (show (_ : Int) ≠ 0; omega))
local macro_rules | `(tactic| walk_at "ne") => `(tactic| first | assumption | (apply Ne.symm; assumption))
local macro_rules | `(tactic| walk_at "hp") => `(tactic| first | assumption | exact upd_same | (refine upd_get ?_ ?_; walk_at "ne"; walk_at "hp"))
local macro_rules | `(tactic| walk_at "sd") => `(tactic| first
  | (with_reducible show (_ : Int) < _; omega)
  | (with_reducible show (_ : Int) ≤ _; omega)
  | (with_reducible show (_ : Nat) < _; omega)
  | (with_reducible show (_ : Nat) ≤ _; omega)
  | rfl
  | assumption
  | exact kV_int _
  | exact kV_str _
  | (show (_ : Int) ≠ 0; omega)
  | exact SqL.of (by walk_at "hp")
  | exact ⟨_, SqL.of (by walk_at "hp")⟩
  | exact ⟨_, SqT.of (by walk_at "hp")⟩
  | exact ⟨_, (by assumption)⟩
  | exact SqT.of (by walk_at "hp")
  | exact Rd.of (by walk_at "hp")
  | exact Or.inl (SqL.of (by walk_at "hp"))
  | exact Or.inr (SqT.of (by walk_at "hp"))
  | exact Or.inr (by assumption)
  | (walk_at "hp")
  | (exact Or.inl ⟨rfl, _, SqL.of (by walk_at "hp")⟩)
  | (exact Or.inl ⟨by omega, by omega⟩)
  | (exact Or.inr ⟨by omega, by omega⟩)
  | (refine ⟨?_, ?_, ?_⟩ <;> omega)
  | omega
  | (exact small_le (by first | omega | (simp only [List.length_cons, List.length_nil]; omega)))
  | (exact small_lt (by first | omega | (simp only [List.length_cons, List.length_nil]; omega)))
  | exact Nat.le_of_ble_eq_true rfl
  | exact ⟨_, rfl⟩
  | decide)
local macro_rules | `(tactic| walk_at "st") => `(tactic| first
  | with_reducible refine sq_seq ?_
  | apply Exists.intro
  | (refine And.intro ?_ ?_; (walk_at "sd")))
local macro_rules | `(tactic| walk_at "go") => `(tactic| repeat (walk_at "st"))
section
variable {P : Program} {w : World} {K : PySem.W.Frag} {mg : Str → Option Value} {base : Heap} {a : Ad}
/-! ### lists of any texts -/
structure SW (w : Str) : Prop where
  len : w.length ≤ 100
  ok : PyData.strOk w = true
theorem IsName.ok {w : Str} (h : IsName w) : PyData.strOk w = true := by
  unfold PyData.strOk
  rw [← Array.all_toList, List.all_eq_true]
  intro c hc
  have := h.cs c hc
  exact decide_eq_true (by omega)
theorem IsName.sw {w : Str} (h : IsName w) : SW w := ⟨Nat.le_trans h.hi (by decide), h.ok⟩
structure XP (n : Nat) (ps : List Pr) : Prop where
  len : ps.length ≤ n
  sw : ∀ p ∈ ps, SW p.near ∧ SW p.far
structure XH (n : Nat) (hs : List Hl) : Prop where
  len : hs.length ≤ n
  sw : ∀ h ∈ hs, SW h.name ∧ h.takes.length ≤ n ∧ h.throws.length ≤ n ∧ (∀ w ∈ h.takes, SW w) ∧ ∀ w ∈ h.throws, SW w
theorem XP.sz {n : Nat} {ps : List Pr} (h : XP n ps) (hn : n ≤ 1000) : SzP ps := ⟨Nat.le_trans h.len hn, fun p hp => ⟨Nat.le_trans (h.sw p hp).1.len (by decide), Nat.le_trans (h.sw p hp).2.len (by decide)⟩⟩
theorem XH.sz {n : Nat} {hs : List Hl} (h : XH n hs) (hn : n ≤ 1000) : SzH hs := ⟨Nat.le_trans h.len hn, fun p hp => ⟨Nat.le_trans (h.sw p hp).1.len (by decide), Nat.le_trans (h.sw p hp).2.1 hn, Nat.le_trans (h.sw p hp).2.2.1 hn⟩⟩
abbrev odds : List Str := ["", "abcdefghi", "Ab", "a1", "a b", "-", "lent", "q"]
theorem sw_dec {w : Str} (h : (decide (w.length ≤ 100) && PyData.strOk w) = true) : SW w := by
  rw [Bool.and_eq_true] at h
  exact ⟨of_decide_eq_true h.1, h.2⟩
theorem sw_all {ws : List Str} (h : (ws.all fun w => decide (w.length ≤ 100) && PyData.strOk w) = true) : ∀ w ∈ ws, SW w := fun w hw => sw_dec (List.all_eq_true.mp h w hw)
theorem odds_sw : ∀ w ∈ odds, SW w := sw_all (by decide +kernel)
theorem strs_at' {ws : List Str} {r : Int} (h0 : 0 ≤ r) (h1 : r < (ws.length : Int)) : ∃ w, atI (ws.map V.str) r = some (.str w) ∧ w ∈ ws := by
  obtain ⟨v, e1, e2⟩ := atI_in (xs := ws.map V.str) h0 (by rw [List.length_map]; exact h1)
  rw [List.getElem?_map] at e2
  obtain ⟨w, hw, rfl⟩ := Option.map_eq_some_iff.mp e2
  exact ⟨w, e1, List.mem_of_getElem? hw⟩
def spOddWord : Sp := fun vs H Q _ => ∃ (b g l W : Addr) (n : Int) (ws : List Str), vs = [.ref b, .ref W] ∧ BoxAt H b g l n ∧ n ≤ 900000 ∧ W ≠ b ∧ W ≠ g ∧ H W = some (.lst (ws.map V.str)) ∧ (∀ w ∈ ws, SW w) ∧ ws.length ≤ 1000 ∧
  ∀ (w : Str) (n' : Int) (H' : Hp), SW w → BoxAt H' b g l n' → n' ≤ n + 2 → Keep2 b g H H' → Q (.str w) H'
theorem ok__law_odd_word (T : Txt K mg a) : FnOk P w K mg base CX0 3 a.f__law_odd_word a.d__law_odd_word ["_law_box_here", "_law_words"] spOddWord := by
  have G__law_take := ok__law_take (P := P) (w := w) (base := base) T
  refine T.F__law_odd_word.ok sc__law_odd_word (fun vs H Q E h => ?_) (fun cdv A outer s H vs Q E hr h => ?_)
  · obtain ⟨b, g, l, W, n, ws, rfl, _⟩ := h
    rfl
  · obtain ⟨b, g, l, W, n, ws, rfl, B, hn, nWb, nWg, hW, hws, hl, q⟩ := h
    have lw : (ws.map V.str).length = ws.length := List.length_map _
    refine ⟨_, (pss_cons (ps_set (i := 2) sc__law_odd_word.nd rfl (Or.inl rfl) (pe_lst (pa_cons pe_str (pa_cons pe_str (pa_cons pe_str (pa_cons pe_str (pa_cons pe_str (pa_cons pe_str (pa_cons pe_str (pa_cons pe_str pa_nil))))))))))
      (pss_cons (ps_if (PW.pt (pw_and (pt_cmpR op_gt (pe_callB call_lenK (by rfl) T.z_len PySem.boot_len (pa_cons (pv 1) pa_nil)) pe_int (nomark _)) (pw_and1 (pt_cmpR op_eq (pe_call G__law_take (hr.mono (by decide)) rfl T.m__law_take T.F__law_take.kp T.b__law_take .nil pass0 (pa_cons (pv 0) (pa_cons pe_int pa_nil))) pe_int (nomark _))))) (pss_one (ps_ret (pe_ix ix_list (pv 1) (pe_call G__law_take (hr.mono (by decide)) rfl T.m__law_take T.F__law_take.kp T.b__law_take .nil pass0 (pa_cons (pv 0) (pa_cons (pe_callB call_lenK (by rfl) T.z_len PySem.boot_len (pa_cons (pv 1) pa_nil)) pa_nil))) (fun _ _ => rfl)))) pss_nil)
      (pss_one (ps_ret (pe_ix ix_list (pv 2) (pe_call G__law_take (hr.mono (by decide)) rfl T.m__law_take T.F__law_take.kp T.b__law_take .nil pass0 (pa_cons (pv 0) (pa_cons pe_int pa_nil))) (fun _ _ => rfl)))))), ?_⟩
    refine ⟨by decide, fun O hO => ?_⟩
    have nO := B.fresh hO
    have s1 : Same H (upd H O (.lst (odds.map V.str))) := Same.upd_new hO
    obtain ⟨H1, e1⟩ : ∃ H1, H1 = upd H O (.lst (odds.map V.str)) := ⟨_, rfl⟩
    show tSeq _ _ _ _ (upd H O (.lst (odds.map V.str)))
    rw [← e1] at s1 ⊢
    have B1 := B.same s1
    have hW1 := s1 _ _ hW
    have hO1 : H1 O = some (.lst (odds.map V.str)) := by rw [e1, upd_same]
    walk_at "go"
    refine ifD (fun b0 => ?_) (fun b0 => ?_)
    · walk_at "go"
      intro r2 H2 r20 r21 B2 k2
      have hW2 := k2 _ _ nWb nWg hW1
      walk_at "go"
      refine ifD (fun b1 => ?_) (fun b1 => ?_)
      · refine ⟨_, rfl, _, rfl, _, rfl, W, _, rfl, .inl (SqL.of hW2), b, g, l, _, _, rfl, B2, by omega, by omega, by omega, fun r3 H3 r30 r31 B3 k3 => ?_⟩
        rw [lw] at r31
        obtain ⟨w, hw, hm⟩ := strs_at' (ws := ws) r30 r31
        have hW3 := k3 _ _ nWb nWg hW2
        walk_at "go"
        exact q w _ _ (hws w hm) B3 (by omega) fun x o a1 a2 e => k3 x o a1 a2 (k2 x o a1 a2 (s1 _ _ e))
      · walk_at "go"
        intro r3 H3 r30 r31 B3 k3
        have hO3 := k3 _ _ nO.1 nO.2.1 (k2 _ _ nO.1 nO.2.1 hO1)
        obtain ⟨w, hw, hm⟩ := strs_at' (ws := odds) r30 r31
        walk_at "go"
        exact q w _ _ (odds_sw w hm) B3 (by omega) fun x o a1 a2 e => k3 x o a1 a2 (k2 x o a1 a2 (s1 _ _ e))
    · walk_at "go"
      intro r3 H3 r30 r31 B3 k3
      have hO3 := k3 _ _ nO.1 nO.2.1 hO1
      obtain ⟨w, hw, hm⟩ := strs_at' (ws := odds) r30 r31
      walk_at "go"
      exact q w _ _ (odds_sw w hm) B3 (by omega) fun x o a1 a2 e => k3 x o a1 a2 (s1 _ _ e)
/-- the words of a place, gathered -/
theorem XP.mem {n : Nat} {L : List (Addr × Pr)} (h : XP n (L.map (·.2))) {e : Addr × Pr} (he : e ∈ L) : SW e.2.near ∧ SW e.2.far := h.sw _ (List.mem_map.mpr ⟨e, he, rfl⟩)
theorem pairs_at {L : List (Addr × Pr)} {r : Int} (h0 : 0 ≤ r) (h1 : r < (L.length : Int)) : ∃ e, atI (L.map fun e => V.ref e.1) r = some (.ref e.1) ∧ L[r.toNat]? = some e := by
  obtain ⟨v, e1, e2⟩ := atI_in (xs := L.map fun e => V.ref e.1) h0 (by rw [List.length_map]; exact h1)
  rw [List.getElem?_map] at e2
  obtain ⟨e, he, rfl⟩ := Option.map_eq_some_iff.mp e2
  exact ⟨e, e1, he⟩
theorem cutV_fromI (xs : List V) {r : Int} (h : 0 ≤ r) : cutV xs (some r) none = xs.drop r.toNat := by
  obtain ⟨k, rfl⟩ : ∃ k : Nat, r = k := ⟨r.toNat, by omega⟩
  exact cutV_from xs k
theorem cutV_toI (xs : List V) {r : Int} (h : 0 ≤ r) : cutV xs none (some r) = xs.take r.toNat := by
  obtain ⟨k, rfl⟩ : ∃ k : Nat, r = k := ⟨r.toNat, by omega⟩
  exact cutV_to xs k
def spPairSpoilt : Sp := fun vs H Q _ => ∃ (b g l D : Addr) (n : Int) (N : Nat) (L : List (Addr × Pr)), vs = [.ref b, .ref D] ∧ BoxAt H b g l n ∧ n ≤ 800000 ∧ D ≠ b ∧ D ≠ g ∧ PairsAt H D L ∧ XP N (L.map (·.2)) ∧ N ≤ 500 ∧ 0 < L.length ∧
  ∀ (D' : Addr) (L' : List (Addr × Pr)) (n' : Int) (H' : Hp), D' ≠ b → D' ≠ g → PairsAt H' D' L' → XP (N + 4) (L'.map (·.2)) → BoxAt H' b g l n' → n' ≤ n + 10 → Keep2 b g H H' → Q (.ref D') H'
theorem ok__law_pair_spoilt (T : Txt K mg a) : FnOk P w K mg base CX0 4 a.f__law_pair_spoilt a.d__law_pair_spoilt ["_law_box_here", "_law_pairs_here"] spPairSpoilt := by
  have G__law_take := ok__law_take (P := P) (w := w) (base := base) T
  have G__law_odd_word := ok__law_odd_word (P := P) (w := w) (base := base) T
  refine T.F__law_pair_spoilt.ok sc__law_pair_spoilt (fun vs H Q E h => ?_) (fun cdv A outer s H vs Q E hr h => ?_)
  · obtain ⟨b, g, l, D, n, N, L, rfl, _⟩ := h
    rfl
  · obtain ⟨b, g, l, D, n, N, L, rfl, B, hn, nDb, nDg, PD, xp, hN, hL, q⟩ := h
    have lm : (L.map fun e => V.ref e.1).length = L.length := List.length_map _
    have xl := xp.len
    rw [List.length_map] at xl
    refine ⟨_, (pss_cons (ps_set (i := 2) sc__law_pair_spoilt.nd rfl (Or.inl rfl) (pe_call G__law_take (hr.mono (by decide)) rfl T.m__law_take T.F__law_take.kp T.b__law_take .nil pass0 (pa_cons (pv 0) (pa_cons pe_int pa_nil))))
      (pss_cons (ps_set (i := 3) sc__law_pair_spoilt.nd rfl (Or.inl rfl) (pe_call G__law_take (hr.mono (by decide)) rfl T.m__law_take T.F__law_take.kp T.b__law_take .nil pass0 (pa_cons (pv 0) (pa_cons (pe_callB call_lenK (by rfl) T.z_len PySem.boot_len (pa_cons (pv 1) pa_nil)) pa_nil))))
      (pss_cons (ps_asg (pe_ix ix_list (pv 1) (pv 3) (fun _ _ => rfl)) (pg_tup rfl (pgs_cons (pg_name (i := 4) sc__law_pair_spoilt.nd rfl (Or.inl rfl)) (pgs_cons (pg_name (i := 5) sc__law_pair_spoilt.nd rfl (Or.inl rfl)) (pgs_cons (pg_name (i := 6) sc__law_pair_spoilt.nd rfl (Or.inl rfl)) pgs_nil)))))
      (pss_mid (ps_if (pt_cmpR op_eq (pv 2) pe_int (nomark _)) (pss_one (ps_set (i := 4) sc__law_pair_spoilt.nd rfl (Or.inl rfl) (pe_call G__law_odd_word (hr.mono (by decide)) rfl T.m__law_odd_word T.F__law_odd_word.kp T.b__law_odd_word .nil pass0 (pa_cons (pv 0) (pa_cons (pe_lc (own := [("_law_pair", 8)]) (g := gName 8) (tt := tYes) (te := (tOp (rIxT K) _ _)) rfl sc__law_pair_spoilt.nd (pi_list (pv 1)) (blkOk_by (own := [("_law_pair", 8)]) (N := n__law_pair_spoilt) (sc := defScope s__law_pair_spoilt) (by decide +kernel)) (fun _ _ _ _ _ => (pg_name (i := 8) sc__law_pair_spoilt.nd rfl (Or.inl rfl))) (fun _ _ _ _ _ => pts_nil) (fun _ _ _ _ _ => (pe_ix ix_tup (pv 8) pe_int (fun _ _ => rfl)))) pa_nil))))) pss_nil)
      (pss_mid (ps_if (pt_cmpR op_eq (pv 2) pe_int (nomark _)) (pss_one (ps_set (i := 5) sc__law_pair_spoilt.nd rfl (Or.inl rfl) (pe_call G__law_odd_word (hr.mono (by decide)) rfl T.m__law_odd_word T.F__law_odd_word.kp T.b__law_odd_word .nil pass0 (pa_cons (pv 0) (pa_cons (pe_lc (own := [("_law_pair", 8)]) (g := gName 8) (tt := tYes) (te := (tOp (rIxT K) _ _)) rfl sc__law_pair_spoilt.nd (pi_list (pv 1)) (blkOk_by (own := [("_law_pair", 8)]) (N := n__law_pair_spoilt) (sc := defScope s__law_pair_spoilt) (by decide +kernel)) (fun _ _ _ _ _ => (pg_name (i := 8) sc__law_pair_spoilt.nd rfl (Or.inl rfl))) (fun _ _ _ _ _ => pts_nil) (fun _ _ _ _ _ => (pe_ix ix_tup (pv 8) pe_int (fun _ _ => rfl)))) pa_nil))))) pss_nil)
      (pss_cons (ps_if (pt_cmpR op_eq (pv 2) pe_int (nomark _)) (pss_one (ps_ret (pe_op op_cat (pe_op op_cat (pe_slice sl_list (pv 1) po_none (po_some (pv 3))) (pe_lst (pa_cons (pe_ix ix_list (pv 1) (pv 3) (fun _ _ => rfl)) pa_nil))) (pe_slice sl_list (pv 1) (po_some (pv 3)) po_none)))) pss_nil)
      (pss_cons (ps_if (pt_cmpR op_eq (pv 2) pe_int (nomark _)) (pss_cons (ps_set (i := 7) sc__law_pair_spoilt.nd rfl (Or.inl rfl) (pe_lst (pa_cons (pe_tup (pa_cons pe_str (pa_cons pe_str (pa_cons pe_bl pa_nil)))) (pa_cons (pe_tup (pa_cons pe_str (pa_cons pe_str (pa_cons pe_bl pa_nil)))) (pa_cons (pe_tup (pa_cons pe_str (pa_cons pe_str (pa_cons pe_bl pa_nil)))) (pa_cons (pe_tup (pa_cons pe_str (pa_cons pe_str (pa_cons pe_bl pa_nil)))) pa_nil))))))
      (pss_one (ps_ret (pe_op op_cat (pe_op op_cat (pe_slice sl_list (pv 1) po_none (po_some (pv 3))) (pe_slice sl_list (pv 7) po_none (po_some (pe_op op_add pe_int (pe_call G__law_take (hr.mono (by decide)) rfl T.m__law_take T.F__law_take.kp T.b__law_take .nil pass0 (pa_cons (pv 0) (pa_cons pe_int pa_nil))))))) (pe_slice sl_list (pv 1) (po_some (pv 3)) po_none))))) pss_nil)
      (pss_one (ps_ret (pe_op op_cat (pe_op op_cat (pe_slice sl_list (pv 1) po_none (po_some (pv 3))) (pe_lst (pa_cons (pe_tup (pa_cons (pv 4) (pa_cons (pv 5) (pa_cons (pv 6) pa_nil)))) pa_nil))) (pe_slice sl_list (pv 1) (po_some (pe_op op_add (pv 3) pe_int)) po_none))))))))))), ?_⟩
    walk_at "go"
    intro way H1 w0 w1 B1 k1
    have PD1 : PairsAt H1 D L := PD.keep (fun o e => k1 _ _ nDb nDg e) (B.tups k1)
    have ls1 := PD1.ls
    walk_at "go"
    intro at_ H2 a0 a1 B2 k2
    have PD2 : PairsAt H2 D L := PD1.keep (fun o e => k2 _ _ nDb nDg e) (B1.tups k2)
    have ls2 := PD2.ls
    rw [lm] at a1
    obtain ⟨e, hat, hei⟩ := pairs_at a0 a1
    have hem := List.mem_of_getElem? hei
    have hpe : H2 e.1 = some (.tup [.str e.2.near, .str e.2.far, .bl e.2.laden]) := PD2.at_ e hem
    walk_at "go"
    refine mid_of (fun σ H3 => ∃ (w : Str) (n3 : Int), σ = [some (.ref b), some (.ref D), some (.int way), some (.int at_), some (.str w), some (.str e.2.far), some (.bl e.2.laden), none, none] ∧ SW w ∧ BoxAt H3 b g l n3 ∧ n3 ≤ n + 1 + 1 + 2 ∧ Keep2 b g H2 H3) ?_ ?_
    · walk_at "go"
      refine ifD (fun _ => ?_) (fun _ => ?_)
      · skip
        have ls := PD2.ls
        walk_at "go"
        intro Z hZ
        have nZ := B2.fresh hZ
        refine lcL (K := K) (a := D) (xs := L.map fun e => V.ref e.1) (fun i H' => H' Z = some (.lst (((L.take i).map fun e => e.2.near).map V.str)) ∧ Same H2 H') ?_ ?_ ?_ ?_
        · exact ⟨upd_same, Same.upd_new hZ⟩
        · exact fun i H' _ h => SqL.of (h.2 _ _ ls)
        · rintro i y H' hi ⟨g1, g2⟩
          rw [List.getElem?_map] at hi
          obtain ⟨e1, he1, rfl⟩ := Option.map_eq_some_iff.mp hi
          have hp : H' e1.1 = _ := g2 _ _ (PD2.at_ e1 (List.mem_of_getElem? he1))
          have hlt := (List.getElem?_eq_some_iff.mp he1).1
          have hat1 : atI [V.str e1.2.near, .str e1.2.far, .bl e1.2.laden] 0 = some (.str e1.2.near) := rfl
          refine ⟨rfl, ?_⟩
          walk_at "go"
          refine ⟨small_lt (by rw [List.length_map, List.length_map, List.length_take]; omega), wait ⟨?_, fun x o e => upd_get (ne_of_none e hZ) (g2 x o e)⟩⟩
          rw [upd_same, List.take_add_one, he1, List.map_append, List.map_append] <;> rfl
        · rintro H4 ⟨g1, g2⟩
          rw [List.length_map, List.take_length] at g1
          have B4 := B2.same g2
          have hws : ∀ w ∈ L.map (fun e => e.2.near), SW w := fun w hw => by
            obtain ⟨e1, he1, rfl⟩ := List.mem_map.mp hw
            exact (xp.mem he1).1
          refine ⟨b, g, l, Z, _, _, rfl, B4, by omega, nZ.1, nZ.2.1, g1, hws, by rw [List.length_map]; omega, fun w n5 H5 hw B5 hn5 k5 => ?_⟩
          exact wait ⟨w, n5, rfl, hw, B5, by omega, fun x o a1 a2 e => k5 x o a1 a2 (g2 _ _ e)⟩
      · exact wait ⟨_, _, rfl, (xp.mem hem).1, B2, by omega, Keep2.refl _ _ _⟩
    · rintro σ H3 ⟨wn, n3, rfl, hwn, B3, hn3, k3⟩
      have PD3 : PairsAt H3 D L := PD2.keep (fun o e => k3 _ _ nDb nDg e) (B2.tups k3)
      refine mid_of (fun σ H4 => ∃ (w : Str) (n4 : Int), σ = [some (.ref b), some (.ref D), some (.int way), some (.int at_), some (.str wn), some (.str w), some (.bl e.2.laden), none, none] ∧ SW w ∧ BoxAt H4 b g l n4 ∧ n4 ≤ n + 1 + 1 + 2 + 2 ∧ Keep2 b g H3 H4) ?_ ?_
      · walk_at "go"
        refine ifD (fun _ => ?_) (fun _ => ?_)
        · skip
          have ls := PD3.ls
          walk_at "go"
          intro Z hZ
          have nZ := B3.fresh hZ
          refine lcL (K := K) (a := D) (xs := L.map fun e => V.ref e.1) (fun i H' => H' Z = some (.lst (((L.take i).map fun e => e.2.far).map V.str)) ∧ Same H3 H') ?_ ?_ ?_ ?_
          · exact ⟨upd_same, Same.upd_new hZ⟩
          · exact fun i H' _ h => SqL.of (h.2 _ _ ls)
          · rintro i y H' hi ⟨g1, g2⟩
            rw [List.getElem?_map] at hi
            obtain ⟨e1, he1, rfl⟩ := Option.map_eq_some_iff.mp hi
            have hp : H' e1.1 = _ := g2 _ _ (PD3.at_ e1 (List.mem_of_getElem? he1))
            have hlt := (List.getElem?_eq_some_iff.mp he1).1
            have hat1 : atI [V.str e1.2.near, .str e1.2.far, .bl e1.2.laden] 1 = some (.str e1.2.far) := rfl
            refine ⟨rfl, ?_⟩
            walk_at "go"
            refine ⟨small_lt (by rw [List.length_map, List.length_map, List.length_take]; omega), wait ⟨?_, fun x o e => upd_get (ne_of_none e hZ) (g2 x o e)⟩⟩
            rw [upd_same, List.take_add_one, he1, List.map_append, List.map_append] <;> rfl
          · rintro H4 ⟨g1, g2⟩
            rw [List.length_map, List.take_length] at g1
            have B4 := B3.same g2
            have hws : ∀ w ∈ L.map (fun e => e.2.far), SW w := fun w hw => by
              obtain ⟨e1, he1, rfl⟩ := List.mem_map.mp hw
              exact (xp.mem he1).2
            refine ⟨b, g, l, Z, _, _, rfl, B4, by omega, nZ.1, nZ.2.1, g1, hws, by rw [List.length_map]; omega, fun w n5 H5 hw B5 hn5 k5 => ?_⟩
            exact wait ⟨w, n5, rfl, hw, B5, by omega, fun x o a1 a2 e => k5 x o a1 a2 (g2 _ _ e)⟩
        · exact wait ⟨_, _, rfl, (xp.mem hem).2, B3, by omega, Keep2.refl _ _ _⟩
      · rintro σ H4 ⟨wf, n4, rfl, hwf, B4, hn4, k4⟩
        have PD4 : PairsAt H4 D L := PD3.keep (fun o e => k4 _ _ nDb nDg e) (B3.tups k4)
        have K4 : Keep2 b g H H4 := ((k1.trans k2).trans k3).trans k4
        have ls4 := PD4.ls
        walk_at "go"
        have fin : ∀ (p : Addr) (n' : Int) (H' : Hp) (i j : Nat) (X : List (Addr × Pr)), H' p = some (.lst (((L.take i).map fun e => V.ref e.1) ++ (X.map fun e => V.ref e.1) ++ (L.drop j).map fun e => V.ref e.1)) → p ≠ b → p ≠ g → (∀ e ∈ X, PrAt H' e ∧ SW e.2.near ∧ SW e.2.far) → X.length ≤ 4 → i ≤ j → (∀ e ∈ L, PrAt H' e) → BoxAt H' b g l n' → n' ≤ n + 10 → Keep2 b g H4 H' → Q (.ref p) H' := fun p n' H' i j X hp n1 n2 hX xl hij hLp B' hn' k' => by
          refine q p (L.take i ++ X ++ L.drop j) n' H' n1 n2 ⟨by rw [List.map_append, List.map_append]; exact hp, fun d hd => ?_⟩ ⟨?_, fun d hd => ?_⟩ B' hn' (K4.trans k')
          · rcases List.mem_append.mp hd with z | z
            · rcases List.mem_append.mp z with y | y
              · exact hLp d (List.mem_of_mem_take y)
              · exact (hX d y).1
            · exact hLp d (List.mem_of_mem_drop z)
          · rw [List.length_map, List.length_append, List.length_append, List.length_take, List.length_drop]
            omega
          · obtain ⟨d', hd', rfl⟩ := List.mem_map.mp hd
            rcases List.mem_append.mp hd' with z | z
            · rcases List.mem_append.mp z with y | y
              · exact xp.mem (List.mem_of_mem_take y)
              · exact (hX d' y).2
            · exact xp.mem (List.mem_of_mem_drop z)
        refine ifD (fun _ => ?_) (fun _ => ?_)
        · walk_at "go"
          rw [cutV_toI _ a0]
          intro p5 hp5
          obtain ⟨H5, e5⟩ : ∃ H5, H5 = upd H4 p5 (.lst ((L.map fun e => V.ref e.1).take at_.toNat)) := ⟨_, rfl⟩
          have s5 : Same H4 H5 := by rw [e5]; exact Same.upd_new hp5
          have h5 : H5 p5 = some (.lst ((L.map fun e => V.ref e.1).take at_.toNat)) := by rw [e5, upd_same]
          rw [← e5]
          have B5 := B4.same s5
          have PD5 := PD4.same s5
          have ls5 := PD5.ls
          walk_at "go"
          intro p6 hp6
          obtain ⟨H6, e6⟩ : ∃ H6, H6 = upd H5 p6 (.lst [.ref e.1]) := ⟨_, rfl⟩
          have s6 : Same H5 H6 := by rw [e6]; exact Same.upd_new hp6
          have h6 : H6 p6 = some (.lst [.ref e.1]) := by rw [e6, upd_same]
          rw [← e6]
          have B6 := B5.same s6
          have PD6 := PD5.same s6
          have h56 := s6 _ _ h5
          have z6 : ((L.map fun e => V.ref e.1).take at_.toNat).length + [V.ref e.1].length ≤ sizeLine := small_le (by rw [List.length_take]; show _ + 1 ≤ _; omega)
          walk_at "go"
          intro p7 hp7
          obtain ⟨H7, e7⟩ : ∃ H7, H7 = upd H6 p7 (.lst ((L.map fun e => V.ref e.1).take at_.toNat ++ [.ref e.1])) := ⟨_, rfl⟩
          have s7 : Same H6 H7 := by rw [e7]; exact Same.upd_new hp7
          have h7 : H7 p7 = some (.lst ((L.map fun e => V.ref e.1).take at_.toNat ++ [.ref e.1])) := by rw [e7, upd_same]
          rw [← e7]
          have B7 := B6.same s7
          have PD7 := PD6.same s7
          have ls7 := PD7.ls
          walk_at "go"
          rw [cutV_fromI _ a0]
          intro p8 hp8
          obtain ⟨H8, e8⟩ : ∃ H8, H8 = upd H7 p8 (.lst ((L.map fun e => V.ref e.1).drop at_.toNat)) := ⟨_, rfl⟩
          have s8 : Same H7 H8 := by rw [e8]; exact Same.upd_new hp8
          have h8 : H8 p8 = some (.lst ((L.map fun e => V.ref e.1).drop at_.toNat)) := by rw [e8, upd_same]
          rw [← e8]
          have B8 := B7.same s8
          have PD8 := PD7.same s8
          have h78 := s8 _ _ h7
          have z8 : ((L.map fun e => V.ref e.1).take at_.toNat ++ [V.ref e.1]).length + ((L.map fun e => V.ref e.1).drop at_.toNat).length ≤ sizeLine := small_le (by rw [List.length_append, List.length_take, List.length_drop]; show _ + 1 + _ ≤ _; omega)
          walk_at "go"
          intro p9 hp9
          obtain ⟨H9, e9⟩ : ∃ H9, H9 = upd H8 p9 (.lst ((L.map fun e => V.ref e.1).take at_.toNat ++ [.ref e.1] ++ (L.map fun e => V.ref e.1).drop at_.toNat)) := ⟨_, rfl⟩
          have s9 : Same H8 H9 := by rw [e9]; exact Same.upd_new hp9
          have h9 : H9 p9 = some (.lst ((L.map fun e => V.ref e.1).take at_.toNat ++ [.ref e.1] ++ (L.map fun e => V.ref e.1).drop at_.toNat)) := by rw [e9, upd_same]
          rw [← e9]
          have B9 := B8.same s9
          have PD9 := PD8.same s9
          have n9 := B8.fresh hp9
          refine fin p9 _ H9 at_.toNat at_.toNat [e] ?_ n9.1 n9.2.1 (fun d hd => ?_) (show 1 ≤ 4 by decide) (Nat.le_refl _) PD9.at_ B9 (by omega) fun x o _ _ ex => s9 _ _ (s8 _ _ (s7 _ _ (s6 _ _ (s5 _ _ ex))))
          · rw [h9, List.map_take, List.map_drop] <;> rfl
          · rw [List.mem_singleton.mp hd]
            exact ⟨PD9.at_ e hem, xp.mem hem⟩
        · walk_at "go"
          refine ifD (fun _ => ?_) (fun _ => ?_)
          · walk_at "go"
            intro p5 hp5
            obtain ⟨H5, e5⟩ : ∃ H5, H5 = upd H4 p5 (.tup [.str "qa", .str "qb", .bl true]) := ⟨_, rfl⟩
            have s5 : Same H4 H5 := by rw [e5]; exact Same.upd_new hp5
            have h5 : H5 p5 = some (.tup [.str "qa", .str "qb", .bl true]) := by rw [e5, upd_same]
            rw [← e5]
            have B5 := B4.same s5
            have PD5 := PD4.same s5
            walk_at "go"
            intro p6 hp6
            obtain ⟨H6, e6⟩ : ∃ H6, H6 = upd H5 p6 (.tup [.str "qc", .str "qd", .bl false]) := ⟨_, rfl⟩
            have s6 : Same H5 H6 := by rw [e6]; exact Same.upd_new hp6
            have h6 : H6 p6 = some (.tup [.str "qc", .str "qd", .bl false]) := by rw [e6, upd_same]
            rw [← e6]
            have B6 := B5.same s6
            have PD6 := PD5.same s6
            walk_at "go"
            intro p7 hp7
            obtain ⟨H7, e7⟩ : ∃ H7, H7 = upd H6 p7 (.tup [.str "qe", .str "qf", .bl true]) := ⟨_, rfl⟩
            have s7 : Same H6 H7 := by rw [e7]; exact Same.upd_new hp7
            have h7 : H7 p7 = some (.tup [.str "qe", .str "qf", .bl true]) := by rw [e7, upd_same]
            rw [← e7]
            have B7 := B6.same s7
            have PD7 := PD6.same s7
            walk_at "go"
            intro p8 hp8
            obtain ⟨H8, e8⟩ : ∃ H8, H8 = upd H7 p8 (.tup [.str "qg", .str "qh", .bl false]) := ⟨_, rfl⟩
            have s8 : Same H7 H8 := by rw [e8]; exact Same.upd_new hp8
            have h8 : H8 p8 = some (.tup [.str "qg", .str "qh", .bl false]) := by rw [e8, upd_same]
            rw [← e8]
            have B8 := B7.same s8
            have PD8 := PD7.same s8
            walk_at "go"
            intro p9 hp9
            obtain ⟨H9, e9⟩ : ∃ H9, H9 = upd H8 p9 (.lst [.ref p5, .ref p6, .ref p7, .ref p8]) := ⟨_, rfl⟩
            have s9 : Same H8 H9 := by rw [e9]; exact Same.upd_new hp9
            have h9 : H9 p9 = some (.lst [.ref p5, .ref p6, .ref p7, .ref p8]) := by rw [e9, upd_same]
            rw [← e9]
            have B9 := B8.same s9
            have PD9 := PD8.same s9
            have ls9 := PD9.ls
            obtain ⟨X4, eX4⟩ : ∃ X4 : List (Addr × Pr), X4 = [(p5, ⟨"qa", "qb", true⟩), (p6, ⟨"qc", "qd", false⟩), (p7, ⟨"qe", "qf", true⟩), (p8, ⟨"qg", "qh", false⟩)] := ⟨_, rfl⟩
            have hX4 : ∀ d ∈ X4, PrAt H9 d ∧ SW d.2.near ∧ SW d.2.far := by
              have sq : ∀ w ∈ ([ "qa", "qb", "qc", "qd", "qe", "qf", "qg", "qh"] : List Str), SW w := sw_all (by decide +kernel)
              intro d hd
              rw [eX4] at hd
              simp only [List.mem_cons, List.not_mem_nil, or_false] at hd
              rcases hd with rfl | rfl | rfl | rfl
              · exact ⟨s9 _ _ (s8 _ _ (s7 _ _ (s6 _ _ h5))), sq _ (by simp), sq _ (by simp)⟩
              · exact ⟨s9 _ _ (s8 _ _ (s7 _ _ h6)), sq _ (by simp), sq _ (by simp)⟩
              · exact ⟨s9 _ _ (s8 _ _ h7), sq _ (by simp), sq _ (by simp)⟩
              · exact ⟨s9 _ _ h8, sq _ (by simp), sq _ (by simp)⟩
            have h9' : H9 p9 = some (.lst (X4.map fun e => V.ref e.1)) := by rw [h9, eX4] <;> rfl
            have lX4 : X4.length = 4 := by rw [eX4] <;> rfl
            have K9 : Same H4 H9 := fun x o ex => s9 _ _ (s8 _ _ (s7 _ _ (s6 _ _ (s5 _ _ ex))))
            clear h9 eX4
            walk_at "go"
            rw [cutV_toI _ a0]
            intro p10 hp10
            obtain ⟨H10, e10⟩ : ∃ H10, H10 = upd H9 p10 (.lst ((L.map fun e => V.ref e.1).take at_.toNat)) := ⟨_, rfl⟩
            have s10 : Same H9 H10 := by rw [e10]; exact Same.upd_new hp10
            have h10 : H10 p10 = some (.lst ((L.map fun e => V.ref e.1).take at_.toNat)) := by rw [e10, upd_same]
            rw [← e10]
            have B10 := B9.same s10
            have PD10 := PD9.same s10
            have h910 := s10 _ _ h9'
            have n10 := B9.fresh hp10
            have n9 := B8.fresh hp9
            walk_at "go"
            intro r11 H11 r110 r111 B11 k11
            have PD11 : PairsAt H11 D L := PD10.keep (fun o e => k11 _ _ nDb nDg e) (B10.tups k11)
            have h911 := k11 _ _ n9.1 n9.2.1 h910
            have h1011 := k11 _ _ n10.1 n10.2.1 h10
            walk_at "go"
            rw [cutV_toI _ (show 0 ≤ 1 + r11 by omega)]
            intro p12 hp12
            obtain ⟨H12, e12⟩ : ∃ H12, H12 = upd H11 p12 (.lst ((X4.map fun e => V.ref e.1).take (1 + r11).toNat)) := ⟨_, rfl⟩
            have s12 : Same H11 H12 := by rw [e12]; exact Same.upd_new hp12
            have h12 : H12 p12 = some (.lst ((X4.map fun e => V.ref e.1).take (1 + r11).toNat)) := by rw [e12, upd_same]
            rw [← e12]
            have B12 := B11.same s12
            have PD12 := PD11.same s12
            have h1012 := s12 _ _ h1011
            have z12 : ((L.map fun e => V.ref e.1).take at_.toNat).length + ((X4.map fun e => V.ref e.1).take (1 + r11).toNat).length ≤ sizeLine := small_le (by rw [List.length_take, List.length_take, List.length_map (as := X4)]; omega)
            walk_at "go"
            intro p13 hp13
            obtain ⟨H13, e13⟩ : ∃ H13, H13 = upd H12 p13 (.lst ((L.map fun e => V.ref e.1).take at_.toNat ++ (X4.map fun e => V.ref e.1).take (1 + r11).toNat)) := ⟨_, rfl⟩
            have s13 : Same H12 H13 := by rw [e13]; exact Same.upd_new hp13
            have h13 : H13 p13 = some (.lst ((L.map fun e => V.ref e.1).take at_.toNat ++ (X4.map fun e => V.ref e.1).take (1 + r11).toNat)) := by rw [e13, upd_same]
            rw [← e13]
            have B13 := B12.same s13
            have PD13 := PD12.same s13
            have ls13 := PD13.ls
            walk_at "go"
            rw [cutV_fromI _ a0]
            intro p14 hp14
            obtain ⟨H14, e14⟩ : ∃ H14, H14 = upd H13 p14 (.lst ((L.map fun e => V.ref e.1).drop at_.toNat)) := ⟨_, rfl⟩
            have s14 : Same H13 H14 := by rw [e14]; exact Same.upd_new hp14
            have h14 : H14 p14 = some (.lst ((L.map fun e => V.ref e.1).drop at_.toNat)) := by rw [e14, upd_same]
            rw [← e14]
            have B14 := B13.same s14
            have PD14 := PD13.same s14
            have h1314 := s14 _ _ h13
            have z14 : ((L.map fun e => V.ref e.1).take at_.toNat ++ (X4.map fun e => V.ref e.1).take (1 + r11).toNat).length + ((L.map fun e => V.ref e.1).drop at_.toNat).length ≤ sizeLine := small_le (by rw [List.length_append, List.length_take, List.length_take, List.length_drop, List.length_map (as := X4)]; omega)
            walk_at "go"
            intro p15 hp15
            obtain ⟨H15, e15⟩ : ∃ H15, H15 = upd H14 p15 (.lst ((L.map fun e => V.ref e.1).take at_.toNat ++ (X4.map fun e => V.ref e.1).take (1 + r11).toNat ++ (L.map fun e => V.ref e.1).drop at_.toNat)) := ⟨_, rfl⟩
            have s15 : Same H14 H15 := by rw [e15]; exact Same.upd_new hp15
            have h15 : H15 p15 = some (.lst ((L.map fun e => V.ref e.1).take at_.toNat ++ (X4.map fun e => V.ref e.1).take (1 + r11).toNat ++ (L.map fun e => V.ref e.1).drop at_.toNat)) := by rw [e15, upd_same]
            rw [← e15]
            have B15 := B14.same s15
            have PD15 := PD14.same s15
            have n15 := B14.fresh hp15
            refine fin p15 _ H15 at_.toNat at_.toNat (X4.take (1 + r11).toNat) ?_ n15.1 n15.2.1 (fun d hd => ?_) (by rw [List.length_take]; omega) (Nat.le_refl _) PD15.at_ B15 (by omega) fun x o a1 a2 ex => s15 _ _ (s14 _ _ (s13 _ _ (s12 _ _ (k11 x o a1 a2 (s10 _ _ (K9 _ _ ex))))))
            · rw [h15, List.map_take, List.map_take, List.map_drop]
            · have := hX4 d (List.mem_of_mem_take hd)
              exact ⟨s15 _ _ (s14 _ _ (s13 _ _ (s12 _ _ (B10.tups k11 _ _ (s10 _ _ this.1))))), this.2⟩
          · walk_at "go"
            rw [cutV_toI _ a0]
            intro p5 hp5
            obtain ⟨H5, e5⟩ : ∃ H5, H5 = upd H4 p5 (.lst ((L.map fun e => V.ref e.1).take at_.toNat)) := ⟨_, rfl⟩
            have s5 : Same H4 H5 := by rw [e5]; exact Same.upd_new hp5
            have h5 : H5 p5 = some (.lst ((L.map fun e => V.ref e.1).take at_.toNat)) := by rw [e5, upd_same]
            rw [← e5]
            have B5 := B4.same s5
            have PD5 := PD4.same s5
            walk_at "go"
            intro p6 hp6
            obtain ⟨H6, e6⟩ : ∃ H6, H6 = upd H5 p6 (.tup [.str wn, .str wf, .bl e.2.laden]) := ⟨_, rfl⟩
            have s6 : Same H5 H6 := by rw [e6]; exact Same.upd_new hp6
            have h6 : H6 p6 = some (.tup [.str wn, .str wf, .bl e.2.laden]) := by rw [e6, upd_same]
            rw [← e6]
            have B6 := B5.same s6
            have PD6 := PD5.same s6
            walk_at "go"
            intro p7 hp7
            obtain ⟨H7, e7⟩ : ∃ H7, H7 = upd H6 p7 (.lst [.ref p6]) := ⟨_, rfl⟩
            have s7 : Same H6 H7 := by rw [e7]; exact Same.upd_new hp7
            have h7 : H7 p7 = some (.lst [.ref p6]) := by rw [e7, upd_same]
            rw [← e7]
            have B7 := B6.same s7
            have PD7 := PD6.same s7
            have h57 := s7 _ _ (s6 _ _ h5)
            have z7 : ((L.map fun e => V.ref e.1).take at_.toNat).length + [V.ref p6].length ≤ sizeLine := small_le (by rw [List.length_take]; show _ + 1 ≤ _; omega)
            walk_at "go"
            intro p8 hp8
            obtain ⟨H8, e8⟩ : ∃ H8, H8 = upd H7 p8 (.lst ((L.map fun e => V.ref e.1).take at_.toNat ++ [.ref p6])) := ⟨_, rfl⟩
            have s8 : Same H7 H8 := by rw [e8]; exact Same.upd_new hp8
            have h8 : H8 p8 = some (.lst ((L.map fun e => V.ref e.1).take at_.toNat ++ [.ref p6])) := by rw [e8, upd_same]
            rw [← e8]
            have B8 := B7.same s8
            have PD8 := PD7.same s8
            have ls8 := PD8.ls
            walk_at "go"
            rw [cutV_fromI _ (show 0 ≤ at_ + 1 by omega)]
            intro p9 hp9
            obtain ⟨H9, e9⟩ : ∃ H9, H9 = upd H8 p9 (.lst ((L.map fun e => V.ref e.1).drop (at_ + 1).toNat)) := ⟨_, rfl⟩
            have s9 : Same H8 H9 := by rw [e9]; exact Same.upd_new hp9
            have h9 : H9 p9 = some (.lst ((L.map fun e => V.ref e.1).drop (at_ + 1).toNat)) := by rw [e9, upd_same]
            rw [← e9]
            have B9 := B8.same s9
            have PD9 := PD8.same s9
            have h89 := s9 _ _ h8
            have z9 : ((L.map fun e => V.ref e.1).take at_.toNat ++ [V.ref p6]).length + ((L.map fun e => V.ref e.1).drop (at_ + 1).toNat).length ≤ sizeLine := small_le (by rw [List.length_append, List.length_take, List.length_drop]; show _ + 1 + _ ≤ _; omega)
            walk_at "go"
            intro p10 hp10
            obtain ⟨H10, e10⟩ : ∃ H10, H10 = upd H9 p10 (.lst ((L.map fun e => V.ref e.1).take at_.toNat ++ [.ref p6] ++ (L.map fun e => V.ref e.1).drop (at_ + 1).toNat)) := ⟨_, rfl⟩
            have s10 : Same H9 H10 := by rw [e10]; exact Same.upd_new hp10
            have h10 : H10 p10 = some (.lst ((L.map fun e => V.ref e.1).take at_.toNat ++ [.ref p6] ++ (L.map fun e => V.ref e.1).drop (at_ + 1).toNat)) := by rw [e10, upd_same]
            rw [← e10]
            have B10 := B9.same s10
            have PD10 := PD9.same s10
            have n10 := B9.fresh hp10
            refine fin p10 _ H10 at_.toNat (at_ + 1).toNat [(p6, ⟨wn, wf, e.2.laden⟩)] ?_ n10.1 n10.2.1 (fun d hd => ?_) (show 1 ≤ 4 by decide) (by omega) PD10.at_ B10 (by omega) fun x o _ _ ex => s10 _ _ (s9 _ _ (s8 _ _ (s7 _ _ (s6 _ _ (s5 _ _ ex)))))
            · rw [h10, List.map_take, List.map_drop] <;> rfl
            · rw [List.mem_singleton.mp hd]
              exact ⟨s10 _ _ (s9 _ _ (s8 _ _ (s7 _ _ h6))), hwn, hwf⟩
end
end Pf
set_option Elab.async false
set_option linter.all false
set_option maxRecDepth 100000
set_option maxHeartbeats 4000000
namespace Pf
open PySem L2
local macro_rules | `(tactic| walk_at "nz") => `(tactic| (show (_ : Int) ≠ 0; omega))
local macro_rules | `(tactic| walk_at "ne") => `(tactic| first | assumption | (apply Ne.symm; assumption))
local macro_rules | `(tactic| walk_at "hp") => `(tactic| first | assumption | exact upd_same | (refine upd_get ?_ ?_; walk_at "ne"; walk_at "hp"))
local macro_rules | `(tactic| walk_at "sd") => `(tactic| first
  | (with_reducible show (_ : Int) < _; omega)
  | (with_reducible show (_ : Int) ≤ _; omega)
  | (with_reducible show (_ : Nat) < _; omega)
  | (with_reducible show (_ : Nat) ≤ _; omega)
  | rfl
  | assumption
  | exact kV_int _
  | exact kV_str _
  | (show (_ : Int) ≠ 0; omega)
  | exact SqL.of (by walk_at "hp")
  | exact ⟨_, SqL.of (by walk_at "hp")⟩
  | exact ⟨_, SqT.of (by walk_at "hp")⟩
  | exact ⟨_, (by assumption)⟩
  | exact SqT.of (by walk_at "hp")
  | exact Rd.of (by walk_at "hp")
  | exact Or.inl (SqL.of (by walk_at "hp"))
  | exact Or.inr (SqT.of (by walk_at "hp"))
  | exact Or.inr (by assumption)
  | (walk_at "hp")
  | (exact Or.inl ⟨rfl, _, SqL.of (by walk_at "hp")⟩)
  | (exact Or.inl ⟨by omega, by omega⟩)
  | (exact Or.inr ⟨by omega, by omega⟩)
  | (refine ⟨?_, ?_, ?_⟩ <;> omega)
  | omega
  | (exact small_le (by first | omega | (simp only [List.length_cons, List.length_nil]; omega)))
  | (exact small_lt (by first | omega | (simp only [List.length_cons, List.length_nil]; omega)))
  | exact Nat.le_of_ble_eq_true rfl
  | exact ⟨_, rfl⟩
  | decide)
local macro_rules | `(tactic| walk_at "st") => `(tactic| first
  | with_reducible refine sq_seq ?_
  | apply Exists.intro
  | (refine And.intro ?_ ?_; (walk_at "sd")))
local macro_rules | `(tactic| walk_at "go") => `(tactic| repeat (walk_at "st"))
section
variable {P : Program} {w : World} {K : PySem.W.Frag} {mg : Str → Option Value} {base : Heap} {a : Ad}
def cutL (ws : List Str) (lo hi : Option Int) : List Str := (ws.drop (HT.sIx ws.length 0 lo)).take (HT.sIx ws.length ws.length hi - HT.sIx ws.length 0 lo)
theorem cutV_strs (ws : List Str) (lo hi : Option Int) : cutV (ws.map V.str) lo hi = (cutL ws lo hi).map V.str := by
  unfold cutV cutL
  rw [List.length_map, List.map_take, List.map_drop]
theorem cutL_mem {ws : List Str} {lo hi : Option Int} {w : Str} (h : w ∈ cutL ws lo hi) : w ∈ ws := List.mem_of_mem_drop (List.mem_of_mem_take h)
theorem cutL_len (ws : List Str) (lo hi : Option Int) : (cutL ws lo hi).length ≤ ws.length := by
  unfold cutL
  rw [List.length_take, List.length_drop]
  omega
/-- what stands while a helper is changed -/
def HSp (K : PySem.W.Frag) (b g l D A W : Addr) (way at_ : Int) (gv : Bool) (tb zb : Nat) (nb : Int) (Hb : Hp) (σ : St) (H : Hp) : Prop := ∃ (nm : Str) (sd : Int) (tk th : Addr) (ts zs : List Str) (n' : Int),
  σ = [some (.ref b), some (.ref D), some (.ref A), some (.int way), some (.int at_), some (.str nm), some (.int sd), some (.ref tk), some (.bl gv), some (.ref th), some (.ref W), none, none, none, none] ∧
  SW nm ∧ SqT K H tk (ts.map V.str) ∧ ts.length ≤ tb ∧ (∀ w ∈ ts, SW w) ∧ SqT K H th (zs.map V.str) ∧ zs.length ≤ zb ∧ (∀ w ∈ zs, SW w) ∧ BoxAt H b g l n' ∧ n' ≤ nb ∧ Keep2 b g Hb H
theorem helpers_at {M : List (Addr × Hl)} {r : Int} (h0 : 0 ≤ r) (h1 : r < (M.length : Int)) : ∃ e, atI (M.map fun e => V.ref e.1) r = some (.ref e.1) ∧ M[r.toNat]? = some e := by
  obtain ⟨v, e1, e2⟩ := atI_in (xs := M.map fun e => V.ref e.1) h0 (by rw [List.length_map]; exact h1)
  rw [List.getElem?_map] at e2
  obtain ⟨e, he, rfl⟩ := Option.map_eq_some_iff.mp e2
  exact ⟨e, e1, he⟩
theorem XH.mem {n : Nat} {M : List (Addr × Hl)} (h : XH n (M.map (·.2))) {e : Addr × Hl} (he : e ∈ M) : SW e.2.name ∧ e.2.takes.length ≤ n ∧ e.2.throws.length ≤ n ∧ (∀ w ∈ e.2.takes, SW w) ∧ ∀ w ∈ e.2.throws, SW w := h.sw _ (List.mem_map.mpr ⟨e, he, rfl⟩)
def spHelperSpoilt (K : PySem.W.Frag) : Sp := fun vs H Q _ => ∃ (b g l D A : Addr) (n : Int) (N : Nat) (L : List (Addr × Pr)) (M : List (Addr × Hl)), vs = [.ref b, .ref D, .ref A] ∧ BoxAt H b g l n ∧ n ≤ 800000 ∧ D ≠ b ∧ D ≠ g ∧ A ≠ b ∧ A ≠ g ∧ PairsAt H D L ∧ HelpersAt K H A M ∧ XP N (L.map (·.2)) ∧ XH N (M.map (·.2)) ∧ 8 ≤ N ∧ N ≤ 500 ∧ 0 < M.length ∧
  ∀ (A' : Addr) (M' : List (Addr × Hl)) (n' : Int) (H' : Hp), A' ≠ b → A' ≠ g → HelpersAt K H' A' M' → XH (N + 8) (M'.map (·.2)) → BoxAt H' b g l n' → n' ≤ n + 20 → Keep2 b g H H' → Q (.ref A') H'
theorem ok__law_helper_spoilt (T : Txt K mg a) : FnOk P w K mg base CX0 4 a.f__law_helper_spoilt a.d__law_helper_spoilt ["_law_box_here", "_law_pairs_here", "_law_helpers_here"] (spHelperSpoilt K) := by
  have G__law_take := ok__law_take (P := P) (w := w) (base := base) T
  have G__law_odd_word := ok__law_odd_word (P := P) (w := w) (base := base) T
  refine T.F__law_helper_spoilt.ok sc__law_helper_spoilt (fun vs H Q E h => ?_) (fun cdv A outer s H vs Q E hr h => ?_)
  · obtain ⟨b, g, l, D, A, n, N, L, M, rfl, _⟩ := h
    rfl
  · obtain ⟨b, g, l, D, A, n, N, L, M, rfl, B, hn, nDb, nDg, nAb, nAg, PD, HA, xp, xh, hN8, hN, hM, q⟩ := h
    have lm : (M.map fun e => V.ref e.1).length = M.length := List.length_map _
    have xl := xh.len
    have xpl := xp.len
    rw [List.length_map] at xl xpl
    refine ⟨_, (pss_cons (ps_set (i := 3) sc__law_helper_spoilt.nd rfl (Or.inl rfl) (pe_call G__law_take (hr.mono (by decide)) rfl T.m__law_take T.F__law_take.kp T.b__law_take .nil pass0 (pa_cons (pv 0) (pa_cons pe_int pa_nil))))
      (pss_cons (ps_set (i := 4) sc__law_helper_spoilt.nd rfl (Or.inl rfl) (pe_call G__law_take (hr.mono (by decide)) rfl T.m__law_take T.F__law_take.kp T.b__law_take .nil pass0 (pa_cons (pv 0) (pa_cons (pe_callB call_lenK (by rfl) T.z_len PySem.boot_len (pa_cons (pv 2) pa_nil)) pa_nil))))
      (pss_cons (ps_asg (pe_ix ix_list (pv 2) (pv 4) (fun _ _ => rfl)) (pg_tup rfl (pgs_cons (pg_name (i := 5) sc__law_helper_spoilt.nd rfl (Or.inl rfl)) (pgs_cons (pg_name (i := 6) sc__law_helper_spoilt.nd rfl (Or.inr rfl)) (pgs_cons (pg_name (i := 7) sc__law_helper_spoilt.nd rfl (Or.inl rfl)) (pgs_cons (pg_name (i := 8) sc__law_helper_spoilt.nd rfl (Or.inl rfl)) (pgs_cons (pg_name (i := 9) sc__law_helper_spoilt.nd rfl (Or.inl rfl)) pgs_nil)))))))
      (pss_cons (ps_set (i := 10) sc__law_helper_spoilt.nd rfl (Or.inl rfl) (pe_op op_cat (pe_lc (own := [("_law_pair", 12)]) (g := gName 12) (tt := tYes) (te := (tOp (rIxT K) _ _)) rfl sc__law_helper_spoilt.nd (pi_list (pv 1)) (blkOk_by (own := [("_law_pair", 12)]) (N := n__law_helper_spoilt) (sc := defScope s__law_helper_spoilt) (by decide +kernel)) (fun _ _ _ _ _ => (pg_name (i := 12) sc__law_helper_spoilt.nd rfl (Or.inl rfl))) (fun _ _ _ _ _ => pts_nil) (fun _ _ _ _ _ => (pe_ix ix_tup (pv 12) pe_int (fun _ _ => rfl)))) (pe_lc (own := [("_law_pair", 12)]) (g := gName 12) (tt := tYes) (te := (tOp (rIxT K) _ _)) rfl sc__law_helper_spoilt.nd (pi_list (pv 1)) (blkOk_by (own := [("_law_pair", 12)]) (N := n__law_helper_spoilt) (sc := defScope s__law_helper_spoilt) (by decide +kernel)) (fun _ _ _ _ _ => (pg_name (i := 12) sc__law_helper_spoilt.nd rfl (Or.inl rfl))) (fun _ _ _ _ _ => pts_nil) (fun _ _ _ _ _ => (pe_ix ix_tup (pv 12) pe_int (fun _ _ => rfl))))))
      (pss_mid (ps_if (pt_cmpR op_eq (pv 3) pe_int (nomark _)) (pss_one (ps_set (i := 5) sc__law_helper_spoilt.nd rfl (Or.inl rfl) (pe_call G__law_odd_word (hr.mono (by decide)) rfl T.m__law_odd_word T.F__law_odd_word.kp T.b__law_odd_word .nil pass0 (pa_cons (pv 0) (pa_cons (pe_lc (own := [("_law_helper", 13)]) (g := gName 13) (tt := tYes) (te := (tOp (rIxT K) _ _)) rfl sc__law_helper_spoilt.nd (pi_list (pv 2)) (blkOk_by (own := [("_law_helper", 13)]) (N := n__law_helper_spoilt) (sc := defScope s__law_helper_spoilt) (by decide +kernel)) (fun _ _ _ _ _ => (pg_name (i := 13) sc__law_helper_spoilt.nd rfl (Or.inl rfl))) (fun _ _ _ _ _ => pts_nil) (fun _ _ _ _ _ => (pe_ix ix_tup (pv 13) pe_int (fun _ _ => rfl)))) pa_nil))))) pss_nil)
      (pss_mid (ps_if (pt_cmpR op_eq (pv 3) pe_int (nomark _)) (pss_one (ps_set (i := 6) sc__law_helper_spoilt.nd rfl (Or.inr rfl) (pe_ix ix_list (pe_lst (pa_cons pe_int (pa_cons (pe_un un_neg pe_int) (pa_cons (pe_op op_sub pe_int (pv 6)) (pa_cons (pe_op op_pow pe_int pe_int) pa_nil))))) (pe_call G__law_take (hr.mono (by decide)) rfl T.m__law_take T.F__law_take.kp T.b__law_take .nil pass0 (pa_cons (pv 0) (pa_cons pe_int pa_nil))) (fun _ _ => rfl)))) pss_nil)
      (pss_mid (ps_if (pt_cmpR op_eq (pv 3) pe_int (nomark _)) (pss_one (ps_set (i := 7) sc__law_helper_spoilt.nd rfl (Or.inl rfl) (pe_slice sl_tupA (pe_op op_catA (pv 7) (pe_tup (pa_cons pe_str (pa_cons pe_str (pa_cons pe_str (pa_cons pe_str pa_nil)))))) po_none (po_some pe_int)))) pss_nil)
      (pss_mid (ps_if (pt_cmpR op_eq (pv 3) pe_int (nomark _)) (pss_one (ps_set (i := 7) sc__law_helper_spoilt.nd rfl (Or.inl rfl) (pe_slice sl_tupA (pe_op op_catA (pv 7) (pe_tup (pa_cons (pe_ix ix_list (pe_lst (pa_cons pe_str (pa_cons pe_str (pa_cons pe_str (pa_cons pe_str pa_nil))))) (pe_call G__law_take (hr.mono (by decide)) rfl T.m__law_take T.F__law_take.kp T.b__law_take .nil pass0 (pa_cons (pv 0) (pa_cons pe_int pa_nil))) (fun _ _ => rfl)) pa_nil))) (po_some (pe_un un_neg pe_int)) po_none))) pss_nil)
      (pss_mid (ps_if (PW.pt (pw_and (pt_cmpR op_eq (pv 3) pe_int (nomark _)) (pw_and1 (pt_cmpR op_gt (pe_callB call_lenK (by rfl) T.z_len PySem.boot_len (pa_cons (pv 9) pa_nil)) pe_int (nomark _))))) (pss_one (ps_set (i := 9) sc__law_helper_spoilt.nd rfl (Or.inl rfl) (pe_op op_catA (pv 9) (pe_slice sl_tupA (pv 9) po_none (po_some pe_int))))) pss_nil)
      (pss_mid (ps_if (pt_cmpR op_eq (pv 3) pe_int (nomark _)) (pss_one (ps_set (i := 9) sc__law_helper_spoilt.nd rfl (Or.inl rfl) (pe_slice sl_tupA (pe_op op_catA (pv 9) (pe_tup (pa_cons (pe_call G__law_odd_word (hr.mono (by decide)) rfl T.m__law_odd_word T.F__law_odd_word.kp T.b__law_odd_word .nil pass0 (pa_cons (pv 0) (pa_cons (pv 10) pa_nil))) pa_nil))) (po_some (pe_un un_neg pe_int)) po_none))) pss_nil)
      (pss_mid (ps_if (pt_cmpR op_eq (pv 3) pe_int (nomark _)) (pss_one (ps_set (i := 9) sc__law_helper_spoilt.nd rfl (Or.inl rfl) (pe_callTy call_tuple_of (by rfl) T.z_tuple (by decide +kernel) (pa_cons (pe_lc (own := [("_law_pair", 12)]) (g := gName 12) (tt := tYes) (te := (tOp (rIxT K) _ _)) rfl sc__law_helper_spoilt.nd (pi_list (by exact (pe_slice sl_list (pv 1) po_none (po_some pe_int)))) (blkOk_by (own := [("_law_pair", 12)]) (N := n__law_helper_spoilt) (sc := defScope s__law_helper_spoilt) (by decide +kernel)) (fun _ _ _ _ _ => (pg_name (i := 12) sc__law_helper_spoilt.nd rfl (Or.inl rfl))) (fun _ _ _ _ _ => pts_nil) (fun _ _ _ _ _ => (pe_ix ix_tup (pv 12) (pe_op op_modN (pv 6) pe_int) (fun _ _ => rfl)))) pa_nil)))) pss_nil)
      (pss_cons (ps_if (pt_cmpR op_eq (pv 3) pe_int (nomark _)) (pss_cons (ps_setLc (i := 11) (own := [("_law_spare", 14)]) (g := gName 14) (tt := tYes) rfl sc__law_helper_spoilt.nd rfl rfl (sw_true rfl rfl rfl (by decide +kernel)) (pi_list (by exact (pe_lst (pa_cons pe_str (pa_cons pe_str (pa_cons pe_str (pa_cons pe_str pa_nil))))))) (blkOk_by (own := [("_law_spare", 14)]) (N := n__law_helper_spoilt) (sc := defScope s__law_helper_spoilt) (by decide +kernel)) (fun _ _ _ _ _ => (pg_name (i := 14) sc__law_helper_spoilt.nd rfl (Or.inl rfl))) (fun _ _ _ _ _ => pts_nil) (fun _ _ _ _ _ => (pe_tup (pa_cons (pv 14) (pa_cons (pv 6) (pa_cons (pe_tup pa_nil) (pa_cons pe_bl (pa_cons (pe_tup pa_nil) pa_nil))))))))
      (pss_one (ps_ret (pe_op op_cat (pe_op op_cat (pe_slice sl_list (pv 2) po_none (po_some (pv 4))) (pe_slice sl_list (pv 11) po_none (po_some (pe_op op_add pe_int (pe_call G__law_take (hr.mono (by decide)) rfl T.m__law_take T.F__law_take.kp T.b__law_take .nil pass0 (pa_cons (pv 0) (pa_cons pe_int pa_nil))))))) (pe_slice sl_list (pv 2) (po_some (pv 4)) po_none))))) pss_nil)
      (pss_one (ps_ret (pe_op op_cat (pe_op op_cat (pe_slice sl_list (pv 2) po_none (po_some (pv 4))) (pe_lst (pa_cons (pe_tup (pa_cons (pv 5) (pa_cons (pv 6) (pa_cons (pv 7) (pa_cons (pv 8) (pa_cons (pv 9) pa_nil)))))) pa_nil))) (pe_slice sl_list (pv 2) (po_some (pe_op op_add (pv 4) pe_int)) po_none)))))))))))))))), ?_⟩
    walk_at "go"
    intro way H1 w0 w1 B1 k1
    have HA1 : HelpersAt K H1 A M := HA.tk (B.tk k1) fun o e => k1 _ _ nAb nAg e
    have ls1 := HA1.ls
    walk_at "go"
    intro at_ H2 a0 a1 B2 k2
    have HA2 : HelpersAt K H2 A M := HA1.tk (B1.tk k2) fun o e => k2 _ _ nAb nAg e
    have PD2 : PairsAt H2 D L := TK.pairs ((B.tk k1).trans (B1.tk k2)) PD fun o e => k2 _ _ nDb nDg (k1 _ _ nDb nDg e)
    have ls2 := HA2.ls
    rw [lm] at a1
    obtain ⟨e, hat, hei⟩ := helpers_at a0 a1
    have hem := List.mem_of_getElem? hei
    obtain ⟨tk0, th0, hpe, htk0, hth0⟩ := HA2.at_ e hem
    have lD2 := PD2.ls
    walk_at "go"
    intro Z hZ
    have nZ := B2.fresh hZ
    refine lcL (K := K) (a := D) (xs := L.map fun e => V.ref e.1) (fun i H' => H' Z = some (.lst (((L.take i).map fun e => e.2.near).map V.str)) ∧ Same H2 H') ?_ ?_ ?_ ?_
    · exact ⟨upd_same, Same.upd_new hZ⟩
    · exact fun i H' _ h => SqL.of (h.2 _ _ lD2)
    · rintro i y H' hi ⟨g1, g2⟩
      rw [List.getElem?_map] at hi
      obtain ⟨e1, he1, rfl⟩ := Option.map_eq_some_iff.mp hi
      have hp : H' e1.1 = _ := g2 _ _ (PD2.at_ e1 (List.mem_of_getElem? he1))
      have hlt := (List.getElem?_eq_some_iff.mp he1).1
      have hat1 : atI [V.str e1.2.near, .str e1.2.far, .bl e1.2.laden] 0 = some (.str e1.2.near) := rfl
      refine ⟨rfl, ?_⟩
      walk_at "go"
      refine ⟨small_lt (by rw [List.length_map, List.length_map, List.length_take]; omega), wait ⟨?_, fun x o e => upd_get (ne_of_none e hZ) (g2 x o e)⟩⟩
      rw [upd_same, List.take_add_one, he1, List.map_append, List.map_append] <;> rfl
    · rintro H3 ⟨g1, s3⟩
      rw [List.length_map, List.take_length] at g1
      have B3 := B2.same s3
      have PD3 := PD2.same s3
      have lD3 := PD3.ls
      walk_at "go"
      intro Y hY
      refine lcL (K := K) (a := D) (xs := L.map fun e => V.ref e.1) (fun i H' => H' Y = some (.lst (((L.take i).map fun e => e.2.far).map V.str)) ∧ Same H3 H') ?_ ?_ ?_ ?_
      · exact ⟨upd_same, Same.upd_new hY⟩
      · exact fun i H' _ h => SqL.of (h.2 _ _ lD3)
      · rintro i y H' hi ⟨f1, f2⟩
        rw [List.getElem?_map] at hi
        obtain ⟨e1, he1, rfl⟩ := Option.map_eq_some_iff.mp hi
        have hp : H' e1.1 = _ := f2 _ _ (PD3.at_ e1 (List.mem_of_getElem? he1))
        have hlt := (List.getElem?_eq_some_iff.mp he1).1
        have hat1 : atI [V.str e1.2.near, .str e1.2.far, .bl e1.2.laden] 1 = some (.str e1.2.far) := rfl
        refine ⟨rfl, ?_⟩
        walk_at "go"
        refine ⟨small_lt (by rw [List.length_map, List.length_map, List.length_take]; omega), wait ⟨?_, fun x o e => upd_get (ne_of_none e hY) (f2 x o e)⟩⟩
        rw [upd_same, List.take_add_one, he1, List.map_append, List.map_append] <;> rfl
      · rintro H4 ⟨f1, s4⟩
        rw [List.length_map, List.take_length] at f1
        have B4 := B3.same s4
        have g14 := s4 _ _ g1
        have z4 : ((L.map fun e => e.2.near).map V.str).length + ((L.map fun e => e.2.far).map V.str).length ≤ sizeLine := small_le (by rw [List.length_map, List.length_map, List.length_map, List.length_map]; omega)
        walk_at "go"
        intro p5 hp5
        obtain ⟨H5, e5⟩ : ∃ H5, H5 = upd H4 p5 (.lst ((L.map fun e => e.2.near).map V.str ++ (L.map fun e => e.2.far).map V.str)) := ⟨_, rfl⟩
        have s5 : Same H4 H5 := by rw [e5]; exact Same.upd_new hp5
        have h5 : H5 p5 = some (.lst ((L.map fun e => e.2.near).map V.str ++ (L.map fun e => e.2.far).map V.str)) := by rw [e5, upd_same]
        rw [← e5]
        have B5 := B4.same s5
        have n5 := B4.fresh hp5
        obtain ⟨ws, ews⟩ : ∃ ws : List Str, ws = (L.map fun e => e.2.near) ++ L.map fun e => e.2.far := ⟨_, rfl⟩
        have hW5 : H5 p5 = some (.lst (ws.map V.str)) := by rw [h5, ews, List.map_append]
        have hws : ∀ w ∈ ws, SW w := fun w hw => by
          rw [ews] at hw
          rcases List.mem_append.mp hw with y | y
          · obtain ⟨e1, he1, rfl⟩ := List.mem_map.mp y
            exact (xp.mem he1).1
          · obtain ⟨e1, he1, rfl⟩ := List.mem_map.mp y
            exact (xp.mem he1).2
        have lws : ws.length ≤ 1000 := by rw [ews, List.length_append, List.length_map, List.length_map]; omega
        have S25 : Same H2 H5 := (s3.trans s4).trans s5
        have HA5 := HA2.same S25
        have PD5 := PD2.same S25
        clear h5 g1 g14 f1 z4 ews
        have keepW : ∀ H', Keep2 b g H5 H' → H' p5 = some (.lst (ws.map V.str)) := fun H' k => k _ _ n5.1 n5.2.1 hW5
        have keepA : ∀ H', Keep2 b g H5 H' → HelpersAt K H' A M := fun H' k => HA5.tk (B5.tk k) fun o e => k _ _ nAb nAg e
        have keepD : ∀ H', Keep2 b g H5 H' → PairsAt H' D L := fun H' k => TK.pairs (B5.tk k) PD5 fun o e => k _ _ nDb nDg e
        have xe := xh.mem hem
        refine mid_of (HSp K b g l D A p5 way at_ e.2.gives N N (n + 1 + 1 + 2) H5) ?_ ?_
        · walk_at "go"
          have stay : HSp K b g l D A p5 way at_ e.2.gives N N (n + 1 + 1 + 2) H5 [some (.ref b), some (.ref D), some (.ref A), some (.int way), some (.int at_), some (.str e.2.name), some (.int e.2.side), some (.ref tk0), some (.bl e.2.gives), some (.ref th0), some (.ref p5), none, none, none, none] H5 :=
            ⟨_, _, tk0, th0, e.2.takes, e.2.throws, _, rfl, xe.1, S25.seqT htk0, xe.2.1, xe.2.2.2.1, S25.seqT hth0, xe.2.2.1, xe.2.2.2.2, B5, by omega, Keep2.refl _ _ _⟩
          refine ifD (fun _ => ?_) (fun _ => ?_)
          · have lA5 := HA5.ls
            walk_at "go"
            intro U hU
            have nU := B5.fresh hU
            refine lcL (K := K) (a := A) (xs := M.map fun e => V.ref e.1) (fun i H' => H' U = some (.lst (((M.take i).map fun e => e.2.name).map V.str)) ∧ Same H5 H') ?_ ?_ ?_ ?_
            · exact ⟨upd_same, Same.upd_new hU⟩
            · exact fun i H' _ h => SqL.of (h.2 _ _ lA5)
            · rintro i y H' hi ⟨g1, g2⟩
              rw [List.getElem?_map] at hi
              obtain ⟨e1, he1, rfl⟩ := Option.map_eq_some_iff.mp hi
              obtain ⟨tk1, th1, hp, _, _⟩ := (HA5.at_ e1 (List.mem_of_getElem? he1)).tk (TK.same g2)
              have hlt := (List.getElem?_eq_some_iff.mp he1).1
              have hat1 : atI [V.str e1.2.name, .int e1.2.side, .ref tk1, .bl e1.2.gives, .ref th1] 0 = some (.str e1.2.name) := rfl
              refine ⟨rfl, ?_⟩
              walk_at "go"
              refine ⟨small_lt (by rw [List.length_map, List.length_map, List.length_take]; omega), wait ⟨?_, fun x o e => upd_get (ne_of_none e hU) (g2 x o e)⟩⟩
              rw [upd_same, List.take_add_one, he1, List.map_append, List.map_append] <;> rfl
            · rintro H6 ⟨g1, s6⟩
              rw [List.length_map, List.take_length] at g1
              have hns : ∀ w ∈ M.map (fun e => e.2.name), SW w := fun w hw => by
                obtain ⟨e1, he1, rfl⟩ := List.mem_map.mp hw
                exact (xh.mem he1).1
              refine ⟨b, g, l, U, _, _, rfl, B5.same s6, by omega, nU.1, nU.2.1, g1, hns, by rw [List.length_map]; omega, fun w n7 H7 hw B7 hn7 k7 => ?_⟩
              have t57 : TK H5 H7 := (TK.same s6).trans ((B5.same s6).tk k7)
              exact wait ⟨w, _, tk0, th0, e.2.takes, e.2.throws, _, rfl, hw, t57.sq (S25.seqT htk0), xe.2.1, xe.2.2.2.1, t57.sq (S25.seqT hth0), xe.2.2.1, xe.2.2.2.2, B7, by omega, fun x o a1 a2 ex => k7 x o a1 a2 (s6 _ _ ex)⟩
          · exact wait stay
        · rintro σ H6 ⟨nm, sd, tk, th, ts, zs, n6, rfl, hnm, htk, htl, hts, hth, hzl, hzs, B6, hn6, k6⟩
          -- the side
          refine mid_of (HSp K b g l D A p5 way at_ e.2.gives N N (n + 1 + 1 + 3) H5) ?_ ?_
          · walk_at "go"
            refine ifD (fun _ => ?_) (fun _ => ?_)
            · walk_at "go"
              intro p7 hp7
              obtain ⟨H7, e7⟩ : ∃ H7, H7 = upd H6 p7 (.lst [.int 2, .int (-1), .int (1 - sd), .int (10 ^ Int.toNat 39)]) := ⟨_, rfl⟩
              have s7 : Same H6 H7 := by rw [e7]; exact Same.upd_new hp7
              have h7 : H7 p7 = some (.lst [.int 2, .int (-1), .int (1 - sd), .int (10 ^ Int.toNat 39)]) := by rw [e7, upd_same]
              rw [← e7]
              have B7 := B6.same s7
              have n7 := B6.fresh hp7
              refine ⟨_, rfl, b, g, l, _, 4, rfl, B7, by omega, by decide, by decide, fun r8 H8 r80 r81 B8 k8 => ?_⟩
              have h78 := k8 _ _ n7.1 n7.2.1 h7
              obtain ⟨v, e1, e2⟩ := atI_in (xs := [V.int 2, .int (-1), .int (1 - sd), .int (10 ^ Int.toNat 39)]) (i := r8) r80 r81
              obtain ⟨sd', rfl⟩ : ∃ z : Int, v = .int z := by
                have hm := List.mem_of_getElem? e2
                simp only [List.mem_cons, List.not_mem_nil, or_false] at hm
                rcases hm with rfl | rfl | rfl | rfl <;> exact ⟨_, rfl⟩
              have t68 : TK H6 H8 := (TK.same s7).trans (B7.tk k8)
              walk_at "go"
              exact wait ⟨nm, sd', tk, th, ts, zs, _, rfl, hnm, t68.sq htk, htl, hts, t68.sq hth, hzl, hzs, B8, by omega, fun x o a1 a2 ex => k8 x o a1 a2 (s7 _ _ (k6 x o a1 a2 ex))⟩
            · exact wait ⟨nm, sd, tk, th, ts, zs, n6, rfl, hnm, htk, htl, hts, hth, hzl, hzs, B6, by omega, k6⟩
          · clear hnm htk htl hts hth hzl hzs B6 hn6 k6
            rintro σ H6 ⟨nm, sd, tk, th, ts, zs, n6, rfl, hnm, htk, htl, hts, hth, hzl, hzs, B6, hn6, k6⟩
            -- four takes
            refine mid_of (HSp K b g l D A p5 way at_ e.2.gives (N + 4) N (n + 1 + 1 + 3) H5) ?_ ?_
            · walk_at "go"
              refine ifD (fun _ => ?_) (fun _ => ?_)
              · walk_at "go"
                intro p7 hp7
                obtain ⟨H7, e7⟩ : ∃ H7, H7 = upd H6 p7 (.tup [.str "lent", .str "given", .str "lent", .str "given"]) := ⟨_, rfl⟩
                have s7 : Same H6 H7 := by rw [e7]; exact Same.upd_new hp7
                have h7 : H7 p7 = some (.tup [.str "lent", .str "given", .str "lent", .str "given"]) := by rw [e7, upd_same]
                rw [← e7]
                have B7 := B6.same s7
                have sw4 : ∀ w ∈ (["lent", "given", "lent", "given"] : List Str), SW w := sw_all (by decide +kernel)
                refine catA_of (xs := ts.map V.str) (ys := (["lent", "given", "lent", "given"] : List Str).map V.str) (s7.seqT htk) (SqT.of h7) (small_le (by rw [List.length_map, List.length_map]; show _ + 4 ≤ _; omega)) fun r8 H8 s8 hr8 => ?_
                rw [← List.map_append] at hr8
                refine ⟨_, rfl, slA_of hr8 fun r9 H9 s9 hr9 => ?_⟩
                rw [cutV_strs] at hr9
                have s79 := (s7.trans s8).trans s9
                refine wait ⟨nm, sd, r9, th, _, zs, _, rfl, hnm, hr9, ?_, fun w hw => ?_, s79.seqT hth, hzl, hzs, B6.same s79, by omega, fun x o a1 a2 ex => s79 _ _ (k6 x o a1 a2 ex)⟩
                · refine Nat.le_trans (cutL_len _ _ _) ?_
                  rw [List.length_append]
                  show _ + 4 ≤ _
                  omega
                · rcases List.mem_append.mp (cutL_mem hw) with y | y
                  · exact hts w y
                  · exact sw4 w y
              · exact wait ⟨nm, sd, tk, th, ts, zs, n6, rfl, hnm, htk, by omega, hts, hth, hzl, hzs, B6, by omega, k6⟩
            · clear hnm htk htl hts hth hzl hzs B6 hn6 k6
              rintro σ H6 ⟨nm, sd, tk, th, ts, zs, n6, rfl, hnm, htk, htl, hts, hth, hzl, hzs, B6, hn6, k6⟩
              -- another take
              refine mid_of (HSp K b g l D A p5 way at_ e.2.gives (N + 5) N (n + 1 + 1 + 4) H5) ?_ ?_
              · walk_at "go"
                refine ifD (fun _ => ?_) (fun _ => ?_)
                · walk_at "go"
                  intro p7 hp7
                  obtain ⟨H7, e7⟩ : ∃ H7, H7 = upd H6 p7 (.lst [.str "Lent", .str "", .str "give", .str "gives"]) := ⟨_, rfl⟩
                  have s7 : Same H6 H7 := by rw [e7]; exact Same.upd_new hp7
                  have h7 : H7 p7 = some (.lst [.str "Lent", .str "", .str "give", .str "gives"]) := by rw [e7, upd_same]
                  rw [← e7]
                  have B7 := B6.same s7
                  have n7 := B6.fresh hp7
                  have sw4 : ∀ w ∈ (["Lent", "", "give", "gives"] : List Str), SW w := sw_all (by decide +kernel)
                  refine ⟨_, rfl, b, g, l, _, 4, rfl, B7, by omega, by decide, by decide, fun r8 H8 r80 r81 B8 k8 => ?_⟩
                  have h78 := k8 _ _ n7.1 n7.2.1 h7
                  obtain ⟨w8, hw8, hm8⟩ := strs_at' (ws := (["Lent", "", "give", "gives"] : List Str)) r80 r81
                  have t68 : TK H6 H8 := (TK.same s7).trans (B7.tk k8)
                  walk_at "go"
                  intro p9 hp9
                  obtain ⟨H9, e9⟩ : ∃ H9, H9 = upd H8 p9 (.tup [.str w8]) := ⟨_, rfl⟩
                  have s9 : Same H8 H9 := by rw [e9]; exact Same.upd_new hp9
                  have h9 : H9 p9 = some (.tup [.str w8]) := by rw [e9, upd_same]
                  rw [← e9]
                  have B9 := B8.same s9
                  refine catA_of (xs := ts.map V.str) (ys := [w8].map V.str) (s9.seqT (t68.sq htk)) (SqT.of h9) (small_le (by rw [List.length_map, List.length_map]; show _ + 1 ≤ _; omega)) fun r10 H10 s10 hr10 => ?_
                  rw [← List.map_append] at hr10
                  refine ⟨_, rfl, _, rfl, ?_⟩
                  unfold tNoPart
                  refine slA_of hr10 fun r11 H11 s11 hr11 => ?_
                  rw [cutV_strs] at hr11
                  have s811 := (s9.trans s10).trans s11
                  refine wait ⟨nm, sd, r11, th, _, zs, _, rfl, hnm, hr11, ?_, fun w hw => ?_, s811.seqT (t68.sq hth), hzl, hzs, B8.same s811, by omega, fun x o a1 a2 ex => s811 _ _ (k8 x o a1 a2 (s7 _ _ (k6 x o a1 a2 ex)))⟩
                  · refine Nat.le_trans (cutL_len _ _ _) ?_
                    rw [List.length_append]
                    show _ + 1 ≤ _
                    omega
                  · rcases List.mem_append.mp (cutL_mem hw) with y | y
                    · exact hts w y
                    · rw [List.mem_singleton.mp y]; exact sw4 w8 hm8
                · exact wait ⟨nm, sd, tk, th, ts, zs, n6, rfl, hnm, htk, by omega, hts, hth, hzl, hzs, B6, by omega, k6⟩
              · clear hnm htk htl hts hth hzl hzs B6 hn6 k6
                rintro σ H6 ⟨nm, sd, tk, th, ts, zs, n6, rfl, hnm, htk, htl, hts, hth, hzl, hzs, B6, hn6, k6⟩
                have lz : (zs.map V.str).length = zs.length := List.length_map _
                -- a throw twice
                refine mid_of (HSp K b g l D A p5 way at_ e.2.gives (N + 5) (N + 1) (n + 1 + 1 + 4) H5) ?_ ?_
                · walk_at "go"
                  refine ifD (fun _ => ?_) (fun _ => ?_)
                  · walk_at "go"
                    refine ifD (fun _ => ?_) (fun _ => ?_)
                    · refine ⟨_, rfl, _, rfl, _, rfl, slA_of hth fun r7 H7 s7 hr7 => ?_⟩
                      rw [cutV_t1, ← List.map_take] at hr7
                      refine catA_of (xs := zs.map V.str) (s7.seqT hth) hr7 (small_le (by rw [List.length_map, List.length_map, List.length_take]; omega)) fun r8 H8 s8 hr8 => ?_
                      rw [← List.map_append] at hr8
                      have s78 := s7.trans s8
                      refine wait ⟨nm, sd, tk, r8, ts, _, _, rfl, hnm, s78.seqT htk, htl, hts, hr8, ?_, fun w hw => ?_, B6.same s78, by omega, fun x o a1 a2 ex => s78 _ _ (k6 x o a1 a2 ex)⟩
                      · rw [List.length_append, List.length_take]
                        omega
                      · rcases List.mem_append.mp hw with y | y
                        · exact hzs w y
                        · exact hzs w (List.mem_of_mem_take y)
                    · exact wait ⟨nm, sd, tk, th, ts, zs, n6, rfl, hnm, htk, htl, hts, hth, by omega, hzs, B6, by omega, k6⟩
                  · refine ifF rfl ?_
                    exact wait ⟨nm, sd, tk, th, ts, zs, n6, rfl, hnm, htk, htl, hts, hth, by omega, hzs, B6, by omega, k6⟩
                · clear hnm htk htl hts hth hzl hzs B6 hn6 k6 lz
                  rintro σ H6 ⟨nm, sd, tk, th, ts, zs, n6, rfl, hnm, htk, htl, hts, hth, hzl, hzs, B6, hn6, k6⟩
                  -- an odd throw
                  refine mid_of (HSp K b g l D A p5 way at_ e.2.gives (N + 5) (N + 2) (n + 1 + 1 + 6) H5) ?_ ?_
                  · walk_at "go"
                    refine ifD (fun _ => ?_) (fun _ => ?_)
                    · refine ⟨_, rfl, _, rfl, _, rfl, b, g, l, p5, _, ws, rfl, B6, by omega, n5.1, n5.2.1, keepW _ k6, hws, lws, fun w7 n7 H7 hw7 B7 hn7 k7 => ?_⟩
                      have t67 := B6.tk k7
                      walk_at "go"
                      intro p8 hp8
                      obtain ⟨H8, e8⟩ : ∃ H8, H8 = upd H7 p8 (.tup [.str w7]) := ⟨_, rfl⟩
                      have s8 : Same H7 H8 := by rw [e8]; exact Same.upd_new hp8
                      have h8 : H8 p8 = some (.tup [.str w7]) := by rw [e8, upd_same]
                      rw [← e8]
                      have B8 := B7.same s8
                      refine catA_of (xs := zs.map V.str) (ys := [w7].map V.str) (s8.seqT (t67.sq hth)) (SqT.of h8) (small_le (by rw [List.length_map, List.length_map]; show _ + 1 ≤ _; omega)) fun r9 H9 s9 hr9 => ?_
                      rw [← List.map_append] at hr9
                      refine ⟨_, rfl, _, rfl, ?_⟩
                      unfold tNoPart
                      refine slA_of hr9 fun r10 H10 s10 hr10 => ?_
                      rw [cutV_strs] at hr10
                      have s710 := (s8.trans s9).trans s10
                      refine wait ⟨nm, sd, tk, r10, ts, _, _, rfl, hnm, s710.seqT (t67.sq htk), htl, hts, hr10, ?_, fun w hw => ?_, B7.same s710, by omega, fun x o a1 a2 ex => s710 _ _ (k7 x o a1 a2 (k6 x o a1 a2 ex))⟩
                      · refine Nat.le_trans (cutL_len _ _ _) ?_
                        rw [List.length_append]
                        show _ + 1 ≤ _
                        omega
                      · rcases List.mem_append.mp (cutL_mem hw) with y | y
                        · exact hzs w y
                        · rw [List.mem_singleton.mp y]; exact hw7
                    · exact wait ⟨nm, sd, tk, th, ts, zs, n6, rfl, hnm, htk, htl, hts, hth, by omega, hzs, B6, by omega, k6⟩
                  · clear hnm htk htl hts hth hzl hzs B6 hn6 k6
                    rintro σ H6 ⟨nm, sd, tk, th, ts, zs, n6, rfl, hnm, htk, htl, hts, hth, hzl, hzs, B6, hn6, k6⟩
                    -- throws of one side
                    refine mid_of (HSp K b g l D A p5 way at_ e.2.gives (N + 5) (N + 2) (n + 1 + 1 + 6) H5) ?_ ?_
                    · walk_at "go"
                      refine ifD (fun _ => ?_) (fun _ => ?_)
                      · have PD6 := keepD _ k6
                        have lD6 := PD6.ls
                        walk_at "go"
                        rw [cutV_toI _ (show (0 : Int) ≤ 5 by decide)]
                        intro p7 hp7
                        obtain ⟨H7, e7⟩ : ∃ H7, H7 = upd H6 p7 (.lst ((L.map fun e => V.ref e.1).take (5 : Int).toNat)) := ⟨_, rfl⟩
                        have s7 : Same H6 H7 := by rw [e7]; exact Same.upd_new hp7
                        have h7 : H7 p7 = some (.lst ((L.map fun e => V.ref e.1).take (5 : Int).toNat)) := by rw [e7, upd_same]
                        rw [← e7]
                        have B7 := B6.same s7
                        have PD7 := PD6.same s7
                        walk_at "go"
                        intro U hU
                        have nU := B7.fresh hU
                        have m2 := fmod_pos (i := sd) (j := 2) (by decide)
                        have hs2 : sd.fmod 2 = 0 ∨ sd.fmod 2 = 1 := by omega
                        have h7' : H7 p7 = some (.lst ((L.take 5).map fun e => V.ref e.1)) := by rw [h7, List.map_take] <;> rfl
                        refine lcL (K := K) (a := p7) (xs := (L.take 5).map fun e => V.ref e.1) (fun i H' => H' U = some (.lst ((((L.take 5).take i).map fun e => e.2.word (sd.fmod 2)).map V.str)) ∧ Same H7 H') ?_ ?_ ?_ ?_
                        · exact ⟨upd_same, Same.upd_new hU⟩
                        · exact fun i H' _ h => SqL.of (h.2 _ _ h7')
                        · rintro i y H' hi ⟨g1, g2⟩
                          rw [List.getElem?_map] at hi
                          obtain ⟨e1, he1, rfl⟩ := Option.map_eq_some_iff.mp hi
                          have hp : H' e1.1 = _ := g2 _ _ (PD7.at_ e1 (List.mem_of_mem_take (List.mem_of_getElem? he1)))
                          have hlt := (List.getElem?_eq_some_iff.mp he1).1
                          rw [List.length_take] at hlt
                          have hat1 := pr_at e1.2 hs2
                          refine ⟨rfl, ?_⟩
                          walk_at "go"
                          refine ⟨small_lt (by rw [List.length_map, List.length_map, List.length_take, List.length_take]; omega), wait ⟨?_, fun x o e => upd_get (ne_of_none e hU) (g2 x o e)⟩⟩
                          have tt5 : (L.take 5).take (i + 1) = (L.take 5).take i ++ [e1] := by rw [List.take_add_one (l := L.take 5), he1] <;> rfl
                          rw [upd_same, tt5, List.map_append, List.map_append] <;> rfl
                        · rintro H8 ⟨g1, s8⟩
                          rw [List.length_map, List.take_length] at g1
                          refine ⟨U, _, rfl, .inl ⟨SqL.of g1, fun r9 hr9 => ?_⟩⟩
                          have s9 := Same.upd_new (o := .tup (((L.take 5).map fun e => e.2.word (sd.fmod 2)).map V.str)) hr9
                          have s79 := (s7.trans s8).trans s9
                          refine wait ⟨nm, sd, tk, r9, ts, _, _, rfl, hnm, s79.seqT htk, htl, hts, SqT.of upd_same, ?_, fun w hw => ?_, B6.same s79, by omega, fun x o a1 a2 ex => s79 _ _ (k6 x o a1 a2 ex)⟩
                          · rw [List.length_map, List.length_take]
                            omega
                          · obtain ⟨e1, he1, rfl⟩ := List.mem_map.mp hw
                            have := xp.mem (List.mem_of_mem_take he1)
                            unfold Pr.word
                            split
                            · exact this.1
                            · exact this.2
                      · exact wait ⟨nm, sd, tk, th, ts, zs, n6, rfl, hnm, htk, htl, hts, hth, by omega, hzs, B6, by omega, k6⟩
                    · clear hnm htk htl hts hth hzl hzs B6 hn6 k6
                      rintro σ H6 ⟨nm, sd, tk, th, ts, zs, n6, rfl, hnm, htk, htl, hts, hth, hzl, hzs, B6, hn6, k6⟩
                      have HA6 := keepA _ k6
                      have lA6 := HA6.ls
                      have K6 : Keep2 b g H H6 := fun x o a1 a2 ex => k6 x o a1 a2 (S25 _ _ (k2 x o a1 a2 (k1 x o a1 a2 ex)))
                      have fin : ∀ (p : Addr) (n' : Int) (H' : Hp) (i j : Nat) (X : List (Addr × Hl)), H' p = some (.lst (((M.take i).map fun e => V.ref e.1) ++ (X.map fun e => V.ref e.1) ++ (M.drop j).map fun e => V.ref e.1)) → p ≠ b → p ≠ g → (∀ e ∈ X, HlAt K H' e ∧ SW e.2.name ∧ e.2.takes.length ≤ N + 8 ∧ e.2.throws.length ≤ N + 8 ∧ (∀ w ∈ e.2.takes, SW w) ∧ ∀ w ∈ e.2.throws, SW w) → X.length ≤ 4 → i ≤ j → (∀ e ∈ M, HlAt K H' e) → BoxAt H' b g l n' → n' ≤ n + 20 → Keep2 b g H6 H' → Q (.ref p) H' := fun p n' H' i j X hp n1 n2 hX xl4 hij hLp B' hn' k' => by
                        have up : ∀ e ∈ M, SW e.2.name ∧ e.2.takes.length ≤ N + 8 ∧ e.2.throws.length ≤ N + 8 ∧ (∀ w ∈ e.2.takes, SW w) ∧ ∀ w ∈ e.2.throws, SW w := fun e he => by
                          have := xh.mem he
                          exact ⟨this.1, by have := this.2.1; omega, by have := this.2.2.1; omega, this.2.2.2⟩
                        refine q p (M.take i ++ X ++ M.drop j) n' H' n1 n2 ⟨by rw [List.map_append, List.map_append]; exact hp, fun d hd => ?_⟩ ⟨?_, fun d hd => ?_⟩ B' hn' (K6.trans k')
                        · rcases List.mem_append.mp hd with z | z
                          · rcases List.mem_append.mp z with y | y
                            · exact hLp d (List.mem_of_mem_take y)
                            · exact (hX d y).1
                          · exact hLp d (List.mem_of_mem_drop z)
                        · rw [List.length_map, List.length_append, List.length_append, List.length_take, List.length_drop]
                          omega
                        · obtain ⟨d', hd', rfl⟩ := List.mem_map.mp hd
                          rcases List.mem_append.mp hd' with z | z
                          · rcases List.mem_append.mp z with y | y
                            · exact up d' (List.mem_of_mem_take y)
                            · exact (hX d' y).2
                          · exact up d' (List.mem_of_mem_drop z)
                      walk_at "go"
                      refine ifD (fun _ => ?_) (fun _ => ?_)
                      · walk_at "go"
                        intro p7 hp7
                        obtain ⟨H7, e7⟩ : ∃ H7, H7 = upd H6 p7 (.lst [.str "qp", .str "qr", .str "qs", .str "qt"]) := ⟨_, rfl⟩
                        have s7 : Same H6 H7 := by rw [e7]; exact Same.upd_new hp7
                        have h7 : H7 p7 = some (.lst [.str "qp", .str "qr", .str "qs", .str "qt"]) := by rw [e7, upd_same]
                        rw [← e7]
                        have B7 := B6.same s7
                        have HA7 := HA6.same s7
                        have sq : ∀ w ∈ (["qp", "qr", "qs", "qt"] : List Str), SW w := sw_all (by decide +kernel)
                        walk_at "go"
                        intro U hU
                        have nU := B7.fresh hU
                        refine lcL (K := K) (a := p7) (xs := (["qp", "qr", "qs", "qt"] : List Str).map V.str) (fun i H' => ∃ X : List (Addr × Hl), X.length = i ∧ H' U = some (.lst (X.map fun e => V.ref e.1)) ∧ (∀ d ∈ X, HlAt K H' d ∧ SW d.2.name ∧ d.2.takes = [] ∧ d.2.throws = []) ∧ Same H7 H') ?_ ?_ ?_ ?_
                        · exact ⟨[], rfl, upd_same, (fun _ h => nomatch h), Same.upd_new hU⟩
                        · exact fun i H' _ ⟨X, _, _, _, h⟩ => SqL.of (h _ _ h7)
                        · rintro i y H8 hi ⟨X, hXl, hU8, hX, s8⟩
                          rw [List.getElem?_map] at hi
                          obtain ⟨w1, hw1, rfl⟩ := Option.map_eq_some_iff.mp hi
                          have hi4 : i < 4 := (List.getElem?_eq_some_iff.mp hw1).1
                          refine ⟨rfl, ?_⟩
                          walk_at "go"
                          intro p9 hp9
                          obtain ⟨H9, e9⟩ : ∃ H9, H9 = upd H8 p9 (.tup []) := ⟨_, rfl⟩
                          have s9 : Same H8 H9 := by rw [e9]; exact Same.upd_new hp9
                          have h9 : H9 p9 = some (.tup []) := by rw [e9, upd_same]
                          rw [← e9]
                          walk_at "go"
                          intro p10 hp10
                          obtain ⟨H10, e10⟩ : ∃ H10, H10 = upd H9 p10 (.tup []) := ⟨_, rfl⟩
                          have s10 : Same H9 H10 := by rw [e10]; exact Same.upd_new hp10
                          have h10 : H10 p10 = some (.tup []) := by rw [e10, upd_same]
                          rw [← e10]
                          walk_at "go"
                          intro p11 hp11
                          obtain ⟨H11, e11⟩ : ∃ H11, H11 = upd H10 p11 (.tup [.str w1, .int sd, .ref p9, .bl false, .ref p10]) := ⟨_, rfl⟩
                          have s11 : Same H10 H11 := by rw [e11]; exact Same.upd_new hp11
                          have h11 : H11 p11 = some (.tup [.str w1, .int sd, .ref p9, .bl false, .ref p10]) := by rw [e11, upd_same]
                          rw [← e11]
                          have s811 := (s9.trans s10).trans s11
                          have hU11 := s811 _ _ hU8
                          refine ⟨_, hU11, small_lt (by rw [List.length_map]; omega), wait ⟨X ++ [(p11, ⟨w1, sd, [], false, []⟩)], by rw [List.length_append, hXl] <;> rfl, ?_, fun d hd => ?_, fun x o ex => upd_get (ne_of_none ex hU) (s811 _ _ (s8 _ _ ex))⟩⟩
                          · rw [upd_same, List.map_append] <;> rfl
                          · have tU : TK H11 (upd H11 U (.lst ((X.map fun e => V.ref e.1) ++ [.ref p11]))) := TK.lst hU11
                            rcases List.mem_append.mp hd with z | z
                            · have := hX d z
                              exact ⟨(this.1.tk (TK.same s811)).tk tU, this.2⟩
                            · rw [List.mem_singleton.mp z]
                              exact ⟨HlAt.tk tU ⟨p9, p10, h11, SqT.of (s11 _ _ (s10 _ _ h9)), SqT.of (s11 _ _ h10)⟩, sq w1 (List.mem_of_getElem? hw1), rfl, rfl⟩
                        · rintro H8 ⟨X, hXl, hU8, hX, s8⟩
                          have hX4 : X.length = 4 := hXl
                          have B8 := B7.same s8
                          have HA8 := HA7.same s8
                          have lA8 := HA8.ls
                          walk_at "go"
                          rw [cutV_toI _ a0]
                          intro p9 hp9
                          obtain ⟨H9, e9⟩ : ∃ H9, H9 = upd H8 p9 (.lst ((M.map fun e => V.ref e.1).take at_.toNat)) := ⟨_, rfl⟩
                          have s9 : Same H8 H9 := by rw [e9]; exact Same.upd_new hp9
                          have h9 : H9 p9 = some (.lst ((M.map fun e => V.ref e.1).take at_.toNat)) := by rw [e9, upd_same]
                          rw [← e9]
                          have B9 := B8.same s9
                          have HA9 := HA8.same s9
                          have n9 := B8.fresh hp9
                          have hU9 := s9 _ _ hU8
                          walk_at "go"
                          intro r10 H10 r100 r101 B10 k10
                          have HA10 : HelpersAt K H10 A M := HA9.tk (B9.tk k10) fun o e => k10 _ _ nAb nAg e
                          have hU10 := k10 _ _ nU.1 nU.2.1 hU9
                          have h910 := k10 _ _ n9.1 n9.2.1 h9
                          walk_at "go"
                          rw [cutV_toI _ (show 0 ≤ 1 + r10 by omega)]
                          intro p11 hp11
                          obtain ⟨H11, e11⟩ : ∃ H11, H11 = upd H10 p11 (.lst ((X.map fun e => V.ref e.1).take (1 + r10).toNat)) := ⟨_, rfl⟩
                          have s11 : Same H10 H11 := by rw [e11]; exact Same.upd_new hp11
                          have h11 : H11 p11 = some (.lst ((X.map fun e => V.ref e.1).take (1 + r10).toNat)) := by rw [e11, upd_same]
                          rw [← e11]
                          have B11 := B10.same s11
                          have HA11 := HA10.same s11
                          have h911 := s11 _ _ h910
                          have z11 : ((M.map fun e => V.ref e.1).take at_.toNat).length + ((X.map fun e => V.ref e.1).take (1 + r10).toNat).length ≤ sizeLine := small_le (by rw [List.length_take, List.length_take, List.length_map (as := X)]; omega)
                          walk_at "go"
                          intro p12 hp12
                          obtain ⟨H12, e12⟩ : ∃ H12, H12 = upd H11 p12 (.lst ((M.map fun e => V.ref e.1).take at_.toNat ++ (X.map fun e => V.ref e.1).take (1 + r10).toNat)) := ⟨_, rfl⟩
                          have s12 : Same H11 H12 := by rw [e12]; exact Same.upd_new hp12
                          have h12 : H12 p12 = some (.lst ((M.map fun e => V.ref e.1).take at_.toNat ++ (X.map fun e => V.ref e.1).take (1 + r10).toNat)) := by rw [e12, upd_same]
                          rw [← e12]
                          have B12 := B11.same s12
                          have HA12 := HA11.same s12
                          have lA12 := HA12.ls
                          walk_at "go"
                          rw [cutV_fromI _ a0]
                          intro p13 hp13
                          obtain ⟨H13, e13⟩ : ∃ H13, H13 = upd H12 p13 (.lst ((M.map fun e => V.ref e.1).drop at_.toNat)) := ⟨_, rfl⟩
                          have s13 : Same H12 H13 := by rw [e13]; exact Same.upd_new hp13
                          have h13 : H13 p13 = some (.lst ((M.map fun e => V.ref e.1).drop at_.toNat)) := by rw [e13, upd_same]
                          rw [← e13]
                          have B13 := B12.same s13
                          have HA13 := HA12.same s13
                          have h1213 := s13 _ _ h12
                          have z13 : ((M.map fun e => V.ref e.1).take at_.toNat ++ (X.map fun e => V.ref e.1).take (1 + r10).toNat).length + ((M.map fun e => V.ref e.1).drop at_.toNat).length ≤ sizeLine := small_le (by rw [List.length_append, List.length_take, List.length_take, List.length_drop, List.length_map (as := X)]; omega)
                          walk_at "go"
                          intro p14 hp14
                          obtain ⟨H14, e14⟩ : ∃ H14, H14 = upd H13 p14 (.lst ((M.map fun e => V.ref e.1).take at_.toNat ++ (X.map fun e => V.ref e.1).take (1 + r10).toNat ++ (M.map fun e => V.ref e.1).drop at_.toNat)) := ⟨_, rfl⟩
                          have s14 : Same H13 H14 := by rw [e14]; exact Same.upd_new hp14
                          have h14 : H14 p14 = some (.lst ((M.map fun e => V.ref e.1).take at_.toNat ++ (X.map fun e => V.ref e.1).take (1 + r10).toNat ++ (M.map fun e => V.ref e.1).drop at_.toNat)) := by rw [e14, upd_same]
                          rw [← e14]
                          have B14 := B13.same s14
                          have HA14 := HA13.same s14
                          have n14 := B13.fresh hp14
                          have s1014 := ((s11.trans s12).trans s13).trans s14
                          refine fin p14 _ H14 at_.toNat at_.toNat (X.take (1 + r10).toNat) ?_ n14.1 n14.2.1 (fun d hd => ?_) (by rw [List.length_take]; omega) (Nat.le_refl _) HA14.at_ B14 (by omega) fun x o a1 a2 ex => s1014 _ _ (k10 x o a1 a2 (s9 _ _ (s8 _ _ (s7 _ _ ex))))
                          · rw [h14, List.map_take, List.map_take, List.map_drop]
                          · have := hX d (List.mem_of_mem_take hd)
                            refine ⟨this.1.tk (((TK.same s9).trans (B9.tk k10)).trans (TK.same s1014)), this.2.1, ?_, ?_, ?_, ?_⟩
                            · rw [this.2.2.1]; exact Nat.zero_le _
                            · rw [this.2.2.2]; exact Nat.zero_le _
                            · rw [this.2.2.1]; exact fun _ h => nomatch h
                            · rw [this.2.2.2]; exact fun _ h => nomatch h
                      · walk_at "go"
                        rw [cutV_toI _ a0]
                        intro p7 hp7
                        obtain ⟨H7, e7⟩ : ∃ H7, H7 = upd H6 p7 (.lst ((M.map fun e => V.ref e.1).take at_.toNat)) := ⟨_, rfl⟩
                        have s7 : Same H6 H7 := by rw [e7]; exact Same.upd_new hp7
                        have h7 : H7 p7 = some (.lst ((M.map fun e => V.ref e.1).take at_.toNat)) := by rw [e7, upd_same]
                        rw [← e7]
                        have B7 := B6.same s7
                        have HA7 := HA6.same s7
                        walk_at "go"
                        intro p8 hp8
                        obtain ⟨H8, e8⟩ : ∃ H8, H8 = upd H7 p8 (.tup [.str nm, .int sd, .ref tk, .bl e.2.gives, .ref th]) := ⟨_, rfl⟩
                        have s8 : Same H7 H8 := by rw [e8]; exact Same.upd_new hp8
                        have h8 : H8 p8 = some (.tup [.str nm, .int sd, .ref tk, .bl e.2.gives, .ref th]) := by rw [e8, upd_same]
                        rw [← e8]
                        have B8 := B7.same s8
                        have HA8 := HA7.same s8
                        walk_at "go"
                        intro p9 hp9
                        obtain ⟨H9, e9⟩ : ∃ H9, H9 = upd H8 p9 (.lst [.ref p8]) := ⟨_, rfl⟩
                        have s9 : Same H8 H9 := by rw [e9]; exact Same.upd_new hp9
                        have h9 : H9 p9 = some (.lst [.ref p8]) := by rw [e9, upd_same]
                        rw [← e9]
                        have B9 := B8.same s9
                        have HA9 := HA8.same s9
                        have h79 := s9 _ _ (s8 _ _ h7)
                        have z9 : ((M.map fun e => V.ref e.1).take at_.toNat).length + [V.ref p8].length ≤ sizeLine := small_le (by rw [List.length_take]; show _ + 1 ≤ _; omega)
                        walk_at "go"
                        intro p10 hp10
                        obtain ⟨H10, e10⟩ : ∃ H10, H10 = upd H9 p10 (.lst ((M.map fun e => V.ref e.1).take at_.toNat ++ [.ref p8])) := ⟨_, rfl⟩
                        have s10 : Same H9 H10 := by rw [e10]; exact Same.upd_new hp10
                        have h10 : H10 p10 = some (.lst ((M.map fun e => V.ref e.1).take at_.toNat ++ [.ref p8])) := by rw [e10, upd_same]
                        rw [← e10]
                        have B10 := B9.same s10
                        have HA10 := HA9.same s10
                        have lA10 := HA10.ls
                        walk_at "go"
                        rw [cutV_fromI _ (show 0 ≤ at_ + 1 by omega)]
                        intro p11 hp11
                        obtain ⟨H11, e11⟩ : ∃ H11, H11 = upd H10 p11 (.lst ((M.map fun e => V.ref e.1).drop (at_ + 1).toNat)) := ⟨_, rfl⟩
                        have s11 : Same H10 H11 := by rw [e11]; exact Same.upd_new hp11
                        have h11 : H11 p11 = some (.lst ((M.map fun e => V.ref e.1).drop (at_ + 1).toNat)) := by rw [e11, upd_same]
                        rw [← e11]
                        have B11 := B10.same s11
                        have HA11 := HA10.same s11
                        have h1011 := s11 _ _ h10
                        have z11 : ((M.map fun e => V.ref e.1).take at_.toNat ++ [V.ref p8]).length + ((M.map fun e => V.ref e.1).drop (at_ + 1).toNat).length ≤ sizeLine := small_le (by rw [List.length_append, List.length_take, List.length_drop]; show _ + 1 + _ ≤ _; omega)
                        walk_at "go"
                        intro p12 hp12
                        obtain ⟨H12, e12⟩ : ∃ H12, H12 = upd H11 p12 (.lst ((M.map fun e => V.ref e.1).take at_.toNat ++ [.ref p8] ++ (M.map fun e => V.ref e.1).drop (at_ + 1).toNat)) := ⟨_, rfl⟩
                        have s12 : Same H11 H12 := by rw [e12]; exact Same.upd_new hp12
                        have h12 : H12 p12 = some (.lst ((M.map fun e => V.ref e.1).take at_.toNat ++ [.ref p8] ++ (M.map fun e => V.ref e.1).drop (at_ + 1).toNat)) := by rw [e12, upd_same]
                        rw [← e12]
                        have B12 := B11.same s12
                        have HA12 := HA11.same s12
                        have n12 := B11.fresh hp12
                        have s612 := (((s7.trans s8).trans s9).trans (s10.trans s11)).trans s12
                        refine fin p12 _ H12 at_.toNat (at_ + 1).toNat [(p8, ⟨nm, sd, ts, e.2.gives, zs⟩)] ?_ n12.1 n12.2.1 (fun d hd => ?_) (show 1 ≤ 4 by decide) (by omega) HA12.at_ B12 (by omega) fun x o _ _ ex => s612 _ _ ex
                        · rw [h12, List.map_take, List.map_drop] <;> rfl
                        · rw [List.mem_singleton.mp hd]
                          exact ⟨⟨tk, th, s12 _ _ (s11 _ _ (s10 _ _ (s9 _ _ h8))), s612.seqT htk, s612.seqT hth⟩, hnm, (by show ts.length ≤ _; omega), (by show zs.length ≤ _; omega), hts, hzs⟩
end
end Pf
set_option Elab.async false
set_option linter.all false
set_option maxRecDepth 100000
set_option maxHeartbeats 4000000
namespace Pf
open PySem L2
local macro_rules | `(tactic| walk_at "nz") => `(tactic| (show (_ : Int) ≠ 0; omega))
local macro_rules | `(tactic| walk_at "ne") => `(tactic| first | assumption | (apply Ne.symm; assumption))
local macro_rules | `(tactic| walk_at "hp") => `(tactic| first | assumption | exact upd_same | (refine upd_get ?_ ?_; walk_at "ne"; walk_at "hp"))
local macro_rules | `(tactic| walk_at "sd") => `(tactic| first
  | (with_reducible show (_ : Int) < _; omega)
  | (with_reducible show (_ : Int) ≤ _; omega)
  | (with_reducible show (_ : Nat) < _; omega)
  | (with_reducible show (_ : Nat) ≤ _; omega)
  | rfl
  | assumption
  | exact kV_int _
  | exact kV_str _
  | (show (_ : Int) ≠ 0; omega)
  | exact SqL.of (by walk_at "hp")
  | exact ⟨_, SqL.of (by walk_at "hp")⟩
  | exact ⟨_, SqT.of (by walk_at "hp")⟩
  | exact ⟨_, (by assumption)⟩
  | exact SqT.of (by walk_at "hp")
  | exact Rd.of (by walk_at "hp")
  | exact Or.inl (SqL.of (by walk_at "hp"))
  | exact Or.inr (SqT.of (by walk_at "hp"))
  | exact Or.inr (by assumption)
  | (walk_at "hp")
  | (exact Or.inl ⟨rfl, _, SqL.of (by walk_at "hp")⟩)
  | (exact Or.inl ⟨by omega, by omega⟩)
  | (exact Or.inr ⟨by omega, by omega⟩)
  | (refine ⟨?_, ?_, ?_⟩ <;> omega)
  | omega
  | (exact small_le (by first | omega | (simp only [List.length_cons, List.length_nil]; omega)))
  | (exact small_lt (by first | omega | (simp only [List.length_cons, List.length_nil]; omega)))
  | exact Nat.le_of_ble_eq_true rfl
  | exact ⟨_, rfl⟩
  | decide)
local macro_rules | `(tactic| walk_at "st") => `(tactic| first
  | with_reducible refine sq_seq ?_
  | apply Exists.intro
  | (refine And.intro ?_ ?_; (walk_at "sd")))
local macro_rules | `(tactic| walk_at "go") => `(tactic| repeat (walk_at "st"))
section
variable {P : Program} {w : World} {K : PySem.W.Frag} {mg : Str → Option Value} {base : Heap} {a : Ad}
local macro_rules | `(tactic| walk_at "sd") => `(tactic| exact fun _ h => h)
def spMade (K : PySem.W.Frag) (C : Addr) : Sp := fun vs H Q _ => ∃ (pl hl : Addr) (L : List (Addr × Pr)) (M : List (Addr × Hl)), vs = [.ref pl, .ref hl] ∧ PairsAt H pl L ∧ HelpersAt K H hl M ∧ SzP (L.map (·.2)) ∧ SzH (M.map (·.2)) ∧
  ∀ (r : Addr) (z : Int) (v : V) (H' : Hp), H' r = some (.tup [.int z, v]) → FB (L.map (·.2)) (M.map (·.2)) z → Same H H' → (z ≠ -1 → v = .non) → (z = -1 → ∃ x kp kd, v = .ref x ∧ PactsH K C H' x kp kd L M) → Q (.ref r) H'
theorem ok__law_made (T : Txt K mg a) : FnOk P w K mg base CX0 5 a.f__law_made a.d__law_made ["_law_pairs_here", "_law_helpers_here"] (spMade K a.c_Pacts) := by
  have G_Pacts___init__ := ok_Pacts___init__ (P := P) (w := w) (base := base) T
  have cl_Pacts := T.cl_Pacts
  have na_Pacts_kept_pairs := T.na_Pacts_kept_pairs
  have na_Pacts_kept_pacts := T.na_Pacts_kept_pacts
  refine T.F__law_made.ok sc__law_made (fun vs H Q E h => ?_) (fun cdv A outer s H vs Q E hr h => ?_)
  · obtain ⟨pl, hl, L, M, rfl, _⟩ := h
    rfl
  · obtain ⟨pl, hl, L, M, rfl, PP, HH, zP, zH, q⟩ := h
    have ec := T.ec_NoPact
    have k1 := kit_exm T.ex_NoPact_NoPact T.ex_NoPact_NoPact
    have k2 := kit_exm T.ex_NoPact_NoPact T.ex_NoPact_NoText
    have k3 := kit_bl T.ex_NoPact_ValueError (by decide +kernel)
    refine ⟨_, (pss_cons (ps_set (i := 2) sc__law_made.nd rfl (Or.inl rfl) (pe_un un_neg pe_int))
      (pss_cons (ps_set (i := 3) sc__law_made.nd rfl (Or.inl rfl) pe_non)
      (pss_mid (ps_try_cls (tb := fun W => (tAsg (tMakeW _ _ (WE W) _) (gName 3))) (l := [⟨.ref a.c_PactError, some 4, fun ea cls dd => (tSeq (tAsg _ (gName 2)) (tIfS (tAnd (tB (tCB (rIsW K ea cls dd) _)) (tAnd (tB (tCB (rIsW K ea cls dd) _)) (tNot (tB (tCB (rIsW K ea cls dd) _))))) (tAsg (tXf ea cls dd a.c_NoPact "at" (tVar 4)) (gName 2)) tNext))⟩]) (Wout := fun _ _ _ _ => False) rfl rfl takes0 (fun W pn xe tk po => (pss_one (ps_set (i := 3) sc__law_made.nd rfl (Or.inl rfl) (pe_makeW T.mk_Pacts G_Pacts___init__ (hr.mono (by decide)) rfl T.m_Pacts T.b_Pacts___init__ (fun σ => passAt tk σ) (by exact (pa_cons (pv 0) (pa_cons (pv 1) pa_nil))))))) (ClsOk.named (i := 4) sc__law_made.nd rfl rfl ⟨rfl, by decide, Or.inl T.m_PactError⟩ (fun ea oe cls dd pn hz hf => (pss_cons (ps_set (i := 2) sc__law_made.nd rfl (Or.inl rfl) (pe_un un_neg pe_int))
      (pss_one (ps_if (PW.pt (pw_and (pt_val (pe_callB (call_isW hz hf) (by rfl) T.z_isinstance (by decide +kernel) (by exact (pa_cons (pv 4) (pa_cons (pe_glob (v := .ref a.c_NoPact) rfl T.m_NoPact rfl) pa_nil))))) (pw_and (pt_val (pe_callB (call_isW hz hf) (by rfl) T.z_isinstance (by decide +kernel) (by exact (pa_cons (pv 4) (pa_cons (pe_bltn (v := .ty "ValueError") (by rfl) T.z_ValueError (by decide +kernel) rfl) pa_nil))))) (pw_and1 (pt_not (pt_val (pe_callB (call_isW hz hf) (by rfl) T.z_isinstance (by decide +kernel) (by exact (pa_cons (pv 4) (pa_cons (pe_glob (v := .ref a.c_NoText) rfl T.m_NoText rfl) pa_nil)))))))))) (pss_one (ps_set (i := 2) sc__law_made.nd rfl (Or.inl rfl) (pe_xf T.xf_NoPact T.na_NoPact_at hz hf (pv 4)))) pss_nil)))) ClsOk.nil))
      (pss_one (ps_ret (pe_tup (pa_cons (pv 2) (pa_cons (pv 3) pa_nil)))))))), ?_⟩
    walk_at "go"
    refine mid_of (fun σ H' => ∃ (z : Int) (v : V), σ = [some (.ref pl), some (.ref hl), some (.int z), some v, none] ∧ FB (L.map (·.2)) (M.map (·.2)) z ∧ Same H H' ∧ (z ≠ -1 → v = .non) ∧ (z = -1 → ∃ x kp kd, v = .ref x ∧ PactsH K a.c_Pacts H' x kp kd L M)) ?_ ?_
    · refine ⟨_, rfl, _, rfl, fun x dx nx ndx nex => ?_⟩
      have s1 : Same H (upd (upd H dx (.own x)) x (.ins a.c_Pacts dx [])) := fun y o e => upd_get (ne_of_none e nx) (upd_get (ne_of_none e ndx) e)
      refine ⟨x, dx, pl, hl, L, M, rfl, upd_same, PP.same s1, HH.same s1, zP, zH, fun okP okH kp kd H2 hkp hkd PH k => ⟨rfl, ?_⟩, fun z fb hz d H2 hd0 hd2 k => ?_⟩
      · exact wait ⟨-1, _, rfl, .inl ⟨rfl, okP, okH⟩, fun y o e => k y o (ne_of_none e nx) (s1 _ _ e), fun c => absurd rfl c, fun _ => ⟨x, kp, kd, rfl, PH⟩⟩
      · refine ⟨true, T.ex_NoPact_PactError, fun _ ea hea => ?_, fun z => nomatch z⟩
        walk_at "go"
        exact wait ⟨z, .non, rfl, fb, fun y o e => k y o (ne_of_none e nx) (s1 _ _ e), fun _ => rfl, fun c => absurd c hz⟩
    · rintro σ H1 ⟨z, v, rfl, fb, s1, c1, c2⟩
      walk_at "go"
      intro p2 hp2
      obtain ⟨H2, e2⟩ : ∃ H2, H2 = upd H1 p2 (.tup [.int z, v]) := ⟨_, rfl⟩
      have s2 : Same H1 H2 := by rw [e2]; exact Same.upd_new hp2
      have h2 : H2 p2 = some (.tup [.int z, v]) := by rw [e2, upd_same]
      rw [← e2]
      refine q p2 z v H2 h2 fb (s1.trans s2) c1 fun e => ?_
      obtain ⟨x, kp, kd, ev, PH⟩ := c2 e
      exact ⟨x, kp, kd, ev, PH.same s2⟩
end
end Pf
set_option Elab.async false
set_option linter.all false
set_option maxRecDepth 100000
set_option maxHeartbeats 4000000
namespace Pf
open PySem L2
local macro_rules | `(tactic| walk_at "nz") => `(tactic| (show (_ : Int) ≠ 0; omega))
local macro_rules | `(tactic| walk_at "ne") => `(tactic| first | assumption | (apply Ne.symm; assumption))
local macro_rules | `(tactic| walk_at "hp") => `(tactic| first | assumption | exact upd_same | (refine upd_get ?_ ?_; walk_at "ne"; walk_at "hp"))
local macro_rules | `(tactic| walk_at "sd") => `(tactic| first
  | (with_reducible show (_ : Int) < _; omega)
  | (with_reducible show (_ : Int) ≤ _; omega)
  | (with_reducible show (_ : Nat) < _; omega)
  | (with_reducible show (_ : Nat) ≤ _; omega)
  | rfl
  | assumption
  | exact kV_int _
  | exact kV_str _
  | (show (_ : Int) ≠ 0; omega)
  | exact SqL.of (by walk_at "hp")
  | exact ⟨_, SqL.of (by walk_at "hp")⟩
  | exact ⟨_, SqT.of (by walk_at "hp")⟩
  | exact ⟨_, (by assumption)⟩
  | exact SqT.of (by walk_at "hp")
  | exact Rd.of (by walk_at "hp")
  | exact Or.inl (SqL.of (by walk_at "hp"))
  | exact Or.inr (SqT.of (by walk_at "hp"))
  | exact Or.inr (by assumption)
  | (walk_at "hp")
  | (exact Or.inl ⟨rfl, _, SqL.of (by walk_at "hp")⟩)
  | (exact Or.inl ⟨by omega, by omega⟩)
  | (exact Or.inr ⟨by omega, by omega⟩)
  | (refine ⟨?_, ?_, ?_⟩ <;> omega)
  | omega
  | (exact small_le (by first | omega | (simp only [List.length_cons, List.length_nil]; omega)))
  | (exact small_lt (by first | omega | (simp only [List.length_cons, List.length_nil]; omega)))
  | exact Nat.le_of_ble_eq_true rfl
  | exact ⟨_, rfl⟩
  | decide)
local macro_rules | `(tactic| walk_at "st") => `(tactic| first
  | with_reducible refine sq_seq ?_
  | apply Exists.intro
  | (refine And.intro ?_ ?_; (walk_at "sd")))
local macro_rules | `(tactic| walk_at "go") => `(tactic| repeat (walk_at "st"))
section
variable {P : Program} {w : World} {K : PySem.W.Frag} {mg : Str → Option Value} {base : Heap} {a : Ad}
def prD (p : Pr) : PyData := .tuple [.str p.near, .str p.far, .bool p.laden]
def strsD (ws : List Str) : PyData := .tuple (ws.map PyData.str)
def hlD (h : Hl) : PyData := .tuple [.str h.name, .int h.side, strsD h.takes, .bool h.gives, strsD h.throws]
theorem lay_strs : ∀ {ws : List Str}, (∀ w ∈ ws, SW w) → PyData.canLayAll0 (ws.map PyData.str) = true
  | [], _ => rfl
  | w :: r, h => by
    show (PyData.strOk w && PyData.canLayAll0 (r.map PyData.str)) = true
    rw [(h w List.mem_cons_self).ok, lay_strs fun q hq => h q (List.mem_cons_of_mem _ hq)] <;> rfl
theorem depth_strs : ∀ ws : List Str, PyData.depthAll (ws.map PyData.str) = 0
  | [] => rfl
  | w :: r => by
    show max 0 (PyData.depthAll (r.map PyData.str)) = 0
    rw [depth_strs r] <;> rfl
theorem lay_prs : ∀ {ps : List Pr}, (∀ p ∈ ps, SW p.near ∧ SW p.far) → PyData.canLayAll0 (ps.map prD) = true
  | [], _ => rfl
  | p :: r, h => by
    show ((PyData.strOk p.near && (PyData.strOk p.far && (true && true))) && PyData.canLayAll0 (r.map prD)) = true
    rw [(h p List.mem_cons_self).1.ok, (h p List.mem_cons_self).2.ok, lay_prs fun q hq => h q (List.mem_cons_of_mem _ hq)] <;> rfl
theorem depth_prs : ∀ ps : List Pr, PyData.depthAll (ps.map prD) ≤ 1
  | [] => Nat.zero_le _
  | p :: r => by
    show max (PyData.depth (prD p)) (PyData.depthAll (r.map prD)) ≤ 1
    have := depth_prs r
    have e : PyData.depth (prD p) = 1 := rfl
    omega
abbrev HW (h : Hl) : Prop := SW h.name ∧ (∀ w ∈ h.takes, SW w) ∧ ∀ w ∈ h.throws, SW w
theorem lay_hl {h : Hl} (hw : HW h) : PyData.canLay0 (hlD h) = true := by
  show (PyData.strOk h.name && (true && (PyData.canLayAll0 (h.takes.map PyData.str) && (true && (PyData.canLayAll0 (h.throws.map PyData.str) && true))))) = true
  rw [hw.1.ok, lay_strs hw.2.1, lay_strs hw.2.2] <;> rfl
theorem depth_hl (h : Hl) : PyData.depth (hlD h) ≤ 2 := by
  show max 0 (max 0 (max (PyData.depthAll (h.takes.map PyData.str) + 1) (max 0 (max (PyData.depthAll (h.throws.map PyData.str) + 1) 0)))) + 1 ≤ 2
  rw [depth_strs, depth_strs] <;> decide
theorem lay_hls : ∀ {hs : List Hl}, (∀ h ∈ hs, HW h) → PyData.canLayAll0 (hs.map hlD) = true
  | [], _ => rfl
  | p :: r, h => by
    show (PyData.canLay0 (hlD p) && PyData.canLayAll0 (r.map hlD)) = true
    rw [lay_hl (h p List.mem_cons_self), lay_hls fun q hq => h q (List.mem_cons_of_mem _ hq)] <;> rfl
theorem depth_hls : ∀ hs : List Hl, PyData.depthAll (hs.map hlD) ≤ 2
  | [] => Nat.zero_le _
  | p :: r => by
    show max (PyData.depth (hlD p)) (PyData.depthAll (r.map hlD)) ≤ 2
    have := depth_hls r
    have := depth_hl p
    omega
theorem shaped_prs {ps : List Pr} (h : ∀ p ∈ ps, SW p.near ∧ SW p.far) : SeqAt.shaped (.list (ps.map prD)) = true := by
  unfold SeqAt.shaped
  rw [Bool.and_eq_true]
  refine ⟨lay_prs h, decide_eq_true ?_⟩
  show PyData.depthAll (ps.map prD) + 1 ≤ 64
  have := depth_prs ps
  omega
theorem shaped_hl {h : Hl} (hw : HW h) : SeqAt.shaped (hlD h) = true := by
  unfold SeqAt.shaped
  rw [Bool.and_eq_true]
  exact ⟨lay_hl hw, decide_eq_true (Nat.le_trans (depth_hl h) (by decide))⟩
theorem shaped_both {ps : List Pr} {hs : List Hl} (h1 : ∀ p ∈ ps, SW p.near ∧ SW p.far) (h2 : ∀ h ∈ hs, HW h) : SeqAt.shaped (.list [.list (ps.map prD), .list (hs.map hlD)]) = true := by
  unfold SeqAt.shaped
  rw [Bool.and_eq_true]
  refine ⟨?_, decide_eq_true ?_⟩
  · show (PyData.canLayAll0 (ps.map prD) && (PyData.canLayAll0 (hs.map hlD) && true)) = true
    rw [lay_prs h1, lay_hls h2] <;> rfl
  · show max (PyData.depthAll (ps.map prD) + 1) (max (PyData.depthAll (hs.map hlD) + 1) 0) + 1 ≤ 64
    have := depth_prs ps
    have := depth_hls hs
    omega
theorem dp_strs {K : PySem.W.Frag} {H : Hp} : ∀ ws : List Str, DpAll K H (ws.map V.str) (ws.map PyData.str)
  | [] => .nil
  | w :: r => .cons (.str w) (dp_strs r)
theorem dp_prs {K : PySem.W.Frag} {H : Hp} : ∀ {L : List (Addr × Pr)}, (∀ e ∈ L, PrAt H e) → DpAll K H (L.map fun e => V.ref e.1) ((L.map (·.2)).map prD)
  | [], _ => .nil
  | e :: r, h => .cons (.tup (SqT.of (h e List.mem_cons_self)) (.cons (.str _) (.cons (.str _) (.cons (.bl _) .nil)))) (dp_prs fun d hd => h d (List.mem_cons_of_mem _ hd))
theorem HlAt.dp {K : PySem.W.Frag} {H : Hp} {e : Addr × Hl} (h : HlAt K H e) : Dp K H (.ref e.1) (hlD e.2) := by
  obtain ⟨tk, th, h1, h2, h3⟩ := h
  exact .tup (SqT.of h1) (.cons (.str _) (.cons (.int _) (.cons (.tup h2 (dp_strs _)) (.cons (.bl _) (.cons (.tup h3 (dp_strs _)) .nil)))))
theorem dp_hls {K : PySem.W.Frag} {H : Hp} : ∀ {M : List (Addr × Hl)}, (∀ e ∈ M, HlAt K H e) → DpAll K H (M.map fun e => V.ref e.1) ((M.map (·.2)).map hlD)
  | [], _ => .nil
  | e :: r, h => .cons (h e List.mem_cons_self).dp (dp_hls fun d hd => h d (List.mem_cons_of_mem _ hd))
theorem PairsAt.dp {K : PySem.W.Frag} {H : Hp} {D : Addr} {L : List (Addr × Pr)} (h : PairsAt H D L) : Dp K H (.ref D) (.list ((L.map (·.2)).map prD)) := .lst (SqL.of h.ls) (dp_prs h.at_)
theorem HelpersAt.dp {K : PySem.W.Frag} {H : Hp} {D : Addr} {M : List (Addr × Hl)} (h : HelpersAt K H D M) : Dp K H (.ref D) (.list ((M.map (·.2)).map hlD)) := .lst (SqL.of h.ls) (dp_hls h.at_)
theorem okHs_nodup {ps : List Pr} {hs : List Hl} (h : okHs ps hs) : (hs.map (·.name)).Nodup := nodup_by fun j w hw => by
  rw [List.getElem?_map] at hw
  obtain ⟨k, hk, rfl⟩ := Option.map_eq_some_iff.mp hw
  rw [← List.map_take]
  exact fitsH_new (h j k hk)
theorem Good.xp {ps : List Pr} (G : Good ps) : XP 8 ps := ⟨Nat.le_trans G.len (by decide), fun p hp => ⟨(G.kn p hp).sw, (G.kf p hp).sw⟩⟩
theorem hows_sw : ∀ w ∈ hows, SW w := sw_all (by decide +kernel)
theorem GoodH.xh {ps : List Pr} {hs : List Hl} (G : Good ps) (GH : GoodH ps hs) : XH 8 hs := by
  refine ⟨GH.len, fun h hh => ⟨(GH.nm h hh).sw, Nat.le_trans (GH.ok h hh).tl (by decide), Nat.le_trans (GH.ok h hh).hl (by decide), fun w hw => hows_sw w ((GH.ok h hh).tk w hw), fun w hw => ?_⟩⟩
  obtain ⟨p, hp, rfl⟩ := List.mem_map.mp ((GH.ok h hh).hw w hw)
  unfold Pr.word
  split
  · exact (G.kn p hp).sw
  · exact (G.kf p hp).sw
theorem XP.up {n m : Nat} {ps : List Pr} (h : XP n ps) (e : n ≤ m) : XP m ps := ⟨Nat.le_trans h.len e, h.sw⟩
theorem XH.up {n m : Nat} {hs : List Hl} (h : XH n hs) (e : n ≤ m) : XH m hs := ⟨Nat.le_trans h.len e, fun x hx => ⟨(h.sw x hx).1, Nat.le_trans (h.sw x hx).2.1 e, Nat.le_trans (h.sw x hx).2.2.1 e, (h.sw x hx).2.2.2⟩⟩
def spLaw (K : PySem.W.Frag) : Sp := fun vs H Q _ => ∃ (c : Addr) (ns : List Int), vs = [.ref c] ∧ SqL K H c (ns.map V.int) ∧ ns.length ≤ 63 ∧ ∀ H', Q (.bl true) H'
theorem ok_law (T : Txt K mg a) : FnOk P w K mg base CX0 6 a.f_law a.d_law ["_law_script"] (spLaw K) := by
  have G__law_box := ok__law_box (P := P) (w := w) (base := base) T
  have G__law_take := ok__law_take (P := P) (w := w) (base := base) T
  have G__law_pairs := ok__law_pairs (P := P) (w := w) (base := base) T
  have G__law_helpers := ok__law_helpers (P := P) (w := w) (base := base) T
  have G__law_made := ok__law_made (P := P) (w := w) (base := base) T
  have G__law_pair_spoilt := ok__law_pair_spoilt (P := P) (w := w) (base := base) T
  have G__law_first_bad := ok__law_first_bad (P := P) (w := w) (base := base) T
  have G_Pacts_pact := ok_Pacts_pact (P := P) (w := w) (base := base) T
  have G_Pacts_pairs := ok_Pacts_pairs (P := P) (w := w) (base := base) T
  have G_Pacts___len__ := ok_Pacts___len__ (P := P) (w := w) (base := base) T
  have G__law_helper_spoilt := ok__law_helper_spoilt (P := P) (w := w) (base := base) T
  have cl_Pacts := T.cl_Pacts
  have na_Pacts_kept_pairs := T.na_Pacts_kept_pairs
  have na_Pacts_kept_pacts := T.na_Pacts_kept_pacts
  refine T.F_law.ok sc_law (fun vs H Q E h => ?_) (fun cdv A outer s H vs Q E hr h => ?_)
  · obtain ⟨c, ns, rfl, _⟩ := h
    rfl
  · obtain ⟨c, ns, rfl, hS, hl, q⟩ := h
    refine ⟨_, (pss_cons (ps_set (i := 1) sc_law.nd rfl (Or.inl rfl) (pe_call G__law_box (hr.mono (by decide)) rfl T.m__law_box T.F__law_box.kp T.b__law_box .nil pass0 (pa_cons (pv 0) pa_nil)))
      (pss_cons (ps_set (i := 2) sc_law.nd rfl (Or.inl rfl) (pe_call G__law_take (hr.mono (by decide)) rfl T.m__law_take T.F__law_take.kp T.b__law_take .nil pass0 (pa_cons (pv 1) (pa_cons pe_int pa_nil))))
      (pss_cons (ps_set (i := 3) sc_law.nd rfl (Or.inl rfl) (pe_call G__law_pairs (hr.mono (by decide)) rfl T.m__law_pairs T.F__law_pairs.kp T.b__law_pairs .nil pass0 (pa_cons (pv 1) (pa_cons pe_int pa_nil))))
      (pss_cons (ps_set (i := 4) sc_law.nd rfl (Or.inl rfl) (pe_call G__law_helpers (hr.mono (by decide)) rfl T.m__law_helpers T.F__law_helpers.kp T.b__law_helpers .nil pass0 (pa_cons (pv 1) (pa_cons (pv 3) pa_nil))))
      (pss_cons (ps_stop (ps_for PassesOwn.never rfl (pi_wait (pi_range1 rfl T.z_range (pa_cons (pv 2) pa_nil))) (pg_name (i := 5) sc_law.nd rfl (Or.inl rfl)) (pss_one (ps_if (PW.pt (pw_and (pt_cmpR op_eq (pe_call G__law_take (hr.mono (by decide)) rfl T.m__law_take T.F__law_take.kp T.b__law_take .nil pass0 (pa_cons (pv 1) (pa_cons pe_int pa_nil))) pe_int (nomark _)) (pw_and1 (pt_cmpR op_gt (pe_callB call_lenK (by rfl) T.z_len PySem.boot_len (pa_cons (pv 3) pa_nil)) pe_int (nomark _))))) (pss_one (ps_set (i := 3) sc_law.nd rfl (Or.inl rfl) (pe_call G__law_pair_spoilt (hr.mono (by decide)) rfl T.m__law_pair_spoilt T.F__law_pair_spoilt.kp T.b__law_pair_spoilt .nil pass0 (pa_cons (pv 1) (pa_cons (pv 3) pa_nil))))) (pss_one (ps_if (pt_cmpR op_gt (pe_callB call_lenK (by rfl) T.z_len PySem.boot_len (pa_cons (pv 4) pa_nil)) pe_int (nomark _)) (pss_one (ps_set (i := 4) sc_law.nd rfl (Or.inl rfl) (pe_call G__law_helper_spoilt (hr.mono (by decide)) rfl T.m__law_helper_spoilt T.F__law_helper_spoilt.kp T.b__law_helper_spoilt .nil pass0 (pa_cons (pv 1) (pa_cons (pv 3) (pa_cons (pv 4) pa_nil)))))) pss_nil))))))
      (pss_cons (ps_set (i := 6) sc_law.nd rfl (Or.inl rfl) (pe_lst (pa_cons (pe_callTy call_list_of (by rfl) T.z_list (by decide +kernel) (pa_cons (pv 3) pa_nil)) (pa_cons (pe_callTy call_list_of (by rfl) T.z_list (by decide +kernel) (pa_cons (pv 4) pa_nil)) pa_nil))))
      (pss_cons (ps_asg (pe_call G__law_made (hr.mono (by decide)) rfl T.m__law_made T.F__law_made.kp T.b__law_made .nil pass0 (pa_cons (pe_ix ix_list (pv 6) pe_int (fun _ _ => rfl)) (pa_cons (pe_ix ix_list (pv 6) pe_int (fun _ _ => rfl)) pa_nil))) (pg_tup rfl (pgs_cons (pg_name (i := 7) sc_law.nd rfl (Or.inl rfl)) (pgs_cons (pg_name (i := 8) sc_law.nd rfl (Or.inl rfl)) pgs_nil))))
      (pss_cons (ps_if (PW.pt (pw_or (pt_cmpR op_ne (pv 7) (pe_call G__law_first_bad (hr.mono (by decide)) rfl T.m__law_first_bad T.F__law_first_bad.kp T.b__law_first_bad .nil pass0 (pa_cons (pv 3) (pa_cons (pv 4) pa_nil))) (nomark _)) (pw_or (pt_val (pe_callB call_isi (by rfl) T.z_isinstance (by decide +kernel) (pa_cons (pv 7) (pa_cons (pe_bltn (v := .ty "bool") (by rfl) T.z_bool (by decide +kernel) rfl) pa_nil)))) (pw_or1 (pt_cmpR (op_neD (hr.units)) (pv 6) (pe_lst (pa_cons (pv 3) (pa_cons (pv 4) pa_nil))) (nomark _)))))) (pss_one (ps_ret pe_bl)) pss_nil)
      (pss_cons (ps_if (pt_cmpR op_ne (pv 7) (pe_un un_neg pe_int) (nomark _)) (pss_one (ps_ret (pe_cmpR op_isN (pv 8) pe_non (nomark _)))) pss_nil)
      (pss_cons (ps_stop (ps_for PassesOwn.never rfl (pi_wait (pi_list (pv 4))) (pg_name (i := 9) sc_law.nd rfl (Or.inl rfl)) (pss_one (ps_if (pt_cmpR (op_neD (hr.units)) (pe_meth (pv 8) T.cl_Pacts T.mt_Pacts_pact G_Pacts_pact (hr.mono (by decide)) T.b_Pacts_pact .nil pass0 (pa_cons (pe_ix ix_tup (pv 9) pe_int (fun _ _ => rfl)) pa_nil)) (pv 9) (nomark _)) (pss_one (ps_ret pe_bl)) pss_nil))))
      (pss_one (ps_ret (pe_and (pe_cmpR (op_eqD (hr.units)) (pe_meth0 (pv 8) T.cl_Pacts T.mt_Pacts_pairs G_Pacts_pairs (hr.mono (by decide)) T.b_Pacts_pairs .nil pass0) (pv 3) (nomark _)) (pe_one (pe_cmpR op_eq (pe_callB (call_lenO T.mt_Pacts___len__ G_Pacts___len__ (hr.mono (by decide)) T.b_Pacts___len__ pass0) (by rfl) T.z_len PySem.boot_len (pa_cons (pv 8) pa_nil)) (pe_callB call_lenK (by rfl) T.z_len PySem.boot_len (pa_cons (pv 4) pa_nil)) (nomark _)))))))))))))))), ?_⟩
    walk_at "go"
    intro b g l H1 hb hg hl1 B1 s1
    walk_at "go"
    intro ch H2 ch0 ch1 B2 k2
    walk_at "go"
    intro D L n3 H3 G hD PP fr B3 hn3 k3
    have nD := B2.fresh hD
    have nDb := nD.1
    have nDg := nD.2.1
    walk_at "go"
    intro F M n4 H4 GH hF HH B4 hn4 k4
    have nF := B3.fresh hF
    have PP4 : PairsAt H4 D L := TK.pairs (B3.tk k4) PP fun o e => k4 _ _ nDb nDg e
    refine sq_seq (stop_in ?_)
    walk_at "go"
    refine wait ?_
    refine forR (lo := 0) (n := ch.toNat) (fun i σ H' => ∃ (D F : Addr) (L : List (Addr × Pr)) (M : List (Addr × Hl)) (n' : Int) (u5 : Option V), σ = [some (.ref c), some (.ref b), some (.int ch), some (.ref D), some (.ref F), u5, none, none, none, none] ∧ D ≠ b ∧ D ≠ g ∧ F ≠ b ∧ F ≠ g ∧ PairsAt H' D L ∧ HelpersAt K H' F M ∧ XP (8 + 8 * i) (L.map (·.2)) ∧ XH (8 + 8 * i) (M.map (·.2)) ∧ BoxAt H' b g l n' ∧ n' ≤ 1000 + 30 * i) ?_ ?_ ?_
    · exact ⟨D, F, L, M, n4, _, rfl, nDb, nDg, nF.1, nF.2.1, PP4, HH, G.xp, GoodH.xh G GH, B4, by omega⟩
    · clear PP4 HH PP hD fr hF
      rintro i σ H5 hi ⟨D, F, L, M, n5, u5, rfl, nDb, nDg, nFb, nFg, PD, HF, xp, xh, B5, hn5⟩
      have lD := PD.ls
      have lF := HF.ls
      have lmL : (L.map fun e => V.ref e.1).length = L.length := List.length_map _
      have lmM : (M.map fun e => V.ref e.1).length = M.length := List.length_map _
      have other : ∀ (n6 : Int) (H6 : Hp), BoxAt H6 b g l n6 → n6 ≤ n5 + 1 → Keep2 b g H5 H6 → PairsAt H6 D L ∧ HelpersAt K H6 F M := fun n6 H6 B6 _ k6 => ⟨TK.pairs (B5.tk k6) PD fun o e => k6 _ _ nDb nDg e, HF.tk (B5.tk k6) fun o e => k6 _ _ nFb nFg e⟩
      walk_at "go"
      intro r6 H6 r60 r61 B6 k6
      obtain ⟨PD6, HF6⟩ := other _ _ B6 (by omega) k6
      have lD6 := PD6.ls
      have lF6 := HF6.ls
      have hN8 : 8 ≤ 8 + 8 * i := by omega
      have hN5 : 8 + 8 * i ≤ 500 := by omega
      have els : ∀ (X : Prop), X → X := fun _ h => h
      walk_at "go"
      refine ifD (fun _ => ?_) (fun _ => ?_)
      · walk_at "go"
        refine ifD (fun b1 => ?_) (fun b1 => ?_)
        · have hL : 0 < L.length := by omega
          walk_at "go"
          intro D' L' n7 H7 n1 n2 PD7 xp7 B7 hn7 k7
          exact wait ⟨D', F, L', M, n7, _, rfl, n1, n2, nFb, nFg, PD7, HF6.tk (B6.tk k7) (fun o e => k7 _ _ nFb nFg e), xp7.up (by omega), xh.up (by omega), B7, by omega⟩
        · walk_at "go"
          refine ifD (fun b2 => ?_) (fun b2 => ?_)
          · have hM : 0 < M.length := by omega
            walk_at "go"
            intro F' M' n7 H7 n1 n2 HF7 xh7 B7 hn7 k7
            exact wait ⟨D, F', L, M', n7, _, rfl, nDb, nDg, n1, n2, TK.pairs (B6.tk k7) PD6 (fun o e => k7 _ _ nDb nDg e), HF7, xp.up (by omega), xh7.up (by omega), B7, by omega⟩
          · exact wait ⟨D, F, L, M, _, _, rfl, nDb, nDg, nFb, nFg, PD6, HF6, xp.up (by omega), xh.up (by omega), B6, by omega⟩
      · refine ifF rfl ?_
        walk_at "go"
        refine ifD (fun b2 => ?_) (fun b2 => ?_)
        · have hM : 0 < M.length := by omega
          walk_at "go"
          intro F' M' n7 H7 n1 n2 HF7 xh7 B7 hn7 k7
          exact wait ⟨D, F', L, M', n7, _, rfl, nDb, nDg, n1, n2, TK.pairs (B6.tk k7) PD6 (fun o e => k7 _ _ nDb nDg e), HF7, xp.up (by omega), xh7.up (by omega), B7, by omega⟩
        · exact wait ⟨D, F, L, M, _, _, rfl, nDb, nDg, nFb, nFg, PD6, HF6, xp.up (by omega), xh.up (by omega), B6, by omega⟩
    · clear PP4 HH PP hD fr hF
      rintro σ H5 ⟨D, F, L, M, n5, u5, rfl, nDb, nDg, nFb, nFg, PD5, HF5, xp, xh, B5, hn5⟩
      have lD := PD5.ls
      have lF := HF5.ls
      have zP : SzP (L.map (·.2)) := xp.sz (by omega)
      have zH : SzH (M.map (·.2)) := xh.sz (by omega)
      have wP := xp.sw
      have wH : ∀ h ∈ M.map (·.2), HW h := fun h hh => ⟨(xh.sw h hh).1, (xh.sw h hh).2.2.2⟩
      walk_at "go"
      intro p6 hp6
      obtain ⟨H6, e6⟩ : ∃ H6, H6 = upd H5 p6 (.lst (L.map fun e => V.ref e.1)) := ⟨_, rfl⟩
      have s6 : Same H5 H6 := by rw [e6]; exact Same.upd_new hp6
      have h6 : H6 p6 = some (.lst (L.map fun e => V.ref e.1)) := by rw [e6, upd_same]
      rw [← e6]
      have PD6 := PD5.same s6
      have HF6 := HF5.same s6
      have lF6 := HF6.ls
      walk_at "go"
      intro p7 hp7
      obtain ⟨H7, e7⟩ : ∃ H7, H7 = upd H6 p7 (.lst (M.map fun e => V.ref e.1)) := ⟨_, rfl⟩
      have s7 : Same H6 H7 := by rw [e7]; exact Same.upd_new hp7
      have h7 : H7 p7 = some (.lst (M.map fun e => V.ref e.1)) := by rw [e7, upd_same]
      rw [← e7]
      have PD7 := PD6.same s7
      have HF7 := HF6.same s7
      walk_at "go"
      intro p8 hp8
      obtain ⟨H8, e8⟩ : ∃ H8, H8 = upd H7 p8 (.lst [.ref p6, .ref p7]) := ⟨_, rfl⟩
      have s8 : Same H7 H8 := by rw [e8]; exact Same.upd_new hp8
      have h8 : H8 p8 = some (.lst [.ref p6, .ref p7]) := by rw [e8, upd_same]
      rw [← e8]
      have PD8 := PD7.same s8
      have HF8 := HF7.same s8
      have P6 : PairsAt H8 p6 L := ⟨s8 _ _ (s7 _ _ h6), PD8.at_⟩
      have P7 : HelpersAt K H8 p7 M := ⟨s8 _ _ h7, HF8.at_⟩
      have e0 : atI [V.ref p6, .ref p7] 0 = some (.ref p6) := rfl
      have e1 : atI [V.ref p6, .ref p7] 1 = some (.ref p7) := rfl
      walk_at "go"
      intro r z v H9 hr9 fb s9 c1 c2
      have PD9 := PD8.same s9
      have HF9 := HF8.same s9
      have P69 := P6.same s9
      have P79 := P7.same s9
      have h89 := s9 _ _ h8
      walk_at "go"
      intro z' H10 fb' s10
      have ez := FB_one fb fb'
      subst ez
      refine ⟨rfl, _, rfl, ifNN rfl ?_⟩
      refine ⟨_, rfl, _, _, .type "int", .type "bool", false, rfl, .ty _, .base (.int _), kit_ty (by decide +kernel), _, rfl, ifF rfl ?_⟩
      have lists10 := s10 _ _ h89
      walk_at "go"
      intro p11 hp11
      obtain ⟨H11, e11⟩ : ∃ H11, H11 = upd H10 p11 (.lst [.ref D, .ref F]) := ⟨_, rfl⟩
      have s11 : Same H10 H11 := by rw [e11]; exact Same.upd_new hp11
      have h11 : H11 p11 = some (.lst [.ref D, .ref F]) := by rw [e11, upd_same]
      rw [← e11]
      have s911 := s10.trans s11
      have dM : Dp K H11 (.ref p8) (.list [.list ((L.map (·.2)).map prD), .list ((M.map (·.2)).map hlD)]) := .lst (SqL.of (s11 _ _ lists10)) (.cons (P69.same s911).dp (.cons (P79.same s911).dp .nil))
      have dN : Dp K H11 (.ref p11) (.list [.list ((L.map (·.2)).map prD), .list ((M.map (·.2)).map hlD)]) := .lst (SqL.of h11) (.cons (PD9.same s911).dp (.cons (HF9.same s911).dp .nil))
      have sh := shaped_both wP wH
      refine ⟨_, _, dM, dN, sh, sh, _, rfl, ?_⟩
      rw [eqv_self sh]
      refine ifF rfl ?_
      walk_at "go"
      refine ifN (fun b1 => ?_) (fun b1 => ?_)
      · have hz : z ≠ -1 := fun e => b1 (congrArg V.int e)
        have ev := c1 hz
        subst ev
        walk_at "go"
        rw [decide_eq_true rfl]
        exact q _
      · have hz : z = -1 := V.int.inj b1
        subst hz
        obtain ⟨x, kp, kd, rfl, PH⟩ := c2 rfl
        obtain ⟨okP, okH⟩ : okPs (L.map (·.2)) ∧ okHs (L.map (·.2)) (M.map (·.2)) := by
          rcases fb with ⟨_, o1, o2⟩ | ⟨i, e, _⟩ | ⟨i, e, _⟩
          · exact ⟨o1, o2⟩
          · omega
          · omega
        have nd : (M.map fun e => e.2.name).Nodup := by
          have := okHs_nodup okH
          rw [List.map_map] at this
          exact this
        have PH11 := PH.same s911
        have HF11 := HF9.same s911
        have PD11 := PD9.same s911
        have lF11 := HF11.ls
        refine sq_seq (stop_in ?_)
        walk_at "go"
        refine wait ?_
        refine forL (K := K) (a := F) (xs := M.map fun e => V.ref e.1) (fun i σ H' => H' = H11 ∧ ∃ u9, σ = [some (.ref c), some (.ref b), some (.int ch), some (.ref D), some (.ref F), u5, some (.ref p8), some (.int (-1)), some (.ref x), u9]) ?_ ?_ ?_ ?_
        · exact ⟨rfl, _, rfl⟩
        · rintro i σ H' _ ⟨rfl, _⟩
          exact SqL.of lF11
        · rintro i y σ H' hi ⟨rfl, u9, rfl⟩
          rw [List.getElem?_map] at hi
          obtain ⟨e, he, rfl⟩ := Option.map_eq_some_iff.mp hi
          have hem := List.mem_of_getElem? he
          obtain ⟨tk, th, hp, htk, hth⟩ := HF11.at_ e hem
          obtain ⟨dx, ho⟩ := PH11.pa.ob
          have hat : atI [V.str e.2.name, .int e.2.side, .ref tk, .bl e.2.gives, .ref th] 0 = some (.str e.2.name) := rfl
          have hd := (HF11.at_ e hem).dp
          have shh := shaped_hl (wH e.2 (List.mem_map.mpr ⟨e, hem, rfl⟩))
          walk_at "go"
          rw [eqv_self shh]
          refine ifF rfl ?_
          exact wait ⟨rfl, _, rfl⟩
        · rintro σ H' ⟨rfl, u9, rfl⟩
          obtain ⟨dx, ho⟩ := PH11.pa.ob
          have pa11 := PH11.pa
          walk_at "go"
          intro Z hZ
          obtain ⟨H12, e12⟩ : ∃ H12, H12 = upd H' Z (.lst (L.map fun e => V.ref e.1)) := ⟨_, rfl⟩
          rw [← e12]
          have s12 : Same H' H12 := by rw [e12]; exact Same.upd_new hZ
          have PD12 := PD11.same s12
          have PZ : PairsAt H12 Z L := ⟨by rw [e12, upd_same], PD12.at_⟩
          have dZ := PZ.dp (K := K)
          have dD := PD12.dp (K := K)
          have shp := shaped_prs wP
          have PH12 := PH11.same s12
          have pa12 := PH12.pa
          obtain ⟨dx12, ho12⟩ := pa12.ob
          have lF12 := s12 _ _ lF11
          have hkl := hk_len M
          have zm := zH.len
          rw [List.length_map] at zm
          have lmM : (M.map fun e => V.ref e.1).length = (hk M).length := by rw [List.length_map, hkl]
          walk_at "go"
          rw [eqv_self shp]
          walk_at "go"
          rw [lmM, decide_eq_true rfl]
          exact q _
end
end Pf
set_option Elab.async false
set_option linter.all false
set_option maxRecDepth 100000
set_option maxHeartbeats 4000000
namespace Pf
open PySem L2
theorem all_mk {K : PySem.W.Frag} {h : Heap} {mg : Str → Option Value} (X : K.In h) (G : h.Ns mainGlobals mg)
    {cc_Pacts : Addr}
    {cc_PactError : Addr}
    {cc_NoPact : Addr}
    {nm_NoPact qq_NoPact : Str} {NN_NoPact : Addr} {bs_NoPact : List Value} {sn_NoPact : List Str} {su_NoPact : List Value} {ab_NoPact : Bool} {co_NoPact : Option Bool} {ddd_NoPact : Option Addr} {m0_NoPact m1_NoPact m2_NoPact m3_NoPact m5_NoPact : Option Value}
    {cc_NoText : Addr}
    {ff_NoPact___init__ : Addr} {od_NoPact___init__ an_NoPact___init__ : Option Addr} {sl_NoPact___init__ : Array (Option Value)} {oc_NoPact___init__ kV_NoPact___init__ dc_NoPact___init__ pm_NoPact___init__ cd_NoPact___init__ ct_NoPact___init__ : Value}
    {ff_is_name : Addr} {od_is_name an_is_name : Option Addr} {sl_is_name : Array (Option Value)} {oc_is_name kV_is_name dc_is_name pm_is_name cd_is_name ct_is_name : Value}
    {ff_Pacts___init__ : Addr} {od_Pacts___init__ an_Pacts___init__ : Option Addr} {sl_Pacts___init__ : Array (Option Value)} {oc_Pacts___init__ kV_Pacts___init__ dc_Pacts___init__ pm_Pacts___init__ cd_Pacts___init__ ct_Pacts___init__ : Value}
    {ff_Pacts_fits_pair : Addr} {od_Pacts_fits_pair an_Pacts_fits_pair : Option Addr} {sl_Pacts_fits_pair : Array (Option Value)} {oc_Pacts_fits_pair kV_Pacts_fits_pair dc_Pacts_fits_pair pm_Pacts_fits_pair cd_Pacts_fits_pair ct_Pacts_fits_pair : Value}
    {ff_Pacts_fits_helper : Addr} {od_Pacts_fits_helper an_Pacts_fits_helper : Option Addr} {sl_Pacts_fits_helper : Array (Option Value)} {oc_Pacts_fits_helper kV_Pacts_fits_helper dc_Pacts_fits_helper pm_Pacts_fits_helper cd_Pacts_fits_helper ct_Pacts_fits_helper : Value}
    {ff_Pacts_words_called : Addr} {od_Pacts_words_called an_Pacts_words_called : Option Addr} {sl_Pacts_words_called : Array (Option Value)} {oc_Pacts_words_called kV_Pacts_words_called dc_Pacts_words_called pm_Pacts_words_called cd_Pacts_words_called ct_Pacts_words_called : Value}
    {ff_Pacts_pairs : Addr} {od_Pacts_pairs an_Pacts_pairs : Option Addr} {sl_Pacts_pairs : Array (Option Value)} {oc_Pacts_pairs kV_Pacts_pairs dc_Pacts_pairs pm_Pacts_pairs cd_Pacts_pairs ct_Pacts_pairs : Value}
    {ff_Pacts_names : Addr} {od_Pacts_names an_Pacts_names : Option Addr} {sl_Pacts_names : Array (Option Value)} {oc_Pacts_names kV_Pacts_names dc_Pacts_names pm_Pacts_names cd_Pacts_names ct_Pacts_names : Value}
    {ff_Pacts_pact : Addr} {od_Pacts_pact an_Pacts_pact : Option Addr} {sl_Pacts_pact : Array (Option Value)} {oc_Pacts_pact kV_Pacts_pact dc_Pacts_pact pm_Pacts_pact cd_Pacts_pact ct_Pacts_pact : Value}
    {ff_Pacts___len__ : Addr} {od_Pacts___len__ an_Pacts___len__ : Option Addr} {sl_Pacts___len__ : Array (Option Value)} {oc_Pacts___len__ kV_Pacts___len__ dc_Pacts___len__ pm_Pacts___len__ cd_Pacts___len__ ct_Pacts___len__ : Value}
    {ff__law_box : Addr} {od__law_box an__law_box : Option Addr} {sl__law_box : Array (Option Value)} {oc__law_box kV__law_box dc__law_box pm__law_box cd__law_box ct__law_box : Value}
    {ff__law_mixed : Addr} {od__law_mixed an__law_mixed : Option Addr} {sl__law_mixed : Array (Option Value)} {oc__law_mixed kV__law_mixed dc__law_mixed pm__law_mixed cd__law_mixed ct__law_mixed : Value}
    {ff__law_take : Addr} {od__law_take an__law_take : Option Addr} {sl__law_take : Array (Option Value)} {oc__law_take kV__law_take dc__law_take pm__law_take cd__law_take ct__law_take : Value}
    {ff__law_name : Addr} {od__law_name an__law_name : Option Addr} {sl__law_name : Array (Option Value)} {oc__law_name kV__law_name dc__law_name pm__law_name cd__law_name ct__law_name : Value}
    {ff__law_names : Addr} {od__law_names an__law_names : Option Addr} {sl__law_names : Array (Option Value)} {oc__law_names kV__law_names dc__law_names pm__law_names cd__law_names ct__law_names : Value}
    {ff__law_pairs : Addr} {od__law_pairs an__law_pairs : Option Addr} {sl__law_pairs : Array (Option Value)} {oc__law_pairs kV__law_pairs dc__law_pairs pm__law_pairs cd__law_pairs ct__law_pairs : Value}
    {ff__law_some : Addr} {od__law_some an__law_some : Option Addr} {sl__law_some : Array (Option Value)} {oc__law_some kV__law_some dc__law_some pm__law_some cd__law_some ct__law_some : Value}
    {ff__law_helpers : Addr} {od__law_helpers an__law_helpers : Option Addr} {sl__law_helpers : Array (Option Value)} {oc__law_helpers kV__law_helpers dc__law_helpers pm__law_helpers cd__law_helpers ct__law_helpers : Value}
    {ff__law_is_name : Addr} {od__law_is_name an__law_is_name : Option Addr} {sl__law_is_name : Array (Option Value)} {oc__law_is_name kV__law_is_name dc__law_is_name pm__law_is_name cd__law_is_name ct__law_is_name : Value}
    {ff__law_pair_fits : Addr} {od__law_pair_fits an__law_pair_fits : Option Addr} {sl__law_pair_fits : Array (Option Value)} {oc__law_pair_fits kV__law_pair_fits dc__law_pair_fits pm__law_pair_fits cd__law_pair_fits ct__law_pair_fits : Value}
    {ff__law_helper_fits : Addr} {od__law_helper_fits an__law_helper_fits : Option Addr} {sl__law_helper_fits : Array (Option Value)} {oc__law_helper_fits kV__law_helper_fits dc__law_helper_fits pm__law_helper_fits cd__law_helper_fits ct__law_helper_fits : Value}
    {ff__law_first_bad : Addr} {od__law_first_bad an__law_first_bad : Option Addr} {sl__law_first_bad : Array (Option Value)} {oc__law_first_bad kV__law_first_bad dc__law_first_bad pm__law_first_bad cd__law_first_bad ct__law_first_bad : Value}
    {ff__law_odd_word : Addr} {od__law_odd_word an__law_odd_word : Option Addr} {sl__law_odd_word : Array (Option Value)} {oc__law_odd_word kV__law_odd_word dc__law_odd_word pm__law_odd_word cd__law_odd_word ct__law_odd_word : Value}
    {ff__law_pair_spoilt : Addr} {od__law_pair_spoilt an__law_pair_spoilt : Option Addr} {sl__law_pair_spoilt : Array (Option Value)} {oc__law_pair_spoilt kV__law_pair_spoilt dc__law_pair_spoilt pm__law_pair_spoilt cd__law_pair_spoilt ct__law_pair_spoilt : Value}
    {ff__law_helper_spoilt : Addr} {od__law_helper_spoilt an__law_helper_spoilt : Option Addr} {sl__law_helper_spoilt : Array (Option Value)} {oc__law_helper_spoilt kV__law_helper_spoilt dc__law_helper_spoilt pm__law_helper_spoilt cd__law_helper_spoilt ct__law_helper_spoilt : Value}
    {ff__law_made : Addr} {od__law_made an__law_made : Option Addr} {sl__law_made : Array (Option Value)} {oc__law_made kV__law_made dc__law_made pm__law_made cd__law_made ct__law_made : Value}
    {ff_law : Addr} {od_law an_law : Option Addr} {sl_law : Array (Option Value)} {oc_law kV_law dc_law pm_law cd_law ct_law : Value}
    {tt_LETTERS : Tok}
    {tt_MOST : Tok}
    {tt_MOST_PAIRS : Tok}
    {tt_MOST_HELPERS : Tok}
    {tt_MOST_TAKES : Tok}
    {tt_MOST_THROWS : Tok}
    {kk_HOWS : Addr} {kd_HOWS : Option Addr} {kn_HOWS : Nat} {ks_HOWS : Array (Option Value)} {kt0_HOWS : Tok} {kt1_HOWS : Tok}
    (aC_Pacts : PySem.W.nsIn K mainGlobals "Pacts" = some (some (.ref cc_Pacts)))
    (pg_Pacts : PySem.W.plainGet K cc_Pacts Str.empty = true)
    (hd_Pacts : PySem.W.hasDictIn K cc_Pacts = true)
    (po_Pacts : PySem.W.plainOver K cc_Pacts = true)
    (sa_Pacts : PySem.W.findIn K (.ref cc_Pacts) "__setattr__" = some (some (.builtin "object.__setattr__")))
    (mk_Pacts : PySem.W.makesIn K cc_Pacts = true)
    (kc_Pacts : PySem.W.keepIn K (.ref cc_Pacts) = true)
    (na_Pacts_kept_pairs : PySem.W.findIn K (.ref cc_Pacts) "kept_pairs" = some none)
    (na_Pacts_kept_pacts : PySem.W.findIn K (.ref cc_Pacts) "kept_pacts" = some none)
    (aC_PactError : PySem.W.nsIn K mainGlobals "PactError" = some (some (.ref cc_PactError)))
    (bE_PactError : PySem.W.subIn K (.ref cc_PactError) (.type "BaseException") = some true)
    (hd_PactError : PySem.W.hasDictIn K cc_PactError = true)
    (ty_PactError : PySem.W.typeIn K (.ref cc_PactError) = some (.type "type"))
    (aC_NoPact : PySem.W.nsIn K mainGlobals "NoPact" = some (some (.ref cc_NoPact)))
    (bE_NoPact : PySem.W.subIn K (.ref cc_NoPact) (.type "BaseException") = some true)
    (hd_NoPact : PySem.W.hasDictIn K cc_NoPact = true)
    (ty_NoPact : PySem.W.typeIn K (.ref cc_NoPact) = some (.type "type"))
    (xL_NoPact : K.lookup cc_NoPact = some (excClassObj nm_NoPact qq_NoPact cc_NoPact NN_NoPact bs_NoPact [.ref cc_PactError, .type "ValueError", .type "Exception", .type "BaseException", .type "object"] true sn_NoPact su_NoPact ab_NoPact co_NoPact ddd_NoPact m0_NoPact m1_NoPact m2_NoPact m3_NoPact m5_NoPact "ValueError.__new__"))
    (sa_NoPact : PySem.W.findIn K (.ref cc_NoPact) "__setattr__" = some (some (.builtin "object.__setattr__")))
    (ga_NoPact : PySem.W.findIn K (.ref cc_NoPact) "__getattribute__" = some (some (.builtin "BaseException.__getattribute__")))
    (gg_NoPact : PySem.W.findIn K (.ref cc_NoPact) "__getattr__" = some none)
    (kc_NoPact : PySem.W.keepIn K (.ref cc_NoPact) = true)
    (cc__NoPact : PySem.W.findIn K (.ref cc_NoPact) "__class__" = some (some (.builtin "object.__class__")))
    (mo_NoPact : PySem.W.mroIn K cc_NoPact (.type "object") = some true)
    (na_NoPact_at : PySem.W.findIn K (.ref cc_NoPact) "at" = some none)
    (aC_NoText : PySem.W.nsIn K mainGlobals "NoText" = some (some (.ref cc_NoText)))
    (bE_NoText : PySem.W.subIn K (.ref cc_NoText) (.type "BaseException") = some true)
    (hd_NoText : PySem.W.hasDictIn K cc_NoText = true)
    (ty_NoText : PySem.W.typeIn K (.ref cc_NoText) = some (.type "type"))
    (sGet : PySem.W.specialIn K (.builtin "object.__class__") "__get__" = some (some (.builtin "getset_descriptor.__get__")))
    (tGet : PySem.W.takesIn K (.builtin "object.__class__") = some true)
    (su_NoPact_NoPact : PySem.W.subIn K (.ref cc_NoPact) (.ref cc_NoPact) = some true)
    (su_NoPact_PactError : PySem.W.subIn K (.ref cc_NoPact) (.ref cc_PactError) = some true)
    (su_NoPact_NoText : PySem.W.subIn K (.ref cc_NoPact) (.ref cc_NoText) = some false)
    (su_NoPact_ValueError : PySem.W.subIn K (.ref cc_NoPact) (.type "ValueError") = some true)
    (a_NoPact___init__ : PySem.W.findIn K (.ref cc_NoPact) "__init__" = some (some (.ref ff_NoPact___init__)))
    (i_NoPact___init__ : PySem.W.isFn K (.ref ff_NoPact___init__) = true)
    (l_NoPact___init__ : K.lookup ff_NoPact___init__ = some ⟨oc_NoPact___init__, od_NoPact___init__, .func (PySem.W.fnOf "__init__" "NoPact.__init__" (defArgs s_NoPact___init__) (defBody s_NoPact___init__) (defScope s_NoPact___init__) .none kV_NoPact___init__ dc_NoPact___init__ pm_NoPact___init__ an_NoPact___init__ cd_NoPact___init__ ct_NoPact___init__), sl_NoPact___init__⟩)
    (c_NoPact___init__ : PySem.W.codeIn K cd_NoPact___init__ "NoPact.__init__" = true)
    (k_NoPact___init__ : PySem.W.keepIn K (.ref ff_NoPact___init__) = true)
    (a_is_name : PySem.W.nsIn K mainGlobals "is_name" = some (some (.ref ff_is_name)))
    (l_is_name : K.lookup ff_is_name = some ⟨oc_is_name, od_is_name, .func (PySem.W.fnOf "is_name" "is_name" (defArgs s_is_name) (defBody s_is_name) (defScope s_is_name) .none kV_is_name dc_is_name pm_is_name an_is_name cd_is_name ct_is_name), sl_is_name⟩)
    (c_is_name : PySem.W.codeIn K cd_is_name "is_name" = true)
    (k_is_name : PySem.W.keepIn K (.ref ff_is_name) = true)
    (a_Pacts___init__ : PySem.W.findIn K (.ref cc_Pacts) "__init__" = some (some (.ref ff_Pacts___init__)))
    (i_Pacts___init__ : PySem.W.isFn K (.ref ff_Pacts___init__) = true)
    (l_Pacts___init__ : K.lookup ff_Pacts___init__ = some ⟨oc_Pacts___init__, od_Pacts___init__, .func (PySem.W.fnOf "__init__" "Pacts.__init__" (defArgs s_Pacts___init__) (defBody s_Pacts___init__) (defScope s_Pacts___init__) .none kV_Pacts___init__ dc_Pacts___init__ pm_Pacts___init__ an_Pacts___init__ cd_Pacts___init__ ct_Pacts___init__), sl_Pacts___init__⟩)
    (c_Pacts___init__ : PySem.W.codeIn K cd_Pacts___init__ "Pacts.__init__" = true)
    (k_Pacts___init__ : PySem.W.keepIn K (.ref ff_Pacts___init__) = true)
    (a_Pacts_fits_pair : PySem.W.findIn K (.ref cc_Pacts) "fits_pair" = some (some (.ref ff_Pacts_fits_pair)))
    (i_Pacts_fits_pair : PySem.W.isFn K (.ref ff_Pacts_fits_pair) = true)
    (l_Pacts_fits_pair : K.lookup ff_Pacts_fits_pair = some ⟨oc_Pacts_fits_pair, od_Pacts_fits_pair, .func (PySem.W.fnOf "fits_pair" "Pacts.fits_pair" (defArgs s_Pacts_fits_pair) (defBody s_Pacts_fits_pair) (defScope s_Pacts_fits_pair) .none kV_Pacts_fits_pair dc_Pacts_fits_pair pm_Pacts_fits_pair an_Pacts_fits_pair cd_Pacts_fits_pair ct_Pacts_fits_pair), sl_Pacts_fits_pair⟩)
    (c_Pacts_fits_pair : PySem.W.codeIn K cd_Pacts_fits_pair "Pacts.fits_pair" = true)
    (k_Pacts_fits_pair : PySem.W.keepIn K (.ref ff_Pacts_fits_pair) = true)
    (a_Pacts_fits_helper : PySem.W.findIn K (.ref cc_Pacts) "fits_helper" = some (some (.ref ff_Pacts_fits_helper)))
    (i_Pacts_fits_helper : PySem.W.isFn K (.ref ff_Pacts_fits_helper) = true)
    (l_Pacts_fits_helper : K.lookup ff_Pacts_fits_helper = some ⟨oc_Pacts_fits_helper, od_Pacts_fits_helper, .func (PySem.W.fnOf "fits_helper" "Pacts.fits_helper" (defArgs s_Pacts_fits_helper) (defBody s_Pacts_fits_helper) (defScope s_Pacts_fits_helper) .none kV_Pacts_fits_helper dc_Pacts_fits_helper pm_Pacts_fits_helper an_Pacts_fits_helper cd_Pacts_fits_helper ct_Pacts_fits_helper), sl_Pacts_fits_helper⟩)
    (c_Pacts_fits_helper : PySem.W.codeIn K cd_Pacts_fits_helper "Pacts.fits_helper" = true)
    (k_Pacts_fits_helper : PySem.W.keepIn K (.ref ff_Pacts_fits_helper) = true)
    (a_Pacts_words_called : PySem.W.findIn K (.ref cc_Pacts) "words_called" = some (some (.ref ff_Pacts_words_called)))
    (i_Pacts_words_called : PySem.W.isFn K (.ref ff_Pacts_words_called) = true)
    (l_Pacts_words_called : K.lookup ff_Pacts_words_called = some ⟨oc_Pacts_words_called, od_Pacts_words_called, .func (PySem.W.fnOf "words_called" "Pacts.words_called" (defArgs s_Pacts_words_called) (defBody s_Pacts_words_called) (defScope s_Pacts_words_called) .none kV_Pacts_words_called dc_Pacts_words_called pm_Pacts_words_called an_Pacts_words_called cd_Pacts_words_called ct_Pacts_words_called), sl_Pacts_words_called⟩)
    (c_Pacts_words_called : PySem.W.codeIn K cd_Pacts_words_called "Pacts.words_called" = true)
    (k_Pacts_words_called : PySem.W.keepIn K (.ref ff_Pacts_words_called) = true)
    (a_Pacts_pairs : PySem.W.findIn K (.ref cc_Pacts) "pairs" = some (some (.ref ff_Pacts_pairs)))
    (i_Pacts_pairs : PySem.W.isFn K (.ref ff_Pacts_pairs) = true)
    (l_Pacts_pairs : K.lookup ff_Pacts_pairs = some ⟨oc_Pacts_pairs, od_Pacts_pairs, .func (PySem.W.fnOf "pairs" "Pacts.pairs" (defArgs s_Pacts_pairs) (defBody s_Pacts_pairs) (defScope s_Pacts_pairs) .none kV_Pacts_pairs dc_Pacts_pairs pm_Pacts_pairs an_Pacts_pairs cd_Pacts_pairs ct_Pacts_pairs), sl_Pacts_pairs⟩)
    (c_Pacts_pairs : PySem.W.codeIn K cd_Pacts_pairs "Pacts.pairs" = true)
    (k_Pacts_pairs : PySem.W.keepIn K (.ref ff_Pacts_pairs) = true)
    (a_Pacts_names : PySem.W.findIn K (.ref cc_Pacts) "names" = some (some (.ref ff_Pacts_names)))
    (i_Pacts_names : PySem.W.isFn K (.ref ff_Pacts_names) = true)
    (l_Pacts_names : K.lookup ff_Pacts_names = some ⟨oc_Pacts_names, od_Pacts_names, .func (PySem.W.fnOf "names" "Pacts.names" (defArgs s_Pacts_names) (defBody s_Pacts_names) (defScope s_Pacts_names) .none kV_Pacts_names dc_Pacts_names pm_Pacts_names an_Pacts_names cd_Pacts_names ct_Pacts_names), sl_Pacts_names⟩)
    (c_Pacts_names : PySem.W.codeIn K cd_Pacts_names "Pacts.names" = true)
    (k_Pacts_names : PySem.W.keepIn K (.ref ff_Pacts_names) = true)
    (a_Pacts_pact : PySem.W.findIn K (.ref cc_Pacts) "pact" = some (some (.ref ff_Pacts_pact)))
    (i_Pacts_pact : PySem.W.isFn K (.ref ff_Pacts_pact) = true)
    (l_Pacts_pact : K.lookup ff_Pacts_pact = some ⟨oc_Pacts_pact, od_Pacts_pact, .func (PySem.W.fnOf "pact" "Pacts.pact" (defArgs s_Pacts_pact) (defBody s_Pacts_pact) (defScope s_Pacts_pact) .none kV_Pacts_pact dc_Pacts_pact pm_Pacts_pact an_Pacts_pact cd_Pacts_pact ct_Pacts_pact), sl_Pacts_pact⟩)
    (c_Pacts_pact : PySem.W.codeIn K cd_Pacts_pact "Pacts.pact" = true)
    (k_Pacts_pact : PySem.W.keepIn K (.ref ff_Pacts_pact) = true)
    (a_Pacts___len__ : PySem.W.findIn K (.ref cc_Pacts) "__len__" = some (some (.ref ff_Pacts___len__)))
    (i_Pacts___len__ : PySem.W.isFn K (.ref ff_Pacts___len__) = true)
    (l_Pacts___len__ : K.lookup ff_Pacts___len__ = some ⟨oc_Pacts___len__, od_Pacts___len__, .func (PySem.W.fnOf "__len__" "Pacts.__len__" (defArgs s_Pacts___len__) (defBody s_Pacts___len__) (defScope s_Pacts___len__) .none kV_Pacts___len__ dc_Pacts___len__ pm_Pacts___len__ an_Pacts___len__ cd_Pacts___len__ ct_Pacts___len__), sl_Pacts___len__⟩)
    (c_Pacts___len__ : PySem.W.codeIn K cd_Pacts___len__ "Pacts.__len__" = true)
    (k_Pacts___len__ : PySem.W.keepIn K (.ref ff_Pacts___len__) = true)
    (a__law_box : PySem.W.nsIn K mainGlobals "_law_box" = some (some (.ref ff__law_box)))
    (l__law_box : K.lookup ff__law_box = some ⟨oc__law_box, od__law_box, .func (PySem.W.fnOf "_law_box" "_law_box" (defArgs s__law_box) (defBody s__law_box) (defScope s__law_box) .none kV__law_box dc__law_box pm__law_box an__law_box cd__law_box ct__law_box), sl__law_box⟩)
    (c__law_box : PySem.W.codeIn K cd__law_box "_law_box" = true)
    (k__law_box : PySem.W.keepIn K (.ref ff__law_box) = true)
    (a__law_mixed : PySem.W.nsIn K mainGlobals "_law_mixed" = some (some (.ref ff__law_mixed)))
    (l__law_mixed : K.lookup ff__law_mixed = some ⟨oc__law_mixed, od__law_mixed, .func (PySem.W.fnOf "_law_mixed" "_law_mixed" (defArgs s__law_mixed) (defBody s__law_mixed) (defScope s__law_mixed) .none kV__law_mixed dc__law_mixed pm__law_mixed an__law_mixed cd__law_mixed ct__law_mixed), sl__law_mixed⟩)
    (c__law_mixed : PySem.W.codeIn K cd__law_mixed "_law_mixed" = true)
    (k__law_mixed : PySem.W.keepIn K (.ref ff__law_mixed) = true)
    (a__law_take : PySem.W.nsIn K mainGlobals "_law_take" = some (some (.ref ff__law_take)))
    (l__law_take : K.lookup ff__law_take = some ⟨oc__law_take, od__law_take, .func (PySem.W.fnOf "_law_take" "_law_take" (defArgs s__law_take) (defBody s__law_take) (defScope s__law_take) .none kV__law_take dc__law_take pm__law_take an__law_take cd__law_take ct__law_take), sl__law_take⟩)
    (c__law_take : PySem.W.codeIn K cd__law_take "_law_take" = true)
    (k__law_take : PySem.W.keepIn K (.ref ff__law_take) = true)
    (a__law_name : PySem.W.nsIn K mainGlobals "_law_name" = some (some (.ref ff__law_name)))
    (l__law_name : K.lookup ff__law_name = some ⟨oc__law_name, od__law_name, .func (PySem.W.fnOf "_law_name" "_law_name" (defArgs s__law_name) (defBody s__law_name) (defScope s__law_name) .none kV__law_name dc__law_name pm__law_name an__law_name cd__law_name ct__law_name), sl__law_name⟩)
    (c__law_name : PySem.W.codeIn K cd__law_name "_law_name" = true)
    (k__law_name : PySem.W.keepIn K (.ref ff__law_name) = true)
    (a__law_names : PySem.W.nsIn K mainGlobals "_law_names" = some (some (.ref ff__law_names)))
    (l__law_names : K.lookup ff__law_names = some ⟨oc__law_names, od__law_names, .func (PySem.W.fnOf "_law_names" "_law_names" (defArgs s__law_names) (defBody s__law_names) (defScope s__law_names) .none kV__law_names dc__law_names pm__law_names an__law_names cd__law_names ct__law_names), sl__law_names⟩)
    (c__law_names : PySem.W.codeIn K cd__law_names "_law_names" = true)
    (k__law_names : PySem.W.keepIn K (.ref ff__law_names) = true)
    (a__law_pairs : PySem.W.nsIn K mainGlobals "_law_pairs" = some (some (.ref ff__law_pairs)))
    (l__law_pairs : K.lookup ff__law_pairs = some ⟨oc__law_pairs, od__law_pairs, .func (PySem.W.fnOf "_law_pairs" "_law_pairs" (defArgs s__law_pairs) (defBody s__law_pairs) (defScope s__law_pairs) .none kV__law_pairs dc__law_pairs pm__law_pairs an__law_pairs cd__law_pairs ct__law_pairs), sl__law_pairs⟩)
    (c__law_pairs : PySem.W.codeIn K cd__law_pairs "_law_pairs" = true)
    (k__law_pairs : PySem.W.keepIn K (.ref ff__law_pairs) = true)
    (a__law_some : PySem.W.nsIn K mainGlobals "_law_some" = some (some (.ref ff__law_some)))
    (l__law_some : K.lookup ff__law_some = some ⟨oc__law_some, od__law_some, .func (PySem.W.fnOf "_law_some" "_law_some" (defArgs s__law_some) (defBody s__law_some) (defScope s__law_some) .none kV__law_some dc__law_some pm__law_some an__law_some cd__law_some ct__law_some), sl__law_some⟩)
    (c__law_some : PySem.W.codeIn K cd__law_some "_law_some" = true)
    (k__law_some : PySem.W.keepIn K (.ref ff__law_some) = true)
    (a__law_helpers : PySem.W.nsIn K mainGlobals "_law_helpers" = some (some (.ref ff__law_helpers)))
    (l__law_helpers : K.lookup ff__law_helpers = some ⟨oc__law_helpers, od__law_helpers, .func (PySem.W.fnOf "_law_helpers" "_law_helpers" (defArgs s__law_helpers) (defBody s__law_helpers) (defScope s__law_helpers) .none kV__law_helpers dc__law_helpers pm__law_helpers an__law_helpers cd__law_helpers ct__law_helpers), sl__law_helpers⟩)
    (c__law_helpers : PySem.W.codeIn K cd__law_helpers "_law_helpers" = true)
    (k__law_helpers : PySem.W.keepIn K (.ref ff__law_helpers) = true)
    (a__law_is_name : PySem.W.nsIn K mainGlobals "_law_is_name" = some (some (.ref ff__law_is_name)))
    (l__law_is_name : K.lookup ff__law_is_name = some ⟨oc__law_is_name, od__law_is_name, .func (PySem.W.fnOf "_law_is_name" "_law_is_name" (defArgs s__law_is_name) (defBody s__law_is_name) (defScope s__law_is_name) .none kV__law_is_name dc__law_is_name pm__law_is_name an__law_is_name cd__law_is_name ct__law_is_name), sl__law_is_name⟩)
    (c__law_is_name : PySem.W.codeIn K cd__law_is_name "_law_is_name" = true)
    (k__law_is_name : PySem.W.keepIn K (.ref ff__law_is_name) = true)
    (a__law_pair_fits : PySem.W.nsIn K mainGlobals "_law_pair_fits" = some (some (.ref ff__law_pair_fits)))
    (l__law_pair_fits : K.lookup ff__law_pair_fits = some ⟨oc__law_pair_fits, od__law_pair_fits, .func (PySem.W.fnOf "_law_pair_fits" "_law_pair_fits" (defArgs s__law_pair_fits) (defBody s__law_pair_fits) (defScope s__law_pair_fits) .none kV__law_pair_fits dc__law_pair_fits pm__law_pair_fits an__law_pair_fits cd__law_pair_fits ct__law_pair_fits), sl__law_pair_fits⟩)
    (c__law_pair_fits : PySem.W.codeIn K cd__law_pair_fits "_law_pair_fits" = true)
    (k__law_pair_fits : PySem.W.keepIn K (.ref ff__law_pair_fits) = true)
    (a__law_helper_fits : PySem.W.nsIn K mainGlobals "_law_helper_fits" = some (some (.ref ff__law_helper_fits)))
    (l__law_helper_fits : K.lookup ff__law_helper_fits = some ⟨oc__law_helper_fits, od__law_helper_fits, .func (PySem.W.fnOf "_law_helper_fits" "_law_helper_fits" (defArgs s__law_helper_fits) (defBody s__law_helper_fits) (defScope s__law_helper_fits) .none kV__law_helper_fits dc__law_helper_fits pm__law_helper_fits an__law_helper_fits cd__law_helper_fits ct__law_helper_fits), sl__law_helper_fits⟩)
    (c__law_helper_fits : PySem.W.codeIn K cd__law_helper_fits "_law_helper_fits" = true)
    (k__law_helper_fits : PySem.W.keepIn K (.ref ff__law_helper_fits) = true)
    (a__law_first_bad : PySem.W.nsIn K mainGlobals "_law_first_bad" = some (some (.ref ff__law_first_bad)))
    (l__law_first_bad : K.lookup ff__law_first_bad = some ⟨oc__law_first_bad, od__law_first_bad, .func (PySem.W.fnOf "_law_first_bad" "_law_first_bad" (defArgs s__law_first_bad) (defBody s__law_first_bad) (defScope s__law_first_bad) .none kV__law_first_bad dc__law_first_bad pm__law_first_bad an__law_first_bad cd__law_first_bad ct__law_first_bad), sl__law_first_bad⟩)
    (c__law_first_bad : PySem.W.codeIn K cd__law_first_bad "_law_first_bad" = true)
    (k__law_first_bad : PySem.W.keepIn K (.ref ff__law_first_bad) = true)
    (a__law_odd_word : PySem.W.nsIn K mainGlobals "_law_odd_word" = some (some (.ref ff__law_odd_word)))
    (l__law_odd_word : K.lookup ff__law_odd_word = some ⟨oc__law_odd_word, od__law_odd_word, .func (PySem.W.fnOf "_law_odd_word" "_law_odd_word" (defArgs s__law_odd_word) (defBody s__law_odd_word) (defScope s__law_odd_word) .none kV__law_odd_word dc__law_odd_word pm__law_odd_word an__law_odd_word cd__law_odd_word ct__law_odd_word), sl__law_odd_word⟩)
    (c__law_odd_word : PySem.W.codeIn K cd__law_odd_word "_law_odd_word" = true)
    (k__law_odd_word : PySem.W.keepIn K (.ref ff__law_odd_word) = true)
    (a__law_pair_spoilt : PySem.W.nsIn K mainGlobals "_law_pair_spoilt" = some (some (.ref ff__law_pair_spoilt)))
    (l__law_pair_spoilt : K.lookup ff__law_pair_spoilt = some ⟨oc__law_pair_spoilt, od__law_pair_spoilt, .func (PySem.W.fnOf "_law_pair_spoilt" "_law_pair_spoilt" (defArgs s__law_pair_spoilt) (defBody s__law_pair_spoilt) (defScope s__law_pair_spoilt) .none kV__law_pair_spoilt dc__law_pair_spoilt pm__law_pair_spoilt an__law_pair_spoilt cd__law_pair_spoilt ct__law_pair_spoilt), sl__law_pair_spoilt⟩)
    (c__law_pair_spoilt : PySem.W.codeIn K cd__law_pair_spoilt "_law_pair_spoilt" = true)
    (k__law_pair_spoilt : PySem.W.keepIn K (.ref ff__law_pair_spoilt) = true)
    (a__law_helper_spoilt : PySem.W.nsIn K mainGlobals "_law_helper_spoilt" = some (some (.ref ff__law_helper_spoilt)))
    (l__law_helper_spoilt : K.lookup ff__law_helper_spoilt = some ⟨oc__law_helper_spoilt, od__law_helper_spoilt, .func (PySem.W.fnOf "_law_helper_spoilt" "_law_helper_spoilt" (defArgs s__law_helper_spoilt) (defBody s__law_helper_spoilt) (defScope s__law_helper_spoilt) .none kV__law_helper_spoilt dc__law_helper_spoilt pm__law_helper_spoilt an__law_helper_spoilt cd__law_helper_spoilt ct__law_helper_spoilt), sl__law_helper_spoilt⟩)
    (c__law_helper_spoilt : PySem.W.codeIn K cd__law_helper_spoilt "_law_helper_spoilt" = true)
    (k__law_helper_spoilt : PySem.W.keepIn K (.ref ff__law_helper_spoilt) = true)
    (a__law_made : PySem.W.nsIn K mainGlobals "_law_made" = some (some (.ref ff__law_made)))
    (l__law_made : K.lookup ff__law_made = some ⟨oc__law_made, od__law_made, .func (PySem.W.fnOf "_law_made" "_law_made" (defArgs s__law_made) (defBody s__law_made) (defScope s__law_made) .none kV__law_made dc__law_made pm__law_made an__law_made cd__law_made ct__law_made), sl__law_made⟩)
    (c__law_made : PySem.W.codeIn K cd__law_made "_law_made" = true)
    (k__law_made : PySem.W.keepIn K (.ref ff__law_made) = true)
    (a_law : PySem.W.nsIn K mainGlobals "law" = some (some (.ref ff_law)))
    (l_law : K.lookup ff_law = some ⟨oc_law, od_law, .func (PySem.W.fnOf "law" "law" (defArgs s_law) (defBody s_law) (defScope s_law) .none kV_law dc_law pm_law an_law cd_law ct_law), sl_law⟩)
    (c_law : PySem.W.codeIn K cd_law "law" = true)
    (k_law : PySem.W.keepIn K (.ref ff_law) = true)
    (ti_NoPact : PySem.W.typeIn K (.ref ff_NoPact___init__) = some (.type "function"))
    (z_all : PySem.W.nsIn K mainGlobals "all" = some none)
    (z_len : PySem.W.nsIn K mainGlobals "len" = some none)
    (z_enumerate : PySem.W.nsIn K mainGlobals "enumerate" = some none)
    (z_any : PySem.W.nsIn K mainGlobals "any" = some none)
    (z_set : PySem.W.nsIn K mainGlobals "set" = some none)
    (z_list : PySem.W.nsIn K mainGlobals "list" = some none)
    (z_range : PySem.W.nsIn K mainGlobals "range" = some none)
    (z_zip : PySem.W.nsIn K mainGlobals "zip" = some none)
    (z_min : PySem.W.nsIn K mainGlobals "min" = some none)
    (z_tuple : PySem.W.nsIn K mainGlobals "tuple" = some none)
    (z_isinstance : PySem.W.nsIn K mainGlobals "isinstance" = some none)
    (z_ValueError : PySem.W.nsIn K mainGlobals "ValueError" = some none)
    (z_bool : PySem.W.nsIn K mainGlobals "bool" = some none)
    (g_LETTERS : PySem.W.nsIn K mainGlobals "LETTERS" = some (some (.str "abcdefghijklmnopqrstuvwxyz" tt_LETTERS)))
    (g_MOST : PySem.W.nsIn K mainGlobals "MOST" = some (some (.int 8 tt_MOST)))
    (g_MOST_PAIRS : PySem.W.nsIn K mainGlobals "MOST_PAIRS" = some (some (.int 6 tt_MOST_PAIRS)))
    (g_MOST_HELPERS : PySem.W.nsIn K mainGlobals "MOST_HELPERS" = some (some (.int 4 tt_MOST_HELPERS)))
    (g_MOST_TAKES : PySem.W.nsIn K mainGlobals "MOST_TAKES" = some (some (.int 3 tt_MOST_TAKES)))
    (g_MOST_THROWS : PySem.W.nsIn K mainGlobals "MOST_THROWS" = some (some (.int 4 tt_MOST_THROWS)))
    (g_HOWS : PySem.W.nsIn K mainGlobals "HOWS" = some (some (.ref kk_HOWS)))
    (tl_HOWS : K.lookup kk_HOWS = some ⟨.type "tuple", kd_HOWS, .seq #[.str "lent" kt0_HOWS, .str "given" kt1_HOWS] kn_HOWS, ks_HOWS⟩)
    : ∃ a : Ad, Txt K mg a := by
  have F_NoPact___init__ := fun_mk (st := s_NoPact___init__) l_NoPact___init__ c_NoPact___init__ k_NoPact___init__
  have b_NoPact___init__ := F_NoPact___init__.binds (ps := ["self", "at"]) fun _ _ _ _ _ _ us hl => match us, hl with | [_, _], _ => rfl
  have F_is_name := fun_mk (st := s_is_name) l_is_name c_is_name k_is_name
  have b_is_name := F_is_name.binds (ps := ["word"]) fun _ _ _ _ _ _ us hl => match us, hl with | [_], _ => rfl
  have F_Pacts___init__ := fun_mk (st := s_Pacts___init__) l_Pacts___init__ c_Pacts___init__ k_Pacts___init__
  have b_Pacts___init__ := F_Pacts___init__.binds (ps := ["self", "pairs", "helpers"]) fun _ _ _ _ _ _ us hl => match us, hl with | [_, _, _], _ => rfl
  have F_Pacts_fits_pair := fun_mk (st := s_Pacts_fits_pair) l_Pacts_fits_pair c_Pacts_fits_pair k_Pacts_fits_pair
  have b_Pacts_fits_pair := F_Pacts_fits_pair.binds (ps := ["self", "pair"]) fun _ _ _ _ _ _ us hl => match us, hl with | [_, _], _ => rfl
  have F_Pacts_fits_helper := fun_mk (st := s_Pacts_fits_helper) l_Pacts_fits_helper c_Pacts_fits_helper k_Pacts_fits_helper
  have b_Pacts_fits_helper := F_Pacts_fits_helper.binds (ps := ["self", "helper"]) fun _ _ _ _ _ _ us hl => match us, hl with | [_, _], _ => rfl
  have F_Pacts_words_called := fun_mk (st := s_Pacts_words_called) l_Pacts_words_called c_Pacts_words_called k_Pacts_words_called
  have b_Pacts_words_called := F_Pacts_words_called.binds (ps := ["self", "side"]) fun _ _ _ _ _ _ us hl => match us, hl with | [_, _], _ => rfl
  have F_Pacts_pairs := fun_mk (st := s_Pacts_pairs) l_Pacts_pairs c_Pacts_pairs k_Pacts_pairs
  have b_Pacts_pairs := F_Pacts_pairs.binds (ps := ["self"]) fun _ _ _ _ _ _ us hl => match us, hl with | [_], _ => rfl
  have F_Pacts_names := fun_mk (st := s_Pacts_names) l_Pacts_names c_Pacts_names k_Pacts_names
  have b_Pacts_names := F_Pacts_names.binds (ps := ["self", "side"]) fun _ _ _ _ _ _ us hl => match us, hl with | [_, _], _ => rfl
  have F_Pacts_pact := fun_mk (st := s_Pacts_pact) l_Pacts_pact c_Pacts_pact k_Pacts_pact
  have b_Pacts_pact := F_Pacts_pact.binds (ps := ["self", "name"]) fun _ _ _ _ _ _ us hl => match us, hl with | [_, _], _ => rfl
  have F_Pacts___len__ := fun_mk (st := s_Pacts___len__) l_Pacts___len__ c_Pacts___len__ k_Pacts___len__
  have b_Pacts___len__ := F_Pacts___len__.binds (ps := ["self"]) fun _ _ _ _ _ _ us hl => match us, hl with | [_], _ => rfl
  have F__law_box := fun_mk (st := s__law_box) l__law_box c__law_box k__law_box
  have b__law_box := F__law_box.binds (ps := ["_law_script"]) fun _ _ _ _ _ _ us hl => match us, hl with | [_], _ => rfl
  have F__law_mixed := fun_mk (st := s__law_mixed) l__law_mixed c__law_mixed k__law_mixed
  have b__law_mixed := F__law_mixed.binds (ps := ["_law_cell", "_law_k"]) fun _ _ _ _ _ _ us hl => match us, hl with | [_, _], _ => rfl
  have F__law_take := fun_mk (st := s__law_take) l__law_take c__law_take k__law_take
  have b__law_take := F__law_take.binds (ps := ["_law_box_here", "_law_size"]) fun _ _ _ _ _ _ us hl => match us, hl with | [_, _], _ => rfl
  have F__law_name := fun_mk (st := s__law_name) l__law_name c__law_name k__law_name
  have b__law_name := F__law_name.binds (ps := ["_law_box_here"]) fun _ _ _ _ _ _ us hl => match us, hl with | [_], _ => rfl
  have F__law_names := fun_mk (st := s__law_names) l__law_names c__law_names k__law_names
  have b__law_names := F__law_names.binds (ps := ["_law_box_here", "_law_many"]) fun _ _ _ _ _ _ us hl => match us, hl with | [_, _], _ => rfl
  have F__law_pairs := fun_mk (st := s__law_pairs) l__law_pairs c__law_pairs k__law_pairs
  have b__law_pairs := F__law_pairs.binds (ps := ["_law_box_here", "_law_most"]) fun _ _ _ _ _ _ us hl => match us, hl with | [_, _], _ => rfl
  have F__law_some := fun_mk (st := s__law_some) l__law_some c__law_some k__law_some
  have b__law_some := F__law_some.binds (ps := ["_law_box_here", "_law_things", "_law_most"]) fun _ _ _ _ _ _ us hl => match us, hl with | [_, _, _], _ => rfl
  have F__law_helpers := fun_mk (st := s__law_helpers) l__law_helpers c__law_helpers k__law_helpers
  have b__law_helpers := F__law_helpers.binds (ps := ["_law_box_here", "_law_pairs_here"]) fun _ _ _ _ _ _ us hl => match us, hl with | [_, _], _ => rfl
  have F__law_is_name := fun_mk (st := s__law_is_name) l__law_is_name c__law_is_name k__law_is_name
  have b__law_is_name := F__law_is_name.binds (ps := ["_law_word"]) fun _ _ _ _ _ _ us hl => match us, hl with | [_], _ => rfl
  have F__law_pair_fits := fun_mk (st := s__law_pair_fits) l__law_pair_fits c__law_pair_fits k__law_pair_fits
  have b__law_pair_fits := F__law_pair_fits.binds (ps := ["_law_ahead", "_law_pair"]) fun _ _ _ _ _ _ us hl => match us, hl with | [_, _], _ => rfl
  have F__law_helper_fits := fun_mk (st := s__law_helper_fits) l__law_helper_fits c__law_helper_fits k__law_helper_fits
  have b__law_helper_fits := F__law_helper_fits.binds (ps := ["_law_pairs_here", "_law_ahead", "_law_helper"]) fun _ _ _ _ _ _ us hl => match us, hl with | [_, _, _], _ => rfl
  have F__law_first_bad := fun_mk (st := s__law_first_bad) l__law_first_bad c__law_first_bad k__law_first_bad
  have b__law_first_bad := F__law_first_bad.binds (ps := ["_law_pairs_here", "_law_helpers_here"]) fun _ _ _ _ _ _ us hl => match us, hl with | [_, _], _ => rfl
  have F__law_odd_word := fun_mk (st := s__law_odd_word) l__law_odd_word c__law_odd_word k__law_odd_word
  have b__law_odd_word := F__law_odd_word.binds (ps := ["_law_box_here", "_law_words"]) fun _ _ _ _ _ _ us hl => match us, hl with | [_, _], _ => rfl
  have F__law_pair_spoilt := fun_mk (st := s__law_pair_spoilt) l__law_pair_spoilt c__law_pair_spoilt k__law_pair_spoilt
  have b__law_pair_spoilt := F__law_pair_spoilt.binds (ps := ["_law_box_here", "_law_pairs_here"]) fun _ _ _ _ _ _ us hl => match us, hl with | [_, _], _ => rfl
  have F__law_helper_spoilt := fun_mk (st := s__law_helper_spoilt) l__law_helper_spoilt c__law_helper_spoilt k__law_helper_spoilt
  have b__law_helper_spoilt := F__law_helper_spoilt.binds (ps := ["_law_box_here", "_law_pairs_here", "_law_helpers_here"]) fun _ _ _ _ _ _ us hl => match us, hl with | [_, _, _], _ => rfl
  have F__law_made := fun_mk (st := s__law_made) l__law_made c__law_made k__law_made
  have b__law_made := F__law_made.binds (ps := ["_law_pairs_here", "_law_helpers_here"]) fun _ _ _ _ _ _ us hl => match us, hl with | [_, _], _ => rfl
  have F_law := fun_mk (st := s_law) l_law c_law k_law
  have b_law := F_law.binds (ps := ["_law_script"]) fun _ _ _ _ _ _ us hl => match us, hl with | [_], _ => rfl
  exact ⟨⟨kk_HOWS, cc_Pacts, cc_PactError, cc_NoPact, cc_NoText, ff_NoPact___init__, (PySem.W.fnOf "__init__" "NoPact.__init__" (defArgs s_NoPact___init__) (defBody s_NoPact___init__) (defScope s_NoPact___init__) .none kV_NoPact___init__ dc_NoPact___init__ pm_NoPact___init__ an_NoPact___init__ cd_NoPact___init__ ct_NoPact___init__), ff_is_name, (PySem.W.fnOf "is_name" "is_name" (defArgs s_is_name) (defBody s_is_name) (defScope s_is_name) .none kV_is_name dc_is_name pm_is_name an_is_name cd_is_name ct_is_name), ff_Pacts___init__, (PySem.W.fnOf "__init__" "Pacts.__init__" (defArgs s_Pacts___init__) (defBody s_Pacts___init__) (defScope s_Pacts___init__) .none kV_Pacts___init__ dc_Pacts___init__ pm_Pacts___init__ an_Pacts___init__ cd_Pacts___init__ ct_Pacts___init__), ff_Pacts_fits_pair, (PySem.W.fnOf "fits_pair" "Pacts.fits_pair" (defArgs s_Pacts_fits_pair) (defBody s_Pacts_fits_pair) (defScope s_Pacts_fits_pair) .none kV_Pacts_fits_pair dc_Pacts_fits_pair pm_Pacts_fits_pair an_Pacts_fits_pair cd_Pacts_fits_pair ct_Pacts_fits_pair), ff_Pacts_fits_helper, (PySem.W.fnOf "fits_helper" "Pacts.fits_helper" (defArgs s_Pacts_fits_helper) (defBody s_Pacts_fits_helper) (defScope s_Pacts_fits_helper) .none kV_Pacts_fits_helper dc_Pacts_fits_helper pm_Pacts_fits_helper an_Pacts_fits_helper cd_Pacts_fits_helper ct_Pacts_fits_helper), ff_Pacts_words_called, (PySem.W.fnOf "words_called" "Pacts.words_called" (defArgs s_Pacts_words_called) (defBody s_Pacts_words_called) (defScope s_Pacts_words_called) .none kV_Pacts_words_called dc_Pacts_words_called pm_Pacts_words_called an_Pacts_words_called cd_Pacts_words_called ct_Pacts_words_called), ff_Pacts_pairs, (PySem.W.fnOf "pairs" "Pacts.pairs" (defArgs s_Pacts_pairs) (defBody s_Pacts_pairs) (defScope s_Pacts_pairs) .none kV_Pacts_pairs dc_Pacts_pairs pm_Pacts_pairs an_Pacts_pairs cd_Pacts_pairs ct_Pacts_pairs), ff_Pacts_names, (PySem.W.fnOf "names" "Pacts.names" (defArgs s_Pacts_names) (defBody s_Pacts_names) (defScope s_Pacts_names) .none kV_Pacts_names dc_Pacts_names pm_Pacts_names an_Pacts_names cd_Pacts_names ct_Pacts_names), ff_Pacts_pact, (PySem.W.fnOf "pact" "Pacts.pact" (defArgs s_Pacts_pact) (defBody s_Pacts_pact) (defScope s_Pacts_pact) .none kV_Pacts_pact dc_Pacts_pact pm_Pacts_pact an_Pacts_pact cd_Pacts_pact ct_Pacts_pact), ff_Pacts___len__, (PySem.W.fnOf "__len__" "Pacts.__len__" (defArgs s_Pacts___len__) (defBody s_Pacts___len__) (defScope s_Pacts___len__) .none kV_Pacts___len__ dc_Pacts___len__ pm_Pacts___len__ an_Pacts___len__ cd_Pacts___len__ ct_Pacts___len__), ff__law_box, (PySem.W.fnOf "_law_box" "_law_box" (defArgs s__law_box) (defBody s__law_box) (defScope s__law_box) .none kV__law_box dc__law_box pm__law_box an__law_box cd__law_box ct__law_box), ff__law_mixed, (PySem.W.fnOf "_law_mixed" "_law_mixed" (defArgs s__law_mixed) (defBody s__law_mixed) (defScope s__law_mixed) .none kV__law_mixed dc__law_mixed pm__law_mixed an__law_mixed cd__law_mixed ct__law_mixed), ff__law_take, (PySem.W.fnOf "_law_take" "_law_take" (defArgs s__law_take) (defBody s__law_take) (defScope s__law_take) .none kV__law_take dc__law_take pm__law_take an__law_take cd__law_take ct__law_take), ff__law_name, (PySem.W.fnOf "_law_name" "_law_name" (defArgs s__law_name) (defBody s__law_name) (defScope s__law_name) .none kV__law_name dc__law_name pm__law_name an__law_name cd__law_name ct__law_name), ff__law_names, (PySem.W.fnOf "_law_names" "_law_names" (defArgs s__law_names) (defBody s__law_names) (defScope s__law_names) .none kV__law_names dc__law_names pm__law_names an__law_names cd__law_names ct__law_names), ff__law_pairs, (PySem.W.fnOf "_law_pairs" "_law_pairs" (defArgs s__law_pairs) (defBody s__law_pairs) (defScope s__law_pairs) .none kV__law_pairs dc__law_pairs pm__law_pairs an__law_pairs cd__law_pairs ct__law_pairs), ff__law_some, (PySem.W.fnOf "_law_some" "_law_some" (defArgs s__law_some) (defBody s__law_some) (defScope s__law_some) .none kV__law_some dc__law_some pm__law_some an__law_some cd__law_some ct__law_some), ff__law_helpers, (PySem.W.fnOf "_law_helpers" "_law_helpers" (defArgs s__law_helpers) (defBody s__law_helpers) (defScope s__law_helpers) .none kV__law_helpers dc__law_helpers pm__law_helpers an__law_helpers cd__law_helpers ct__law_helpers), ff__law_is_name, (PySem.W.fnOf "_law_is_name" "_law_is_name" (defArgs s__law_is_name) (defBody s__law_is_name) (defScope s__law_is_name) .none kV__law_is_name dc__law_is_name pm__law_is_name an__law_is_name cd__law_is_name ct__law_is_name), ff__law_pair_fits, (PySem.W.fnOf "_law_pair_fits" "_law_pair_fits" (defArgs s__law_pair_fits) (defBody s__law_pair_fits) (defScope s__law_pair_fits) .none kV__law_pair_fits dc__law_pair_fits pm__law_pair_fits an__law_pair_fits cd__law_pair_fits ct__law_pair_fits), ff__law_helper_fits, (PySem.W.fnOf "_law_helper_fits" "_law_helper_fits" (defArgs s__law_helper_fits) (defBody s__law_helper_fits) (defScope s__law_helper_fits) .none kV__law_helper_fits dc__law_helper_fits pm__law_helper_fits an__law_helper_fits cd__law_helper_fits ct__law_helper_fits), ff__law_first_bad, (PySem.W.fnOf "_law_first_bad" "_law_first_bad" (defArgs s__law_first_bad) (defBody s__law_first_bad) (defScope s__law_first_bad) .none kV__law_first_bad dc__law_first_bad pm__law_first_bad an__law_first_bad cd__law_first_bad ct__law_first_bad), ff__law_odd_word, (PySem.W.fnOf "_law_odd_word" "_law_odd_word" (defArgs s__law_odd_word) (defBody s__law_odd_word) (defScope s__law_odd_word) .none kV__law_odd_word dc__law_odd_word pm__law_odd_word an__law_odd_word cd__law_odd_word ct__law_odd_word), ff__law_pair_spoilt, (PySem.W.fnOf "_law_pair_spoilt" "_law_pair_spoilt" (defArgs s__law_pair_spoilt) (defBody s__law_pair_spoilt) (defScope s__law_pair_spoilt) .none kV__law_pair_spoilt dc__law_pair_spoilt pm__law_pair_spoilt an__law_pair_spoilt cd__law_pair_spoilt ct__law_pair_spoilt), ff__law_helper_spoilt, (PySem.W.fnOf "_law_helper_spoilt" "_law_helper_spoilt" (defArgs s__law_helper_spoilt) (defBody s__law_helper_spoilt) (defScope s__law_helper_spoilt) .none kV__law_helper_spoilt dc__law_helper_spoilt pm__law_helper_spoilt an__law_helper_spoilt cd__law_helper_spoilt ct__law_helper_spoilt), ff__law_made, (PySem.W.fnOf "_law_made" "_law_made" (defArgs s__law_made) (defBody s__law_made) (defScope s__law_made) .none kV__law_made dc__law_made pm__law_made an__law_made cd__law_made ct__law_made), ff_law, (PySem.W.fnOf "law" "law" (defArgs s_law) (defBody s_law) (defScope s_law) .none kV_law dc_law pm_law an_law cd_law ct_law)⟩, { m_Pacts := PySem.W.mg_of X G aC_Pacts, cl_Pacts := ⟨pg_Pacts, hd_Pacts, po_Pacts, sa_Pacts⟩, mk_Pacts := ⟨mk_Pacts, a_Pacts___init__, i_Pacts___init__, kc_Pacts⟩, na_Pacts_kept_pairs := na_Pacts_kept_pairs, na_Pacts_kept_pacts := na_Pacts_kept_pacts, m_PactError := PySem.W.mg_of X G aC_PactError, m_NoPact := PySem.W.mg_of X G aC_NoPact, ox_NoPact := ⟨⟨_, _, _, _, _, _, _, _, _, _, _, _, _, _, _, xL_NoPact, rfl⟩, sa_NoPact, bE_NoPact, ty_NoPact, kc_NoPact⟩, xf_NoPact := ⟨ga_NoPact, gg_NoPact, bE_NoPact, hd_NoPact⟩, ec_NoPact := ⟨ga_NoPact, gg_NoPact, bE_NoPact, hd_NoPact, cc__NoPact, sGet, tGet, mo_NoPact⟩, ini_NoPact := a_NoPact___init__, ti_NoPact := ti_NoPact, na_NoPact_at := na_NoPact_at, m_NoText := PySem.W.mg_of X G aC_NoText, ex_NoPact_NoPact := PySem.W.exm_ref bE_NoPact hd_NoPact ty_NoPact su_NoPact_NoPact, ex_NoPact_PactError := PySem.W.exm_ref bE_PactError hd_PactError ty_PactError su_NoPact_PactError, ex_NoPact_NoText := PySem.W.exm_ref bE_NoText hd_NoText ty_NoText su_NoPact_NoText, ex_NoPact_ValueError := su_NoPact_ValueError, F_NoPact___init__ := F_NoPact___init__, b_NoPact___init__ := b_NoPact___init__, m_is_name := PySem.W.mg_of X G a_is_name, F_is_name := F_is_name, b_is_name := b_is_name, F_Pacts___init__ := F_Pacts___init__, b_Pacts___init__ := b_Pacts___init__, mt_Pacts_fits_pair := ⟨a_Pacts_fits_pair, i_Pacts_fits_pair, k_Pacts_fits_pair⟩, F_Pacts_fits_pair := F_Pacts_fits_pair, b_Pacts_fits_pair := b_Pacts_fits_pair, mt_Pacts_fits_helper := ⟨a_Pacts_fits_helper, i_Pacts_fits_helper, k_Pacts_fits_helper⟩, F_Pacts_fits_helper := F_Pacts_fits_helper, b_Pacts_fits_helper := b_Pacts_fits_helper, mt_Pacts_words_called := ⟨a_Pacts_words_called, i_Pacts_words_called, k_Pacts_words_called⟩, F_Pacts_words_called := F_Pacts_words_called, b_Pacts_words_called := b_Pacts_words_called, mt_Pacts_pairs := ⟨a_Pacts_pairs, i_Pacts_pairs, k_Pacts_pairs⟩, F_Pacts_pairs := F_Pacts_pairs, b_Pacts_pairs := b_Pacts_pairs, mt_Pacts_names := ⟨a_Pacts_names, i_Pacts_names, k_Pacts_names⟩, F_Pacts_names := F_Pacts_names, b_Pacts_names := b_Pacts_names, mt_Pacts_pact := ⟨a_Pacts_pact, i_Pacts_pact, k_Pacts_pact⟩, F_Pacts_pact := F_Pacts_pact, b_Pacts_pact := b_Pacts_pact, mt_Pacts___len__ := ⟨a_Pacts___len__, i_Pacts___len__, k_Pacts___len__⟩, F_Pacts___len__ := F_Pacts___len__, b_Pacts___len__ := b_Pacts___len__, m__law_box := PySem.W.mg_of X G a__law_box, F__law_box := F__law_box, b__law_box := b__law_box, m__law_mixed := PySem.W.mg_of X G a__law_mixed, F__law_mixed := F__law_mixed, b__law_mixed := b__law_mixed, m__law_take := PySem.W.mg_of X G a__law_take, F__law_take := F__law_take, b__law_take := b__law_take, m__law_name := PySem.W.mg_of X G a__law_name, F__law_name := F__law_name, b__law_name := b__law_name, m__law_names := PySem.W.mg_of X G a__law_names, F__law_names := F__law_names, b__law_names := b__law_names, m__law_pairs := PySem.W.mg_of X G a__law_pairs, F__law_pairs := F__law_pairs, b__law_pairs := b__law_pairs, m__law_some := PySem.W.mg_of X G a__law_some, F__law_some := F__law_some, b__law_some := b__law_some, m__law_helpers := PySem.W.mg_of X G a__law_helpers, F__law_helpers := F__law_helpers, b__law_helpers := b__law_helpers, m__law_is_name := PySem.W.mg_of X G a__law_is_name, F__law_is_name := F__law_is_name, b__law_is_name := b__law_is_name, m__law_pair_fits := PySem.W.mg_of X G a__law_pair_fits, F__law_pair_fits := F__law_pair_fits, b__law_pair_fits := b__law_pair_fits, m__law_helper_fits := PySem.W.mg_of X G a__law_helper_fits, F__law_helper_fits := F__law_helper_fits, b__law_helper_fits := b__law_helper_fits, m__law_first_bad := PySem.W.mg_of X G a__law_first_bad, F__law_first_bad := F__law_first_bad, b__law_first_bad := b__law_first_bad, m__law_odd_word := PySem.W.mg_of X G a__law_odd_word, F__law_odd_word := F__law_odd_word, b__law_odd_word := b__law_odd_word, m__law_pair_spoilt := PySem.W.mg_of X G a__law_pair_spoilt, F__law_pair_spoilt := F__law_pair_spoilt, b__law_pair_spoilt := b__law_pair_spoilt, m__law_helper_spoilt := PySem.W.mg_of X G a__law_helper_spoilt, F__law_helper_spoilt := F__law_helper_spoilt, b__law_helper_spoilt := b__law_helper_spoilt, m__law_made := PySem.W.mg_of X G a__law_made, F__law_made := F__law_made, b__law_made := b__law_made, m_law := PySem.W.mg_of X G a_law, F_law := F_law, b_law := b_law, z_all := PySem.W.mg_none_of X G z_all, z_len := PySem.W.mg_none_of X G z_len, z_enumerate := PySem.W.mg_none_of X G z_enumerate, z_any := PySem.W.mg_none_of X G z_any, z_set := PySem.W.mg_none_of X G z_set, z_list := PySem.W.mg_none_of X G z_list, z_range := PySem.W.mg_none_of X G z_range, z_zip := PySem.W.mg_none_of X G z_zip, z_min := PySem.W.mg_none_of X G z_min, z_tuple := PySem.W.mg_none_of X G z_tuple, z_isinstance := PySem.W.mg_none_of X G z_isinstance, z_ValueError := PySem.W.mg_none_of X G z_ValueError, z_bool := PySem.W.mg_none_of X G z_bool, g_LETTERS := ⟨_, PySem.W.mg_of X G g_LETTERS⟩, g_MOST := ⟨_, PySem.W.mg_of X G g_MOST⟩, g_MOST_PAIRS := ⟨_, PySem.W.mg_of X G g_MOST_PAIRS⟩, g_MOST_HELPERS := ⟨_, PySem.W.mg_of X G g_MOST_HELPERS⟩, g_MOST_TAKES := ⟨_, PySem.W.mg_of X G g_MOST_TAKES⟩, g_MOST_THROWS := ⟨_, PySem.W.mg_of X G g_MOST_THROWS⟩, g_HOWS := PySem.W.mg_of X G g_HOWS, tp_HOWS := fun H => .inr ⟨_, _, _, tl_HOWS, rfl, rfl, (by show 2 ≤ sizeLine; decide), (.cons ⟨_, rfl⟩ (.cons ⟨_, rfl⟩ .nil))⟩ }⟩
theorem all_end {l : PySem.W.OpenLaw} {w : World} {K : PySem.W.Frag} {h : Heap} {mg : Str → Option Value} {fa : Addr} (X : K.In h) (G : h.Ns mainGlobals mg) (hfa : mg "law" = some (.ref fa)) (hT : ∃ a : Ad, Txt K mg a) :
    ∃ fd : FuncData, (∀ (s : Shared) (v : Value), BindsTo s fd ⟨[v], []⟩ [("_law_script", v)]) ∧ ∀ base : Heap, K.In base → base.Ns mainGlobals mg → FnOk l.prog w K mg base CX0 6 fa fd ["_law_script"] (spLaw K) := by
  obtain ⟨a, T⟩ := hT
  have e := hfa.symm.trans T.m_law
  cases e
  obtain ⟨oc, od, kV, doc, pm, an, cdv, ct, osl, e, lk, hcd⟩ := T.F_law.ex
  refine ⟨a.d_law, fun s v => ?_, fun base _ _ => ok_law T⟩
  rw [e]
  exact .of_eq rfl
theorem walk {l : PySem.W.OpenLaw} {q : Program} {loose : List Str} {XP : (Str → Option Value) → Heap → Prop} {YP : World → Heap → Prop} {d : DefRec} {K : Params → PySem.W.Frag} (hn : l.most = some 63) (hdf : d.params.defaults = [])
    (hY : ∀ (w : World) (h : Heap), YP w h → (K w.params).In h)
    (F : ∀ (w : World) (mg : Str → Option Value) (fa : Addr) (h : Heap), (K w.params).In h → h.Ns mainGlobals mg → mg d.name = some (.ref fa) →
      ∃ fd : FuncData, (∀ (s : Shared) (u : Value), BindsTo s fd ⟨[u], []⟩ [("_law_script", u)]) ∧ ∀ base : Heap, (K w.params).In base → base.Ns mainGlobals mg → FnOk l.prog w (K w.params) mg base CX0 6 fa fd ["_law_script"] (spLaw (K w.params))) :
    PySem.W.WalkO q loose XP YP l.row.toRowW d [] (fun f vs => PySem.call f vs) :=
  L2.walk_of (n := 63) (k := 6) (x := "_law_script") (CX := fun _ => CX0) (sp := fun w => spLaw (K w.params)) hn (by decide) hdf ⟨rfl, by decide, by decide⟩ hY F (fun _ _ a ns hl _ hS => ⟨a, ns, rfl, hS, hl, fun _ => rfl⟩) fun _ _ _ _ _ z => z
end Pf
open PySem PySem.W PyProof.Rows in
set_option maxRecDepth 100000 in
set_option maxHeartbeats 0 in
theorem PySem.Challenge.cw_pactford_k03_pacts_refused_holds : PySem.Challenge.rw_pactford_k03_pacts_refused.Holds := by
  w_on; o_law; k_head; (case hw => w_witness2)
  k_fill
  refine Pf.walk (l := PySem.Challenge.rw_pactford_k03_pacts_refused) rfl rfl (fun w h Y => PySem.W.kIn_of Y) ?F
  case F =>
    intro w mg fa h KX G hmg
    refine' Pf.all_end KX G hmg (Pf.all_mk KX G ?aC_Pacts ?pg_Pacts ?hd_Pacts ?po_Pacts ?sa_Pacts ?mk_Pacts ?kc_Pacts ?na_Pacts_kept_pairs ?na_Pacts_kept_pacts ?aC_PactError ?bE_PactError ?hd_PactError ?ty_PactError ?aC_NoPact ?bE_NoPact ?hd_NoPact ?ty_NoPact ?xL_NoPact ?sa_NoPact ?ga_NoPact ?gg_NoPact ?kc_NoPact ?cc__NoPact ?mo_NoPact ?na_NoPact_at ?aC_NoText ?bE_NoText ?hd_NoText ?ty_NoText ?sGet ?tGet ?su_NoPact_NoPact ?su_NoPact_PactError ?su_NoPact_NoText ?su_NoPact_ValueError ?a_NoPact___init__ ?i_NoPact___init__ ?l_NoPact___init__ ?c_NoPact___init__ ?k_NoPact___init__ ?a_is_name ?l_is_name ?c_is_name ?k_is_name ?a_Pacts___init__ ?i_Pacts___init__ ?l_Pacts___init__ ?c_Pacts___init__ ?k_Pacts___init__ ?a_Pacts_fits_pair ?i_Pacts_fits_pair ?l_Pacts_fits_pair ?c_Pacts_fits_pair ?k_Pacts_fits_pair ?a_Pacts_fits_helper ?i_Pacts_fits_helper ?l_Pacts_fits_helper ?c_Pacts_fits_helper ?k_Pacts_fits_helper ?a_Pacts_words_called ?i_Pacts_words_called ?l_Pacts_words_called ?c_Pacts_words_called ?k_Pacts_words_called ?a_Pacts_pairs ?i_Pacts_pairs ?l_Pacts_pairs ?c_Pacts_pairs ?k_Pacts_pairs ?a_Pacts_names ?i_Pacts_names ?l_Pacts_names ?c_Pacts_names ?k_Pacts_names ?a_Pacts_pact ?i_Pacts_pact ?l_Pacts_pact ?c_Pacts_pact ?k_Pacts_pact ?a_Pacts___len__ ?i_Pacts___len__ ?l_Pacts___len__ ?c_Pacts___len__ ?k_Pacts___len__ ?a__law_box ?l__law_box ?c__law_box ?k__law_box ?a__law_mixed ?l__law_mixed ?c__law_mixed ?k__law_mixed ?a__law_take ?l__law_take ?c__law_take ?k__law_take ?a__law_name ?l__law_name ?c__law_name ?k__law_name ?a__law_names ?l__law_names ?c__law_names ?k__law_names ?a__law_pairs ?l__law_pairs ?c__law_pairs ?k__law_pairs ?a__law_some ?l__law_some ?c__law_some ?k__law_some ?a__law_helpers ?l__law_helpers ?c__law_helpers ?k__law_helpers ?a__law_is_name ?l__law_is_name ?c__law_is_name ?k__law_is_name ?a__law_pair_fits ?l__law_pair_fits ?c__law_pair_fits ?k__law_pair_fits ?a__law_helper_fits ?l__law_helper_fits ?c__law_helper_fits ?k__law_helper_fits ?a__law_first_bad ?l__law_first_bad ?c__law_first_bad ?k__law_first_bad ?a__law_odd_word ?l__law_odd_word ?c__law_odd_word ?k__law_odd_word ?a__law_pair_spoilt ?l__law_pair_spoilt ?c__law_pair_spoilt ?k__law_pair_spoilt ?a__law_helper_spoilt ?l__law_helper_spoilt ?c__law_helper_spoilt ?k__law_helper_spoilt ?a__law_made ?l__law_made ?c__law_made ?k__law_made ?a_law ?l_law ?c_law ?k_law ?ti_NoPact ?z_all ?z_len ?z_enumerate ?z_any ?z_set ?z_list ?z_range ?z_zip ?z_min ?z_tuple ?z_isinstance ?z_ValueError ?z_bool ?g_LETTERS ?g_MOST ?g_MOST_PAIRS ?g_MOST_HELPERS ?g_MOST_TAKES ?g_MOST_THROWS ?g_HOWS ?tl_HOWS)
    (case aC_Pacts => k_is)
    (case pg_Pacts => k_is)
    (case hd_Pacts => k_is)
    (case po_Pacts => k_is)
    (case sa_Pacts => k_is)
    (case mk_Pacts => k_is)
    (case kc_Pacts => k_is)
    (case na_Pacts_kept_pairs => k_is)
    (case na_Pacts_kept_pacts => k_is)
    (case aC_PactError => k_is)
    (case bE_PactError => k_is)
    (case hd_PactError => k_is)
    (case ty_PactError => k_is)
    (case aC_NoPact => k_is)
    (case bE_NoPact => k_is)
    (case hd_NoPact => k_is)
    (case ty_NoPact => k_is)
    (case xL_NoPact => k_is)
    (case sa_NoPact => k_is)
    (case ga_NoPact => k_is)
    (case gg_NoPact => k_is)
    (case kc_NoPact => k_is)
    (case cc__NoPact => k_is)
    (case mo_NoPact => k_is)
    (case na_NoPact_at => k_is)
    (case aC_NoText => k_is)
    (case bE_NoText => k_is)
    (case hd_NoText => k_is)
    (case ty_NoText => k_is)
    (case sGet => k_is)
    (case tGet => k_is)
    (case su_NoPact_NoPact => first | rfl | k_is)
    (case su_NoPact_PactError => first | rfl | k_is)
    (case su_NoPact_NoText => first | rfl | k_is)
    (case su_NoPact_ValueError => first | rfl | k_is)
    (case a_NoPact___init__ => k_is)
    (case i_NoPact___init__ => k_is)
    (case l_NoPact___init__ => k_is)
    (case c_NoPact___init__ => k_is)
    (case k_NoPact___init__ => k_is)
    (case a_is_name => k_is)
    (case l_is_name => k_is)
    (case c_is_name => k_is)
    (case k_is_name => k_is)
    (case a_Pacts___init__ => k_is)
    (case i_Pacts___init__ => k_is)
    (case l_Pacts___init__ => k_is)
    (case c_Pacts___init__ => k_is)
    (case k_Pacts___init__ => k_is)
    (case a_Pacts_fits_pair => k_is)
    (case i_Pacts_fits_pair => k_is)
    (case l_Pacts_fits_pair => k_is)
    (case c_Pacts_fits_pair => k_is)
    (case k_Pacts_fits_pair => k_is)
    (case a_Pacts_fits_helper => k_is)
    (case i_Pacts_fits_helper => k_is)
    (case l_Pacts_fits_helper => k_is)
    (case c_Pacts_fits_helper => k_is)
    (case k_Pacts_fits_helper => k_is)
    (case a_Pacts_words_called => k_is)
    (case i_Pacts_words_called => k_is)
    (case l_Pacts_words_called => k_is)
    (case c_Pacts_words_called => k_is)
    (case k_Pacts_words_called => k_is)
    (case a_Pacts_pairs => k_is)
    (case i_Pacts_pairs => k_is)
    (case l_Pacts_pairs => k_is)
    (case c_Pacts_pairs => k_is)
    (case k_Pacts_pairs => k_is)
    (case a_Pacts_names => k_is)
    (case i_Pacts_names => k_is)
    (case l_Pacts_names => k_is)
    (case c_Pacts_names => k_is)
    (case k_Pacts_names => k_is)
    (case a_Pacts_pact => k_is)
    (case i_Pacts_pact => k_is)
    (case l_Pacts_pact => k_is)
    (case c_Pacts_pact => k_is)
    (case k_Pacts_pact => k_is)
    (case a_Pacts___len__ => k_is)
    (case i_Pacts___len__ => k_is)
    (case l_Pacts___len__ => k_is)
    (case c_Pacts___len__ => k_is)
    (case k_Pacts___len__ => k_is)
    (case a__law_box => k_is)
    (case l__law_box => k_is)
    (case c__law_box => k_is)
    (case k__law_box => k_is)
    (case a__law_mixed => k_is)
    (case l__law_mixed => k_is)
    (case c__law_mixed => k_is)
    (case k__law_mixed => k_is)
    (case a__law_take => k_is)
    (case l__law_take => k_is)
    (case c__law_take => k_is)
    (case k__law_take => k_is)
    (case a__law_name => k_is)
    (case l__law_name => k_is)
    (case c__law_name => k_is)
    (case k__law_name => k_is)
    (case a__law_names => k_is)
    (case l__law_names => k_is)
    (case c__law_names => k_is)
    (case k__law_names => k_is)
    (case a__law_pairs => k_is)
    (case l__law_pairs => k_is)
    (case c__law_pairs => k_is)
    (case k__law_pairs => k_is)
    (case a__law_some => k_is)
    (case l__law_some => k_is)
    (case c__law_some => k_is)
    (case k__law_some => k_is)
    (case a__law_helpers => k_is)
    (case l__law_helpers => k_is)
    (case c__law_helpers => k_is)
    (case k__law_helpers => k_is)
    (case a__law_is_name => k_is)
    (case l__law_is_name => k_is)
    (case c__law_is_name => k_is)
    (case k__law_is_name => k_is)
    (case a__law_pair_fits => k_is)
    (case l__law_pair_fits => k_is)
    (case c__law_pair_fits => k_is)
    (case k__law_pair_fits => k_is)
    (case a__law_helper_fits => k_is)
    (case l__law_helper_fits => k_is)
    (case c__law_helper_fits => k_is)
    (case k__law_helper_fits => k_is)
    (case a__law_first_bad => k_is)
    (case l__law_first_bad => k_is)
    (case c__law_first_bad => k_is)
    (case k__law_first_bad => k_is)
    (case a__law_odd_word => k_is)
    (case l__law_odd_word => k_is)
    (case c__law_odd_word => k_is)
    (case k__law_odd_word => k_is)
    (case a__law_pair_spoilt => k_is)
    (case l__law_pair_spoilt => k_is)
    (case c__law_pair_spoilt => k_is)
    (case k__law_pair_spoilt => k_is)
    (case a__law_helper_spoilt => k_is)
    (case l__law_helper_spoilt => k_is)
    (case c__law_helper_spoilt => k_is)
    (case k__law_helper_spoilt => k_is)
    (case a__law_made => k_is)
    (case l__law_made => k_is)
    (case c__law_made => k_is)
    (case k__law_made => k_is)
    (case a_law => k_is)
    (case l_law => k_is)
    (case c_law => k_is)
    (case k_law => k_is)
    (case ti_NoPact => k_is)
    (case z_all => k_is)
    (case z_len => k_is)
    (case z_enumerate => k_is)
    (case z_any => k_is)
    (case z_set => k_is)
    (case z_list => k_is)
    (case z_range => k_is)
    (case z_zip => k_is)
    (case z_min => k_is)
    (case z_tuple => k_is)
    (case z_isinstance => k_is)
    (case z_ValueError => k_is)
    (case z_bool => k_is)
    (case g_LETTERS => k_is)
    (case g_MOST => k_is)
    (case g_MOST_PAIRS => k_is)
    (case g_MOST_HELPERS => k_is)
    (case g_MOST_TAKES => k_is)
    (case g_MOST_THROWS => k_is)
    (case g_HOWS => k_is)
    (case tl_HOWS => k_is)
