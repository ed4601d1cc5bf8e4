import PyProof.Rows.All
import Wide.All
import OpenK.AllK
import Wide.FinOn
import HandS.ForMost
import HandS.NoneIn
import HandS.More
import HandS.SortInts
import HandS.Wide
import HandS.IsInst
import HandS.EndBits
import HandS.TupAny
import HandS.Walk
import HandS.ForExc
import HandS.TryMany
import HandS.ExcInit
import HandS.ExcField
import HandS.ExcIs
import HandS.TupSets
import HandS.SortOrd
import PySem.Challenge.RW_pactford_k08_whole_handles_never_again
set_option Elab.async false
set_option linter.all false
set_option maxRecDepth 100000
set_option maxHeartbeats 4000000
/-! Rules that the hand layer lacks, for these programs. -/
namespace L2
open PySem PySem.Spec PyProof.Rows
section
variable {X : Cx}
theorem get_list : PGet X (rIxL X.K) := by
  intro pins s σ H x y v u Q I rx ry h
  obtain ⟨p, xs, i, z, rfl, rfl, hq, he, q⟩ := h
  cases rx
  obtain ⟨t, rfl⟩ := ry
  obtain ⟨its, r, pl, hz⟩ := I.list hq
  obtain ⟨j, h1, h2, h3, h4, h5⟩ := atI_get he
  obtain ⟨w, ew, rw'⟩ := r.get h2
  have hl := r.length
  have hn := line63
  have fin : EP X pins σ Q w s := ⟨z, H, I, rw', q⟩
  by_cases h0 : 0 ≤ i
  · have hj : i.toNat = j := by
      rw [seqIndex_of h0 h5] at h1
      exact Option.some.inj h1
    exact wpAny_getItem_list pl.isList h0 (by omega) (by rw [hj]; simpa using ew) fin
  · have hj : (i + (its.toArray.size : Int)).toNat = j := by
      rw [seqIndex_neg (by omega) h4] at h1
      rw [List.size_toArray, ← hl]
      exact Option.some.inj h1
    exact wpAny_getItem_list_neg pl.isList (by omega) (by rw [List.size_toArray] <;> omega) (by omega) (by rw [hj]; simpa using ew) fin
end
section
variable {X : Cx} {CX : CXT} {k : Nat} {f C : Addr} {fd : FuncData} {ps ks : List Str} {sp : Sp} {E : XK} {x m : Str} {p pos apos kpos : Pos} {e o : Expr} {es : List Expr} {kws : List Keyword} {te ta : TE} {t tk : TA} {nm : Option Str}
variable {g : List Value → List Value → List Value} {gV : List V → List V → List V}
/-- o.m(.., k = v, ..) -/
def tMethK (C : Addr) (m : Str) (sp : Sp) (gV : List V → List V → List V) (E : XK) (ta : TE) (t tk : TA) : TE := fun σ H Q => ta σ H fun x H1 => ∃ a dx fs, x = .ref a ∧ H1 a = some (.ins C dx fs) ∧ fs.lookup m = none ∧
  t σ H1 fun vs H2 => tk σ H2 fun zs H3 => sp (gV (x :: vs) zs) H3 Q E
theorem pe_methK0 {pl : Sem Bool} (he : PE X o ta) (c : Cls X.K C) (hm : Meth X.K C m f) (F : FnOk X.prog X.w X.K X.mg X.base CX k f fd ps sp) (hr : Room k X.A) (hb : KBinds X.K fd ps ks g gV) (hx : Passes CX X E) (hkw : PK X kws tk)
    (hall : (backToKw pos (keywordEach kws X.env)).all (·.1.isSome) = true := by rfl) (hks : (backToKw pos (keywordEach kws X.env)).filterMap (·.1) = ks := by rfl)
    (hpl : ((backTo pos (starEach [] X.env)).any (·.1) || (backToKw pos (keywordEach kws X.env)).any (·.1.isNone)) = false := by rfl)
    (ht : eval (.Call (.Attribute o m apos) [] kws pos) X.env = (do
      let ov ← eval o X.env
      standAt apos.atName
      let (f, first) ← holding [ov] (getMethod ov m pl)
      callWith pos f first (backTo pos (starEach [] X.env)) (backToKw pos (keywordEach kws X.env))) := by rfl) :
    PE X (.Call (.Attribute o m apos) [] kws pos) (tMethK C m sp gV E ta tNil tk) := by
  refine ⟨fun pins s σ H Q I h => ?_⟩
  refine PySem.W.methodCall_KW (pl := pl) (thn (he.run pins s σ H _ I h) fun u s1 ⟨x, H1, I1, rx, a, dx, fs, ex, ea, l, q⟩ => ?_) ht
  subst ex
  obtain rfl : u = Value.ref a := rx
  refine getmeth_ok I1 ea c hm l ?_
  refine PySem.W.callWith_KW0 (first := [.ref a]) (h₀ := X.base) I.ok.mod.kin hm.kp hall (thn (hkw.run pos pins s1 σ H1 _ I1 q) fun ws s2 ⟨zs, H2, I2, rz, q2⟩ => ⟨I2.kIn, ?_⟩) hpl
  rw [hks]
  exact run_fnk (us := [.ref a]) (vs := [.ref a]) F hr hb hx I2 (.cons rfl .nil) rz q2
theorem pe_methK {pl : Sem Bool} (he : PE X o ta) (c : Cls X.K C) (hm : Meth X.K C m f) (F : FnOk X.prog X.w X.K X.mg X.base CX k f fd ps sp) (hr : Room k X.A) (hb : KBinds X.K fd ps ks g gV) (hx : Passes CX X E) (ha : PA X (e :: es) t) (hkw : PK X kws tk)
    (hall : (backToKw pos (keywordEach kws X.env)).all (·.1.isSome) = true := by rfl) (hks : (backToKw pos (keywordEach kws X.env)).filterMap (·.1) = ks := by rfl)
    (hst : starEach (e :: es) X.env = (false, eval e X.env) :: starEach es X.env := by rfl)
    (hpl : ((backTo pos (starEach (e :: es) X.env)).any (·.1) || (backToKw pos (keywordEach kws X.env)).any (·.1.isNone)) = false := by rfl)
    (ht : eval (.Call (.Attribute o m apos) (e :: es) kws pos) X.env = (do
      let ov ← eval o X.env
      standAt apos.atName
      let (f, first) ← holding [ov] (getMethod ov m pl)
      callWith pos f first (backTo pos (starEach (e :: es) X.env)) (backToKw pos (keywordEach kws X.env))) := by rfl) :
    PE X (.Call (.Attribute o m apos) (e :: es) kws pos) (tMethK C m sp gV E ta t tk) := by
  refine ⟨fun pins s σ H Q I h => ?_⟩
  refine PySem.W.methodCall_KW (pl := pl) (thn (he.run pins s σ H _ I h) fun u s1 ⟨x, H1, I1, rx, a, dx, fs, ex, ea, l, q⟩ => ?_) ht
  subst ex
  obtain rfl : u = Value.ref a := rx
  refine getmeth_ok I1 ea c hm l ?_
  refine PySem.W.callWith_KW (first := [.ref a]) (h₀ := X.base) I.ok.mod.kin hm.kp hall (thn (ha.run pos pins s1 σ H1 _ I1 q) fun us s2 ⟨vs, H2, I2, r, q2⟩ => ?_) hpl hst
  refine thn (hkw.run pos pins s2 σ H2 _ I2 q2) fun ws s3 ⟨zs, H3, I3, rz, q3⟩ => ⟨I3.kIn, ?_⟩
  rw [hks]
  exact run_fnk (us := .ref a :: us) (vs := .ref a :: vs) F hr hb hx I3 (.cons rfl r) rz q3
/-- len(o) by an own __len__ -/
theorem call_lenO (hm : Meth X.K C "__len__" f) (F : FnOk X.prog X.w X.K X.mg X.base CX k f fd ps sp) (hr : Room (k + 1) X.A) (hb : Binds X.K fd ps []) (hx : Passes CX X E) :
    CallR X (.builtin "len") (fun xs H Q => ∃ a dx fs, xs = [V.ref a] ∧ H a = some (.ins C dx fs) ∧ sp [.ref a] H (fun v H2 => ∃ n : Int, v = .int n ∧ 0 ≤ n ∧ n < 2 ^ 63 ∧ Q (.int n) H2) E) := by
  intro pins s σ H xs us Q I r h
  obtain ⟨a, dx, fs, rfl, ea, q⟩ := h
  obtain ⟨u, rfl, ru⟩ := vals1 r
  cases ru
  obtain ⟨m', hF⟩ := I.fr
  obtain ⟨mA, O, _, _, _, _⟩ := ins_get I.hok ea
  obtain ⟨od, J, _⟩ := O.look
  have hl : ([Value.ref a] ++ ([] : List Value)).length = ps.length := by
    have := F.len _ _ _ _ q
    simpa using this
  refine PySem.W.len_K hF I.ok.mod.kin J hm.at_ hm.fn (wpAny_call (codeAny_mono (F.run X.A.in1 X.stack s H ⟨[.ref a], []⟩ [.ref a] [.ref a] _ E hr.in1 I.env0.in1 (hb s [.ref a] I.kIn hl) (.cons rfl .nil) q) fun r s' hq => ?_))
  cases r with
  | error e => exact hx pins σ H s e s' I hq
  | ok fl =>
    cases fl with
    | ret u =>
      obtain ⟨v, H', I', rv, n, rfl, h0, h1, q'⟩ := I.after hq
      obtain ⟨t, rfl⟩ := rv
      exact ⟨⟨h0, h1⟩, .int n, H', I'.tok _, ⟨_, rfl⟩, q'⟩
    | next => exact False.elim hq
    | brk => exact False.elim hq
    | cont => exact False.elim hq
end
section
variable {X : Cx}
/-- the keys that were gathered are these ints -/
theorem gathered {P : Program} {w : World} {vs : List (Key × Value)} {acc : Array Value} {ks : List Int} (hk : vs.map (·.1) = ks.map Sum.inl) (hn : acc.size = vs.length)
    (ha : ∀ (j : Nat) (v : Value), acc[j]? = some v → ∃ k x, vs[j]? = some (k, x) ∧ (mixKind P w).is k v = true) : IntsAre acc.toList ks := by
  have hlk : vs.length = ks.length := by simpa using congrArg List.length hk
  refine ints_each (by rw [Array.length_toList, hn, hlk]) fun j v ev => ?_
  obtain ⟨k, x, hv, hi⟩ := ha j v (by rw [← Array.getElem?_toList]; exact ev)
  have hj : (ks.map (Sum.inl : Int → Key))[j]? = some k := by rw [← hk, List.getElem?_map, hv]; rfl
  rw [List.getElem?_map] at hj
  cases hz : ks[j]? with
  | none => rw [hz] at hj; cases hj
  | some n =>
    rw [hz] at hj
    cases hj
    rcases keyIs_shape (show keyIs (Sum.inl n) v = true from hi) with ⟨i, t, hl, hr⟩ | ⟨z, t, hl, _⟩
    · cases hl
      exact ⟨n, t, rfl, hr⟩
    · cases hl
/-- sorted(d) of a dict whose keys are ints, any number -/
def rSortD : List V → Hp → VK → Prop := fun xs H Q => ∃ (d : Addr) (kvs : List (Key × V)) (ks : List Int), xs = [.ref d] ∧ Rd H d (.dK kvs) ∧ kvs.map (·.1) = ks.map Sum.inl ∧
  ∀ (ys : List Int) (l : Addr), ys.Perm ks → ys.Pairwise (· ≤ ·) → H l = none → Q (.ref l) (upd H l (.lst (ys.map V.int)))
theorem call_sortedDX (hcalm : X.calm = true) : CallR X (.builtin "sorted") rSortD := by
  intro pins s σ H xs us Q I r h
  obtain ⟨d, kvs, ks, rfl, hd, hks, q⟩ := h
  obtain ⟨u, rfl, ru⟩ := vals1 r
  cases ru
  obtain ⟨hsz, hmod, vs, hkv, hD⟩ := dk_rd I.hok hd
  obtain ⟨ep, hat⟩ := hD.dictAt
  have hvk : vs.map (·.1) = ks.map Sum.inl := hkv.keys.symm.trans hks
  have hvl : vs.length = kvs.length := by
    have e1 : vs.length = ks.length := by simpa using congrArg List.length hvk
    have e2 : kvs.length = ks.length := by simpa using congrArg List.length hks
    omega
  have hvs : vs.length ≤ sizeLine := hvl ▸ hsz
  refine Calls.call_function_entry kind_sorted plain_sorted entry_sorted (args_sorted1 _) ?_
  unfold Builtin.«sorted»
  refine wpAny_bind (m := checkCount "sorted" 1 1 _) (wpAny_pure (wpAny_bind ?_))
  refine PySem.W.kdu_collect (A := X.A.in1) (PySem.W.kdl_dict (knd := mixKind X.prog X.w) (kvs := vs) (ep := ep) hmod) (I.ok.hd hcalm) hat hvs fun hp tk acc hold hacc => ?_
  have J : Inv X pins σ H { s with heap := hp, toks := tk } := I.kept hold
  have hint : IntsAre acc.toList ks := gathered hvk hacc.1 hacc.2
  have hal : acc.toList.length ≤ sizeLine := by rw [Array.length_toList, hacc.1]; exact hvs
  refine wpAny_bind (wpAny_newList ?_ hal)
  have hnew : (hp.push (seqObj "list" acc.toList.toArray 0)).get? hp.objs.size = some (seqObj "list" acc.toList.toArray 0) := Heap.get?_push_size _ rfl
  show wpAny _ _ _ _ _ (Shared.mk (hp.push (seqObj "list" acc.toList.toArray 0)) s.gens s.drawn tk s.os)
  refine wpAny_bind (wpAny_holding (wpAny_call_entry slot_list_sort ⟨_, hnew, rfl⟩ entry_list_sort ?_ (args_list_sort _)))
  refine SrtO.list_sort_ord (s := Shared.mk (hp.push (seqObj "list" acc.toList.toArray 0)) s.gens s.drawn tk s.os) SrtO.swo_int hnew hal (fun h2 => SrtO.ints_sortable hint h2) fun out h1 h2 => ⟨_, rfl, ?_⟩
  obtain ⟨k1, k2, k3⟩ := SrtO.ints_out hint h1 h2
  obtain ⟨e', he'⟩ := sortedHeap_at (vs := acc.toList) (out := out.toArray) hnew
  have hol : ((out.map SrtO.iv).map V.int).length ≤ sizeLine := by
    have : ks.length = vs.length := by simpa using (congrArg List.length hvk).symm
    rw [List.length_map, k2.length_eq, this]
    exact hvs
  refine wpAny_pure ⟨_, rfl, .ref hp.objs.size, upd H hp.objs.size (.lst ((out.map SrtO.iv).map V.int)), ?_, rfl, q _ _ k2 k3 (J.hok.fresh (Nat.le_refl _))⟩
  refine J.laid (t' := tk) (fun b u e => ?_) (Nat.le_refl _) (show ObjOk X.prog X.w _ _ _ (.lst ((out.map SrtO.iv).map V.int)) from ⟨hol, out, e', vals_of_ints k1, he'⟩)
  have hb : b < hp.objs.size := Heap.lt_size e
  rw [sortedHeap_old (Nat.ne_of_lt hb) (by rw [size_push']; exact Nat.lt_succ_of_lt hb)]
  exact Heap.get?_push_of_some _ e
end
section
variable {X : Cx}
/-- a statement, then the rest, with a word between them -/
@[irreducible] def tMid (t u : TS) : TS := fun D σ H => ∃ Mid : St → Hp → Prop, t { D with nx := Mid } σ H ∧ ∀ σ' H', Mid σ' H' → u D σ' H'
theorem pss_mid {st : Stmt} {rest : List Stmt} {t u : TS} (h1 : PS X st t) (h2 : PSs X rest u) : PSs X (st :: rest) (tMid t u) := by
  refine ⟨fun pins s σ H D I h => ?_⟩
  unfold tMid at h
  obtain ⟨Mid, hm, hu⟩ := h
  refine wpAny_execs_cons (thn (h1.run pins s σ H { D with nx := Mid } I hm) fun f s1 q => ?_)
  cases f with
  | next =>
    obtain ⟨σ', H', I', q⟩ := q
    exact h2.run pins s1 σ' H' D I' (hu σ' H' q)
  | ret v => exact q
  | brk => exact q
  | cont => exact q
end
/-- what the walk doesn't look into -/
@[irreducible] def Wait (p : Prop) : Prop := p
theorem wait {p : Prop} (h : p) : Wait p := by
  unfold Wait
  exact h
theorem Wait.out {p : Prop} (h : Wait p) : p := by
  unfold Wait at h
  exact h
theorem mid_of {t u : TS} {D : Ends} {σ : St} {H : Hp} (Mid : St → Hp → Prop) (h1 : t { D with nx := fun σ H => Wait (Mid σ H) } σ H) (h2 : ∀ σ' H', Mid σ' H' → u D σ' H') : tMid t u D σ H := by
  unfold tMid
  exact ⟨fun σ H => Wait (Mid σ H), h1, fun σ' H' h => h2 σ' H' h.out⟩
/-- a loop: the walk stops ahead of it -/
@[irreducible] def tStop (t : TS) : TS := t
theorem ps_stop {X : Cx} {st : Stmt} {t : TS} (h : PS X st t) : PS X st (tStop t) := by
  unfold tStop
  exact h
theorem stop_in {t : TS} {D : Ends} {σ : St} {H : Hp} (h : t D σ H) : tStop t D σ H := by
  unfold tStop
  exact h
theorem sq_seq {t u : TS} {D : Ends} {σ : St} {H : Hp} (h : t { D with nx := u D } σ H) : tSeq t u D σ H := h
theorem ifT {c : Bool} {A B : Prop} (hc : c = true) (h : A) : if c = true then A else B := by rw [if_pos hc]; exact h
theorem ifF {c : Bool} {A B : Prop} (hc : c = false) (h : B) : if c = true then A else B := by rw [hc, if_neg Bool.false_ne_true]; exact h
theorem ifD {p : Prop} [Decidable p] {A B : Prop} (h1 : p → A) (h2 : ¬ p → B) : if decide p = true then A else B := by
  by_cases h : p
  · rw [if_pos (decide_eq_true h)]; exact h1 h
  · rw [if_neg (by rw [decide_eq_false h]; exact Bool.false_ne_true)]; exact h2 h
theorem ifN {p : Prop} [Decidable p] {A B : Prop} (h1 : ¬ p → A) (h2 : p → B) : if (!decide p) = true then A else B := by
  by_cases h : p
  · rw [decide_eq_true h, if_neg (by decide)]; exact h2 h
  · rw [decide_eq_false h, if_pos (by decide)]; exact h1 h
theorem ifB {c : Bool} {A B : Prop} (h1 : c = true → A) (h2 : c = false → B) : if c = true then A else B := by
  cases c with
  | true => rw [if_pos rfl]; exact h1 rfl
  | false => rw [if_neg Bool.false_ne_true]; exact h2 rfl
theorem upd_get {H : Hp} {a b : Addr} {o : HO} {u : Option HO} (h : b ≠ a) (e : H b = u) : upd H a o b = u := (upd_ne h).trans e
theorem fmod_pos {i j : Int} (h : 0 < j) : 0 ≤ i.fmod j ∧ i.fmod j < j := ⟨Int.fmod_nonneg_of_pos _ h, Int.fmod_lt_of_pos _ h⟩
theorem atI_in {α : Type} {xs : List α} {i : Int} (h0 : 0 ≤ i) (h1 : i < (xs.length : Int)) : ∃ v, atI xs i = some v ∧ xs[i.toNat]? = some v := by
  obtain ⟨j, rfl⟩ : ∃ j : Nat, i = (j : Int) := ⟨i.toNat, by omega⟩
  have hj : j < xs.length := by omega
  have e : xs[j]? = some xs[j] := List.getElem?_eq_getElem hj
  exact ⟨_, atI_nat e, by rw [Int.toNat_natCast]; exact e⟩
theorem atI_ints {ns : List Int} {i : Int} (h0 : 0 ≤ i) (h1 : i < (ns.length : Int)) : ∃ z, atI (ns.map V.int) i = some (.int z) ∧ ns[i.toNat]? = some z := by
  obtain ⟨v, e1, e2⟩ := atI_in (xs := ns.map V.int) h0 (by rw [List.length_map]; exact h1)
  rw [List.getElem?_map] at e2
  cases e : ns[i.toNat]? with
  | none => rw [e] at e2; cases e2
  | some z =>
    rw [e] at e2
    cases e2
    exact ⟨z, e1, rfl⟩
/-- a while by a word that bears its own measure -/
theorem while_W {c : TT} {tb : TS} {D : Ends} {σ : St} {H : Hp} (W : Nat → St → Hp → Prop) (m : Nat) (h0 : W m σ H)
    (hs : ∀ m σ H, W m σ H → c σ H fun b H1 => if b = true then ∃ N : St → Hp → Prop, (∀ σ' H', N σ' H' → ∃ m', m' < m ∧ W m' σ' H') ∧ tb { D with nx := N, ct := N, bk := D.nx } σ H1 else D.nx σ H1) : tStop (tWhile c tb) D σ H :=
  stop_in ⟨W, ⟨m, h0⟩, hs⟩
theorem next_W {tb : TS} {D : Ends} {σ : St} {H : Hp} {W : Nat → St → Hp → Prop} {m : Nat}
    (h : tb { D with nx := fun σ' H' => Wait (∃ m', m' < m ∧ W m' σ' H'), ct := fun σ' H' => Wait (∃ m', m' < m ∧ W m' σ' H'), bk := D.nx } σ H) :
    ∃ N : St → Hp → Prop, (∀ σ' H', N σ' H' → ∃ m', m' < m ∧ W m' σ' H') ∧ tb { D with nx := N, ct := N, bk := D.nx } σ H := ⟨_, fun _ _ h => h.out, h⟩
theorem forL {K : PySem.W.Frag} {a : Addr} {xs : List V} {g : TG} {tb : TS} {D : Ends} {σ : St} {H : Hp} (Pv : Nat → St → Hp → Prop) (h0 : Pv 0 σ H) (hl : ∀ i σ H, i ≤ xs.length → Pv i σ H → SqL K H a xs)
    (hs : ∀ i x σ H, xs[i]? = some x → Pv i σ H → g x σ H fun σ2 H2 => tb { D with nx := fun σ H => Wait (Pv (i + 1) σ H), ct := fun σ H => Wait (Pv (i + 1) σ H), bk := D.nx } σ2 H2) (hd : ∀ σ H, Pv xs.length σ H → D.nx σ H) :
    ∃ W : Nat → Nat → St → Hp → Prop, (∃ m, W 0 m σ H) ∧ ∀ i m σ H, W i m σ H →
      ((Itl K a).stop i H ∧ D.nx σ H) ∨ ((Itl K a).go i H ∧ ∃ N : St → Hp → Prop, (∀ σ' H', N σ' H' → ∃ m', m' < m ∧ W (i + 1) m' σ' H') ∧ ∀ x H', (Itl K a).yld i H x H' → g x σ H' fun σ2 H2 => tb { D with nx := N, ct := N, bk := D.nx } σ2 H2) :=
  for_list (fun i σ H => Wait (Pv i σ H)) (wait h0) (fun i σ H hi p => hl i σ H hi p.out) (fun i x σ H hx p => hs i x σ H hx p.out) fun σ H p => hd σ H p.out
theorem forT {K : PySem.W.Frag} {a : Addr} {xs : List V} {g : TG} {tb : TS} {D : Ends} {σ : St} {H : Hp} (Pv : Nat → St → Hp → Prop) (h0 : Pv 0 σ H) (hl : ∀ i σ H, i ≤ xs.length → Pv i σ H → SqT K H a xs)
    (hs : ∀ i x σ H, xs[i]? = some x → Pv i σ H → g x σ H fun σ2 H2 => tb { D with nx := fun σ H => Wait (Pv (i + 1) σ H), ct := fun σ H => Wait (Pv (i + 1) σ H), bk := D.nx } σ2 H2) (hd : ∀ σ H, Pv xs.length σ H → D.nx σ H) :
    ∃ W : Nat → Nat → St → Hp → Prop, (∃ m, W 0 m σ H) ∧ ∀ i m σ H, W i m σ H →
      ((Itt K a).stop i H ∧ D.nx σ H) ∨ ((Itt K a).go i H ∧ ∃ N : St → Hp → Prop, (∀ σ' H', N σ' H' → ∃ m', m' < m ∧ W (i + 1) m' σ' H') ∧ ∀ x H', (Itt K a).yld i H x H' → g x σ H' fun σ2 H2 => tb { D with nx := N, ct := N, bk := D.nx } σ2 H2) :=
  for_tup (fun i σ H => Wait (Pv i σ H)) (wait h0) (fun i σ H hi p => hl i σ H hi p.out) (fun i x σ H hx p => hs i x σ H hx p.out) fun σ H p => hd σ H p.out
theorem forR {lo : Int} {n : Nat} {g : TG} {tb : TS} {D : Ends} {σ : St} {H : Hp} (Pv : Nat → St → Hp → Prop) (h0 : Pv 0 σ H)
    (hs : ∀ i σ H, i < n → Pv i σ H → g (.int (lo + i)) σ H fun σ2 H2 => tb { D with nx := fun σ H => Wait (Pv (i + 1) σ H), ct := fun σ H => Wait (Pv (i + 1) σ H), bk := D.nx } σ2 H2) (hd : ∀ σ H, Pv n σ H → D.nx σ H) :
    ∃ W : Nat → Nat → St → Hp → Prop, (∃ m, W 0 m σ H) ∧ ∀ i m σ H, W i m σ H →
      ((Itr lo n).stop i H ∧ D.nx σ H) ∨ ((Itr lo n).go i H ∧ ∃ N : St → Hp → Prop, (∀ σ' H', N σ' H' → ∃ m', m' < m ∧ W (i + 1) m' σ' H') ∧ ∀ x H', (Itr lo n).yld i H x H' → g x σ H' fun σ2 H2 => tb { D with nx := N, ct := N, bk := D.nx } σ2 H2) :=
  for_range (fun i σ H => Wait (Pv i σ H)) (wait h0) (fun i σ H hi p => hs i σ H hi p.out) fun σ H p => hd σ H p.out
theorem lcL {K : PySem.W.Frag} {a : Addr} {xs : List V} {g : TG} {tt : TT} {te : TE} {vs : List Nat} {σ : St} {H1 : Hp} {D : Addr} {Qd : Hp → Prop} (Pv : Nat → Hp → Prop) (h0 : Pv 0 (upd H1 D (.lst []))) (hl : ∀ i H, i ≤ xs.length → Pv i H → SqL K H a xs)
    (hs : ∀ i x H, xs[i]? = some x → Pv i H → g x (wipe σ vs) H fun σ2 H2 => wipe σ2 vs = wipe σ vs ∧ tt σ2 H2 fun b H3 =>
      if b = true then te σ2 H3 fun y H4 => ∃ acc, H4 D = some (.lst acc) ∧ acc.length < sizeLine ∧ Wait (Pv (i + 1) (upd H4 D (.lst (acc ++ [y])))) else Wait (Pv (i + 1) H3)) (hd : ∀ H, Pv xs.length H → Qd H) :
    ∃ W : Nat → Nat → Hp → Prop, (∃ m, W 0 m (upd H1 D (.lst []))) ∧ ∀ i m H, W i m H →
      ((Itl K a).stop i H ∧ Qd H) ∨ ((Itl K a).go i H ∧ ∃ Nx : Hp → Prop, (∀ H', Nx H' → ∃ m', m' < m ∧ W (i + 1) m' H') ∧ ∀ x H', (Itl K a).yld i H x H' → g x (wipe σ vs) H' fun σ2 H2 => wipe σ2 vs = wipe σ vs ∧ tt σ2 H2 fun b H3 =>
        if b = true then te σ2 H3 fun y H4 => ∃ acc, H4 D = some (.lst acc) ∧ acc.length < sizeLine ∧ Nx (upd H4 D (.lst (acc ++ [y]))) else Nx H3) :=
  lc_list (fun i H => Wait (Pv i H)) (wait h0) (fun i H hi p => hl i H hi p.out) (fun i x H hx p => hs i x H hx p.out) fun H p => hd H p.out
theorem lcT {K : PySem.W.Frag} {a : Addr} {xs : List V} {g : TG} {tt : TT} {te : TE} {vs : List Nat} {σ : St} {H1 : Hp} {D : Addr} {Qd : Hp → Prop} (Pv : Nat → Hp → Prop) (h0 : Pv 0 (upd H1 D (.lst []))) (hl : ∀ i H, i ≤ xs.length → Pv i H → SqT K H a xs)
    (hs : ∀ i x H, xs[i]? = some x → Pv i H → g x (wipe σ vs) H fun σ2 H2 => wipe σ2 vs = wipe σ vs ∧ tt σ2 H2 fun b H3 =>
      if b = true then te σ2 H3 fun y H4 => ∃ acc, H4 D = some (.lst acc) ∧ acc.length < sizeLine ∧ Wait (Pv (i + 1) (upd H4 D (.lst (acc ++ [y])))) else Wait (Pv (i + 1) H3)) (hd : ∀ H, Pv xs.length H → Qd H) :
    ∃ W : Nat → Nat → Hp → Prop, (∃ m, W 0 m (upd H1 D (.lst []))) ∧ ∀ i m H, W i m H →
      ((Itt K a).stop i H ∧ Qd H) ∨ ((Itt K a).go i H ∧ ∃ Nx : Hp → Prop, (∀ H', Nx H' → ∃ m', m' < m ∧ W (i + 1) m' H') ∧ ∀ x H', (Itt K a).yld i H x H' → g x (wipe σ vs) H' fun σ2 H2 => wipe σ2 vs = wipe σ vs ∧ tt σ2 H2 fun b H3 =>
        if b = true then te σ2 H3 fun y H4 => ∃ acc, H4 D = some (.lst acc) ∧ acc.length < sizeLine ∧ Nx (upd H4 D (.lst (acc ++ [y]))) else Nx H3) :=
  lc_tup (fun i H => Wait (Pv i H)) (wait h0) (fun i H hi p => hl i H hi p.out) (fun i x H hx p => hs i x H hx p.out) fun H p => hd H p.out
theorem lcR {lo : Int} {n : Nat} {g : TG} {tt : TT} {te : TE} {vs : List Nat} {σ : St} {H1 : Hp} {D : Addr} {Qd : Hp → Prop} (Pv : Nat → Hp → Prop) (h0 : Pv 0 (upd H1 D (.lst [])))
    (hs : ∀ i H, i < n → Pv i H → g (.int (lo + i)) (wipe σ vs) H fun σ2 H2 => wipe σ2 vs = wipe σ vs ∧ tt σ2 H2 fun b H3 =>
      if b = true then te σ2 H3 fun y H4 => ∃ acc, H4 D = some (.lst acc) ∧ acc.length < sizeLine ∧ Wait (Pv (i + 1) (upd H4 D (.lst (acc ++ [y])))) else Wait (Pv (i + 1) H3)) (hd : ∀ H, Pv n H → Qd H) :
    ∃ W : Nat → Nat → Hp → Prop, (∃ m, W 0 m (upd H1 D (.lst []))) ∧ ∀ i m H, W i m H →
      ((Itr lo n).stop i H ∧ Qd H) ∨ ((Itr lo n).go i H ∧ ∃ Nx : Hp → Prop, (∀ H', Nx H' → ∃ m', m' < m ∧ W (i + 1) m' H') ∧ ∀ x H', (Itr lo n).yld i H x H' → g x (wipe σ vs) H' fun σ2 H2 => wipe σ2 vs = wipe σ vs ∧ tt σ2 H2 fun b H3 =>
        if b = true then te σ2 H3 fun y H4 => ∃ acc, H4 D = some (.lst acc) ∧ acc.length < sizeLine ∧ Nx (upd H4 D (.lst (acc ++ [y]))) else Nx H3) :=
  lc_range (fun i H => Wait (Pv i H)) (wait h0) (fun i H hi p => hs i H hi p.out) fun H p => hd H p.out
theorem ints_at {ns : List Int} {i : Nat} {y : V} (h : (ns.map V.int)[i]? = some y) : ∃ u, y = V.int u ∧ ns[i]? = some u ∧ i < ns.length := by
  rw [List.getElem?_map] at h
  cases e : ns[i]? with
  | none => rw [e] at h; cases h
  | some u =>
    rw [e] at h
    exact ⟨u, (Option.some.inj h).symm, rfl, (List.getElem?_eq_some_iff.mp e).1⟩
theorem filt_len {α : Type} (p : α → Bool) (xs : List α) (i : Nat) : ((xs.take i).filter p).length ≤ xs.length := Nat.le_trans (List.length_filter_le _ _) (by rw [List.length_take]; omega)
theorem take_filt_yes {α : Type} {p : α → Bool} {xs : List α} {i : Nat} {x : α} (h : xs[i]? = some x) (hp : p x = true) : (xs.take (i + 1)).filter p = (xs.take i).filter p ++ [x] := by
  rw [List.take_add_one, h, Option.toList_some, List.filter_append, List.filter_cons, if_pos hp] <;> rfl
theorem take_filt_no {α : Type} {p : α → Bool} {xs : List α} {i : Nat} {x : α} (h : xs[i]? = some x) (hp : p x = false) : (xs.take (i + 1)).filter p = (xs.take i).filter p := by
  rw [List.take_add_one, h, Option.toList_some, List.filter_append, List.filter_cons, if_neg (by rw [hp]; decide), List.filter_nil, List.append_nil]
theorem small_lt {n : Nat} (h : n ≤ 100000) : n < sizeLine := Nat.lt_of_le_of_lt h (by decide)
theorem small_le {n : Nat} (h : n ≤ 100000) : n ≤ sizeLine := Nat.le_of_lt (small_lt h)
theorem isi_b {K : PySem.W.Frag} {H : Hp} {Q : VK} {x : V} {t c : String} {b : Bool} (ty : TyX K H x (.type t)) (h : kitB t c = some b) (q : Q (.bl b) H) : rIsi K [x, .ty c] H Q :=
  ⟨x, .ty c, .type t, .type c, b, rfl, .ty c, ty, kit_ty h, q⟩
theorem Same.seqT {K : PySem.W.Frag} {H H' : Hp} {a : Addr} {xs : List V} (e : Same H H') (h : SqT K H a xs) : SqT K H' a xs := by
  rcases h with (h | ⟨o, h⟩) | h
  · exact .inl (.inl (e _ _ h))
  · exact .inl (.inr ⟨o, e _ _ h⟩)
  · exact .inr h
theorem Same.upd_new {H : Hp} {p : Addr} {o : HO} (h : H p = none) : Same H (upd H p o) := fun b u e => by rw [upd_ne (ne_of_none e h)]; exact e
mutual
theorem Dp.same {K : PySem.W.Frag} {H H' : Hp} (e : Same H H') : ∀ {v : V} {d : PyData}, Dp K H v d → Dp K H' v d
  | _, _, .non => .non
  | _, _, .bl b => .bl b
  | _, _, .int i => .int i
  | _, _, .str x => .str x
  | _, _, .lst h r => .lst (e.seq h) (DpAll.same e r)
  | _, _, .tup h r => .tup (e.seqT h) (DpAll.same e r)
theorem DpAll.same {K : PySem.W.Frag} {H H' : Hp} (e : Same H H') : ∀ {vs : List V} {ds : List PyData}, DpAll K H vs ds → DpAll K H' vs ds
  | _, _, .nil => .nil
  | _, _, .cons h r => .cons (Dp.same e h) (DpAll.same e r)
end
theorem DpAll.snoc {K : PySem.W.Frag} {H : Hp} : ∀ {vs : List V} {ds : List PyData} {v : V} {d : PyData}, DpAll K H vs ds → Dp K H v d → DpAll K H (vs ++ [v]) (ds ++ [d])
  | _, _, _, _, .nil, h => .cons h .nil
  | _, _, _, _, .cons a r, h => .cons a (DpAll.snoc r h)
theorem DpAll.len {K : PySem.W.Frag} {H : Hp} : ∀ {vs : List V} {ds : List PyData}, DpAll K H vs ds → vs.length = ds.length
  | _, _, .nil => rfl
  | _, _, .cons _ r => by rw [List.length_cons, List.length_cons, DpAll.len r]
/-- two whole numbers -/
def pairD (p : Int × Int) : PyData := .tuple [.int p.1, .int p.2]
theorem pairD_of {K : PySem.W.Frag} {H : Hp} {t : Addr} {p : Int × Int} (h : H t = some (.tup [.int p.1, .int p.2])) : Dp K H (.ref t) (pairD p) := .tup (SqT.of h) (.cons (.int _) (.cons (.int _) .nil))
theorem lay_pairs : ∀ l : List (Int × Int), PyData.canLayAll0 (l.map pairD) = true
  | [] => rfl
  | p :: r => by
    show (PyData.canLay0 (pairD p) && PyData.canLayAll0 (r.map pairD)) = true
    rw [lay_pairs r] <;> rfl
theorem depth_pairs : ∀ l : List (Int × Int), PyData.depthAll (l.map pairD) ≤ 1
  | [] => Nat.zero_le _
  | p :: r => by
    show max (PyData.depth (pairD p)) (PyData.depthAll (r.map pairD)) ≤ 1
    have := depth_pairs r
    have e : PyData.depth (pairD p) = 1 := rfl
    omega
theorem shaped_pairs (l : List (Int × Int)) : SeqAt.shaped (.list (l.map pairD)) = true := by
  unfold SeqAt.shaped
  rw [Bool.and_eq_true]
  refine ⟨lay_pairs l, decide_eq_true ?_⟩
  show PyData.depthAll (l.map pairD) + 1 ≤ 64
  have := depth_pairs l
  omega
theorem shaped_pair (p : Int × Int) : SeqAt.shaped (pairD p) = true := rfl
theorem eqv_self {d : PyData} (h : SeqAt.shaped d = true) : PyData.eqv d d = true := SeqAt.eqv_refl d (SeqAt.canLay_of_shaped h)
theorem ifYes {p : Prop} [Decidable p] {A B : Prop} (h : p) (hA : A) : if decide p = true then A else B := ifT (decide_eq_true h) hA
theorem ifNo {p : Prop} [Decidable p] {A B : Prop} (h : ¬ p) (hB : B) : if decide p = true then A else B := ifF (decide_eq_false h) hB
theorem ifNY {p : Prop} [Decidable p] {A B : Prop} (h : ¬ p) (hA : A) : if (!decide p) = true then A else B := ifT (by rw [decide_eq_false h]; rfl) hA
theorem ifNN {p : Prop} [Decidable p] {A B : Prop} (h : p) (hB : B) : if (!decide p) = true then A else B := ifF (by rw [decide_eq_true h]; rfl) hB
/-- for k in d, d locked -/
theorem forK {d : Addr} {o : Obj} {kvs : List (Key × V)} {g : TG} {tb : TS} {D : Ends} {σ : St} {H : Hp} (Pv : Nat → St → Hp → Prop) (h0 : Pv 0 σ H) (hl : ∀ i σ H, i ≤ kvs.length → Pv i σ H → H d = some (.frz o (.dK kvs)))
    (hs : ∀ (i : Nat) (k : Key) (v : V) (σ : St) (H : Hp), kvs[i]? = some (k, v) → Pv i σ H → g (kV k) σ H fun σ2 H2 => tb { D with nx := fun σ H => Wait (Pv (i + 1) σ H), ct := fun σ H => Wait (Pv (i + 1) σ H), bk := D.nx } σ2 H2) (hd : ∀ σ H, Pv kvs.length σ H → D.nx σ H) :
    ∃ W : Nat → Nat → St → Hp → Prop, (∃ m, W 0 m σ H) ∧ ∀ i m σ H, W i m σ H →
      ((Itk d o kvs).stop i H ∧ D.nx σ H) ∨ ((Itk d o kvs).go i H ∧ ∃ N : St → Hp → Prop, (∀ σ' H', N σ' H' → ∃ m', m' < m ∧ W (i + 1) m' σ' H') ∧ ∀ x H', (Itk d o kvs).yld i H x H' → g x σ H' fun σ2 H2 => tb { D with nx := N, ct := N, bk := D.nx } σ2 H2) := by
  refine ⟨fun i m σ H => m = kvs.length - i ∧ i ≤ kvs.length ∧ Wait (Pv i σ H), ⟨kvs.length, by simp, Nat.zero_le _, wait h0⟩, ?_⟩
  rintro i m σ H ⟨rfl, hi, p⟩
  have q := hl i σ H hi p.out
  by_cases hlt : i < kvs.length
  · refine .inr ⟨⟨q, hlt⟩, fun σ H => Wait (Pv (i + 1) σ H), fun σ' H' p' => ⟨kvs.length - (i + 1), by omega, rfl, hlt, p'⟩, fun x H' y => ?_⟩
    obtain ⟨rfl, k, v, e, rfl⟩ := y
    exact hs i k v σ _ e p.out
  · have e : i = kvs.length := by omega
    subst e
    exact .inl ⟨⟨q, Nat.le_refl _⟩, hd σ H p.out⟩
/-- tuples of two whole numbers at these addresses -/
def Tups (H : Hp) (ts : List Addr) (ps : List (Int × Int)) : Prop := Paired (fun (t : Addr) (p : Int × Int) => H t = some (.tup [.int p.1, .int p.2])) ts ps
theorem Tups.keep {H H' : Hp} {ts : List Addr} {ps : List (Int × Int)} (h : Tups H ts ps) (k : ∀ t xs, H t = some (.tup xs) → H' t = some (.tup xs)) : Tups H' ts ps := Paired.mapP h fun _ _ e => k _ _ e
theorem Tups.dp {K : PySem.W.Frag} {H : Hp} {ts : List Addr} {ps : List (Int × Int)} (h : Tups H ts ps) : DpAll K H (ts.map V.ref) (ps.map pairD) := by
  unfold Tups at h
  induction h with
  | nil => exact .nil
  | cons e _ ih => exact .cons (pairD_of e) ih
theorem Tups.snoc {H : Hp} {ts : List Addr} {ps : List (Int × Int)} {t : Addr} {p : Int × Int} (h : Tups H ts ps) (e : H t = some (.tup [.int p.1, .int p.2])) : Tups H (ts ++ [t]) (ps ++ [p]) := Paired.snoc h e
theorem Tups.len {H : Hp} {ts : List Addr} {ps : List (Int × Int)} (h : Tups H ts ps) : ts.length = ps.length := Paired.length h
theorem keepT_upd {H : Hp} {D : Addr} {o : HO} {xs : List V} (h : H D = some (.lst xs)) : ∀ t ys, H t = some (.tup ys) → upd H D o t = some (.tup ys) := fun t ys e => by
  rw [upd_ne (ne_of e h (by intro z; cases z))]
  exact e
theorem kV_int (i : Int) : V.int i = kV (Sum.inl i) := rfl
theorem kV_str (x : Str) : V.str x = kV (Sum.inr x) := rfl
def rLenK (K : PySem.W.Frag) : List V → Hp → VK → Prop := fun xs H Q => ∃ p ys, xs = [V.ref p] ∧ (SqL K H p ys ∨ SqT K H p ys) ∧ Q (.int ys.length) H
theorem call_lenK {X : Cx} : CallR X (.builtin "len") (rLenK X.K) := call_len_seq
theorem sorted_same {a b : List Int} (hp : a.Perm b) (ha : a.Pairwise (· ≤ ·)) (hb : b.Pairwise (· ≤ ·)) : a = b := hp.eq_of_pairwise (fun _ _ _ _ h1 h2 => Int.le_antisymm h1 h2) ha hb
/-- a test whose ways are joined -/
@[irreducible] def tMidT (t : TT) : TT := fun σ H Q => ∃ M : Bool → Hp → Prop, t σ H M ∧ ∀ b H', M b H' → Q b H'
theorem pt_mid {X : Cx} {e : Expr} {t : TT} (h : PT X e t) : PT X e (tMidT t) := by
  refine ⟨fun pins s σ H Q I q => ?_⟩
  unfold tMidT at q
  obtain ⟨M, h1, h2⟩ := q
  exact thn (h.run pins s σ H M I h1) fun b s' ⟨H', I', m⟩ => ⟨H', I', h2 b H' m⟩
theorem midT_of {t : TT} {σ : St} {H : Hp} {Q : Bool → Hp → Prop} (M : Bool → Hp → Prop) (h1 : t σ H fun b H' => Wait (M b H')) (h2 : ∀ b H', M b H' → Q b H') : tMidT t σ H Q := by
  unfold tMidT
  exact ⟨fun b H' => Wait (M b H'), h1, fun b H' m => h2 b H' m.out⟩
/-- an expression whose ways are joined -/
@[irreducible] def tMidE (t : TE) : TE := fun σ H Q => ∃ M : V → Hp → Prop, t σ H M ∧ ∀ b H', M b H' → Q b H'
theorem pe_mid {X : Cx} {e : Expr} {t : TE} (h : PE X e t) : PE X e (tMidE t) := by
  refine ⟨fun pins s σ H Q I q => ?_⟩
  unfold tMidE at q
  obtain ⟨M, h1, h2⟩ := q
  exact thn (h.run pins s σ H M I h1) fun b s' ⟨v, H', I', r, m⟩ => ⟨v, H', I', r, h2 v H' m⟩
theorem midE_of {t : TE} {σ : St} {H : Hp} {Q : VK} (M : V → Hp → Prop) (h1 : t σ H fun b H' => Wait (M b H')) (h2 : ∀ b H', M b H' → Q b H') : tMidE t σ H Q := by
  unfold tMidE
  exact ⟨fun b H' => Wait (M b H'), h1, fun b H' m => h2 b H' m.out⟩
/-- for a, b in zip(xs, ys), lists of one length -/
theorem forZ {K : PySem.W.Frag} {a b : Addr} {xs ys : List V} {g : TG} {tb : TS} {D : Ends} {σ : St} {H : Hp} (hl : xs.length = ys.length) (Pv : Nat → St → Hp → Prop) (h0 : Pv 0 σ H) (hq : ∀ i σ H, Pv i σ H → SqL K H a xs ∧ SqL K H b ys)
    (hs : ∀ (i : Nat) (x y : V) (t : Addr) (σ : St) (H : Hp), xs[i]? = some x → ys[i]? = some y → Pv i σ H → H t = none →
      g (.ref t) σ (upd H t (.tup [x, y])) fun σ2 H2 => tb { D with nx := fun σ H => Wait (Pv (i + 1) σ H), ct := fun σ H => Wait (Pv (i + 1) σ H), bk := D.nx } σ2 H2) (hd : ∀ σ H, Pv xs.length σ H → D.nx σ H) :
    ∃ W : Nat → Nat → St → Hp → Prop, (∃ m, W 0 m σ H) ∧ ∀ i m σ H, W i m σ H →
      ((Itz K a b).stop i H ∧ D.nx σ H) ∨ ((Itz K a b).go i H ∧ ∃ N : St → Hp → Prop, (∀ σ' H', N σ' H' → ∃ m', m' < m ∧ W (i + 1) m' σ' H') ∧ ∀ v H', (Itz K a b).yld i H v H' → g v σ H' fun σ2 H2 => tb { D with nx := N, ct := N, bk := D.nx } σ2 H2) := by
  refine ⟨fun i m σ H => m = xs.length - i ∧ i ≤ xs.length ∧ Wait (Pv i σ H), ⟨xs.length, by simp, Nat.zero_le _, wait h0⟩, ?_⟩
  rintro i m σ H ⟨rfl, hi, p⟩
  obtain ⟨q1, q2⟩ := hq i σ H p.out
  by_cases hlt : i < xs.length
  · have e1 : xs[i]? = some xs[i] := List.getElem?_eq_getElem hlt
    have e2 : ys[i]? = some ys[i] := List.getElem?_eq_getElem (by omega)
    refine .inr ⟨⟨xs, ys, _, _, q1, q2, e1, e2⟩, fun σ H => Wait (Pv (i + 1) σ H), fun σ' H' p' => ⟨xs.length - (i + 1), by omega, rfl, hlt, p'⟩, fun v H' y => ?_⟩
    obtain ⟨t, x, z, rfl, ht, rfl, f1, f2⟩ := y
    exact hs i x z t σ H (f1 xs q1) (f2 ys q2) p.out ht
  · have e : i = xs.length := by omega
    subst e
    exact .inl ⟨⟨xs, ys, q1, q2, .inl (Nat.le_refl _)⟩, hd σ H p.out⟩
end L2
set_option Elab.async false
set_option linter.all false
set_option maxRecDepth 100000
set_option maxHeartbeats 4000000
/-! Rules for own errors: methods that may raise within a try, several clauses with names, isinstance of an error that has fields. -/
namespace PySem.W
open PySem PySem.Spec PySem.Calls PyProof.Rows
section
variable {prog : Program} {w : World} {A : Around} {E : Value → Shared → Prop} {s : Shared} {K : Frag} {x D : Addr} {ox od : Obj}
/-- e.__class__ of an error with a dict of its own -/
theorem pf_class {Q : Option Value → Shared → Prop} (C : L2.ExcC K D) (X : K.In s.heap) (I : InstAt s.heap x ox D (some od)) (h : Q (some (.ref D)) { s with toks := s.toks + 1 }) :
    wpAny (model prog w) A (getAttr? (.ref x) "__class__") Q E s := by
  obtain ⟨cd, hcd, _⟩ := any_some C.hd
  have hfo : findObj K D (some od) "__class__" = some (.bind (.builtin "getset_descriptor.__get__") (.builtin "object.__class__")) := findObj_data (by rw [hcd]; rfl) C.ha C.hn C.ht
  obtain ⟨hp, g, dr, t, os⟩ := s
  have lt := I.type (M := model prog w)
  have lg := looks_findIn (M := model prog w) X C.hg
  have lh := looks_findIn (M := model prog w) X C.hk
  have lf := looks_find (M := model prog w) X I hfo
  have lb : Looks (model prog w) hp (isInstance (.ref x) (.type "BaseException")) true := lt.andThen (looks_subIn X C.hs)
  have b2 : (Value.builtin "BaseException.__getattribute__" == Value.builtin "object.__getattribute__") = false := by decide +kernel
  unfold getAttr? getAttrBy? getAttrBy
  refine wpAny_bind (wpAny_mkText (wpAny_bind (wpAny_attempt (wpAny_holding (wpAny_bind (lt.at (wpAny_bind (lg.at ?_))))))))
  show wpAny _ _ (if (onTheHeap (Value.ref D) && Value.builtin "BaseException.__getattribute__" == Value.builtin "object.__getattribute__") = true then _ else _) _ _ _
  rw [b2, Bool.and_false, if_neg Bool.false_ne_true]
  unfold getAttrByItsOwn hookBefore
  refine wpAny_bind ?_
  rw [if_pos (show onTheHeap (Value.ref D) = true from rfl)]
  refine lh.at (wpAny_bind (wpAny_attempt (wpAny_holding ?_)))
  unfold callGetattribute
  rw [if_neg (show ¬ (false && onTheHeap (Value.builtin "BaseException.__getattribute__")) = true from Bool.false_ne_true)]
  unfold boundAndCalled
  rw [PySem.F.excAttr_ValueError.ga.bind (.ref x)]
  refine wpAny_bind (wpAny_pure ?_)
  show wpAny _ _ (call (.builtin "BaseException.__getattribute__") [.ref x, .str "__class__" t]) _ _ _
  refine wpAny_call (codeAny_call_builtin PySem.F.excAttr_ValueError.ga.plain PySem.F.entry_bexc_ga ?_)
  refine @check_slot (model prog w) _ _ ⟨hp, g, dr, t + 1, os⟩ "BaseException.__getattribute__" "BaseException" "__getattribute__" (.ref x) [.str "__class__" t] [] _ (by decide +kernel) (by decide +kernel) lb (PySem.F.args_bexc_ga (.ref x) (.str "__class__" t)) ?_
  unfold Builtin.«object.__getattribute__»
  refine wpAny_bind (wpAny_of_eq (a := ((Value.ref x : Value), [Value.str "__class__" t])) (by first | rfl | (simp only [slotArgs]; rfl)) ?_)
  refine wpAny_bind (wpAny_pure (wpAny_bind (lt.at (wpAny_bind (lf.at ?_)))))
  show wpAny _ _ (holding [Value.builtin "object.__class__"] (call (.builtin "getset_descriptor.__get__") [.builtin "object.__class__", .ref x, .ref D]) >>= ret) _ _ _
  refine wpAny_bind (wpAny_holding (wpAny_call (class_get (s := ⟨hp, g, dr, t + 1, os⟩) (ox := ox) (od := some od) X I C.hm ?_)))
  refine wpAny_pure ?_
  show wpAny _ _ (handedOut (.ref D)) _ _ _
  rw [handedOut_of (v := .ref D) rfl]
  first
    | exact wpAny_pure (wpAny_pure h)
    | exact wpAny_pure h
    | exact wpAny_pure (wpAny_bind (wpAny_pure (wpAny_pure h)))
theorem pf_kitx (C : L2.ExcC K D) : KitX K (.ref x) (.ref D) (fun h => InstAt h x ox D (some od)) := by
  obtain ⟨cd, hcd, _⟩ := any_some C.hd
  have hob : ∃ o sl c dd, K.lookup D = some ⟨c, dd, .cls o, sl⟩ := by
    unfold clsIn at hcd
    split at hcd
    · rename_i c' d' cd' sl' ho
      exact ⟨_, _, _, _, ho⟩
    · cases hcd
  obtain ⟨cl, sl, c, dd, hl⟩ := hob
  refine ⟨fun _ _ _ I => I.type, fun _ _ X _ => ?_, fun h tp d' its n sl' X htp => ?_, fun X I k => pf_class C X I k⟩
  · intro A' Q' E' s' k q
    unfold isType loadHead
    exact wpAny_bind (wpAny_loadPart (k _ _ (X _ _ hl)) (wpAny_pure q))
  · refine Bool.eq_false_iff.mpr fun q => ?_
    have e : D = tp := Value.ref.inj (beq_iff_eq.mp q)
    subst e
    have z := (X _ _ hl).symm.trans htp
    cases z
end
end PySem.W
namespace L2
open PySem PySem.Spec PyProof.Rows
section
variable {X : Cx} {CX : CXT} {k : Nat} {f C : Addr} {fd : FuncData} {ps : List Str} {sp : Sp} {E : St → XK} {x m : Str} {p pos apos : Pos} {e o : Expr} {es : List Expr} {ta : TE} {t : TA}
/-- o.m(e, ..), what is raised is wished for at the slots -/
def tMethW (C : Addr) (m : Str) (sp : Sp) (E : St → XK) (ta : TE) (t : TA) : TE := fun σ H Q => ta σ H fun x H1 => ∃ a dx fs, x = .ref a ∧ H1 a = some (.ins C dx fs) ∧ fs.lookup m = none ∧ t σ H1 fun vs H2 => sp (x :: vs) H2 Q (E σ)
theorem pe_methW {pl : Sem Bool} (he : PE X o ta) (c : Cls X.K C) (hm : Meth X.K C m f) (F : FnOk X.prog X.w X.K X.mg X.base CX k f fd ps sp) (hr : Room k X.A) (hb : Binds X.K fd ps []) (hx : ∀ σ, PassesAt CX X σ (E σ)) (ha : PA X (e :: es) t)
    (hst : starEach (e :: es) X.env = (false, eval e X.env) :: starEach es X.env := by rfl) (hpl : (backTo pos (starEach es X.env)).any (·.1) = false := by rfl)
    (ht : eval (.Call (.Attribute o m apos) (e :: es) [] pos) X.env = (do
      let ov ← eval o X.env
      standAt apos.atName
      let (f, first) ← holding [ov] (getMethod ov m pl)
      callWith pos f first (backTo pos (starEach (e :: es) X.env)) (backToKw pos (keywordEach [] X.env))) := by rfl) :
    PE X (.Call (.Attribute o m apos) (e :: es) [] pos) (tMethW C m sp E ta t) := by
  refine ⟨fun pins s σ H Q I h => ?_⟩
  refine PySem.W.methodCall_KW (pl := pl) (thn (he.run pins s σ H _ I h) fun u s1 ⟨x, H1, I1, rx, a, dx, fs, ex, ea, l, q⟩ => ?_) ht
  subst ex
  obtain rfl : u = Value.ref a := rx
  refine getmeth_ok I1 ea c hm l ?_
  refine PySem.W.callWith_K (first := [.ref a]) (h₀ := X.base) I.ok.mod.kin hm.kp (thn (ha.run pos pins s1 σ H1 _ I1 q) fun us s2 ⟨vs, H2, I2, r, q2⟩ => ⟨I2.kIn, ?_⟩) hst hpl
  exact run_fnS (us := .ref a :: us) (vs := .ref a :: vs) F hr hb (hx σ) I2 (.cons rfl r) q2
end
/-! ### walks of any kind, with Wait -/
theorem forW {J : It} {n : Nat} {G : Hp → Prop} {Y : Nat → Hp → V → Hp → Prop} (w : Walk J n G Y) {g : TG} {tb : TS} {D : Ends} {σ : St} {H : Hp} (Pv : Nat → St → Hp → Prop) (h0 : Pv 0 σ H) (hG : ∀ i σ H, i ≤ n → Pv i σ H → G H)
    (hs : ∀ i x σ H H', i < n → Pv i σ H → Y i H x H' → g x σ H' fun σ2 H2 => tb { D with nx := fun σ H => Wait (Pv (i + 1) σ H), ct := fun σ H => Wait (Pv (i + 1) σ H), bk := D.nx } σ2 H2) (hd : ∀ σ H, Pv n σ H → D.nx σ H) :
    ∃ W : Nat → Nat → St → Hp → Prop, (∃ m, W 0 m σ H) ∧ ∀ i m σ H, W i m σ H →
      (J.stop i H ∧ D.nx σ H) ∨ (J.go i H ∧ ∃ N : St → Hp → Prop, (∀ σ' H', N σ' H' → ∃ m', m' < m ∧ W (i + 1) m' σ' H') ∧ ∀ x H', J.yld i H x H' → g x σ H' fun σ2 H2 => tb { D with nx := N, ct := N, bk := D.nx } σ2 H2) :=
  for_it w (fun i σ H => Wait (Pv i σ H)) (wait h0) (fun i σ H hi p => hG i σ H hi p.out) (fun i x σ H H' hi p y => hs i x σ H H' hi p.out y) fun σ H p => hd σ H p.out
theorem lcW {J : It} {n : Nat} {G : Hp → Prop} {Y : Nat → Hp → V → Hp → Prop} (w : Walk J n G Y) {g : TG} {tt : TT} {te : TE} {vs : List Nat} {σ : St} {H1 : Hp} {D : Addr} {Qd : Hp → Prop} (Pv : Nat → Hp → Prop) (h0 : Pv 0 (upd H1 D (.lst []))) (hG : ∀ i H, i ≤ n → Pv i H → G H)
    (hs : ∀ i x H H', i < n → Pv i H → Y i H x H' → g x (wipe σ vs) H' fun σ2 H2 => wipe σ2 vs = wipe σ vs ∧ tt σ2 H2 fun b H3 =>
      if b = true then te σ2 H3 fun y H4 => ∃ acc, H4 D = some (.lst acc) ∧ acc.length < sizeLine ∧ Wait (Pv (i + 1) (upd H4 D (.lst (acc ++ [y])))) else Wait (Pv (i + 1) H3)) (hd : ∀ H, Pv n H → Qd H) :
    ∃ W : Nat → Nat → Hp → Prop, (∃ m, W 0 m (upd H1 D (.lst []))) ∧ ∀ i m H, W i m H →
      (J.stop i H ∧ Qd H) ∨ (J.go i H ∧ ∃ Nx : Hp → Prop, (∀ H', Nx H' → ∃ m', m' < m ∧ W (i + 1) m' H') ∧ ∀ x H', J.yld i H x H' → g x (wipe σ vs) H' fun σ2 H2 => wipe σ2 vs = wipe σ vs ∧ tt σ2 H2 fun b H3 =>
        if b = true then te σ2 H3 fun y H4 => ∃ acc, H4 D = some (.lst acc) ∧ acc.length < sizeLine ∧ Nx (upd H4 D (.lst (acc ++ [y]))) else Nx H3) :=
  lc_it w (fun i H => Wait (Pv i H)) (wait h0) (fun i H hi p => hG i H hi p.out) (fun i x H H' hi p y => hs i x H H' hi p.out y) fun H p => hd H p.out
/-! ### keywords -/
def kbGn (n : Nat) (us ws : List Value) : List Value := if us.length = n then us ++ ws else []
def kbVn (n : Nat) (us ws : List V) : List V := if us.length = n then us ++ ws else []
theorem kb_ofn {K : PySem.W.Frag} {x qual : Str} {st : Stmt} {f : Addr} {fd : FuncData} {ps ks : List Str} {n m : Nat} (F : Fun K x qual st f fd) (hp : ps.length = n + m) (h0 : 0 < n + m)
    (h : ∀ (kV doc pm : Value) (an : Option Addr) (cdv ct : Value) (us ws : List Value), us.length = n → ws.length = m → bindArgs (PySem.W.fnOf x qual (defArgs st) (defBody st) (defScope st) .none kV doc pm an cdv ct) ⟨us, ks.zip ws⟩ = pure (ps.zip (us ++ ws))) : KBinds K fd ps ks (kbGn n) (kbVn n) := by
  obtain ⟨oc, od, kV, doc, pm, an, cdv, ct, osl, rfl, lk, hcd⟩ := F.ex
  constructor
  · intro s us ws _ hl
    by_cases e : us.length = n
    · have hg : kbGn n us ws = us ++ ws := if_pos e
      rw [hg] at hl ⊢
      rw [List.length_append, e, hp] at hl
      exact .of_eq (h kV doc pm an cdv ct us ws e (by omega))
    · have hg : kbGn n us ws = [] := if_neg e
      rw [hg, hp] at hl
      have : 0 = n + m := hl
      omega
  · intro vs us zs ws r1 r2
    have hl := r1.length
    by_cases e : us.length = n
    · rw [show kbGn n us ws = us ++ ws from if_pos e, show kbVn n vs zs = vs ++ zs from if_pos (hl.trans e)]
      exact r1.append r2
    · rw [show kbGn n us ws = [] from if_neg e, show kbVn n vs zs = [] from if_neg (fun z => e (hl.symm.trans z))]
      exact .nil
section
variable {X : Cx} {CX : CXT} {k : Nat} {f C : Addr} {fd : FuncData} {ps ks : List Str} {sp : Sp} {E : St → XK} {x m : Str} {p pos apos kpos : Pos} {e o : Expr} {es : List Expr} {kws : List Keyword} {te ta : TE} {t tk : TA} {nm : Option Str}
variable {g : List Value → List Value → List Value} {gV : List V → List V → List V}
theorem run_fnkS {pins : List (Addr × Obj)} {σ : St} {H : Hp} {s : Shared} {Q : VK} {us ws : List Value} {vs zs : List V} (F : FnOk X.prog X.w X.K X.mg X.base CX k f fd ps sp) (hr : Room k X.A) (hb : KBinds X.K fd ps ks g gV) (hx : PassesAt CX X σ (E σ))
    (I : Inv X pins σ H s) (r : Vals vs us) (rz : Vals zs ws) (h : sp (gV vs zs) H Q (E σ)) : wpAny (model X.prog X.w) X.A (call (.ref f) us (ks.zip ws)) (EP X pins σ Q) X.xe s := by
  have r2 := hb.rel r rz
  have hl : (g us ws).length = ps.length := by rw [← r2.length]; exact F.len _ _ _ _ h
  refine wpAny_call (codeAny_mono (F.run X.A X.stack s H ⟨us, ks.zip ws⟩ (g us ws) (gV vs zs) Q (E σ) hr I.env0 (hb.to s us ws I.kIn hl) r2 h) fun r s' hq => ?_)
  cases r with
  | error e => exact hx pins H s e s' I hq
  | ok fl =>
    cases fl with
    | ret u => exact I.after hq
    | next => exact False.elim hq
    | brk => exact False.elim hq
    | cont => exact False.elim hq
/-- o.m(e, .., k = v), what is raised is wished for at the slots -/
def tMethKW (C : Addr) (m : Str) (sp : Sp) (gV : List V → List V → List V) (E : St → XK) (ta : TE) (t tk : TA) : TE := fun σ H Q => ta σ H fun x H1 => ∃ a dx fs, x = .ref a ∧ H1 a = some (.ins C dx fs) ∧ fs.lookup m = none ∧
  t σ H1 fun vs H2 => tk σ H2 fun zs H3 => sp (gV (x :: vs) zs) H3 Q (E σ)
theorem pe_methKW {pl : Sem Bool} (he : PE X o ta) (c : Cls X.K C) (hm : Meth X.K C m f) (F : FnOk X.prog X.w X.K X.mg X.base CX k f fd ps sp) (hr : Room k X.A) (hb : KBinds X.K fd ps ks g gV) (hx : ∀ σ, PassesAt CX X σ (E σ)) (ha : PA X (e :: es) t) (hkw : PK X kws tk)
    (hall : (backToKw pos (keywordEach kws X.env)).all (·.1.isSome) = true := by rfl) (hks : (backToKw pos (keywordEach kws X.env)).filterMap (·.1) = ks := by rfl)
    (hst : starEach (e :: es) X.env = (false, eval e X.env) :: starEach es X.env := by rfl)
    (hpl : ((backTo pos (starEach (e :: es) X.env)).any (·.1) || (backToKw pos (keywordEach kws X.env)).any (·.1.isNone)) = false := by rfl)
    (ht : eval (.Call (.Attribute o m apos) (e :: es) kws pos) X.env = (do
      let ov ← eval o X.env
      standAt apos.atName
      let (f, first) ← holding [ov] (getMethod ov m pl)
      callWith pos f first (backTo pos (starEach (e :: es) X.env)) (backToKw pos (keywordEach kws X.env))) := by rfl) :
    PE X (.Call (.Attribute o m apos) (e :: es) kws pos) (tMethKW C m sp gV E ta t tk) := by
  refine ⟨fun pins s σ H Q I h => ?_⟩
  refine PySem.W.methodCall_KW (pl := pl) (thn (he.run pins s σ H _ I h) fun u s1 ⟨x, H1, I1, rx, a, dx, fs, ex, ea, l, q⟩ => ?_) ht
  subst ex
  obtain rfl : u = Value.ref a := rx
  refine getmeth_ok I1 ea c hm l ?_
  refine PySem.W.callWith_KW (first := [.ref a]) (h₀ := X.base) I.ok.mod.kin hm.kp hall (thn (ha.run pos pins s1 σ H1 _ I1 q) fun us s2 ⟨vs, H2, I2, r, q2⟩ => ?_) hpl hst
  refine thn (hkw.run pos pins s2 σ H2 _ I2 q2) fun ws s3 ⟨zs, H3, I3, rz, q3⟩ => ⟨I3.kIn, ?_⟩
  rw [hks]
  exact run_fnkS (us := .ref a :: us) (vs := .ref a :: vs) F hr hb (hx σ) I3 (.cons rfl r) rz q3
end
/-- isinstance(e, c), e the error that the suite holds, of the class at D, its fields at dd -/
def rIsX (K : PySem.W.Frag) (D a dd : Addr) : List V → Hp → VK → Prop := fun xs H Q => ∃ (c : V) (cv : Value) (b : Bool) (fs : List (Str × V)), xs = [.ref a, c] ∧ (∀ u, RelV c u → u = cv) ∧ H dd = some (.xd fs) ∧ PySem.W.kitOne K (.ref D) cv = some b ∧ Q (.bl b) H
theorem call_isX {X : Cx} {a D dd : Addr} {oe : Obj} {pn : List (Addr × Obj)} (C : ExcC X.K D) (hz : Zc (.ref D) (some dd) oe) (hf : ∃ vs, oe.data = .fields vs) : CallR (X.suite a ((a, oe) :: pn)) (.builtin "isinstance") (rIsX X.K D a dd) := by
  intro pins s σ H xs us Q I r h
  obtain ⟨c, cv, b, fs, rfl, hcv, hx, e, q⟩ := h
  obtain ⟨u1, u2, rfl, r1, r2⟩ := vals2 r
  cases r1
  have ec := hcv _ r2
  subst ec
  obtain ⟨hget, _⟩ := I.pin (a, oe) (List.mem_append.mpr (.inl List.mem_cons_self))
  obtain ⟨vs, hv⟩ := hf
  obtain ⟨mA, ⟨od, es, ep, ho, _⟩, _⟩ := (show ObjOk X.prog X.w H s.heap dd (.xd fs) from I.hok dd _ hx)
  have J : PySem.W.InstAt s.heap a oe D (some od) := ⟨hget, hz.1, by unfold PySem.W.notCls; rw [hv] <;> rfl, by rw [hz.2]; exact ho⟩
  exact PySem.W.kia_one (PySem.W.pf_kitx C) I.kIn J e (fun z => nomatch z) fun tk => ⟨.bl b, H, I.kept (t' := tk) fun _ _ z => z, rfl, q⟩
/-- .. whatever class it has -/
def rIsW (K : PySem.W.Frag) (a : Addr) (cls : Value) (d : Option Addr) : List V → Hp → VK → Prop := fun xs H Q => ∃ D dd : Addr, cls = .ref D ∧ d = some dd ∧ ExcC K D ∧ rIsX K D a dd xs H Q
theorem call_isW {X : Cx} {a : Addr} {oe : Obj} {cls : Value} {d : Option Addr} {pn : List (Addr × Obj)} (hz : Zc cls d oe) (hf : ∃ vs, oe.data = .fields vs) : CallR (X.suite a ((a, oe) :: pn)) (.builtin "isinstance") (rIsW X.K a cls d) := by
  intro pins s σ H xs us Q I r h
  obtain ⟨D, dd, rfl, rfl, C, h⟩ := h
  exact call_isX C hz hf pins s σ H xs us Q I r h
theorem kit_exm {K : PySem.W.Frag} {A B : Addr} {b : Bool} (h1 : PySem.W.exmOne K (.ref A) (.ref A) = some true) (h2 : PySem.W.exmOne K (.ref A) (.ref B) = some b) : PySem.W.kitOne K (.ref A) (.ref B) = some b := by
  unfold PySem.W.kitOne
  by_cases e : A = B
  · subst e
    rw [h1] at h2
    rw [if_pos (by simp)]
    exact h2
  · rw [if_neg (by simpa using e)]
    unfold PySem.W.exmOne at h2
    split at h2
    · exact h2
    · cases h2
theorem kit_bl {K : PySem.W.Frag} {A : Addr} {T : String} {b : Bool} (h1 : PySem.W.subIn K (.ref A) (.type T) = some b) (h2 : PySem.W.kitMeta T = true) : PySem.W.kitOne K (.ref A) (.type T) = some b := by
  unfold PySem.W.kitOne
  rw [if_neg (by simp)]
  show (if PySem.W.kitMeta T = true then PySem.W.subIn K (.ref A) (.type T) else none) = some b
  rw [if_pos h2]
  exact h1
/-! ### several clauses, each with a name or without one -/
structure Cl where
  c : Value
  i : Option Nat
  ts : Addr → Value → Option Addr → TS
def Cl.at (cl : Cl) (a : Addr) (cls : Value) (d : Option Addr) (D : Ends) (σ : St) (H : Hp) : Prop := match cl.i with
  | none => cl.ts a cls d D σ H
  | some i => cl.ts a cls d { nx := fun σ' H' => D.nx (σ'.set i none) H', rt := D.rt, bk := fun σ' H' => D.bk (σ'.set i none) H', ct := fun σ' H' => D.ct (σ'.set i none) H' } (σ.set i (some (.ref a))) H
def wCls (K : PySem.W.Frag) (Wout : WX) (D : Ends) : List Cl → WX
  | [] => Wout
  | cl :: r => fun cls d σ H => ∃ b, PySem.W.exmOne K cls cl.c = some b ∧ (b = true → ∀ a, H a = none → cl.at a cls d D σ H) ∧ (b = false → wCls K Wout D r cls d σ H)
inductive ClsOk (X : Cx) : List ExceptHandler → List Cl → Prop
  | nil : ClsOk X [] []
  | plain {x : Str} {c : Value} {ts : Addr → Value → Option Addr → TS} {b₀ : Stmt} {suite : List Stmt} {np pos' : Pos} {hds : List ExceptHandler} {l : List Cl} (hc : Names X x c)
      (hsu : ∀ (a : Addr) (oe : Obj) (cls : Value) (d : Option Addr) (pn : List (Addr × Obj)), Zc cls d oe → (∃ vs, oe.data = .fields vs) → PSs (X.suite a ((a, oe) :: pn)) (b₀ :: suite) (ts a cls d)) (r : ClsOk X hds l) :
      ClsOk X (.ExceptHandler (some (.Name x np)) none (b₀ :: suite) pos' :: hds) (⟨c, none, ts⟩ :: l)
  | named {x n : Str} {i : Nat} {c : Value} {ts : Addr → Value → Option Addr → TS} {b₀ : Stmt} {suite : List Stmt} {np pos' : Pos} {hds : List ExceptHandler} {l : List Cl} (hN : X.N.Nodup) (hi : X.N[i]? = some n) (hln : X.env.kindOf n = some .local) (hc : Names X x c)
      (hsu : ∀ (a : Addr) (oe : Obj) (cls : Value) (d : Option Addr) (pn : List (Addr × Obj)), Zc cls d oe → (∃ vs, oe.data = .fields vs) → PSs (X.suite a ((a, oe) :: pn)) (b₀ :: suite) (ts a cls d)) (r : ClsOk X hds l) :
      ClsOk X (.ExceptHandler (some (.Name x np)) (some n) (b₀ :: suite) pos' :: hds) (⟨c, some i, ts⟩ :: l)
section
variable {X : Cx} {body : List Stmt} {h₀ : ExceptHandler} {hds : List ExceptHandler} {l : List Cl} {pos : Pos} {tb : WX → TS} {Wout : WX}
/-- the error stands on the ground ahead of the clauses -/
structure Ground (X : Cx) (pins : List (Addr × Obj)) (a : Addr) (B : Heap) (sI s' : Shared) (h3 : Heap) (σ : St) (H : Hp) (cls : Value) (d : Option Addr) : Prop where
  J : Inv X pins σ H sI
  nb : ∀ b o, sI.heap.get? b = some o → b ∉ frs X.stack → B.get? b = some o
  up : sI.heap.UpToSlots h3
  fl : HandSPX.FlyingZ B (X.env :: X.outer) a (Zc cls d) h3
  na : H a = none
  os : s'.os = sI.os
  ag : AllBare s'.gens
theorem Ground.inv {pins : List (Addr × Obj)} {a : Addr} {B : Heap} {sI s' : Shared} {h3 : Heap} {σ : St} {H : Hp} {cls : Value} {d : Option Addr} (G : Ground X pins a B sI s' h3 σ H cls d) : Inv X pins σ H { s' with heap := h3 } :=
  G.J.landed G.nb G.fl.1 G.up G.os G.ag
theorem Ground.off {pins : List (Addr × Obj)} {a : Addr} {B : Heap} {sI s' : Shared} {h3 : Heap} {σ : St} {H : Hp} {cls : Value} {d : Option Addr} (G : Ground X pins a B sI s' h3 σ H cls d) (hf : X.env.frame = some X.env.locals) : a ≠ X.env.locals ∧ a ∉ X.fs := by
  obtain ⟨oe, vs, he, _, hd⟩ := G.fl.there
  have nfr : a ∉ frs (X.env :: X.outer) := fun hm => by
    obtain ⟨_, o', e', hnf⟩ := G.fl.2.2.1.mem hm
    rw [he] at e'
    cases e'
    exact hnf _ hd
  refine ⟨fun z => nfr (List.mem_filterMap.mpr ⟨X.env, List.mem_cons_self, by rw [hf, z]⟩), fun hm => ?_⟩
  obtain ⟨ev, hev, q⟩ := List.mem_filterMap.mp hm
  exact nfr (List.mem_filterMap.mpr ⟨ev, List.mem_cons_of_mem _ hev, q⟩)
theorem clauses (hs : X.stack = X.env :: X.outer) (hf : X.env.frame = some X.env.locals) (tk : Takes X Wout) {pins : List (Addr × Obj)} {a : Addr} {B : Heap} {sI s' : Shared} {h3 : Heap} {σ : St} {H : Hp} {cls : Value} {d : Option Addr} {D : Ends}
    (G : Ground X pins a B sI s' h3 σ H cls d) (ok : X.Ok) {hds : List ExceptHandler} {l : List Cl} (hk : ClsOk X hds l) (w : wCls X.K Wout D l cls d σ H) :
    wpAny (model X.prog X.w) X.A (handleBy (.ref a) X.env hds) (SP X pins D) X.xe { s' with heap := h3 } := by
  obtain ⟨nL, nF⟩ := G.off hf
  have J3 := G.inv
  obtain ⟨oe3, vs3, he3, hz3, hd3⟩ := G.fl.there
  have S3 := J3.suite he3 hd3 G.na nL nF
  have LT : PySem.W.Looks (model X.prog X.w) h3 (typeOf (.ref a)) cls := fun A Q E s k q => wpAny_typeOf_ref (k _ _ he3) (by rw [hz3.1]; exact q)
  have name : ∀ {x : Str} {c : Value} {np : Pos} {Q : Value → Shared → Prop} {E : Value → Shared → Prop}, Names X x c → Q c { s' with heap := h3 } → wpAny (model X.prog X.w) (X.A.mark (some (.ref a))) (eval (.Name x np) X.env) Q E { s' with heap := h3 } := fun {x c np Q E} hc q => by
    obtain ⟨hg, hdbg, hm | ⟨hm, hv, hnn⟩⟩ := hc
    · exact ld_glob (X := X.suite a ((a, oe3) :: (X.pn ++ pins))) S3 hg hm q hdbg
    · exact ld_blt (X := X.suite a ((a, oe3) :: (X.pn ++ pins))) S3 hg hm hv q hnn hdbg
  have again : ∀ {h4 : Heap}, HandSPX.FlyingZ B (X.env :: X.outer) a (Zc cls d) h4 → Heap.UpToSlots h3 h4 → ∃ oe4 vs4, Zc cls d oe4 ∧ oe4.data = .fields vs4 ∧ Inv (X.suite a ((a, oe4) :: (X.pn ++ pins))) [] σ H { s' with heap := h4 } := fun {h4} fl4 up4 => by
    have J4 : Inv X pins σ H { s' with heap := h4 } := G.J.landed G.nb fl4.1 (G.up.trans up4) G.os G.ag
    obtain ⟨oe4, vs4, he4, hz4, hd4⟩ := fl4.there
    exact ⟨oe4, vs4, hz4, hd4, J4.suite he4 hd4 G.na nL nF⟩
  induction hk with
  | nil =>
    refine wpAny_handleBy_nil ?_
    obtain ⟨k1, k2, k3, oe, vs, T, oT, ts', he, hz, hd, h1, hr⟩ := id G.fl
    unfold PySem.passOn
    refine wpAny_bind (wpAny_field he hd h1 ?_)
    rw [if_neg (show ¬ ((Value.ref T == Value.none) = true) from by simp)]
    have fin : wpAny (model X.prog X.w) X.A (setFlight (.ref a) X.env.frame) (fun _ s4 => wpAny (model X.prog X.w) X.A (throw (.ref a) : Sem Flow) (SP X pins D) X.xe s4) X.xe { s' with heap := h3 } := by
      rw [hf]
      refine HandSPX.setFlight_upZ G.fl fun h4 hh4 up4 => wpAny_throw (tk _ _ ?_)
      exact ⟨a, B, sI, pins, σ, H, cls, d, rfl, G.J, G.nb, G.up.trans up4, .inr (.inr (by rw [hs]; exact hh4)), G.na, G.os, G.ag, w⟩
    first
      | exact wpAny_bind (wpAny_pure (wpAny_bind fin))
      | exact wpAny_bind fin
  | @plain x c ts b₀ suite np pos' hds2 l2 hc hsu r ih =>
    obtain ⟨b, hb1, hyes, hno⟩ := w
    refine wpAny_handleBy_cons (codeAny_handlers_test ?_) (by intro q; cases q)
    refine name hc ((PySem.W.exm_one (M := model X.prog X.w) J3.kIn LT hb1).here ?_)
    cases b with
    | true =>
      refine codeAny_handlers_suite (HandSPX.lands_againZ G.fl fun h4 fl4 up4 => ?_)
      obtain ⟨oe4, vs4, hz4, hd4, S4⟩ := again fl4 up4
      refine wpAny_mono ((hsu a oe4 cls d (X.pn ++ pins) hz4 ⟨_, hd4⟩).run [] _ _ H _ S4 (hyes rfl a G.na)) (fun f s6 hsp => ?_) (fun _ _ z => False.elim z)
      cases f with
      | next => obtain ⟨σ6, H6, S6, q6⟩ := hsp; exact ⟨_, _, S6.unsuite ok, q6⟩
      | brk => obtain ⟨σ6, H6, S6, q6⟩ := hsp; exact ⟨_, _, S6.unsuite ok, q6⟩
      | cont => obtain ⟨σ6, H6, S6, q6⟩ := hsp; exact ⟨_, _, S6.unsuite ok, q6⟩
      | ret u => obtain ⟨v6, σ6, H6, S6, r6, q6⟩ := hsp; exact ⟨_, _, _, S6.unsuite ok, r6, q6⟩
    | false =>
      show wpAny _ X.A (handleBy (.ref a) X.env hds2) _ _ _
      exact ih (hno rfl)
  | @named x n i c ts b₀ suite np pos' hds2 l2 hN hi hln hc hsu r ih =>
    obtain ⟨b, hb1, hyes, hno⟩ := w
    refine wpAny_handleBy_cons (codeAny_handlers_test ?_) (by intro q; cases q)
    refine name hc ((PySem.W.exm_one (M := model X.prog X.w) J3.kIn LT hb1).here ?_)
    cases b with
    | true =>
      refine codeAny_handlers_suite_as (HandSPX.lands_againZ G.fl fun h4 fl4 up4 => ?_)
      obtain ⟨oe4, vs4, hz4, hd4, S4⟩ := again fl4 up4
      refine store_ok (X := X.suite a ((a, oe4) :: (X.pn ++ pins))) (v := .ref a) S4 hN hi (.inl hln) rfl (fun s5 S5 => ?_) (.inr hln)
      refine wpAny_mono ((hsu a oe4 cls d (X.pn ++ pins) hz4 ⟨_, hd4⟩).run [] s5 _ H _ S5 (hyes rfl a G.na)) (fun f s6 hsp => ?_) (fun _ _ z => False.elim z)
      have fin : ∀ {σ6 : St} {H6 : Hp} {Q : Shared → Prop}, Inv (X.suite a ((a, oe4) :: (X.pn ++ pins))) [] σ6 H6 s6 → (∀ s7, Inv X pins (σ6.set i none) H6 s7 → Q s7) →
          wpAny (model X.prog X.w) X.A (do bindName X.env n .none; unbindBehindTheSuite X.env n pos') (fun _ s7 => Q s7) X.xe s6 := fun {σ6 H6 Q} S6 hq => gone_ok (S6.unsuite ok) hN hi hln hq
      cases f with
      | next => obtain ⟨σ6, H6, S6, q6⟩ := hsp; exact fin S6 fun s7 J7 => ⟨_, _, J7, q6⟩
      | brk => obtain ⟨σ6, H6, S6, q6⟩ := hsp; exact fin S6 fun s7 J7 => ⟨_, _, J7, q6⟩
      | cont => obtain ⟨σ6, H6, S6, q6⟩ := hsp; exact fin S6 fun s7 J7 => ⟨_, _, J7, q6⟩
      | ret u => obtain ⟨v6, σ6, H6, S6, r6, q6⟩ := hsp; exact fin S6 fun s7 J7 => ⟨_, _, _, J7, r6, q6⟩
    | false =>
      show wpAny _ X.A (handleBy (.ref a) X.env hds2) _ _ _
      exact ih (hno rfl)
theorem ps_try_cls (hs : X.stack = X.env :: X.outer) (hf : X.env.frame = some X.env.locals) (tk : Takes X Wout)
    (hb : ∀ (W : WX) (pn : List (Addr × Obj)) (xe : Value → Shared → Prop), Takes (X.tr pn xe) W → PassesOwn (model X.prog X.w) X.A X.env xe → PSs (X.tr pn xe) body (tb W))
    (hh : ClsOk X (h₀ :: hds) l) : PS X (.Try body (h₀ :: hds) [] [] pos) (fun D σ H => tb (wCls X.K Wout D l) D σ H) := by
  refine ⟨fun pins s σ H D I h => ?_⟩
  have ok := I.ok
  have hfr : X.A.frames = some (X.env :: X.outer) := by rw [ok.frames, hs]
  refine wpAny_Try_except ?_
  refine wpAny_mono ((hb (wCls X.K Wout D l) (X.pn ++ pins) (fun e s₁ => wpAny (model X.prog X.w) X.A (noteFrame e X.env) (fun _ s₂ => wpAny (model X.prog X.w) X.A (setFlight e none) (fun _ s₃ =>
    wpAny (model X.prog X.w) X.A (handleBy e X.env (h₀ :: hds)) (SP X pins D) X.xe s₃) X.xe s₂) X.xe s₁) (fun u s' xx => ?_) PassesOwn.looking).run [] s σ H D (I.toTry _) h) (fun f s1 hsp => ?_) (fun e s1 he => he)
  · obtain ⟨a, B, sI, pins', σ', H', cls, d, rfl, J', nb, up, sky, na, os, ag, w⟩ := xx
    have sky' : Sky B (X.env :: X.outer) a (Zc cls d) X.env.locals s'.heap := by rw [← hs]; exact sky
    show wpAny (model X.prog X.w) X.A (noteFrame (.ref a) X.env) _ _ _
    refine Sky.land Zc.steady hfr hf sky' fun h3 fl3 up3 => ?_
    exact clauses hs hf tk ⟨J'.ofTry ok, nb, up.trans up3, fl3, na, os, ag⟩ ok hh w
  · cases f with
    | next => obtain ⟨σ', H', J', q⟩ := hsp; exact wpAny_execs_nil ⟨σ', H', J'.ofTry ok, q⟩
    | brk => obtain ⟨σ', H', J', q⟩ := hsp; exact ⟨σ', H', J'.ofTry ok, q⟩
    | cont => obtain ⟨σ', H', J', q⟩ := hsp; exact ⟨σ', H', J'.ofTry ok, q⟩
    | ret u => obtain ⟨v, σ', H', J', r, q⟩ := hsp; exact ⟨v, σ', H', J'.ofTry ok, r, q⟩
end
/-- an own error's __init__(self, x): self.f = x -/
def spErr (C : Addr) (f : Str) : Sp := fun vs H Q _ => ∃ (e : Addr) (v : V), vs = [.ref e, v] ∧ H e = some (exo e C none) ∧ ∀ d, H d = none → d ≠ e → Q .non (upd (upd H d (exd d [(f, v)])) e (exo e C (some d)))
/-- what a raise C(v) of such a class leaves: its dict is new -/
theorem raise_err {C : Addr} {f : Str} {v : V} {H : Hp} {W : Value → Option Addr → Hp → Prop} (h : ∀ d H', H d = none → H' d = some (.xd [(f, v)]) → Same H H' → W (.ref C) (some d) H') :
    [v].length ≤ 1000 ∧ ∀ a, H a = none → spErr C f (.ref a :: ([v] ++ [])) (upd H a (exo a C none))
      (fun u H2 => u = .non ∧ ∃ (d : Addr) (fs : List (Str × V)), H2 a = some (exo a C (some d)) ∧ H2 d = some (exd d fs) ∧ H d = none ∧ W (.ref C) (some d) (upd (del H2 a) d (.xd fs))) (fun _ _ _ => False) := by
  refine ⟨by show 1 ≤ 1000; decide, fun a ha => ⟨a, v, rfl, upd_same, fun d hd nd => ⟨rfl, d, [(f, v)], upd_same, ?_, ?_, ?_⟩⟩⟩
  · rw [upd_ne nd, upd_same]
  · rw [upd_ne nd] at hd
    exact hd
  · rw [upd_ne nd] at hd
    refine h d _ hd upd_same fun b o e => ?_
    have nb : b ≠ d := ne_of_none e hd
    have na : b ≠ a := ne_of_none e ha
    rw [upd_ne nb, del_ne na, upd_ne na, upd_ne nb, upd_ne na]
    exact e
section
variable {X : Cx}
/-- a module's constant -/
theorem pe_globI {x : Str} {n : Int} {pos : Pos} (hg : Gl X x) (hm : ∃ t, X.mg x = some (.int n t)) (hd : (x == ("__debug__" : Str)) = false := by decide) : PE X (.Name x pos) (tC (.int n)) := by
  obtain ⟨t, h⟩ := hm
  exact pe_glob hg h ⟨t, rfl⟩ hd
theorem pe_globS {x z : Str} {pos : Pos} (hg : Gl X x) (hm : ∃ t, X.mg x = some (.str z t)) (hd : (x == ("__debug__" : Str)) = false := by decide) : PE X (.Name x pos) (tC (.str z)) := by
  obtain ⟨t, h⟩ := hm
  exact pe_glob hg h ⟨t, rfl⟩ hd
/-- the walk stops ahead of a loop's turns -/
def iWait (w : TI) : TI := fun σ H R => w σ H fun J H1 => Wait (R J H1)
theorem pi_wait {tg iter : Expr} {w : TI} (h : PI X tg iter w) : PI X tg iter (iWait w) :=
  ⟨fun pins s σ H R I q => thn (h.run pins s σ H _ I q) fun v s1 h1 => thn h1 fun itv s2 ⟨it, fp, tn, J, H2, e, I2, T, st2, f2, r⟩ => ⟨it, fp, tn, J, H2, e, I2, T, st2, f2, r.out⟩⟩
end
end L2
set_option Elab.async false
set_option linter.all false
set_option maxRecDepth 100000
set_option maxHeartbeats 4000000
/-! len(set(xs)), xs a list of unlike tuples of ints, up to 150 of them: how many they are. -/
namespace PfT
open PySem PySem.Spec PyProof.Rows L2
/-! ### the round of the slots -/
def M4 (m : Nat) : Prop := MaskOk m ∨ m = 511
def orb : Nat → Nat → List Nat
  | 0, _ => []
  | n + 1, x => x :: orb n ((x * 5 + 1) % 512)
theorem orb_mem : ∀ (n x j : Nat), j ∈ orb n x → ∃ k, k < n ∧ lcgI 511 x k = j
  | 0, _, _, h => nomatch h
  | n + 1, x, j, h => by
    rcases List.mem_cons.mp h with e | h
    · exact ⟨0, Nat.succ_pos _, e.symm⟩
    · obtain ⟨k, hk, e⟩ := orb_mem n _ j h
      refine ⟨k + 1, Nat.succ_lt_succ hk, ?_⟩
      have sh : ∀ q y, lcgI 511 ((y * 5 + 1) % 512) q = lcgI 511 y (q + 1) := by
        intro q y
        induction q with
        | zero => rfl
        | succ q ih =>
          show (lcgI 511 ((y * 5 + 1) % 512) q * 5 + 1) % 512 = (lcgI 511 y (q + 1) * 5 + 1) % 512
          rw [ih]
      rw [← sh]
      exact e
theorem orb_all : ((List.range 512).all fun j => (orb 512 0).contains j) = true := by decide +kernel
theorem orb_back : lcgI 511 0 512 = 0 := by decide +kernel
theorem from0 {j : Nat} (h : j ≤ 511) : ∃ k, k < 512 ∧ lcgI 511 0 k = j := by
  have q := List.all_eq_true.mp orb_all j (List.mem_range.mpr (by omega))
  exact orb_mem 512 0 j (by simpa using q)
theorem lcg_plus (m i : Nat) : ∀ a b, lcgI m i (a + b) = lcgI m (lcgI m i a) b
  | _, 0 => rfl
  | a, b + 1 => by
    show (lcgI m i (a + b) * 5 + 1) % (m + 1) = (lcgI m (lcgI m i a) b * 5 + 1) % (m + 1)
    rw [lcg_plus m i a b]
theorem lcg_any {m : Nat} (hm : M4 m) {i j : Nat} (hi : i ≤ m) (hj : j ≤ m) : ∃ k, k ≤ m ∧ lcgI m i k = j := by
  rcases hm with hm | rfl
  · exact lcgI_all hm hi hj
  · obtain ⟨x, hx, ex⟩ := from0 hi
    obtain ⟨y, hy, ey⟩ := from0 hj
    by_cases c : x ≤ y
    · refine ⟨y - x, by omega, ?_⟩
      rw [← ex, ← lcg_plus, show x + (y - x) = y by omega, ey]
    · refine ⟨512 - x + y, by omega, ?_⟩
      rw [← ex, ← lcg_plus, show x + (512 - x + y) = 512 + y by omega, lcg_plus, orb_back, ey]
theorem runs_meet {m : Nat} (hm : M4 m) (h : Int) {j : Nat} (hj : j ≤ m) : ∃ n, n ≤ m + 12 ∧ runI m (SetTable.bits h) n = j := by
  obtain ⟨q, hq, e⟩ := lcg_any hm (runI_le m (SetTable.bits h) 12) hj
  refine ⟨12 + q, by omega, ?_⟩
  rw [runI_tail (bits_lt h)]
  exact e
theorem m4_odd {m : Nat} (h : M4 m) : m % 2 = 1 := by
  rcases h with h | rfl
  · exact mask_odd h
  · rfl
theorem m4_le {m : Nat} (h : M4 m) : m ≤ 511 := by
  rcases h with (h | h | h) | h <;> omega
theorem way_in (m : Nat) (h : Int) (q : Nat) : way m h q ≤ m := by
  have b0 : SetTable.bits h % (m + 1) ≤ m := Nat.le_of_lt_succ (Nat.mod_lt _ (Nat.succ_pos _))
  have b1 := runEnd_bd b0
  have b2 := nth_in (m := m) q (runAt m (SetTable.bits h % (m + 1)) (SetTable.bits h)) (by unfold runAt; dsimp only; omega)
  exact Nat.le_trans (Nat.le_add_right _ _) b2
/-! ### the first empty slot -/
theorem gap {t : SetTable} (hm : M4 t.mask) (hd : t.dummies = #[]) (hn : t.place.size ≤ t.mask) (h : Int) :
    ∃ K, K < 10 * SetTable.turns t.mask ∧ t.slot (way t.mask h K) = .empty ∧ ∀ q, q < K → t.slot (way t.mask h q) ≠ .empty := by
  obtain ⟨j, hj, nj⟩ := st_missing t.place.toList (t.mask + 1) (by rw [Array.length_toList]; omega)
  obtain ⟨n, hn2, e⟩ := runs_meet hm h (Nat.le_of_lt_succ hj)
  obtain ⟨k, hk, e2⟩ := run_nth t.mask (SetTable.bits h) n
  have ej : way t.mask h k = j := by
    show (nth t.mask (runAt t.mask _ _) k).j = j
    rw [e2]
    exact e
  obtain ⟨K, a1, a2, a3⟩ := st_least (p := fun q => t.slot (way t.mask h q) = .empty) k (by
    show t.slot (way t.mask h k) = .empty
    rw [ej]
    exact slot_empty hd nj)
  exact ⟨K, by unfold SetTable.turns; omega, a2, a3⟩
theorem slot_two {t : SetTable} (hd : t.dummies = #[]) {j : Nat} (h : t.slot j ≠ .empty) : ∃ i, t.slot j = .live i ∧ i < t.place.size := by
  by_cases c : t.place[SetTable.below t.place j]? = some j
  · refine ⟨SetTable.below t.place j, ?_, ?_⟩
    · unfold SetTable.slot
      simp [c]
    · rcases Nat.lt_or_ge (SetTable.below t.place j) t.place.size with z | z
      · exact z
      · rw [Array.getElem?_eq_none z] at c
        cases c
  · refine absurd ?_ h
    unfold SetTable.slot
    rw [hd, L2.has_none]
    simp [c]
theorem dum_nth (m : Nat) : ∀ (n : Nat) (p : SetTable.Probe), p.dummy = none → (nth m p n).dummy = none
  | 0, _, h => h
  | n + 1, p, h => dum_nth m n (adv m p) (by unfold adv; split <;> exact h)
/-- what a probe meets ahead of the first empty slot, or that slot -/
theorem met {t : SetTable} (hd : t.dummies = #[]) (ha : Nat → Int) (h : Int) : ∀ (f K : Nat) (p : SetTable.Probe), p.dummy = none → K < f → (∀ q, q < K → t.slot (nth t.mask p q).j ≠ .empty) → t.slot (nth t.mask p K).j = .empty →
    (∃ q i, q < K ∧ t.slot (nth t.mask p q).j = .live i ∧ i < t.place.size ∧ SetTable.probe.go t ha h f p = some (.candidate (nth t.mask p q).j i (nth t.mask p (q + 1)))) ∨ SetTable.probe.go t ha h f p = some (.empty (nth t.mask p K).j none)
  | 0, _, _, _, hK, _, _ => absurd hK (Nat.not_lt_zero _)
  | f + 1, 0, p, hp, _, _, he => by
    have he2 : t.slot p.j = .empty := he
    refine .inr ?_
    unfold SetTable.probe.go
    rw [he2]
    show some (SetTable.Met.empty p.j p.dummy) = _
    rw [hp] <;> rfl
  | f + 1, K + 1, p, hp, hK, hin, he => by
    obtain ⟨i, hs, hi⟩ := slot_two hd (hin 0 (Nat.succ_pos _))
    have hs2 : t.slot p.j = .live i := hs
    by_cases c : ha i = h
    · refine .inl ⟨0, i, Nat.succ_pos _, hs, hi, ?_⟩
      unfold SetTable.probe.go
      rw [hs2]
      dsimp only
      rw [if_pos (beq_iff_eq.mpr c)] <;> rfl
    · have e : SetTable.probe.go t ha h (f + 1) p = SetTable.probe.go t ha h f (adv t.mask p) := by
        conv => lhs; unfold SetTable.probe.go
        rw [hs2]
        dsimp only
        rw [if_neg (fun z => c (beq_iff_eq.mp z))] <;> rfl
      rw [e]
      rcases met hd ha h f K (adv t.mask p) (dum_nth t.mask 1 p hp) (Nat.lt_of_succ_lt_succ hK) (fun q hq => hin (q + 1) (Nat.succ_lt_succ hq)) he with ⟨q, i2, b1, b2, b3, b4⟩ | b
      · exact .inl ⟨q + 1, i2, Nat.succ_lt_succ b1, b2, b3, b4⟩
      · exact .inr b
/-! ### laying all anew -/
theorem free_any {m : Nat} (hm : M4 m) (ow : Array (Option Nat)) (h : Int) {j : Nat} (hj : j ≤ m) (hf : oAt ow j = none) :
    ∃ z, SetTable.layClean.free m ow (SetTable.turns m) (SetTable.bits h % (m + 1)) (SetTable.bits h) = some z ∧ z ≤ m ∧ oAt ow z = none := by
  obtain ⟨n, hn, e⟩ := runs_meet hm h hj
  obtain ⟨o, eo⟩ : ∃ o, o = off m (SetTable.bits h % (m + 1)) (SetTable.bits h) n := ⟨_, rfl⟩
  have hw : way m h o = j := by
    show (nth m _ o).j = j
    rw [eo, nth_off, itL_run]
    exact e
  obtain ⟨K, c1, c2, c3⟩ := st_least (p := fun q => oAt ow (way m h q) = none) o (by
    show oAt ow (way m h o) = none
    rw [hw]
    exact hf)
  refine ⟨way m h K, ?_, way_in m h K, c2⟩
  refine free_spec m ow (SetTable.turns m) n _ _ K (by unfold SetTable.turns; omega) (by rw [← eo]; exact c1) (fun q hq => ?_) (by
    have c2' : oAt ow (way m h K) = none := c2
    rw [c2'] <;> rfl)
  have z := c3 q hq
  cases y : oAt ow (way m h q) with
  | none => exact absurd y z
  | some _ => rfl
/-- n are laid: each has a slot, and no more than n slots are taken -/
structure Occ (m n : Nat) (ow : Array (Option Nat)) : Prop where
  sz : ow.size = m + 1
  all : ∀ k, k < n → ∃ j, j ≤ m ∧ oAt ow j = some k
  few : ∃ ps : List Nat, ps.length = n ∧ ∀ j, j ≤ m → oAt ow j ≠ none → j ∈ ps
theorem Occ.next {m n : Nat} {ow : Array (Option Nat)} (hm : M4 m) (W : Occ m n ow) (hn : n ≤ m) (h : Int) :
    ∃ j, SetTable.layClean.free m ow (SetTable.turns m) (SetTable.bits h % (m + 1)) (SetTable.bits h) = some j ∧ Occ m (n + 1) (ow.setIfInBounds j (some n)) := by
  obtain ⟨ps, lp, hp⟩ := W.few
  obtain ⟨j0, l0, n0⟩ := st_missing ps (m + 1) (by omega)
  have f0 : oAt ow j0 = none := by
    rcases Classical.em (oAt ow j0 = none) with z | z
    · exact z
    · exact absurd (hp j0 (Nat.le_of_lt_succ l0) z) n0
  obtain ⟨j, ej, hj, fj⟩ := free_any hm ow h (Nat.le_of_lt_succ l0) f0
  have js : j < ow.size := by rw [W.sz]; omega
  have self := oAt_set_self (some n) js
  refine ⟨j, ej, by rw [Array.size_setIfInBounds]; exact W.sz, fun k hk => ?_, j :: ps, by rw [List.length_cons, lp], fun i hi ne => ?_⟩
  · by_cases c : k < n
    · obtain ⟨i, hi, e⟩ := W.all k c
      have ne : i ≠ j := fun z => by rw [z, fj] at e; cases e
      exact ⟨i, hi, (oAt_set_ne _ ne).trans e⟩
    · rw [show k = n by omega]
      exact ⟨j, hj, self⟩
  · by_cases c : i = j
    · rw [c]; exact List.mem_cons_self
    · rw [oAt_set_ne _ c] at ne
      exact List.mem_cons_of_mem _ (hp i hi ne)
theorem Occ.fold {m : Nat} (hm : M4 m) : ∀ (hs : List Int) (n : Nat) (ow : Array (Option Nat)), Occ m n ow → n + hs.length ≤ m →
    ∃ ow2, hs.foldl (stepF m) (some (ow, n)) = some (ow2, n + hs.length) ∧ Occ m (n + hs.length) ow2
  | [], n, ow, W, _ => ⟨ow, rfl, W⟩
  | h :: hs, n, ow, W, hl => by
    rw [List.length_cons] at hl
    obtain ⟨j, e, W2⟩ := W.next hm (by omega) h
    obtain ⟨ow2, f, W3⟩ := Occ.fold hm hs (n + 1) _ W2 (by omega)
    have ea : n + 1 + hs.length = n + (h :: hs).length := by rw [List.length_cons]; omega
    rw [ea] at f W3
    refine ⟨ow2, ?_, W3⟩
    rw [List.foldl_cons, stepF_some e]
    exact f
theorem laid_any (t : SetTable) {hs : Array Int} {wanted m : Nat} (hw : SetTable.sizeAbove wanted - 1 = m) (hm : M4 m) (hn : hs.size ≤ m) :
    ∃ t2 order, t.relaid hs wanted = some (t2, order) ∧ order.toList.Perm (List.range hs.size) ∧ t2.place.size = hs.size ∧ t2.mask = m ∧ t2.plain = t.plain ∧ t2.dummies = #[] := by
  have W0 : Occ m 0 (Array.replicate (m + 1) none) := ⟨by simp, fun k hk => absurd hk (Nat.not_lt_zero _), [], rfl, fun j hj e => absurd (oAt_init hj) e⟩
  obtain ⟨ow, f, W⟩ := Occ.fold hm hs.toList 0 _ W0 (by rw [Array.length_toList]; omega)
  rw [Nat.zero_add, Array.length_toList] at W
  have el : SetTable.layClean m hs = some ow := by
    rw [layClean_eq, f] <;> rfl
  have hr : t.relaid hs wanted = some (tabOf t m ow, ((liveOf m ow).map (·.2)).toArray) := by
    rw [relaid_eq, hw, el] <;> rfl
  have r1 := (ris_live (fun j => ow.getD j none) (List.range (m + 1)) (by unfold Ris; first | exact List.pairwise_lt_range | exact List.pairwise_lt_range _)).1
  have nd : ((liveOf m ow).map (·.1)).Nodup := List.Pairwise.imp Nat.ne_of_lt r1
  have hall : ∀ k, k < hs.size → k ∈ (liveOf m ow).map (·.2) := fun k hk => by
    obtain ⟨j, b1, b2⟩ := W.all k hk
    exact List.mem_map.mpr ⟨(j, k), (mem_live W.sz).2 ⟨b1, b2⟩, rfl⟩
  have hlen : (liveOf m ow).length = hs.size := by
    obtain ⟨ps, lp, hp⟩ := W.few
    have u1 := nat_nodup_len ((liveOf m ow).map (·.1)) ps nd fun y hy => by
      obtain ⟨⟨j, k⟩, hq, e⟩ := List.mem_map.mp hy
      obtain ⟨b1, b2⟩ := (mem_live W.sz).1 hq
      have e' : j = y := e
      rw [← e']
      exact hp j b1 (by rw [b2]; exact fun z => nomatch z)
    have u2 := nat_nodup_len (List.range hs.size) ((liveOf m ow).map (·.2)) List.nodup_range fun k hk => hall k (List.mem_range.mp hk)
    rw [List.length_map] at u1 u2
    rw [List.length_range] at u2
    omega
  refine ⟨_, _, hr, perm_range hs.size _ ?_ hall, ?_, rfl, rfl, rfl⟩
  · show ((liveOf m ow).map (·.2)).length = hs.size
    rw [List.length_map, hlen]
  · show ((liveOf m ow).map (·.1)).toArray.size = hs.size
    rw [List.size_toArray, List.length_map, hlen]
/-! ### the set -/
section
variable {P : Program} {w : World} {A : Around} {E : Value → Shared → Prop} {s : Shared}
/-- a set of unlike tuples, said weakly: which rows it has, in any order, and that its table has room -/
structure SW (P : Program) (w : World) (h : Heap) (a : Addr) (L : List (Addr × List Int)) (es : Array (Int × Value)) (ep : Nat) (t : SetTable) : Prop where
  ob : ∃ o, h.get? a = some o ∧ o.ExactSet ∧ o.data = .set es ep t
  rows : es.toList = rowsOf P w L
  pz : t.place.size = L.length
  dm : t.dummies = #[]
  mok : M4 t.mask
  tup : ∀ p ∈ L, IsT P w h p.2 p.1
  plain : t.plain = true
  room : L.length * 5 < t.mask * 3
variable {a : Addr} {L : List (Addr × List Int)} {es : Array (Int × Value)} {ep : Nat} {t : SetTable}
theorem rows_size (h : es.toList = rowsOf P w L) : es.size = L.length := by
  have q := congrArg List.length h
  unfold rowsOf at q
  simpa using q
theorem SW.fits (R : SW P w s.heap a L es ep t) : t.fits es.size = true := by
  have q1 := rows_size R.rows
  have q2 := R.pz
  have q3 := R.room
  unfold SetTable.fits SetTable.fill
  rw [R.dm]
  simp only [Bool.and_eq_true, beq_iff_eq, decide_eq_true_eq]
  exact ⟨by omega, by show _ + 0 ≤ _; omega⟩
theorem SW.row (R : SW P w s.heap a L es ep t) {i : Nat} {p : Addr × List Int} (h : L[i]? = some p) : es[i]? = some (thash P w p.2, Value.ref p.1) := by
  rw [← Array.getElem?_toList, R.rows]
  simp [rowsOf, h]
abbrev stand (m : Nat) (h : Int) (c : Nat) : SetTable.Probe := nth m (runAt m (SetTable.bits h % (m + 1)) (SetTable.bits h)) c
theorem look (R : SW P w s.heap a L es ep t) {x : Addr} {k : List Int} (hx : IsT P w s.heap k x) (hu : A.units < cLine) (hne : k ∉ L.map (·.2)) {K : Nat} (hKf : K < 10 * SetTable.turns t.mask)
    (hK : t.slot (way t.mask (thash P w k) K) = .empty) (hKb : ∀ q, q < K → t.slot (way t.mask (thash P w k) q) ≠ .empty) {Q : SetFound → Shared → Prop} (hq : ∀ j, Q (.free j false) s) :
    ∀ (f c : Nat) (st : Option SetTable.Probe), st.getD (t.probeStart (thash P w k)) = stand t.mask (thash P w k) c → c ≤ K → K - c < f → wpAny (model P w) A (setSearchFrom a (.ref x) (thash P w k) true f st) Q E s := by
  intro f
  induction f with
  | zero => exact fun c st _ _ hf => absurd hf (Nat.not_lt_zero _)
  | succ f ih =>
    intro c st est hc hf
    obtain ⟨o, ho, hex, hd⟩ := R.ob
    rw [setSearchFrom_succ]
    refine wpAny_bind (wpAny_setState_of ho hd R.fits ?_)
    dsimp only
    refine wp_if_neg (by unfold SetTable.gaveWay; rw [m4_odd R.mok]; decide) ?_
    try refine wpAny_bind (wpAny_pure ?_)
    have shift : ∀ q, nth t.mask (stand t.mask (thash P w k) c) q = stand t.mask (thash P w k) (c + q) := fun q => (nth_add t.mask c _ q).symm
    have spec := met R.dm (fun i => (es[i]?.map (·.1)).getD 0) (thash P w k) (10 * SetTable.turns t.mask) (K - c) (stand t.mask (thash P w k) c) (dum_nth _ _ _ rfl) (by omega)
      (fun q hq => by rw [shift]; exact hKb (c + q) (by omega)) (by rw [shift, show c + (K - c) = K by omega]; exact hK)
    rw [est]
    rcases spec with ⟨q, i, hqK, hs, hi, hp⟩ | hp
    · have hp2 : t.probe (fun i => (es[i]?.map (·.1)).getD 0) (thash P w k) (stand t.mask (thash P w k) c) = some (.candidate (way t.mask (thash P w k) (c + q)) i (stand t.mask (thash P w k) (c + (q + 1)))) := by
        rw [shift, shift] at hp
        exact hp
      rw [shift] at hs
      rw [hp2]
      dsimp only
      have hil : i < L.length := by rw [← R.pz]; exact hi
      obtain ⟨p, hpL⟩ : ∃ p, L[i]? = some p := ⟨L[i], List.getElem?_eq_getElem hil⟩
      have pm : p ∈ L := List.mem_of_getElem? hpL
      have pk : p.2 ≠ k := fun z => hne (List.mem_map.mpr ⟨p, pm, z⟩)
      have on : wpAny (model P w) A (searchRest a (.ref x) (thash P w k) true f es t (way t.mask (thash P w k) (c + q)) i (stand t.mask (thash P w k) (c + (q + 1)))) Q E s := by
        unfold searchRest
        rw [R.row hpL]
        dsimp only
        refine wpAny_bind (wpAny_holding (wpAny_eqBool_tuple hu (R.tup p pm) hx ?_))
        refine wpAny_bind (wpAny_setState_of ho hd R.fits ?_)
        dsimp only
        refine wp_if_neg (by simp [pk]) ?_
        try refine wpAny_bind (wpAny_pure ?_)
        rw [sameMem]
        dsimp only
        have hs' : t.slot (way t.mask (thash P w k) (c + q)) = .live i := hs
        simp only [if_true, hs', R.row hpL]
        refine wpAny_bind (wpAny_isSame_ref_self (wpAny_bind (wpAny_pure ?_)))
        simp only [if_true]
        refine wp_if_neg (by simp [pk]) ?_
        exact ih (c + (q + 1)) _ rfl (by omega) (by omega)
      by_cases l : t.led = true
      · refine wp_if_neg (by simp [l]) ?_
        try refine wpAny_bind (wpAny_pure ?_)
        exact on
      · refine wp_if_pos (by simp [l]) (wpAny_bind (seen_tup hx (fun y hy => ?_) ?_))
        · obtain ⟨e, he, ee⟩ := List.mem_map.mp hy
          have he2 : e ∈ es.toList := by
            have : e ∈ es ∧ e.1 = thash P w k := by simpa using he
            simpa using this.1
          rw [R.rows] at he2
          obtain ⟨p2, m2, e2⟩ := List.mem_map.mp he2
          exact ⟨p2.2, p2.1, by rw [← ee, ← e2], R.tup p2 m2⟩
        · refine wp_if_neg (by decide) ?_
          try refine wpAny_bind (wpAny_pure ?_)
          exact on
    · have hp2 : t.probe (fun i => (es[i]?.map (·.1)).getD 0) (thash P w k) (stand t.mask (thash P w k) c) = some (.empty (way t.mask (thash P w k) K) none) := by
        rw [shift, show c + (K - c) = K by omega] at hp
        exact hp
      rw [hp2]
      exact wpAny_pure (hq _)
theorem relay {o : Obj} (ho : s.heap.get? a = some o) (hex : o.ExactSet) (hd : o.data = .set es ep t) (hrows : es.toList = rowsOf P w L) (pz : t.place.size = L.length) (dm : t.dummies = #[]) (hfl : L.length ≤ t.mask)
    (tup : ∀ p ∈ L, IsT P w s.heap p.2 p.1) (pl : t.plain = true) {wanted m : Nat} (hw : SetTable.sizeAbove wanted - 1 = m) (hm : M4 m) (hw2 : SetTable.sizeAbove wanted ≤ 512) (hn : L.length * 5 < m * 3) {Q : Unit → Shared → Prop}
    (hQ : ∀ h2 L2 es2 ep2 t2, Heap.SameBut a s.heap h2 → SW P w h2 a L2 es2 ep2 t2 → L2.Perm L → Q () { s with heap := h2 }) : wpAny (model P w) A (setRelay a wanted) Q E s := by
  have hsl := rows_size hrows
  have hfits : t.fits es.size = true := by
    unfold SetTable.fits SetTable.fill
    rw [dm]
    simp only [Bool.and_eq_true, beq_iff_eq, decide_eq_true_eq]
    exact ⟨by omega, by show _ + 0 ≤ _; omega⟩
  obtain ⟨t2, order, e, hp, z2, em, epl, ed⟩ := laid_any t (hs := es.map (·.1)) (wanted := wanted) hw hm (by rw [Array.size_map, hsl]; omega)
  rw [Array.size_map, hsl] at hp z2
  obtain ⟨L2, r1, r2, _⟩ := order_rows L es order hrows hp
  have hs2 : (order.filterMap (es[·]?)).size = es.size := by rw [rows_size r1, r2.length_eq, hsl]
  rw [setRelay_eq]
  refine wpAny_bind (wpAny_setState_of ho hd hfits ?_)
  dsimp only
  refine wp_if_neg (by rw [sizeLine_eq]; omega) ?_
  try refine wpAny_bind (wpAny_pure ?_)
  rw [e]
  dsimp only
  refine wpAny_bind (wp_if_neg (by rw [hs2]; simp) ?_)
  try refine wpAny_bind (wpAny_pure ?_)
  refine wpAny_pure ?_
  dsimp only
  refine wpAny_storeSet_of ho hd ?_ (by rw [hs2, hsl, sizeLine_eq]; have := m4_le hm; omega)
  have sb : Heap.SameBut a s.heap (s.heap.update a (Obj.putSet (order.filterMap (es[·]?)) t2)) := Heap.SameBut.update ..
  exact hQ _ L2 _ (ep + 1) t2 sb ⟨⟨_, store_at ho hd, ⟨hex.1, hex.2.1, hex.2.2⟩, rfl⟩, r1, by rw [z2, r2.length_eq], ed, by rw [em]; exact hm, fun p hpm => isT_same (tup p (r2.mem_iff.mp hpm)) ho hd sb, by rw [epl]; exact pl, by rw [r2.length_eq, em]; exact hn⟩ r2
theorem sizes : SetTable.sizeAbove (SetTable.grown 5) = 32 ∧ SetTable.sizeAbove (SetTable.grown 19) = 128 ∧ SetTable.sizeAbove (SetTable.grown 77) = 512 := by decide +kernel
/-- one more -/
theorem more (R : SW P w s.heap a L es ep t) {x : Addr} {k : List Int} (hx : IsT P w s.heap k x) (hu : A.units < cLine) (hne : k ∉ L.map (·.2)) (hfew : L.length < 150) {Q : Bool → Shared → Prop}
    (hQ : ∀ b h2 L2 es2 ep2 t2, Heap.SameBut a s.heap h2 → SW P w h2 a L2 es2 ep2 t2 → L2.Perm ((x, k) :: L) → Q b { s with heap := h2 }) : wpAny (model P w) A (setAddHashed a (.ref x) (thash P w k)) Q E s := by
  obtain ⟨o, ho, hex, hd⟩ := R.ob
  have hsl := rows_size R.rows
  have hroom := R.room
  obtain ⟨K, g1, g2, g3⟩ := gap R.mok R.dm (by rw [R.pz]; omega) (thash P w k)
  have hKb : K < 100000 := by
    have := m4_le R.mok
    unfold SetTable.turns at g1
    omega
  unfold setAddHashed
  refine wpAny_holding ?_
  rw [show (100000 : Nat) = 99999 + 1 from rfl, setAddHashedIn_succ]
  refine wpAny_bind (wpAny_setState_of ho hd R.fits ?_)
  dsimp only
  refine wp_if_neg (by simp [byScan, Value.scannable]) ?_
  try refine wpAny_bind (wpAny_pure ?_)
  refine wpAny_bind ?_
  unfold setSearch
  refine look R hx hu hne g1 g2 g3 (fun j => ?_) 100000 0 none rfl (Nat.zero_le _) (by omega)
  dsimp only
  refine wpAny_bind (wpAny_setState_of ho hd R.fits ?_)
  dsimp only
  have p1 := put_place t j
  have p2 := put_dm R.dm j
  have p3 : (t.put j).1.mask = t.mask := rfl
  have p4 : (t.put j).1.plain = true := R.plain
  have p5 : (t.put j).2 = SetTable.below t.place j := rfl
  generalize t.put j = pt at p1 p2 p3 p4 p5 ⊢
  obtain ⟨t1, p⟩ := pt
  dsimp only at p1 p2 p3 p4 p5 ⊢
  rw [← p5] at p1
  first
    | (refine wpAny_bind ?_; refine wp_if_pos p4 ?_; refine hashBy_tup hx ?_)
    | refine wp_if_pos p4 (wpAny_bind (hashBy_tup hx ?_))
  simp only [if_true]
  have rows1 : (SetTable.insertAt es p (thash P w k, Value.ref x)).toList = rowsOf P w (L.take p ++ (x, k) :: L.drop p) := by
    rw [SetTable.toList_insertAt, rows_put, R.rows]
  have pm := put_perm L p (x, k)
  have pz1 : t1.place.size = (L.take p ++ (x, k) :: L.drop p).length := by
    have q := congrArg List.length p1
    rw [Array.length_toList] at q
    rw [q, (put_perm t.place.toList p j).length_eq, pm.length_eq, List.length_cons, List.length_cons, Array.length_toList, R.pz]
  generalize SetTable.insertAt es p (thash P w k, Value.ref x) = es1 at rows1 ⊢
  generalize L.take p ++ (x, k) :: L.drop p = L1 at pm rows1 pz1
  have len1 : L1.length = L.length + 1 := pm.length_eq
  have esz := rows_size rows1
  refine wpAny_bind (wpAny_storeSet_of ho hd ?_ (by rw [esz, len1, sizeLine_eq]; omega))
  have sb : Heap.SameBut a s.heap (s.heap.update a (Obj.putSet es1 t1)) := Heap.SameBut.update ..
  have ho1 := store_at (es' := es1) (t' := t1) ho hd
  generalize s.heap.update a (Obj.putSet es1 t1) = h1 at sb ho1 ⊢
  have tup1 : ∀ p ∈ L1, IsT P w h1 p.2 p.1 := fun p hp => by
    rcases List.mem_cons.mp (pm.mem_iff.mp hp) with e | hp
    · rw [e]; exact isT_same hx ho hd sb
    · exact isT_same (R.tup p hp) ho hd sb
  have full : t1.tooFull = decide ((L.length + 1) * 5 ≥ t.mask * 3) := by
    unfold SetTable.tooFull SetTable.fill
    rw [p2, p3, pz1, len1] <;> rfl
  by_cases hf : (L.length + 1) * 5 ≥ t.mask * 3
  · first
      | (refine wpAny_bind ?_; refine wp_if_pos (by simp [full, hf]) ?_)
      | (refine wp_if_pos (by simp [full, hf]) ?_; refine wpAny_bind ?_)
    rw [hsl]
    have go : ∀ m, SetTable.sizeAbove (SetTable.grown (L.length + 1)) - 1 = m → M4 m → SetTable.sizeAbove (SetTable.grown (L.length + 1)) ≤ 512 → (L.length + 1) * 5 < m * 3 →
        wpAny (model P w) A (setRelay a (SetTable.grown (L.length + 1))) (fun _ s2 => wpAny (model P w) A (pure true) Q E s2) E { s with heap := h1 } := fun m e1 e2 e3 e4 => by
      refine relay (s := { s with heap := h1 }) ho1 ⟨hex.1, hex.2.1, hex.2.2⟩ rfl rows1 pz1 p2 (by rw [len1, p3]; omega) tup1 p4 e1 e2 e3 (by rw [len1]; exact e4) ?_
      exact fun h2 L2 es2 ep2 t2 sb2 R2 pm2 => wpAny_pure (hQ true h2 L2 es2 ep2 t2 (sb.trans sb2) R2 (pm2.trans pm))
    obtain ⟨z1, z2, z3⟩ := sizes
    rcases R.mok with (e | e | e) | e
    · have e2 : L.length + 1 = 5 := by omega
      exact go 31 (by rw [e2, z1]) (.inl (.inr (.inl rfl))) (by rw [e2, z1]; decide) (by omega)
    · have e2 : L.length + 1 = 19 := by omega
      exact go 127 (by rw [e2, z2]) (.inl (.inr (.inr rfl))) (by rw [e2, z2]; decide) (by omega)
    · have e2 : L.length + 1 = 77 := by omega
      exact go 511 (by rw [e2, z3]) (.inr rfl) (by rw [e2, z3]; decide) (by omega)
    · exfalso; omega
  · first
      | refine wp_if_neg (by simp [full, hf]) ?_
      | (refine wpAny_bind ?_; refine wp_if_neg (by simp [full, hf]) ?_; refine wpAny_pure ?_)
    exact wpAny_pure (hQ true h1 L1 es1 (ep + 1) t1 sb ⟨⟨_, ho1, ⟨hex.1, hex.2.1, hex.2.2⟩, rfl⟩, rows1, pz1, p2, by rw [p3]; exact R.mok, tup1, p4, by rw [len1, p3]; omega⟩ pm)
theorem SW.keep {h h2 : Heap} (R : SW P w h a L es ep t) (ha : ∀ o, h.get? a = some o → h2.get? a = some o) (ht : ∀ p ∈ L, IsT P w h2 p.2 p.1) : SW P w h2 a L es ep t := by
  obtain ⟨o, ho, r⟩ := R.ob
  exact ⟨⟨o, ha o ho, r⟩, R.rows, R.pz, R.dm, R.mok, ht, R.plain, R.room⟩
theorem sw_new {h : Heap} {ld : Bool} (ho : h.get? a = some { cls := .type "set", dict := none, data := .set #[] 0 (.fresh 0 0 ld) }) : SW P w h a [] #[] 0 (.fresh 0 0 ld) :=
  ⟨⟨_, ho, ⟨rfl, rfl, rfl⟩, rfl⟩, rfl, rfl, rfl, .inl (.inl rfl), fun p hp => (nomatch hp), rfl, by show 0 * 5 < 7 * 3; decide⟩
/-- the loop of set.update over unlike tuples -/
theorem loopT {R : Result → Shared → Prop} {J : Addr} {fp wr : List Addr} {G : Array GenState → Array GenState → Prop} {n : Nat} {Pv : Nat → Value → Prop} {St : Nat → Shared → Prop}
    (W : WalksS P w A.in1 J fp wr G n Pv St) (S : Addr) (hSf : S ∉ fp) (ks : List (Addr × List Int)) (hn : n = ks.length) (hfew : ks.length ≤ 150) (hnd : (ks.map (·.2)).Nodup) (hval : ∀ i v, Pv i v → ∃ p, ks[i]? = some p ∧ v = .ref p.1)
    (h0 : Heap) (hk : ∀ p ∈ ks, IsT P w h0 p.2 p.1) (hS0 : h0.get? S = none) (hw0 : ∀ b ∈ wr, h0.get? b = none) (hu : A.in1.units < cLine) :
    ∀ (k i : Nat) (s : Shared), n - i = k → i ≤ n → St i s → (∀ b o, h0.get? b = some o → s.heap.get? b = some o) → (∃ L es ep t, SW P w s.heap S L es ep t ∧ L.Perm (ks.take i)) →
      (∀ s2 L es ep t, Moved (S :: wr) G s s2 → SW P w s2.heap S L es ep t → L.Perm (ks.take n) → (∀ b o, h0.get? b = some o → s2.heap.get? b = some o) → R (.ok (.ret .none)) s2) →
      codeAny (model P w) A (.builtin "set.update.loop" ⟨[.ref S, .ref J], []⟩) R s := by
  have nw : S ∉ wr := fun q => hSf (W.sub _ q)
  have sub1 : ∀ b ∈ wr, b ∈ S :: wr := fun b q => List.mem_cons_of_mem _ q
  have still : ∀ {s s2 : Shared}, Moved wr G s s2 → (∀ b o, h0.get? b = some o → s.heap.get? b = some o) → ∀ b o, h0.get? b = some o → s2.heap.get? b = some o := fun mv kp b o e =>
    mv.heap b o (fun hb => by rw [hw0 b hb] at e; cases e) (kp b o e)
  intro k
  induction k with
  | zero =>
    intro i s ek hi st kp ⟨L, es, ep, t, hS, pm⟩ hR
    have e : i = n := by omega
    subst e
    refine codeAny_builtin F.entry_set_update_loop ?_
    rw [Around.under_plainId F.plain_set_update_loop _]
    show wpAny _ A.in1 (pyNext (.ref J) >>= _) _ _ s
    refine wpAny_bind (W.done s _ _ st fun s1 mv => ?_)
    have kp1 := still mv kp
    have hin : ∀ p ∈ L, p ∈ ks := fun p hp => List.mem_of_mem_take (pm.mem_iff.mp hp)
    show wpAny _ A.in1 (ret Value.none) _ _ s1
    exact wpAny_pure (hR s1 L es ep t (mv.mono sub1) (hS.keep (fun o e => mv.heap S o nw e) fun p hp => isT_keep (hk p (hin p hp)) kp1) pm kp1)
  | succ k ih =>
    intro i s ek hi st kp ⟨L, es, ep, t, hS, pm⟩ hR
    have lt : i < n := by omega
    refine codeAny_builtin F.entry_set_update_loop ?_
    rw [Around.under_plainId F.plain_set_update_loop _]
    show wpAny _ A.in1 (pyNext (.ref J) >>= _) _ _ s
    refine wpAny_bind (W.item i s _ _ lt st fun v s1 hP st1 mv => ?_)
    obtain ⟨p, hp, rfl⟩ := hval i v hP
    have kp1 := still mv kp
    have hin : ∀ p ∈ L, p ∈ ks := fun p hp => List.mem_of_mem_take (pm.mem_iff.mp hp)
    have S1 : SW P w s1.heap S L es ep t := hS.keep (fun o e => mv.heap S o nw e) fun q hq => isT_keep (hk q (hin q hq)) kp1
    have hx : IsT P w s1.heap p.2 p.1 := isT_keep (hk p (List.mem_of_getElem? hp)) kp1
    have tk : ks.take (i + 1) = ks.take i ++ [p] := by rw [List.take_add_one, hp] <;> rfl
    have new : p.2 ∉ L.map (·.2) := fun z => by
      rw [(pm.map (·.2)).mem_iff] at z
      have q := hnd.sublist ((List.take_sublist (i + 1) ks).map (·.2))
      rw [tk, List.map_append, List.nodup_append] at q
      exact q.2.2 _ z _ (List.mem_cons_self) rfl
    have len : L.length < 150 := by
      rw [pm.length_eq, List.length_take]
      omega
    show wpAny _ A.in1 (holding [Value.ref p.1] (setAdd S (.ref p.1)) >>= _) _ _ s1
    refine wpAny_bind (wpAny_holding ?_)
    unfold setAdd
    refine wpAny_holding (wpAny_bind (wpAny_pyHash_tuple hu hx ?_))
    refine more (s := { s1 with toks := s1.toks + (p.2.length + 1) }) S1 hx hu new len fun b h2 L2 es2 ep2 t2 sb S2 pm2 => ?_
    have pm3 : L2.Perm (ks.take (i + 1)) := by
      rw [tk]
      exact (pm2.trans (pm.cons p)).trans (List.perm_append_singleton p _).symm
    have kp2 : ∀ b o, h0.get? b = some o → h2.get? b = some o := fun b o e => (sb.2 b (fun z => by rw [z, hS0] at e; cases e)).trans (kp1 b o e)
    refine wpAny_pure ⟨plainId_quiet F.plain_set_update_loop _, ih (i + 1) _ (by omega) lt (W.frame _ s1 _ _ st1 (Nat.le_add_right _ _) fun b hb o e => ?_) kp2 ⟨L2, es2, ep2, t2, S2, pm3⟩ fun s3 L3 es3 ep3 t3 mv3 S3 pm4 kp3 => ?_⟩
    · rw [sb.2 b (fun q : b = S => hSf (by rw [← q]; exact hb))]
      exact e
    · refine hR s3 L3 es3 ep3 t3 (Moved.trans W.gtrans ((mv.mono sub1).then_heap (Nat.le_add_right _ _) fun b o hb e => ?_) mv3) S3 pm4 kp3
      rw [sb.2 b (fun q : b = S => hb (by rw [q]; exact List.mem_cons_self))]
      exact e
abbrev newSet (ld : Bool) : Obj := { cls := .type "set", dict := none, data := .set #[] 0 (.fresh 0 0 ld) }
/-- set(xs) -/
theorem callSetU {l : Addr} {its : Array Value} (ks : List (Addr × List Int)) {Q : Value → Shared → Prop} (hh : A.handled = none) (hl : s.heap.IsList l its) (hit : its.toList = ks.map fun p => Value.ref p.1)
    (hk : ∀ p ∈ ks, IsT P w s.heap p.2 p.1) (hfew : ks.length ≤ 150) (hnd : (ks.map (·.2)).Nodup) (hu : A.units + 3 < cLine)
    (q : ∀ (h2 : Heap) (tk : Nat) L es ep t, SW P w h2 s.heap.objs.size L es ep t → L.Perm ks → (∀ b o, s.heap.get? b = some o → h2.get? b = some o) → Q (.ref s.heap.objs.size) { s with heap := h2, toks := tk }) :
    wpAny (model P w) A (call (.type "set") [.ref l]) Q E s := by
  have hsz : its.size = ks.length := by
    have z := congrArg List.length hit
    simpa using z
  obtain ⟨c, tl, hmro⟩ := PySem.F.called_set.mro
  have g1 := PySem.F.called_set.made
  have g2 := PySem.F.called_set.sub
  have g3 := PySem.F.called_set.notType
  have g4 := PySem.F.called_set.canCreate
  have g5 := PySem.F.typeCall_set_1 (.ref l)
  refine wpAny_call (codeAny_of_tree ?_)
  show wpAny _ _ (callAny (.type "set") _) _ _ _
  refine wpAny_pure ⟨Code.quiet_builtin _ (by decide +kernel), codeAny_builtin PySem.F.entry_type_call ?_⟩
  rw [Around.under_plain (weight_type_call_type "set" [.ref l] []) rfl]
  repeat (any_goals (first | assumption | wp_step))
  refine codeAny_mono (code_set_new_1 (.ref l) (E := E) (Q₁ := fun ob s1 => ∃ ld : Bool, ob = .ref s.heap.objs.size ∧ s1 = { s with heap := s.heap.push (newSet ld) }) fun ld => ⟨ld, rfl, rfl⟩) fun r s1 hr => ?_
  cases r with
  | error e => exact hr
  | ok fl =>
    cases fl with
    | ret ob =>
      obtain ⟨ld, rfl, rfl⟩ := hr
      have hS : (s.heap.push (newSet ld)).get? s.heap.objs.size = some (newSet ld) := Heap.get?_push_size _ rfl
      have hT : Shared.TypeIs { s with heap := s.heap.push (newSet ld) } (.ref s.heap.objs.size) "set" := ⟨_, hS, rfl⟩
      have g6 := PySem.F.called_set.init.lookup
      have g7 := PySem.F.called_set.init.bind (.ref s.heap.objs.size)
      repeat (any_goals (first | assumption | wp_step))
      refine codeAny_mono (codeAny_call_builtin (R := wants (fun r s2 => r = .none ∧ ∃ h2 tk L es ep t, s2 = { s with heap := h2, toks := tk } ∧ SW P w h2 s.heap.objs.size L es ep t ∧ L.Perm ks ∧
          (∀ b o, s.heap.get? b = some o → h2.get? b = some o)) E) PySem.F.called_set.init.plain PySem.F.entry_set_init (check_set_init_1 hT ?_)) fun r2 s2 hr2 => ?_
      · obtain ⟨ol, hol, hcl, nl, hdl⟩ := hl
        obtain ⟨oc, od, odt, os⟩ := ol
        simp only at hcl hdl
        subst hcl
        subst hdl
        have hol2 : (s.heap.push (newSet ld)).get? l = some { cls := .type "list", dict := od, data := .seq its nl, slots := os } := Heap.get?_push_of_some _ hol
        have g8 := PySem.F.sub_list_set
        have g9 := PySem.F.sub_list_frozenset
        have g10 : (Value.type "list" == Value.type "dict") = false := by decide
        have hl1 : (s.heap.push (newSet ld)).IsList l its := ⟨_, hol2, rfl, nl, rfl⟩
        unfold Builtin.«set.__init__» noKeywords Builtin.Frozenset.updateFrom
        generalize ePI : pyIter = PI
        wp_walk
        subst ePI
        refine wpAny_pyIter_list hl1 (wpAny_bind (wpAny_runValue ?_))
        have lS : l < s.heap.objs.size := Heap.lt_size hol
        have hh3 : A.in1.in1.in1.handled = none := by simp [hh]
        have neI : l ≠ (s.heap.push (newSet ld)).objs.size := by
          rw [Heap.size_push]
          exact Nat.ne_of_lt (Nat.lt_succ_of_lt lS)
        have hSf : s.heap.objs.size ∉ [(s.heap.push (newSet ld)).objs.size, l] := by
          rw [Heap.size_push]
          simp only [List.mem_cons, List.mem_singleton, List.not_mem_nil, or_false, not_or]
          exact ⟨Nat.ne_of_lt (Nat.lt_succ_self _), Nat.ne_of_gt lS⟩
        have hval : ∀ (i : Nat) (v : Value), its[i]? = some v → ∃ p, ks[i]? = some p ∧ v = .ref p.1 := fun i v hv => by
          have z : its.toList[i]? = some v := by rw [Array.getElem?_toList]; exact hv
          rw [hit, List.getElem?_map] at z
          obtain ⟨p, hp, e⟩ := Option.map_eq_some_iff.mp z
          exact ⟨p, hp, e.symm⟩
        have gone : ∀ b, s.heap.objs.size ≤ b → s.heap.get? b = none := fun b hb => by
          rcases z : s.heap.get? b with _ | o
          · rfl
          · exact absurd (Heap.lt_size z) (Nat.not_lt.mpr hb)
        refine loopT ((Walks.list hh3 _ l neI its).toS) s.heap.objs.size hSf ks hsz hfew hnd hval s.heap hk (gone _ (Nat.le_refl _)) (fun b hb => gone b (by
          rw [List.mem_singleton.mp hb, Heap.size_push]
          exact Nat.le_succ _)) hu (its.size - 0) 0 _ (by omega) (Nat.zero_le _) ⟨⟨_, Heap.get?_push_size _ rfl, rfl, rfl⟩, (hl1.push _)⟩ (fun b o e => Heap.get?_push_of_some _ (Heap.get?_push_of_some _ e)) ?hS0 ?hR
        case hS0 =>
          have hget : ((s.heap.push (newSet ld)).push { cls := .type "list_iterator", data := .fields #[.ref l, .int 0 0] }).get? s.heap.objs.size = some (newSet ld) := Heap.get?_push_of_some _ hS
          exact ⟨[], #[], 0, _, sw_new hget, List.Perm.refl _⟩
        case hR =>
          intro s3 L es ep t mv S3 pm kp
          rw [hsz, List.take_length] at pm
          obtain ⟨h3, gn, dr, tk, os3⟩ := s3
          have eg : gn = s.gens := mv.gens
          have ed : dr = s.drawn := mv.drawn
          have eo : os3 = s.os := mv.os
          subst eg
          subst ed
          subst eo
          show wpAny _ _ _ _ _ _
          refine wpAny_pure ?_
          show wpAny _ _ (ret Value.none) _ _ _
          exact wpAny_pure ⟨rfl, h3, tk, L, es, ep, t, rfl, S3, pm, kp⟩
      · cases r2 with
        | error e => exact hr2
        | ok fl2 =>
          cases fl2 with
          | ret r =>
            obtain ⟨rfl, h2, tk, L, es, ep, t, rfl, S2, pm, k2⟩ := hr2
            repeat (any_goals (first | assumption | wp_step))
            exact q _ _ _ _ _ _ S2 pm k2
          | _ => exact hr2.elim
    | _ => exact hr.elim
end
end PfT
namespace L2
open PySem PySem.Spec PyProof.Rows
/-- len(set(xs)), xs a list of unlike tuples of ints -/
def tLenT (K : PySem.W.Frag) (ta : TE) : TE := fun σ H Q => ta σ H fun x H1 => ∃ l, ∃ ks : List (Addr × List Int), x = .ref l ∧ SqL K H1 l (ks.map fun p => V.ref p.1) ∧ (∀ p ∈ ks, SqT K H1 p.1 (p.2.map V.int)) ∧ (ks.map (·.2)).Nodup ∧ ks.length ≤ 150 ∧ Q (.int ks.length) H1
section
variable {X : Cx}
theorem pe_lenT {a : Expr} {ta : TE} {p p2 q pos : Pos} (hc : X.calm = true) (hu : X.A.units + 64 < cLine) (hg : Gl X "len") (hm : X.mg "len" = none) (hg2 : Gl X "set") (hm2 : X.mg "set" = none) (ha : PE X a ta)
    (na : starEach [a] X.env = (false, eval a X.env) :: starEach [] X.env := by rfl) : PE X (.Call (.Name "len" p) [.Call (.Name "set" p2) [a] [] q] [] pos) (tLenT X.K ta) := by
  refine ⟨fun pins s σ H Q I h => ?_⟩
  refine Call_ (ld_blt I hg hm boot_len (callWith_builtin1 (args_cons ?_ rfl) rfl rfl))
  refine Call_ (ld_blt I hg2 hm2 boot_set (callWith_type1 (args_cons (thn (ha.run pins s σ H _ I h) fun v s1 ⟨x, H1, I1, r1, q1⟩ => args_nil ?_) na) na rfl))
  obtain ⟨l, ks, rfl, hq, hk, hnd, hn, q1⟩ := q1
  cases r1
  obtain ⟨its, r, pl, hz⟩ := I1.list hq
  refine PfT.callSetU ks (I1.ok.hd hc) pl.isList (by simpa using refs_of_vals r) (fun p hp => I1.isT (hk p hp)) hn hnd (by omega) fun h2 tk L es ep t R pm k2 => args_nil ?_
  obtain ⟨o, ho, hex, hd⟩ := R.ob
  have hsz := PfT.rows_size R.rows
  have I2 : Inv X pins σ H1 { s1 with heap := h2, toks := tk } := I1.kept fun b o e => k2 b o e
  have hsz2 : es.size = ks.length := by rw [hsz, pm.length_eq]
  exact call_len_set ho hex hd (PfT.SW.fits (s := { s1 with heap := h2, toks := tk }) R) (by omega) ⟨.int ks.length, H1, I2.tok _, ⟨_, by rw [hsz2]⟩, q1⟩
end
end L2
namespace L2
open PySem PySem.Spec PyProof.Rows
/-! ### sorted(xs), xs a list of pairs of ints, any number of them -/
def kof (H : Hp) : Value → Int × Int
  | .ref t => match H t with
    | some (.tup [.int x, .int y]) => (x, y)
    | _ => (0, 0)
  | _ => (0, 0)
def adOf : Value → Addr
  | .ref t => t
  | _ => 0
theorem kof_of {H : Hp} {t : Addr} {p : Int × Int} (h : H t = some (.tup [.int p.1, .int p.2])) : kof H (.ref t) = p := by
  show (match H t with | some (.tup [.int x, .int y]) => (x, y) | _ => (0, 0)) = p
  rw [h]
theorem tups_kof {H : Hp} : ∀ {ts : List Addr} {ps : List (Int × Int)}, Tups H ts ps → ps = ts.map (fun t => kof H (.ref t)) ∧ ∀ t ∈ ts, H t = some (.tup [.int (kof H (.ref t)).1, .int (kof H (.ref t)).2])
  | _, _, .nil => ⟨rfl, fun t h => nomatch h⟩
  | t :: ts, p :: ps, .cons e r => by
    obtain ⟨i1, i2⟩ := tups_kof r
    have ek := kof_of e
    refine ⟨by rw [List.map_cons, ek, ← i1], fun u hu => ?_⟩
    rcases List.mem_cons.mp hu with rfl | hu
    · rw [ek]; exact e
    · exact i2 u hu
theorem kof_tups {H : Hp} : ∀ (us : List Value), (∀ u ∈ us, ∃ t, u = .ref t ∧ H t = some (.tup [.int (kof H u).1, .int (kof H u).2])) → Tups H (us.map adOf) (us.map (kof H)) ∧ us = (us.map adOf).map Value.ref
  | [], _ => ⟨.nil, rfl⟩
  | u :: us, h => by
    obtain ⟨t, rfl, e⟩ := h u List.mem_cons_self
    obtain ⟨i1, i2⟩ := kof_tups us fun v hv => h v (List.mem_cons_of_mem _ hv)
    refine ⟨.cons e i1, ?_⟩
    show Value.ref t :: us = Value.ref t :: _
    rw [← i2]
theorem vals_refs : ∀ (ts : List Addr), Vals (ts.map V.ref) (ts.map Value.ref)
  | [] => .nil
  | t :: ts => .cons rfl (vals_refs ts)
theorem refs_vals : ∀ {ts : List Addr} {us : List Value}, Vals (ts.map V.ref) us → us = ts.map Value.ref
  | [], _, .nil => rfl
  | t :: ts, _ :: us, .cons r q => by
    cases r
    rw [refs_vals q] <;> rfl
def SrtP (ps : List (Int × Int)) : Prop := ps.Pairwise fun p q => SrtO.lexB q p = false
def rSortP (K : PySem.W.Frag) : List V → Hp → VK → Prop := fun vs H Q => ∃ (a : Addr) (ts : List Addr) (ps : List (Int × Int)), vs = [V.ref a] ∧ SqL K H a (ts.map V.ref) ∧ Tups H ts ps ∧
  ∀ (d : Addr) (ts2 : List Addr) (ps2 : List (Int × Int)), ps2.Perm ps → SrtP ps2 → Tups H ts2 ps2 → H d = none → Q (.ref d) (upd H d (.lst (ts2.map V.ref)))
section
variable {X : Cx}
theorem cr_sortP : CallR X (.builtin "sorted") (rSortP X.K) := by
  intro pins s σ H vs us Q I r h
  obtain ⟨a, ts, ps, rfl, hs, ht, q⟩ := h
  obtain ⟨its, rv, hl, hz⟩ := I.list hs
  rw [Vals.ref1 r]
  have eits := refs_vals rv
  subst eits
  obtain ⟨eps, hat⟩ := tups_kof ht
  refine SrtO.sorted_pairsO (k := kof H) hl.isList (by rw [← rv.length]; exact hz) (fun v hv => ?_) fun h' d out srt stb keep hd ⟨n, hn⟩ => ?_
  · obtain ⟨t, htm, rfl⟩ := List.mem_map.mp hv
    obtain ⟨its2, r2, ⟨o, ho, hc, m, hdt⟩, _⟩ := I.tuple (SqT.of (hat t htm))
    cases r2 with
    | cons r3 r4 =>
      cases r4 with
      | cons r5 r6 =>
        cases r6
        obtain ⟨k1, e1⟩ := r3
        obtain ⟨k2, e2⟩ := r5
        refine ⟨t, o, k1, k2, m, rfl, ho, hc, ?_⟩
        rw [hdt, e1, e2]
  · have mem : ∀ u ∈ out, ∃ t, u = .ref t ∧ H t = some (.tup [.int (kof H u).1, .int (kof H u).2]) := fun u hu => by
      obtain ⟨t, htm, rfl⟩ := List.mem_map.mp (stb.perm.mem_iff.mp hu)
      exact ⟨t, rfl, hat t htm⟩
    obtain ⟨k1, k2⟩ := kof_tups out mem
    have pp : (out.map (kof H)).Perm ps := by
      have := stb.perm.map (kof H)
      rw [List.map_map] at this
      rw [eps]
      exact this
    have hlen : ((out.map adOf).map V.ref).length ≤ sizeLine := by
      rw [List.length_map, List.length_map, stb.perm.length_eq, ← rv.length]
      exact hz
    refine ⟨.ref d, upd H d (.lst ((out.map adOf).map V.ref)), I.laid (t' := s.toks) keep hd (show ObjOk X.prog X.w _ _ _ (.lst ((out.map adOf).map V.ref)) from ⟨hlen, out, n, ?_, hn⟩), rfl, q d _ _ pp ?_ k1 (I.hok.fresh hd)⟩
    · have := vals_refs (out.map adOf)
      rw [← k2] at this
      exact this
    · unfold SrtP
      rw [List.pairwise_map]
      exact srt
end
end L2
set_option Elab.async false
set_option linter.all false
set_option maxRecDepth 100000
set_option maxHeartbeats 4000000
namespace Pf
open PySem L2
def top (i : Nat) : Stmt := PySem.Challenge.pw_pactford_k08_whole_handles_never_again.main.body.getD i (.Pass ⟨0, 0, 0, 0⟩)
abbrev s_NoHandle___init__ : Stmt := inClass (top 2) 0
abbrev n_NoHandle___init__ : List Str := ["self", "handle"]
theorem sc_NoHandle___init__ : FnScope n_NoHandle___init__ ["self", "handle"] (defScope s_NoHandle___init__) := ⟨rfl, rfl, rfl, by decide +kernel, rfl, by decide +kernel, by decide +kernel⟩
abbrev s_Ended___init__ : Stmt := inClass (top 3) 0
abbrev n_Ended___init__ : List Str := ["self", "handle"]
theorem sc_Ended___init__ : FnScope n_Ended___init__ ["self", "handle"] (defScope s_Ended___init__) := ⟨rfl, rfl, rfl, by decide +kernel, rfl, by decide +kernel, by decide +kernel⟩
abbrev s_Table___init__ : Stmt := inClass (top 5) 0
abbrev n_Table___init__ : List Str := ["self"]
theorem sc_Table___init__ : FnScope n_Table___init__ ["self"] (defScope s_Table___init__) := ⟨rfl, rfl, rfl, by decide +kernel, rfl, by decide +kernel, by decide +kernel⟩
abbrev s_Table_begin : Stmt := inClass (top 5) 1
abbrev n_Table_begin : List Str := ["self", "number", "place", "turn"]
theorem sc_Table_begin : FnScope n_Table_begin ["self", "number"] (defScope s_Table_begin) := ⟨rfl, rfl, rfl, by decide +kernel, rfl, by decide +kernel, by decide +kernel⟩
abbrev s_Table_need : Stmt := inClass (top 5) 2
abbrev n_Table_need : List Str := ["self", "handle", "place", "turn"]
theorem sc_Table_need : FnScope n_Table_need ["self", "handle"] (defScope s_Table_need) := ⟨rfl, rfl, rfl, by decide +kernel, rfl, by decide +kernel, by decide +kernel⟩
abbrev s_Table_look : Stmt := inClass (top 5) 3
abbrev n_Table_look : List Str := ["self", "handle"]
theorem sc_Table_look : FnScope n_Table_look ["self", "handle"] (defScope s_Table_look) := ⟨rfl, rfl, rfl, by decide +kernel, rfl, by decide +kernel, by decide +kernel⟩
abbrev s_Table_end : Stmt := inClass (top 5) 4
abbrev n_Table_end : List Str := ["self", "handle"]
theorem sc_Table_end : FnScope n_Table_end ["self", "handle"] (defScope s_Table_end) := ⟨rfl, rfl, rfl, by decide +kernel, rfl, by decide +kernel, by decide +kernel⟩
abbrev s_Table_alive : Stmt := inClass (top 5) 5
abbrev n_Table_alive : List Str := ["self", "place"]
theorem sc_Table_alive : FnScope n_Table_alive ["self"] (defScope s_Table_alive) := ⟨rfl, rfl, rfl, by decide +kernel, rfl, by decide +kernel, by decide +kernel⟩
abbrev s_Table_most : Stmt := inClass (top 5) 6
abbrev n_Table_most : List Str := ["self"]
theorem sc_Table_most : FnScope n_Table_most ["self"] (defScope s_Table_most) := ⟨rfl, rfl, rfl, by decide +kernel, rfl, by decide +kernel, by decide +kernel⟩
abbrev s_Table_twin : Stmt := inClass (top 5) 7
abbrev n_Table_twin : List Str := ["self", "other"]
theorem sc_Table_twin : FnScope n_Table_twin ["self"] (defScope s_Table_twin) := ⟨rfl, rfl, rfl, by decide +kernel, rfl, by decide +kernel, by decide +kernel⟩
abbrev s_Table___len__ : Stmt := inClass (top 5) 8
abbrev n_Table___len__ : List Str := ["self"]
theorem sc_Table___len__ : FnScope n_Table___len__ ["self"] (defScope s_Table___len__) := ⟨rfl, rfl, rfl, by decide +kernel, rfl, by decide +kernel, by decide +kernel⟩
abbrev s__law_box : Stmt := top 7
abbrev n__law_box : List Str := ["_law_script", "_law_great", "_law_cell"]
theorem sc__law_box : FnScope n__law_box ["_law_script"] (defScope s__law_box) := ⟨rfl, rfl, rfl, by decide +kernel, rfl, by decide +kernel, by decide +kernel⟩
abbrev s__law_mixed : Stmt := top 8
abbrev n__law_mixed : List Str := ["_law_cell", "_law_k", "_law_whole"]
theorem sc__law_mixed : FnScope n__law_mixed ["_law_cell", "_law_k"] (defScope s__law_mixed) := ⟨rfl, rfl, rfl, by decide +kernel, rfl, by decide +kernel, by decide +kernel⟩
abbrev s__law_take : Stmt := top 9
abbrev n__law_take : List Str := ["_law_box_here", "_law_size", "_law_found", "_law_cell", "_law_reach"]
theorem sc__law_take : FnScope n__law_take ["_law_box_here", "_law_size"] (defScope s__law_take) := ⟨rfl, rfl, rfl, by decide +kernel, rfl, by decide +kernel, by decide +kernel⟩
abbrev s__law_ended : Stmt := top 10
abbrev n__law_ended : List Str := ["_law_table", "_law_grip", "_law_gone"]
theorem sc__law_ended : FnScope n__law_ended ["_law_table", "_law_grip"] (defScope s__law_ended) := ⟨rfl, rfl, rfl, by decide +kernel, rfl, by decide +kernel, by decide +kernel⟩
abbrev s__law_begin : Stmt := top 11
abbrev n__law_begin : List Str := ["_law_table", "_law_told", "_law_lives", "_law_figure", "_law_place", "_law_turn", "_law_ahead", "_law_grip"]
theorem sc__law_begin : FnScope n__law_begin ["_law_table", "_law_told", "_law_lives", "_law_figure"] (defScope s__law_begin) := ⟨rfl, rfl, rfl, by decide +kernel, rfl, by decide +kernel, by decide +kernel⟩
abbrev s_law : Stmt := top 12
abbrev n_law : List Str := ["_law_script", "_law_box_here", "_law_busy", "_law_spring", "_law_table", "_law_twin", "_law_told", "_law_lives", "_law_figures", "_law_peak", "_law_k", "_law_figure", "_law_grip"]
theorem sc_law : FnScope n_law ["_law_script"] (defScope s_law) := ⟨rfl, rfl, rfl, by decide +kernel, rfl, by decide +kernel, by decide +kernel⟩
/-- keywords behind self -/
def kbG : List Value → List Value → List Value
  | [a], [b] => [a, b]
  | _, _ => []
def kbV : List V → List V → List V
  | [a], [b] => [a, b]
  | _, _ => []
structure Ad where
  c_Table : Addr
  c_PactError : Addr
  c_NoHandle : Addr
  c_Ended : Addr
  f_NoHandle___init__ : Addr
  d_NoHandle___init__ : FuncData
  f_Ended___init__ : Addr
  d_Ended___init__ : FuncData
  f_Table___init__ : Addr
  d_Table___init__ : FuncData
  f_Table_begin : Addr
  d_Table_begin : FuncData
  f_Table_need : Addr
  d_Table_need : FuncData
  f_Table_look : Addr
  d_Table_look : FuncData
  f_Table_end : Addr
  d_Table_end : FuncData
  f_Table_alive : Addr
  d_Table_alive : FuncData
  f_Table_most : Addr
  d_Table_most : FuncData
  f_Table_twin : Addr
  d_Table_twin : FuncData
  f_Table___len__ : Addr
  d_Table___len__ : FuncData
  f__law_box : Addr
  d__law_box : FuncData
  f__law_mixed : Addr
  d__law_mixed : FuncData
  f__law_take : Addr
  d__law_take : FuncData
  f__law_ended : Addr
  d__law_ended : FuncData
  f__law_begin : Addr
  d__law_begin : FuncData
  f_law : Addr
  d_law : FuncData
structure Txt (K : PySem.W.Frag) (mg : Str → Option Value) (a : Ad) : Prop where
  m_Table : mg "Table" = some (.ref a.c_Table)
  cl_Table : Cls K a.c_Table
  mk_Table : Mk K a.c_Table a.f_Table___init__
  na_Table_turns : NoAttr K a.c_Table "turns"
  na_Table_kept : NoAttr K a.c_Table "kept"
  na_Table_peak : NoAttr K a.c_Table "peak"
  m_PactError : mg "PactError" = some (.ref a.c_PactError)
  m_NoHandle : mg "NoHandle" = some (.ref a.c_NoHandle)
  ox_NoHandle : OexC K a.c_NoHandle
  xf_NoHandle : XfC K a.c_NoHandle
  ec_NoHandle : ExcC K a.c_NoHandle
  ini_NoHandle : PySem.W.findIn K (.ref a.c_NoHandle) "__init__" = some (some (.ref a.f_NoHandle___init__))
  ti_NoHandle : PySem.W.typeIn K (.ref a.f_NoHandle___init__) = some (.type "function")
  na_NoHandle_handle : PySem.W.findIn K (.ref a.c_NoHandle) "handle" = some none
  m_Ended : mg "Ended" = some (.ref a.c_Ended)
  ox_Ended : OexC K a.c_Ended
  xf_Ended : XfC K a.c_Ended
  ec_Ended : ExcC K a.c_Ended
  ini_Ended : PySem.W.findIn K (.ref a.c_Ended) "__init__" = some (some (.ref a.f_Ended___init__))
  ti_Ended : PySem.W.typeIn K (.ref a.f_Ended___init__) = some (.type "function")
  na_Ended_handle : PySem.W.findIn K (.ref a.c_Ended) "handle" = some none
  ex_Ended_Ended : PySem.W.exmOne K (.ref a.c_Ended) (.ref a.c_Ended) = some true
  ex_NoHandle_Ended : PySem.W.exmOne K (.ref a.c_NoHandle) (.ref a.c_Ended) = some false
  F_NoHandle___init__ : Fun K "__init__" "NoHandle.__init__" s_NoHandle___init__ a.f_NoHandle___init__ a.d_NoHandle___init__
  b_NoHandle___init__ : Binds K a.d_NoHandle___init__ ["self", "handle"] []
  F_Ended___init__ : Fun K "__init__" "Ended.__init__" s_Ended___init__ a.f_Ended___init__ a.d_Ended___init__
  b_Ended___init__ : Binds K a.d_Ended___init__ ["self", "handle"] []
  F_Table___init__ : Fun K "__init__" "Table.__init__" s_Table___init__ a.f_Table___init__ a.d_Table___init__
  b_Table___init__ : Binds K a.d_Table___init__ ["self"] []
  F_Table_begin : Fun K "begin" "Table.begin" s_Table_begin a.f_Table_begin a.d_Table_begin
  b_Table_begin : Binds K a.d_Table_begin ["self", "number"] []
  mt_Table_begin : Meth K a.c_Table "begin" a.f_Table_begin
  F_Table_need : Fun K "need" "Table.need" s_Table_need a.f_Table_need a.d_Table_need
  b_Table_need : Binds K a.d_Table_need ["self", "handle"] []
  mt_Table_need : Meth K a.c_Table "need" a.f_Table_need
  F_Table_look : Fun K "look" "Table.look" s_Table_look a.f_Table_look a.d_Table_look
  b_Table_look : Binds K a.d_Table_look ["self", "handle"] []
  mt_Table_look : Meth K a.c_Table "look" a.f_Table_look
  F_Table_end : Fun K "end" "Table.end" s_Table_end a.f_Table_end a.d_Table_end
  b_Table_end : Binds K a.d_Table_end ["self", "handle"] []
  mt_Table_end : Meth K a.c_Table "end" a.f_Table_end
  F_Table_alive : Fun K "alive" "Table.alive" s_Table_alive a.f_Table_alive a.d_Table_alive
  b_Table_alive : Binds K a.d_Table_alive ["self"] []
  mt_Table_alive : Meth K a.c_Table "alive" a.f_Table_alive
  F_Table_most : Fun K "most" "Table.most" s_Table_most a.f_Table_most a.d_Table_most
  b_Table_most : Binds K a.d_Table_most ["self"] []
  mt_Table_most : Meth K a.c_Table "most" a.f_Table_most
  F_Table_twin : Fun K "twin" "Table.twin" s_Table_twin a.f_Table_twin a.d_Table_twin
  b_Table_twin : Binds K a.d_Table_twin ["self"] []
  mt_Table_twin : Meth K a.c_Table "twin" a.f_Table_twin
  F_Table___len__ : Fun K "__len__" "Table.__len__" s_Table___len__ a.f_Table___len__ a.d_Table___len__
  b_Table___len__ : Binds K a.d_Table___len__ ["self"] []
  mt_Table___len__ : Meth K a.c_Table "__len__" a.f_Table___len__
  F__law_box : Fun K "_law_box" "_law_box" s__law_box a.f__law_box a.d__law_box
  b__law_box : Binds K a.d__law_box ["_law_script"] []
  m__law_box : mg "_law_box" = some (.ref a.f__law_box)
  F__law_mixed : Fun K "_law_mixed" "_law_mixed" s__law_mixed a.f__law_mixed a.d__law_mixed
  b__law_mixed : Binds K a.d__law_mixed ["_law_cell", "_law_k"] []
  m__law_mixed : mg "_law_mixed" = some (.ref a.f__law_mixed)
  F__law_take : Fun K "_law_take" "_law_take" s__law_take a.f__law_take a.d__law_take
  b__law_take : Binds K a.d__law_take ["_law_box_here", "_law_size"] []
  m__law_take : mg "_law_take" = some (.ref a.f__law_take)
  F__law_ended : Fun K "_law_ended" "_law_ended" s__law_ended a.f__law_ended a.d__law_ended
  b__law_ended : Binds K a.d__law_ended ["_law_table", "_law_grip"] []
  m__law_ended : mg "_law_ended" = some (.ref a.f__law_ended)
  F__law_begin : Fun K "_law_begin" "_law_begin" s__law_begin a.f__law_begin a.d__law_begin
  b__law_begin : Binds K a.d__law_begin ["_law_table", "_law_told", "_law_lives", "_law_figure"] []
  m__law_begin : mg "_law_begin" = some (.ref a.f__law_begin)
  F_law : Fun K "law" "law" s_law a.f_law a.d_law
  b_law : Binds K a.d_law ["_law_script"] []
  m_law : mg "law" = some (.ref a.f_law)
  z_max : mg "max" = none
  z_len : mg "len" = none
  z_sorted : mg "sorted" = none
  z_list : mg "list" = none
  z_dict : mg "dict" = none
  z_any : mg "any" = none
  z_range : mg "range" = none
  z_all : mg "all" = none
  z_set : mg "set" = none
/-! ### what all laws share: the box of draws -/
/-- all but the two objects of the box stand as they were -/
def Keep2 (b g : Addr) (H H' : Hp) : Prop := ∀ a o, a ≠ b → a ≠ g → H a = some o → H' a = some o
theorem Keep2.refl (b g : Addr) (H : Hp) : Keep2 b g H H := fun _ _ _ _ h => h
theorem Keep2.trans {b g : Addr} {H H1 H2 : Hp} (x : Keep2 b g H H1) (y : Keep2 b g H1 H2) : Keep2 b g H H2 := fun a o h1 h2 h => y a o h1 h2 (x a o h1 h2 h)
/-- all but one object stand as they were -/
def Keep1 (b : Addr) (H H' : Hp) : Prop := ∀ a o, a ≠ b → H a = some o → H' a = some o
/-- a box at b, its list of great cells at g, of lesser ones at l; n draws were made -/
structure BoxAt (H : Hp) (b g l : Addr) (n : Int) : Prop where
  ex : ∃ (gs ls : List Int) (d : Int), H b = some (.lst [.ref g, .int d, .ref l, .int n]) ∧ H g = some (.lst (gs.map V.int)) ∧ H l = some (.lst (ls.map V.int)) ∧
    0 ≤ d ∧ (∀ z ∈ gs, 0 ≤ z) ∧ gs.length ≤ 63 ∧ ls.length ≤ 63 ∧ b ≠ g ∧ b ≠ l ∧ g ≠ l
  pos : 0 ≤ n
theorem BoxAt.keep {H H' : Hp} {b g l : Addr} {n : Int} (B : BoxAt H b g l n) (k : ∀ a o, H a = some o → a = b ∨ a = g ∨ a = l → H' a = some o) : BoxAt H' b g l n := by
  obtain ⟨gs, ls, d, h1, h2, h3, h⟩ := B.ex
  exact ⟨⟨gs, ls, d, k _ _ h1 (.inl rfl), k _ _ h2 (.inr (.inl rfl)), k _ _ h3 (.inr (.inr rfl)), h⟩, B.pos⟩
theorem BoxAt.same {H H' : Hp} {b g l : Addr} {n : Int} (B : BoxAt H b g l n) (k : ∀ a o, H a = some o → H' a = some o) : BoxAt H' b g l n := B.keep fun a o h _ => k a o h
/-- the three are lists -/
theorem BoxAt.lists {H : Hp} {b g l : Addr} {n : Int} (B : BoxAt H b g l n) : (∃ xs, H b = some (.lst xs)) ∧ (∃ xs, H g = some (.lst xs)) ∧ ∃ xs, H l = some (.lst xs) := by
  obtain ⟨gs, ls, d, h1, h2, h3, _⟩ := B.ex
  exact ⟨⟨_, h1⟩, ⟨_, h2⟩, ⟨_, h3⟩⟩
theorem BoxAt.fresh {H : Hp} {b g l D : Addr} {n : Int} (B : BoxAt H b g l n) (hD : H D = none) : D ≠ b ∧ D ≠ g ∧ D ≠ l := by
  obtain ⟨⟨_, h1⟩, ⟨_, h2⟩, ⟨_, h3⟩⟩ := B.lists
  exact ⟨(ne_of_none h1 hD).symm, (ne_of_none h2 hD).symm, (ne_of_none h3 hD).symm⟩
theorem BoxAt.upd {H : Hp} {b g l D : Addr} {n : Int} {o : HO} (B : BoxAt H b g l n) (h : D ≠ b ∧ D ≠ g ∧ D ≠ l) : BoxAt (upd H D o) b g l n := by
  refine B.keep fun x o e z => ?_
  have hx : x ≠ D := by
    rcases z with z | z | z
    · rw [z]; exact h.1.symm
    · rw [z]; exact h.2.1.symm
    · rw [z]; exact h.2.2.symm
  exact upd_get hx e
/-- _law_mixed: some number -/
def spMixed : Sp := fun vs H Q _ => ∃ (c k : Int), vs = [.int c, .int k] ∧ 0 ≤ k ∧ k ≤ 10000000 ∧ ∀ r : Int, Q (.int r) H
/-- _law_take: a number below the size -/
def spTake : Sp := fun vs H Q _ => ∃ (b g l : Addr) (n sz : Int), vs = [.ref b, .int sz] ∧ BoxAt H b g l n ∧ n ≤ 1000000 ∧ 0 < sz ∧ sz < 2 ^ 200 ∧
  ∀ (r : Int) (H' : Hp), 0 ≤ r → r < sz → BoxAt H' b g l (n + 1) → Keep2 b g H H' → Q (.int r) H'
/-- _law_box: a new box -/
def spBox (K : PySem.W.Frag) : Sp := fun vs H Q _ => ∃ (a : Addr) (ns : List Int), vs = [.ref a] ∧ SqL K H a (ns.map V.int) ∧ ns.length ≤ 63 ∧
  ∀ (b g l : Addr) (H' : Hp), H b = none → H g = none → H l = none → BoxAt H' b g l 0 → Same H H' → Q (.ref b) H'
local macro_rules | `(tactic| walk_at "nz") => `(tactic| (show (_ : Int) ≠ 0; omega))
local macro_rules | `(tactic| walk_at "ne") => `(tactic| first | assumption | (apply Ne.symm; assumption))
local macro_rules | `(tactic| walk_at "hp") => `(tactic| first | assumption | exact upd_same | (refine upd_get ?_ ?_; walk_at "ne"; walk_at "hp"))
local macro_rules | `(tactic| walk_at "sd") => `(tactic| first
  | (with_reducible show (_ : Int) < _; omega)
  | (with_reducible show (_ : Int) ≤ _; omega)
  | (with_reducible show (_ : Nat) < _; omega)
  | (with_reducible show (_ : Nat) ≤ _; omega)
  | rfl
  | assumption
  | exact kV_int _
  | exact kV_str _
  | (show (_ : Int) ≠ 0; omega)
  | exact SqL.of (by walk_at "hp")
  | exact ⟨_, SqL.of (by walk_at "hp")⟩
  | exact ⟨_, SqT.of (by walk_at "hp")⟩
  | exact ⟨_, (by assumption)⟩
  | exact SqT.of (by walk_at "hp")
  | exact Rd.of (by walk_at "hp")
  | exact Or.inl (SqL.of (by walk_at "hp"))
  | exact Or.inr (SqT.of (by walk_at "hp"))
  | exact Or.inr (by assumption)
  | (walk_at "hp")
  | (exact Or.inl ⟨rfl, _, SqL.of (by walk_at "hp")⟩)
  | (exact Or.inl ⟨by omega, by omega⟩)
  | (exact Or.inr ⟨by omega, by omega⟩)
  | (refine ⟨?_, ?_, ?_⟩ <;> omega)
  | omega
  | (exact small_le (by first | omega | (simp only [List.length_cons, List.length_nil]; omega)))
  | (exact small_lt (by first | omega | (simp only [List.length_cons, List.length_nil]; omega)))
  | exact Nat.le_of_ble_eq_true rfl
  | exact ⟨_, rfl⟩
  | decide)
local macro_rules | `(tactic| walk_at "st") => `(tactic| first
  | with_reducible refine sq_seq ?_
  | apply Exists.intro
  | (refine And.intro ?_ ?_; (walk_at "sd")))
local macro_rules | `(tactic| walk_at "go") => `(tactic| repeat (walk_at "st"))
section
variable {P : Program} {w : World} {K : PySem.W.Frag} {mg : Str → Option Value} {base : Heap} {a : Ad}
theorem ok__law_mixed (T : Txt K mg a) : FnOk P w K mg base CX0 1 a.f__law_mixed a.d__law_mixed ["_law_cell", "_law_k"] spMixed := by
  refine T.F__law_mixed.ok sc__law_mixed (fun vs H Q E h => ?_) (fun cdv A outer s H vs Q E hr h => ?_)
  · obtain ⟨c, k, rfl, _⟩ := h
    rfl
  · obtain ⟨c, k, rfl, h0, h1, q⟩ := h
    refine ⟨_, (pss_cons (ps_set (i := 2) sc__law_mixed.nd rfl (Or.inl rfl) (pe_op op_modN (pe_op op_pow (pe_op op_add (pe_op op_add (pe_op op_add (pe_op op_modN (pv 0) pe_int) (pe_op op_mul (pe_op op_mul pe_int (pv 1)) (pv 1))) (pe_op op_mul pe_int (pv 1))) pe_int) pe_int) pe_int))
      (pss_one (ps_ret (pe_op op_modN (pe_op op_add (pe_op op_mul (pv 2) pe_int) (pe_op op_mul pe_int (pv 1))) pe_int)))), ?_⟩
    have m1 := fmod_pos (i := c) (j := 2147483647) (by decide)
    have e1 : 1009 * k ≤ 10090000000 := by omega
    have e2 : 0 ≤ 1009 * k * k := Int.mul_nonneg (by omega) h0
    have e3 : 1009 * k * k ≤ 10090000000 * 10000000 := Int.mul_le_mul e1 h1 h0 (by decide)
    walk_at "go"
    exact q _
theorem ok__law_take (T : Txt K mg a) : FnOk P w K mg base CX0 2 a.f__law_take a.d__law_take ["_law_box_here", "_law_size"] spTake := by
  have G__law_mixed := ok__law_mixed (P := P) (w := w) (base := base) T
  refine T.F__law_take.ok sc__law_take (fun vs H Q E h => ?_) (fun cdv A outer s H vs Q E hr h => ?_)
  · obtain ⟨b, g, l, n, sz, rfl, _⟩ := h
    rfl
  · obtain ⟨b, g, l, n, sz, rfl, B, hn, s0, s1, q⟩ := h
    obtain ⟨gs, ls, d, hb, hg, hl, d0, g0, lg, ll, nbg, nbl, ngl⟩ := B.ex
    have n0 := B.pos
    refine ⟨_, (pss_cons (ps_asg (pe_op op_add (pe_ix ix_list (pv 0) pe_int (fun _ _ => rfl)) pe_int) (pg_sub (pv 0) pe_int set_list))
      (pss_mid (ps_if (PW.pt (pw_and (pt_cmpR op_eq (pe_ix ix_list (pv 0) pe_int (fun _ _ => rfl)) pe_int (nomark _)) (pw_and1 (pt_cmpR op_gt (pe_callB call_lenK (by rfl) T.z_len PySem.boot_len (pa_cons (pe_ix ix_list (pv 0) pe_int (fun _ _ => rfl)) pa_nil)) pe_int (nomark _))))) (pss_one (ps_asg (pe_bm PySem.F.plainAttrs_list PySem.F.slot_list_pop PySem.F.type_list_pop mt_popAt (pe_ix ix_list (pv 0) pe_int (fun _ _ => rfl)) (pa_cons pe_int pa_nil)) (pg_sub (pv 0) pe_int set_list))) pss_nil)
      (pss_cons (ps_if (pt_cmpR op_gt (pe_ix ix_list (pv 0) pe_int (fun _ _ => rfl)) pe_int (nomark _)) (pss_cons (ps_set (i := 2) sc__law_take.nd rfl (Or.inl rfl) (pe_op op_modN (pe_ix ix_list (pv 0) pe_int (fun _ _ => rfl)) (pv 1)))
      (pss_cons (ps_asg (pe_op op_fdivW (pe_ix ix_list (pv 0) pe_int (fun _ _ => rfl)) (pv 1)) (pg_sub (pv 0) pe_int set_list))
      (pss_one (ps_ret (pv 2))))) pss_nil)
      (pss_cons (ps_set (i := 3) sc__law_take.nd rfl (Or.inl rfl) (pe_op op_mul pe_int (pe_ix ix_list (pv 0) pe_int (fun _ _ => rfl))))
      (pss_mid (ps_if (pt_cmpR op_gt (pe_callB call_lenK (by rfl) T.z_len PySem.boot_len (pa_cons (pe_ix ix_list (pv 0) pe_int (fun _ _ => rfl)) pa_nil)) pe_int (nomark _)) (pss_one (ps_set (i := 3) sc__law_take.nd rfl (Or.inl rfl) (pe_ix ix_list (pe_ix ix_list (pv 0) pe_int (fun _ _ => rfl)) (pe_op op_modN (pe_ix ix_list (pv 0) pe_int (fun _ _ => rfl)) (pe_callB call_lenK (by rfl) T.z_len PySem.boot_len (pa_cons (pe_ix ix_list (pv 0) pe_int (fun _ _ => rfl)) pa_nil))) (fun _ _ => rfl)))) pss_nil)
      (pss_cons (ps_set (i := 2) sc__law_take.nd rfl (Or.inl rfl) pe_int)
      (pss_cons (ps_set (i := 4) sc__law_take.nd rfl (Or.inl rfl) pe_int)
      (pss_cons (ps_stop (ps_while PassesOwn.never (pt_cmpR op_lt (pv 4) (pv 1) (nomark _)) (pss_cons (ps_set (i := 2) sc__law_take.nd rfl (Or.inl rfl) (pe_op op_add (pe_op op_mul (pv 2) pe_int) (pe_call G__law_mixed (hr.mono (by decide)) rfl T.m__law_mixed T.F__law_mixed.kp T.b__law_mixed .nil pass0 (pa_cons (pv 3) (pa_cons (pe_op op_add (pe_ix ix_list (pv 0) pe_int (fun _ _ => rfl)) (pe_op op_mul pe_int (pe_op op_modN (pv 2) pe_int))) pa_nil)))))
      (pss_one (ps_set (i := 4) sc__law_take.nd rfl (Or.inl rfl) (pe_op op_mul (pv 4) pe_int))))))
      (pss_one (ps_ret (pe_op op_modN (pv 2) (pv 1)))))))))))), ?_⟩
    walk_at "go"
    -- if box[1] == 0 and len(box[0]) > 0
    refine mid_of (fun σ H1 => ∃ (gs1 : List Int) (d1 : Int), σ = [some (.ref b), some (.int sz), none, none, none] ∧ H1 b = some (.lst [.ref g, .int d1, .ref l, .int (n + 1)]) ∧ H1 g = some (.lst (gs1.map V.int)) ∧ H1 l = some (.lst (ls.map V.int)) ∧
      0 ≤ d1 ∧ (∀ z ∈ gs1, 0 ≤ z) ∧ gs1.length ≤ 63 ∧ Keep2 b g H H1) ?_ ?_
    · have k1 : Keep2 b g H (upd H b (.lst [.ref g, .int d, .ref l, .int (n + 1)])) := fun x o n1 n2 e => by rw [upd_ne n1]; exact e
      walk_at "go"
      refine ifD (fun e => ?_) (fun _ => ?_)
      · walk_at "go"
        refine ifD (fun e2 => ?_) (fun _ => ?_)
        · cases gs with
          | nil => exact absurd e2 (by decide)
          | cons z r =>
            walk_at "go"
            refine ⟨(seqIndex_of (by decide) e2 : seqIndex? 0 _ = some 0), rfl, ?_⟩
            walk_at "go"
            refine wait ⟨r, z, rfl, upd_same, upd_get nbg.symm upd_same, upd_get nbl.symm (upd_get ngl.symm (upd_get nbl.symm hl)), g0 _ List.mem_cons_self, fun y hy => g0 y (List.mem_cons_of_mem _ hy), ?_, ?_⟩
            · rw [List.length_cons] at lg
              omega
            · intro x o n1 n2 e
              rw [upd_ne n1, upd_ne n2, upd_ne n1]
              exact e
        · exact wait ⟨gs, d, rfl, upd_same, upd_get nbg.symm hg, upd_get nbl.symm hl, d0, g0, lg, k1⟩
      · refine ifF rfl ?_
        exact wait ⟨gs, d, rfl, upd_same, upd_get nbg.symm hg, upd_get nbl.symm hl, d0, g0, lg, k1⟩
    · rintro σ H1 ⟨gs1, d1, rfl, hb1, hg1, hl1, d10, g10, lg1, k1⟩
      walk_at "go"
      refine ifD (fun e => ?_) (fun e => ?_)
      · have m := fmod_pos (i := d1) (j := sz) s0
        have hd : CDivW d1 sz := wide_div (b := 200) s0 (by omega) (by decide) (by decide)
        walk_at "go"
        refine q _ _ m.1 m.2 ⟨⟨gs1, ls, d1 / sz, upd_same, upd_get nbg.symm hg1, upd_get nbl.symm hl1, Int.ediv_nonneg d10 (by omega), g10, lg1, ll, nbg, nbl, ngl⟩, by omega⟩ ?_
        intro x o n1 n2 e
        rw [upd_ne n1]
        exact k1 x o n1 n2 e
      · walk_at "go"
        refine mid_of (fun σ H2 => H2 = H1 ∧ ∃ c : Int, σ = [some (.ref b), some (.int sz), none, some (.int c), none]) ?_ ?_
        · walk_at "go"
          refine ifD (fun e2 => ?_) (fun _ => ?_)
          · have e3 : (0 : Int) < (ls.length : Int) := by rw [List.length_map] at e2; exact e2
            have m := fmod_pos (i := n + 1) (j := (ls.length : Int)) e3
            obtain ⟨z, hz, _⟩ := atI_ints m.1 m.2
            have hz2 : atI (ls.map V.int) ((n + 1).fmod ((ls.map V.int).length : Int)) = some (.int z) := by rw [List.length_map]; exact hz
            walk_at "go"
            exact wait ⟨rfl, _, rfl⟩
          · exact wait ⟨rfl, _, rfl⟩
        · rintro σ H2 ⟨rfl, c, rfl⟩
          walk_at "go"
          refine while_W (fun m σ H3 => H3 = H2 ∧ ∃ f r : Int, σ = [some (.ref b), some (.int sz), some (.int f), some (.int c), some (.int r)] ∧ 0 < r ∧ m = (sz - r).toNat) (sz - 1).toNat ?_ ?_
          · exact ⟨rfl, 0, 1, rfl, by decide, rfl⟩
          · rintro m σ H3 ⟨rfl, f, r, rfl, r0, rfl⟩
            walk_at "go"
            refine ifD (fun e2 => ?_) (fun _ => ?_)
            · have m := fmod_pos (i := f) (j := 89) (by decide)
              refine next_W ?_
              walk_at "go"
              intro x
              walk_at "go"
              exact wait ⟨_, (show (sz - r * 1000000007).toNat < (sz - r).toNat by omega), rfl, _, _, rfl, by omega, rfl⟩
            · have m := fmod_pos (i := f) (j := sz) s0
              walk_at "go"
              exact q _ _ m.1 m.2 ⟨⟨gs1, ls, d1, hb1, hg1, hl1, d10, g10, lg1, ll, nbg, nbl, ngl⟩, by omega⟩ k1
theorem ok__law_box (T : Txt K mg a) : FnOk P w K mg base CX0 1 a.f__law_box a.d__law_box ["_law_script"] (spBox K) := by
  refine T.F__law_box.ok sc__law_box (fun vs H Q E h => ?_) (fun cdv A outer s H vs Q E hr h => ?_)
  · obtain ⟨c, ns, rfl, _⟩ := h
    rfl
  · obtain ⟨c, ns, rfl, hS, hl, q⟩ := h
    refine ⟨_, (pss_cons (ps_setLc (i := 1) (own := [("_law_cell", 2)]) (g := gName 2) rfl sc__law_box.nd rfl rfl (sw_true rfl rfl rfl (by decide +kernel)) (pi_list (pv 0)) (blkOk_by (own := [("_law_cell", 2)]) (N := n__law_box) (sc := defScope s__law_box) (by decide +kernel)) (fun _ _ _ _ _ => (pg_name (i := 2) sc__law_box.nd rfl (Or.inl rfl))) (fun _ _ _ _ _ => (pts_one (pt_cmpR op_ge (pv 2) (pe_op op_pow pe_int pe_int) (nomark _)))) (fun _ _ _ _ _ => (pv 2)))
      (pss_one (ps_ret (pe_lst (pa_cons (pv 1) (pa_cons pe_int (pa_cons (pe_lc (own := [("_law_cell", 2)]) (g := gName 2) rfl sc__law_box.nd (pi_list (pv 0)) (blkOk_by (own := [("_law_cell", 2)]) (N := n__law_box) (sc := defScope s__law_box) (by decide +kernel)) (fun _ _ _ _ _ => (pg_name (i := 2) sc__law_box.nd rfl (Or.inl rfl))) (fun _ _ _ _ _ => (pts_one (pt_cmpR op_lt (pv 2) (pe_op op_pow pe_int pe_int) (nomark _)))) (fun _ _ _ _ _ => (pv 2))) (pa_cons pe_int pa_nil)))))))), ?_⟩
    walk_at "go"
    intro D hD
    refine lcL (K := K) (a := c) (xs := ns.map V.int) (fun i H' => H' D = some (.lst (((ns.take i).filter fun z => decide ((10 : Int) ^ 18 ≤ z)).map V.int)) ∧ Same H H') ?_ ?_ ?_ ?_
    · exact ⟨upd_same, fun x o e => by rw [upd_ne (ne_of_none e hD)]; exact e⟩
    · exact fun i H' _ h => h.2.seq hS
    · rintro i y H' hi ⟨h1, h2⟩
      obtain ⟨u, rfl, hu, _⟩ := ints_at hi
      have hlen := filt_len (fun z => decide ((10 : Int) ^ 18 ≤ z)) ns i
      refine ⟨rfl, ?_⟩
      walk_at "go"
      refine ifD (fun p => ?_) (fun p => ?_)
      · walk_at "go"
        refine ⟨small_lt (by rw [List.length_map]; omega), wait ⟨?_, fun x o e => ?_⟩⟩
        · rw [upd_same, take_filt_yes hu (decide_eq_true p), List.map_append] <;> rfl
        · rw [upd_ne (ne_of_none e hD)]
          exact h2 x o e
      · refine wait ⟨?_, h2⟩
        rw [take_filt_no hu (decide_eq_false p)]
        exact h1
    · rintro H1 ⟨h1, s1⟩
      rw [List.length_map, List.take_length] at h1
      have hS1 := s1.seq hS
      walk_at "go"
      intro L hL
      refine lcL (K := K) (a := c) (xs := ns.map V.int) (fun i H' => H' L = some (.lst (((ns.take i).filter fun z => decide (z < (10 : Int) ^ 18)).map V.int)) ∧ Same H1 H') ?_ ?_ ?_ ?_
      · exact ⟨upd_same, fun x o e => by rw [upd_ne (ne_of_none e hL)]; exact e⟩
      · exact fun i H' _ h => h.2.seq hS1
      · rintro i y H' hi ⟨g1, g2⟩
        obtain ⟨u, rfl, hu, _⟩ := ints_at hi
        have hlen := filt_len (fun z => decide (z < (10 : Int) ^ 18)) ns i
        refine ⟨rfl, ?_⟩
        walk_at "go"
        refine ifD (fun p => ?_) (fun p => ?_)
        · walk_at "go"
          refine ⟨small_lt (by rw [List.length_map]; omega), wait ⟨?_, fun x o e => ?_⟩⟩
          · rw [upd_same, take_filt_yes hu (decide_eq_true p), List.map_append] <;> rfl
          · rw [upd_ne (ne_of_none e hL)]
            exact g2 x o e
        · refine wait ⟨?_, g2⟩
          rw [take_filt_no hu (decide_eq_false p)]
          exact g1
      · rintro H2 ⟨g1, s2⟩
        rw [List.length_map, List.take_length] at g1
        refine ⟨(by show 4 ≤ sizeLine; decide), fun b hb => ?_⟩
        have hD2 := s2 _ _ h1
        have nbD : b ≠ D := fun z => by rw [z, hD2] at hb; cases hb
        have nbL : b ≠ L := fun z => by rw [z, g1] at hb; cases hb
        have nDL : D ≠ L := ne_of_none h1 hL
        have s12 : Same H (upd H2 b (.lst [.ref D, .int 0, .ref L, .int 0])) := fun x o e => by
          have e2 := s2 _ _ (s1 _ _ e)
          rw [upd_ne (ne_of_none e2 hb)]
          exact e2
        refine q b D L _ ((s1.trans s2).free hb) hD (s1.free hL) ⟨⟨_, _, 0, upd_same, upd_get nbD.symm hD2, upd_get nbL.symm g1, by decide, fun z hz => ?_, ?_, ?_, nbD, nbL, nDL⟩, by decide⟩ s12
        · have := (List.mem_filter.mp hz).2
          have p : (10 : Int) ^ 18 ≤ z := of_decide_eq_true this
          omega
        · exact Nat.le_trans (List.length_filter_le _ _) hl
        · exact Nat.le_trans (List.length_filter_le _ _) hl
end
end Pf
set_option Elab.async false
set_option linter.all false
set_option maxRecDepth 100000
set_option maxHeartbeats 4000000
namespace Pf
open PySem L2
local macro_rules | `(tactic| walk_at "nz") => `(tactic| (show (_ : Int) ≠ 0; omega))
local macro_rules | `(tactic| walk_at "ne") => `(tactic| first | assumption | (apply Ne.symm; assumption))
local macro_rules | `(tactic| walk_at "hp") => `(tactic| first | assumption | exact upd_same | (refine upd_get ?_ ?_; walk_at "ne"; walk_at "hp"))
local macro_rules | `(tactic| walk_at "sd") => `(tactic| first
  | (with_reducible show (_ : Int) < _; omega)
  | (with_reducible show (_ : Int) ≤ _; omega)
  | (with_reducible show (_ : Nat) < _; omega)
  | (with_reducible show (_ : Nat) ≤ _; omega)
  | rfl
  | assumption
  | exact kV_int _
  | exact kV_str _
  | (show (_ : Int) ≠ 0; omega)
  | exact SqL.of (by walk_at "hp")
  | exact ⟨_, SqL.of (by walk_at "hp")⟩
  | exact ⟨_, SqT.of (by walk_at "hp")⟩
  | exact ⟨_, (by assumption)⟩
  | exact SqT.of (by walk_at "hp")
  | exact Rd.of (by walk_at "hp")
  | exact Or.inl (SqL.of (by walk_at "hp"))
  | exact Or.inr (SqT.of (by walk_at "hp"))
  | exact Or.inr (by assumption)
  | (walk_at "hp")
  | (exact Or.inl ⟨rfl, _, SqL.of (by walk_at "hp")⟩)
  | (exact Or.inl ⟨by omega, by omega⟩)
  | (exact Or.inr ⟨by omega, by omega⟩)
  | (refine ⟨?_, ?_, ?_⟩ <;> omega)
  | omega
  | (exact small_le (by first | omega | (simp only [List.length_cons, List.length_nil]; omega)))
  | (exact small_lt (by first | omega | (simp only [List.length_cons, List.length_nil]; omega)))
  | exact Nat.le_of_ble_eq_true rfl
  | exact ⟨_, rfl⟩
  | decide)
local macro_rules | `(tactic| walk_at "st") => `(tactic| first
  | with_reducible refine sq_seq ?_
  | apply Exists.intro
  | (refine And.intro ?_ ?_; (walk_at "sd")))
local macro_rules | `(tactic| walk_at "go") => `(tactic| repeat (walk_at "st"))
/-! ### the places of a table, in plain Lean -/
/-- a living handle: its place, its turn, its number -/
abbrev En := Int × Int × Int
structure Tb where
  turns : List Int
  live : List En
  peak : Int
abbrev Tb.keys (S : Tb) : List Int := S.live.map (·.1)
def kd (f : En → V) (l : List En) : List (Key × V) := l.map fun e => ((Sum.inl e.1 : Key), f e)
theorem kd_len (f : En → V) (l : List En) : (kd f l).length = l.length := List.length_map _
theorem kd_keys (f : En → V) (l : List En) : (kd f l).map (·.1) = (l.map (·.1)).map Sum.inl := by
  unfold kd
  rw [List.map_map, List.map_map] <;> rfl
theorem kd_none {f : En → V} {p : Int} : ∀ {l : List En}, p ∉ l.map (·.1) → valV (kd f l) (Sum.inl p) = none
  | [], _ => rfl
  | e :: r, h => by
    have h1 : ¬ (Sum.inl e.1 : Key) = Sum.inl p := fun z => h (by rw [List.map_cons, Sum.inl.inj z]; exact List.mem_cons_self)
    have h2 : p ∉ r.map (·.1) := fun z => h (by rw [List.map_cons]; exact List.mem_cons_of_mem _ z)
    show valV ((Sum.inl e.1, f e) :: kd f r) (Sum.inl p) = none
    rw [valV_neg h1]
    exact kd_none h2
theorem kd_val {f : En → V} {e : En} : ∀ {l : List En}, (l.map (·.1)).Nodup → e ∈ l → valV (kd f l) (Sum.inl e.1) = some (f e)
  | [], _, h => by cases h
  | d :: r, hn, h => by
    rw [List.map_cons, List.nodup_cons] at hn
    show valV ((Sum.inl d.1, f d) :: kd f r) (Sum.inl e.1) = some (f e)
    rcases List.mem_cons.mp h with z | z
    · subst z
      exact valV_pos rfl
    · have hne : ¬ (Sum.inl d.1 : Key) = Sum.inl e.1 := fun q => hn.1 (by rw [Sum.inl.inj q]; exact List.mem_map.mpr ⟨e, z, rfl⟩)
      rw [valV_neg hne]
      exact kd_val hn.2 z
theorem kd_some {f : En → V} {l : List En} {p : Int} (hn : (l.map (·.1)).Nodup) (h : p ∈ l.map (·.1)) : ∃ e ∈ l, e.1 = p ∧ valV (kd f l) (Sum.inl p) = some (f e) := by
  obtain ⟨e, he, rfl⟩ := List.mem_map.mp h
  exact ⟨e, he, rfl, kd_val hn he⟩
theorem kd_put {f : En → V} {l : List En} {p : Int} (v : V) (h : p ∉ l.map (·.1)) : putK (kd f l) (Sum.inl p) v = kd f l ++ [(Sum.inl p, v)] := putK_new v (kd_none h)
theorem kd_drop {f : En → V} {p : Int} : ∀ {l : List En}, dropK (kd f l) (Sum.inl p) = kd f (l.filter fun e => decide (e.1 ≠ p))
  | [] => rfl
  | e :: r => by
    show dropK ((Sum.inl e.1, f e) :: kd f r) (Sum.inl p) = _
    by_cases h : e.1 = p
    · rw [dropK_pos (by rw [h]), kd_drop, List.filter_cons, if_neg (by simp [h])]
    · rw [dropK_neg (fun z => h (Sum.inl.inj z)), kd_drop, List.filter_cons, if_pos (by simp [h])] <;> rfl
theorem kd_congr {f g : En → V} {l : List En} (h : ∀ e ∈ l, f e = g e) : kd f l = kd g l := by
  unfold kd
  exact List.map_congr_left fun e he => by rw [h e he]
theorem kd_snoc (f : En → V) (l : List En) (e : En) : kd f (l ++ [e]) = kd f l ++ [(Sum.inl e.1, f e)] := by
  unfold kd
  rw [List.map_append] <;> rfl
/-- the least place that no living handle has -/
structure Least (ks : List Int) (p : Int) : Prop where
  pos : 0 ≤ p
  out : p ∉ ks
  below : ∀ j : Int, 0 ≤ j → j < p → j ∈ ks
theorem Least.uniq {ks : List Int} {p q : Int} (a : Least ks p) (b : Least ks q) : p = q := by
  rcases Int.lt_trichotomy p q with h | h | h
  · exact absurd (b.below p a.pos h) a.out
  · exact h
  · exact absurd (a.below q b.pos h) b.out
structure Wf (S : Tb) : Prop where
  nd : S.keys.Nodup
  at_ : ∀ e ∈ S.live, 0 ≤ e.1 ∧ e.1 < S.turns.length ∧ S.turns[e.1.toNat]? = some (e.2.1 + 1) ∧ 0 ≤ e.2.1
  pos : ∀ x ∈ S.turns, 1 ≤ x
theorem Wf.empty : Wf ⟨[], [], 0⟩ := ⟨List.nodup_nil, (fun _ h => nomatch h), (fun _ h => nomatch h)⟩
theorem Wf.least_le {S : Tb} (w : Wf S) {p : Int} (h : Least S.keys p) : p ≤ S.turns.length := by
  rcases Int.lt_or_le (S.turns.length : Int) p with z | z
  · obtain ⟨e, he, q⟩ := List.mem_map.mp (h.below _ (Int.natCast_nonneg _) z)
    have := (w.at_ e he).2.1
    omega
  · exact z
/-- the turns with the place there -/
def grown (ts : List Int) (p : Int) : List Int := if p = (ts.length : Int) then ts ++ [0] else ts
def turnAt (ts : List Int) (p : Int) : Int := (grown ts p)[p.toNat]?.getD 0
def Tb.begin (S : Tb) (p f : Int) : Tb := ⟨(grown S.turns p).set p.toNat (turnAt S.turns p + 1), S.live ++ [(p, turnAt S.turns p, f)], if ((S.live.length + 1 : Nat) : Int) > S.peak then ((S.live.length + 1 : Nat) : Int) else S.peak⟩
def Tb.end (S : Tb) (p : Int) : Tb := { S with live := S.live.filter fun e => decide (e.1 ≠ p) }
theorem grown_len {ts : List Int} {p : Int} (h0 : 0 ≤ p) (h : p ≤ ts.length) : p < (grown ts p).length ∧ (grown ts p).length ≤ ts.length + 1 := by
  unfold grown
  split
  · rw [List.length_append, List.length_singleton]
    omega
  · omega
theorem grown_at {ts : List Int} {p : Int} (h0 : 0 ≤ p) (h : p ≤ ts.length) : (grown ts p)[p.toNat]? = some (turnAt ts p) := by
  have := (grown_len h0 h).1
  have hl : p.toNat < (grown ts p).length := by omega
  unfold turnAt
  rw [List.getElem?_eq_getElem hl] <;> rfl
theorem grown_old {ts : List Int} {p : Int} {i : Nat} {x : Int} (h : ts[i]? = some x) : (grown ts p)[i]? = some x := by
  unfold grown
  split
  · rw [List.getElem?_append_left (List.getElem?_eq_some_iff.mp h).1]
    exact h
  · exact h
theorem turnAt_pos {S : Tb} (w : Wf S) {p : Int} (h0 : 0 ≤ p) (h : p ≤ S.turns.length) : 0 ≤ turnAt S.turns p := by
  have e := grown_at h0 h
  unfold grown at e
  split at e
  · rename_i hp
    have : p.toNat = S.turns.length := by omega
    rw [this, List.getElem?_append_right (Nat.le_refl _), Nat.sub_self] at e
    have e' : some (0 : Int) = some (turnAt S.turns p) := e
    have := Option.some.inj e'
    omega
  · have := w.pos _ (List.mem_of_getElem? e)
    omega
theorem Wf.begin {S : Tb} (w : Wf S) {p f : Int} (h : Least S.keys p) : Wf (S.begin p f) := by
  have hp := w.least_le h
  have hl := grown_len h.pos hp
  have hg := grown_at h.pos hp
  have ht := turnAt_pos w h.pos hp
  refine ⟨?_, fun e he => ?_, fun x hx => ?_⟩
  · show ((S.live ++ [(p, turnAt S.turns p, f)]).map (·.1)).Nodup
    rw [List.map_append]
    exact nd_snoc w.nd h.out
  · have hlen : ((S.begin p f).turns).length = (grown S.turns p).length := List.length_set
    rcases List.mem_append.mp (show e ∈ S.live ++ [(p, turnAt S.turns p, f)] from he) with z | z
    · obtain ⟨a, b, c, d⟩ := w.at_ e z
      have hne : e.1 ≠ p := fun q => h.out (by rw [← q]; exact List.mem_map.mpr ⟨e, z, rfl⟩)
      refine ⟨a, ?_, ?_, d⟩
      · rw [hlen]
        have : S.turns.length ≤ (grown S.turns p).length := by
          unfold grown
          split
          · rw [List.length_append]; omega
          · exact Nat.le_refl _
        omega
      · show ((grown S.turns p).set p.toNat (turnAt S.turns p + 1))[e.1.toNat]? = _
        rw [List.getElem?_set_ne (by have := h.pos; omega)]
        exact grown_old c
    · have e' := List.mem_singleton.mp z
      subst e'
      refine ⟨h.pos, by rw [hlen]; exact hl.1, ?_, ht⟩
      show ((grown S.turns p).set p.toNat (turnAt S.turns p + 1))[p.toNat]? = _
      rw [List.getElem?_set_self (by have := h.pos; omega)]
  · have hx : x ∈ (grown S.turns p).set p.toNat (turnAt S.turns p + 1) := hx
    rcases List.mem_or_eq_of_mem_set hx with z | z
    · obtain ⟨i, hi, e⟩ := List.mem_iff_getElem.mp z
      by_cases hip : i = p.toNat
      · obtain ⟨j, hj⟩ := List.mem_iff_getElem?.mp hx
        by_cases hjp : j = p.toNat
        · subst hjp
          rw [List.getElem?_set_self (by have := h.pos; omega)] at hj
          have := Option.some.inj hj
          omega
        · rw [List.getElem?_set_ne (Ne.symm hjp)] at hj
          have hj2 : j < (grown S.turns p).length := (List.getElem?_eq_some_iff.mp hj).1
          have hjt : j < S.turns.length := by
            unfold grown at hj2
            split at hj2
            · rename_i q
              rw [List.length_append, List.length_singleton] at hj2
              omega
            · exact hj2
          have := grown_old (p := p) (List.getElem?_eq_getElem hjt)
          rw [this] at hj
          have := w.pos _ (List.getElem_mem hjt)
          have := Option.some.inj hj
          omega
      · have hit : i < S.turns.length := by
          unfold grown at hi
          split at hi
          · rename_i q
            rw [List.length_append, List.length_singleton] at hi
            omega
          · exact hi
        have e2 := grown_old (p := p) (List.getElem?_eq_getElem hit)
        rw [List.getElem?_eq_getElem hi, e] at e2
        have := w.pos _ (List.getElem_mem hit)
        have := Option.some.inj e2
        omega
    · omega
theorem Wf.end {S : Tb} (w : Wf S) (p : Int) : Wf (S.end p) := by
  refine ⟨?_, fun e he => w.at_ e (List.mem_filter.mp he).1, w.pos⟩
  exact (List.filter_sublist.map _).nodup w.nd
theorem keys_end (S : Tb) (p : Int) : (S.end p).keys = S.keys.filter fun x => decide (x ≠ p) := by
  show (S.live.filter fun e => decide (e.1 ≠ p)).map (·.1) = (S.live.map (·.1)).filter fun x => decide (x ≠ p)
  rw [List.filter_map] <;> rfl
theorem begin_len (S : Tb) (p f : Int) : (S.begin p f).live.length = S.live.length + 1 := by
  show (S.live ++ [_]).length = _
  rw [List.length_append, List.length_singleton]
theorem end_len (S : Tb) (p : Int) : (S.end p).live.length ≤ S.live.length := List.length_filter_le _ _
theorem kd_at {f : En → V} {l : List En} {i : Nat} {k : Key} {v : V} (h : (kd f l)[i]? = some (k, v)) : ∃ e ∈ l, k = Sum.inl e.1 ∧ v = f e := by
  unfold kd at h
  rw [List.getElem?_map] at h
  cases z : l[i]? with
  | none => rw [z] at h; cases h
  | some e =>
    rw [z] at h
    cases h
    exact ⟨e, List.mem_of_getElem? z, rfl, rfl⟩
section
variable {P : Program} {w : World} {K : PySem.W.Frag} {mg : Str → Option Value} {base : Heap} {a : Ad}
/-! ### Table -/
abbrev tf (lt dk : Addr) (p : Int) : List (Str × V) := [(("turns" : Str), V.ref lt), (("kept" : Str), V.ref dk), (("peak" : Str), V.int p)]
abbrev kf : En → V := fun e => .int e.2.2
structure TabAt (C : Addr) (H : Hp) (t lt dk : Addr) (S : Tb) : Prop where
  ob : ∃ dx, H t = some (.ins C dx (tf lt dk S.peak))
  tu : H lt = some (.lst (S.turns.map V.int))
  kp : H dk = some (.dK (kd kf S.live))
theorem TabAt.keep {C : Addr} {H H' : Hp} {t lt dk : Addr} {S : Tb} (h : TabAt C H t lt dk S) (k : ∀ x o, (x = t ∨ x = lt ∨ x = dk) → H x = some o → H' x = some o) : TabAt C H' t lt dk S := by
  obtain ⟨dx, ho⟩ := h.ob
  exact ⟨⟨dx, k _ _ (.inl rfl) ho⟩, k _ _ (.inr (.inl rfl)) h.tu, k _ _ (.inr (.inr rfl)) h.kp⟩
theorem TabAt.same {C : Addr} {H H' : Hp} {t lt dk : Addr} {S : Tb} (h : TabAt C H t lt dk S) (k : Same H H') : TabAt C H' t lt dk S := h.keep fun x o _ e => k x o e
/-- a living handle in the heap -/
def spTabInit (C : Addr) : Sp := fun vs H Q _ => ∃ (t dx : Addr), vs = [.ref t] ∧ H t = some (.ins C dx []) ∧ ∀ (lt dk : Addr) (H' : Hp), H lt = none → H dk = none → TabAt C H' t lt dk ⟨[], [], 0⟩ →
  (∀ x o, x ≠ t → H x = some o → H' x = some o) → Q .non H'
def spBegin (C : Addr) : Sp := fun vs H Q _ => ∃ (t lt dk : Addr) (S : Tb) (f : Int), vs = [.ref t, .int f] ∧ TabAt C H t lt dk S ∧ Wf S ∧ S.live.length ≤ 5000 ∧ S.turns.length ≤ 5000 ∧
  ∀ (p : Int) (tp : Addr) (H' : Hp), Least S.keys p → TabAt C H' t lt dk (S.begin p f) → H tp = none → H' tp = some (.tup [.int p, .int (turnAt S.turns p)]) → (∀ x o, x ≠ t → x ≠ lt → x ≠ dk → H x = some o → H' x = some o) → Q (.ref tp) H'
def spNeed0 (K : PySem.W.Frag) (C : Addr) : Sp := fun vs H Q _ => ∃ (t lt dk h : Addr) (S : Tb) (e : En), vs = [.ref t, .ref h] ∧ TabAt C H t lt dk S ∧ Wf S ∧ e ∈ S.live ∧ SqT K H h [.int e.1, .int e.2.1] ∧ Q .non H
def spLook0 (K : PySem.W.Frag) (C : Addr) : Sp := fun vs H Q _ => ∃ (t lt dk h : Addr) (S : Tb) (e : En), vs = [.ref t, .ref h] ∧ TabAt C H t lt dk S ∧ Wf S ∧ e ∈ S.live ∧ SqT K H h [.int e.1, .int e.2.1] ∧ Q (.int e.2.2) H
def spEnd0 (K : PySem.W.Frag) (C : Addr) : Sp := fun vs H Q _ => ∃ (t lt dk h : Addr) (S : Tb) (e : En), vs = [.ref t, .ref h] ∧ TabAt C H t lt dk S ∧ Wf S ∧ e ∈ S.live ∧ SqT K H h [.int e.1, .int e.2.1] ∧
  ∀ H', TabAt C H' t lt dk (S.end e.1) → (∀ x o, x ≠ dk → H x = some o → H' x = some o) → Q (.int e.2.2) H'
/-- a told list of handles -/
def turnOf (S : Tb) (p : Int) : Int := (S.turns[p.toNat]?.getD 0) - 1
def told (S : Tb) (ys : List Int) : List PyData := ys.map fun p => pairD (p, turnOf S p)
def spAlive (K : PySem.W.Frag) (C : Addr) : Sp := fun vs H Q _ => ∃ (t lt dk : Addr) (S : Tb), vs = [.ref t] ∧ TabAt C H t lt dk S ∧ Wf S ∧ S.live.length ≤ 5000 ∧
  ∀ (D : Addr) (ys : List Int) (xs : List V) (H' : Hp), ys.Perm S.keys → ys.Pairwise (· ≤ ·) → H D = none → H' D = some (.lst xs) → DpAll K H' xs (told S ys) → Same H H' → Q (.ref D) H'
def spMost (C : Addr) : Sp := fun vs H Q _ => ∃ (t lt dk : Addr) (S : Tb), vs = [.ref t] ∧ TabAt C H t lt dk S ∧ Q (.int S.peak) H
def spLen (C : Addr) : Sp := fun vs H Q _ => ∃ (t lt dk : Addr) (S : Tb), vs = [.ref t] ∧ TabAt C H t lt dk S ∧ Q (.int S.live.length) H
theorem ok_Table___init__ (T : Txt K mg a) : FnOk P w K mg base CX0 1 a.f_Table___init__ a.d_Table___init__ ["self"] (spTabInit a.c_Table) := by
  have cl := T.cl_Table
  have n1 := T.na_Table_turns
  have n2 := T.na_Table_kept
  have n3 := T.na_Table_peak
  refine T.F_Table___init__.ok sc_Table___init__ (fun vs H Q E h => ?_) (fun cdv A outer s H vs Q E hr h => ?_)
  · obtain ⟨t, dx, rfl, _⟩ := h
    rfl
  · obtain ⟨t, dx, rfl, ht, q⟩ := h
    refine ⟨_, (pss_cons (ps_fld (pv 0) (pe_lst pa_nil) rfl)
      (pss_cons (ps_fld (pv 0) pe_dnewK rfl)
      (pss_one (ps_fld (pv 0) pe_int rfl)))), ?_⟩
    refine ⟨Nat.zero_le _, fun lt hlt => ?_⟩
    have ntl : t ≠ lt := ne_of_none ht hlt
    walk_at "go"
    intro dk hdk
    have ntd : t ≠ dk := fun z => by rw [← z, upd_same] at hdk; cases hdk
    have hdk1 : upd H lt (.lst []) dk = none := by rw [upd_ne ntd.symm] at hdk; exact hdk
    have nld : lt ≠ dk := fun z => by rw [← z, upd_same] at hdk1; cases hdk1
    have hdk2 : H dk = none := by rw [upd_ne nld.symm] at hdk1; exact hdk1
    walk_at "go"
    refine q lt dk _ hlt hdk2 ⟨⟨dx, ?_⟩, ?_, ?_⟩ ?_
    · exact upd_same
    · rw [upd_ne ntl.symm, upd_ne ntl.symm, upd_ne nld, upd_ne ntl.symm, upd_same] <;> rfl
    · rw [upd_ne ntd.symm, upd_ne ntd.symm, upd_same] <;> rfl
    · intro x o n e
      rw [upd_ne n, upd_ne n, upd_ne (ne_of_none e hdk2), upd_ne n, upd_ne (ne_of_none e hlt)]
      exact e
theorem ok_Table_begin (T : Txt K mg a) : FnOk P w K mg base CX0 1 a.f_Table_begin a.d_Table_begin ["self", "number"] (spBegin a.c_Table) := by
  have cl := T.cl_Table
  have n1 := T.na_Table_turns
  have n2 := T.na_Table_kept
  have n3 := T.na_Table_peak
  refine T.F_Table_begin.ok sc_Table_begin (fun vs H Q E h => ?_) (fun cdv A outer s H vs Q E hr h => ?_)
  · obtain ⟨t, lt, dk, S, f, rfl, _⟩ := h
    rfl
  · obtain ⟨t, lt, dk, S, f, rfl, TA, W, hl5, ht5, q⟩ := h
    obtain ⟨dx, ho⟩ := TA.ob
    have hlt := TA.tu
    have hdk := TA.kp
    have ntl : t ≠ lt := ne_of ho hlt (by intro z; cases z)
    have ntd : t ≠ dk := ne_of ho hdk (by intro z; cases z)
    have nld : lt ≠ dk := ne_of hlt hdk (by intro z; cases z)
    refine ⟨_, (pss_cons (ps_set (i := 2) sc_Table_begin.nd rfl (Or.inl rfl) pe_int)
      (pss_cons (ps_stop (ps_while PassesOwn.never (pt_cmp (pc_din (hu_of hr) (pv 2) (pe_fld (pv 0) rfl))) (pss_one (ps_aug (i := 2) sc_Table_begin.nd rfl (Or.inl rfl) pe_int ip_add))))
      (pss_mid (ps_if (pt_cmpR op_eq (pv 2) (pe_callB call_lenK (by rfl) T.z_len PySem.boot_len (pa_cons (pe_fld (pv 0) rfl) pa_nil)) (nomark _)) (pss_one (ps_expr (pe_bm PySem.F.plainAttrs_list PySem.F.slot_list_append PySem.F.type_list_append mt_append (pe_fld (pv 0) rfl) (pa_cons pe_int pa_nil)))) pss_nil)
      (pss_cons (ps_set (i := 3) sc_Table_begin.nd rfl (Or.inl rfl) (pe_ix ix_list (pe_fld (pv 0) rfl) (pv 2) (fun _ _ => rfl)))
      (pss_cons (ps_asg (pe_op op_add (pv 3) pe_int) (pg_sub (pe_fld (pv 0) rfl) (pv 2) set_list))
      (pss_cons (ps_dput (hu_of hr) (pe_fld (pv 0) rfl) (pv 2) (pv 1) rfl)
      (pss_cons (ps_fld (pv 0) (pe_callB (call_max2 rfl) (by rfl) T.z_max (by decide +kernel) (pa_cons (pe_fld (pv 0) rfl) (pa_cons (pe_callB call_lenD (by rfl) T.z_len PySem.boot_len (pa_cons (pe_fld (pv 0) rfl) pa_nil)) pa_nil))) rfl)
      (pss_one (ps_ret (pe_tup (pa_cons (pv 2) (pa_cons (pv 3) pa_nil)))))))))))), ?_⟩
    walk_at "go"
    refine while_W (fun m σ H1 => H1 = H ∧ ∃ p : Int, σ = [some (.ref t), some (.int f), some (.int p), none] ∧ 0 ≤ p ∧ (∀ j : Int, 0 ≤ j → j < p → j ∈ S.keys) ∧ m = ((S.turns.length : Int) - p).toNat) ((S.turns.length : Int) - 0).toNat ?_ ?_
    · exact ⟨rfl, 0, rfl, by decide, fun j h0 h1 => absurd h0 (by omega), rfl⟩
    · rintro m σ H1 ⟨rfl, p, rfl, p0, pb, rfl⟩
      by_cases hin : p ∈ S.keys
      · obtain ⟨e, he, ee, hv⟩ := kd_some (f := kf) W.nd hin
        have hb := (W.at_ e he).2.1
        walk_at "go"
        refine ⟨DGet.k (k := Sum.inl p) hdk, ?_⟩
        rw [hv]
        refine ⟨_, rfl, ifT rfl (next_W ?_)⟩
        walk_at "go"
        refine wait ⟨_, ?_, rfl, p + 1, rfl, by omega, fun j h0 h1 => ?_, rfl⟩
        · rw [ee] at hb
          omega
        · by_cases z : j = p
          · rw [z]; exact hin
          · exact pb j h0 (by omega)
      · have L : Least S.keys p := ⟨p0, hin, pb⟩
        have hp := W.least_le L
        have hgl := grown_len p0 hp
        have hga := grown_at p0 hp
        walk_at "go"
        refine ⟨DGet.k (k := Sum.inl p) hdk, ?_⟩
        rw [kd_none hin]
        refine ⟨_, rfl, ifF rfl ?_⟩
        refine mid_of (fun σ H2 => σ = [some (.ref t), some (.int f), some (.int p), none] ∧ H2 lt = some (.lst ((grown S.turns p).map V.int)) ∧ ∀ x o, x ≠ lt → H1 x = some o → H2 x = some o) ?_ ?_
        · walk_at "go"
          refine ifD (fun e => ?_) (fun e => ?_)
          · walk_at "go"
            refine ⟨small_lt (by rw [List.length_map]; omega), wait ⟨rfl, ?_, fun x o n e => by rw [upd_ne n]; exact e⟩⟩
            rw [upd_same]
            have e2 : p = (S.turns.length : Int) := by
              have := V.int.inj e
              rw [List.length_map] at this
              exact this
            unfold grown
            rw [if_pos e2, List.map_append] <;> rfl
          · have e2 : ¬ p = (S.turns.length : Int) := fun z => e (by rw [List.length_map, ← z])
            refine wait ⟨rfl, ?_, fun x o n e => e⟩
            unfold grown
            rw [if_neg e2]
            exact hlt
        · rintro σ H2 ⟨rfl, hlt2, k2⟩
          have ho2 := k2 _ _ ntl ho
          have hdk2 := k2 _ _ nld.symm hdk
          have hix : atI ((grown S.turns p).map V.int) p = some (.int (turnAt S.turns p)) := by
            obtain ⟨z, h1, h2⟩ := atI_ints p0 hgl.1
            rw [hga] at h2
            cases h2
            exact h1
          have hixN : ixN ((grown S.turns p).map V.int).length p = some p.toNat := by
            unfold ixN
            rw [if_pos p0, List.length_map, if_pos hgl.1]
          walk_at "go"
          refine ⟨DPut.k (k := Sum.inl p) (upd_get nld.symm hdk2) (small_lt (by rw [kd_len]; omega)), ?_⟩
          rw [kd_put (.int f) hin]
          obtain ⟨H3, e3⟩ : ∃ H3, H3 = upd (upd H2 lt (.lst (((grown S.turns p).map V.int).set p.toNat (.int (turnAt S.turns p + 1))))) dk (.dK (kd kf S.live ++ [(Sum.inl p, .int f)])) := ⟨_, rfl⟩
          have ho3 : H3 t = some (.ins a.c_Table dx (tf lt dk S.peak)) := by rw [e3, upd_ne ntd, upd_ne ntl]; exact ho2
          have hdk3 : H3 dk = some (.dK (kd kf S.live ++ [(Sum.inl p, .int f)])) := by rw [e3, upd_same]
          have hlt3 : H3 lt = some (.lst (((grown S.turns p).map V.int).set p.toNat (.int (turnAt S.turns p + 1)))) := by rw [e3, upd_ne nld, upd_same]
          have k3 : ∀ x o, x ≠ lt → x ≠ dk → H1 x = some o → H3 x = some o := fun x o h1 h2 e => by rw [e3, upd_ne h2, upd_ne h1]; exact k2 x o h1 e
          show tSeq _ _ _ _ (upd (upd H2 lt (.lst (((grown S.turns p).map V.int).set p.toNat (.int (turnAt S.turns p + 1))))) dk (.dK (kd kf S.live ++ [(Sum.inl p, .int f)])))
          rw [← e3]
          walk_at "go"
          intro tp htp
          have ntp : t ≠ tp := fun z => by rw [← z, upd_same] at htp; cases htp
          have htp3 : H3 tp = none := by rw [upd_ne ntp.symm] at htp; exact htp
          have nltp : lt ≠ tp := ne_of_none hlt3 htp3
          have ndtp : dk ≠ tp := ne_of_none hdk3 htp3
          have htp1 : H1 tp = none := by
            cases z : H1 tp with
            | none => rfl
            | some o => rw [k3 tp o nltp.symm ndtp.symm z] at htp3; cases htp3
          refine q p tp _ L ⟨⟨dx, ?_⟩, ?_, ?_⟩ htp1 upd_same fun x o h1 h2 h3 e => ?_
          · rw [upd_ne ntp, upd_same]
            simp only [List.length_append, kd_len, List.length_singleton]
            rfl
          · rw [upd_ne nltp, upd_ne ntl.symm, hlt3]
            show _ = some (HO.lst (((grown S.turns p).set p.toNat (turnAt S.turns p + 1)).map V.int))
            rw [List.map_set]
          · rw [upd_ne ndtp, upd_ne ntd.symm, hdk3]
            show _ = some (HO.dK (kd kf (S.live ++ [(p, turnAt S.turns p, f)])))
            rw [kd_snoc]
          · rw [upd_ne (ne_of_none e htp1), upd_ne h1]
            exact k3 x o h2 h3 e
theorem live_at {S : Tb} (W : Wf S) {e : En} (he : e ∈ S.live) : atI (S.turns.map V.int) e.1 = some (.int (e.2.1 + 1)) ∧ turnOf S e.1 = e.2.1 := by
  obtain ⟨a, b, c, d⟩ := W.at_ e he
  obtain ⟨z, h1, h2⟩ := atI_ints a b
  rw [c] at h2
  cases h2
  refine ⟨h1, ?_⟩
  unfold turnOf
  rw [c]
  show e.2.1 + 1 - 1 = e.2.1
  omega
theorem live_uniq {S : Tb} (W : Wf S) {e f : En} (he : e ∈ S.live) (hf : f ∈ S.live) (h : e.1 = f.1) : e = f := by
  have h1 := kd_val (f := fun e => V.int e.2.1) W.nd he
  have h2 := kd_val (f := fun e => V.int e.2.1) W.nd hf
  have h3 := kd_val (f := fun e => V.int e.2.2) W.nd he
  have h4 := kd_val (f := fun e => V.int e.2.2) W.nd hf
  rw [h] at h1 h3
  have a := V.int.inj (Option.some.inj (h1.symm.trans h2))
  have b := V.int.inj (Option.some.inj (h3.symm.trans h4))
  obtain ⟨x, y, z⟩ := e
  obtain ⟨x', y', z'⟩ := f
  dsimp only at h a b
  rw [h, a, b]
/-- a handle that was never begun; one that was begun and has ended -/
def NoH (S : Tb) (p q : Int) : Prop := ¬ (0 ≤ p ∧ p < S.turns.length ∧ 0 ≤ q ∧ q < S.turns[p.toNat]?.getD 0)
def EndH (S : Tb) (p q : Int) : Prop := ¬ NoH S p q ∧ ¬ ∃ e ∈ S.live, e.1 = p ∧ e.2.1 = q
def wErr (C : Addr) (f : Str) (v : V) (H : Hp) (E : XK) : Prop := ∀ d H', H d = none → H' d = some (.xd [(f, v)]) → Same H H' → E (.ref C) (some d) H'
def spNeed (K : PySem.W.Frag) (C cN cE : Addr) : Sp := fun vs H Q E => ∃ (t lt dk h : Addr) (S : Tb) (p q : Int), vs = [.ref t, .ref h] ∧ TabAt C H t lt dk S ∧ Wf S ∧ SqT K H h [.int p, .int q] ∧
  ((∃ e ∈ S.live, e.1 = p ∧ e.2.1 = q) → Q .non H) ∧ (NoH S p q → wErr cN "handle" (.ref h) H E) ∧ (EndH S p q → wErr cE "handle" (.ref h) H E)
def spLook (K : PySem.W.Frag) (C cN cE : Addr) : Sp := fun vs H Q E => ∃ (t lt dk h : Addr) (S : Tb) (p q : Int), vs = [.ref t, .ref h] ∧ TabAt C H t lt dk S ∧ Wf S ∧ SqT K H h [.int p, .int q] ∧
  (∀ e ∈ S.live, e.1 = p → e.2.1 = q → Q (.int e.2.2) H) ∧ (NoH S p q → wErr cN "handle" (.ref h) H E) ∧ (EndH S p q → wErr cE "handle" (.ref h) H E)
def spEnd (K : PySem.W.Frag) (C cN cE : Addr) : Sp := fun vs H Q E => ∃ (t lt dk h : Addr) (S : Tb) (p q : Int), vs = [.ref t, .ref h] ∧ TabAt C H t lt dk S ∧ Wf S ∧ SqT K H h [.int p, .int q] ∧
  (∀ e ∈ S.live, e.1 = p → e.2.1 = q → ∀ H', TabAt C H' t lt dk (S.end e.1) → (∀ x o, x ≠ dk → H x = some o → H' x = some o) → Q (.int e.2.2) H') ∧ (NoH S p q → wErr cN "handle" (.ref h) H E) ∧ (EndH S p q → wErr cE "handle" (.ref h) H E)
theorem ok_NoHandle___init__ (T : Txt K mg a) : FnOk P w K mg base CX0 1 a.f_NoHandle___init__ a.d_NoHandle___init__ ["self", "handle"] (spErr a.c_NoHandle "handle") := by
  refine T.F_NoHandle___init__.ok sc_NoHandle___init__ (fun vs H Q E h => ?_) (fun cdv A outer s H vs Q E hr h => ?_)
  · obtain ⟨e, v, rfl, _⟩ := h
    rfl
  · obtain ⟨e, v, rfl, he, q⟩ := h
    refine ⟨_, pss_one (ps_ost (pv 0) (pv 1)), ?_⟩
    exact ⟨_, rfl, _, rfl, e, a.c_NoHandle, rfl, T.ox_NoHandle, T.na_NoHandle_handle, .inl ⟨he, q⟩⟩
theorem ok_Ended___init__ (T : Txt K mg a) : FnOk P w K mg base CX0 1 a.f_Ended___init__ a.d_Ended___init__ ["self", "handle"] (spErr a.c_Ended "handle") := by
  refine T.F_Ended___init__.ok sc_Ended___init__ (fun vs H Q E h => ?_) (fun cdv A outer s H vs Q E hr h => ?_)
  · obtain ⟨e, v, rfl, _⟩ := h
    rfl
  · obtain ⟨e, v, rfl, he, q⟩ := h
    refine ⟨_, pss_one (ps_ost (pv 0) (pv 1)), ?_⟩
    exact ⟨_, rfl, _, rfl, e, a.c_Ended, rfl, T.ox_Ended, T.na_Ended_handle, .inl ⟨he, q⟩⟩
theorem ok_Table_need (T : Txt K mg a) : FnOk P w K mg base (L2.CX P w) 3 a.f_Table_need a.d_Table_need ["self", "handle"] (spNeed K a.c_Table a.c_NoHandle a.c_Ended) := by
  have G_NoHandle___init__ := ok_NoHandle___init__ (P := P) (w := w) (base := base) T
  have G_Ended___init__ := ok_Ended___init__ (P := P) (w := w) (base := base) T
  have cl := T.cl_Table
  have n1 := T.na_Table_turns
  have n2 := T.na_Table_kept
  have n3 := T.na_Table_peak
  refine T.F_Table_need.okX sc_Table_need (fun vs H Q E h => ?_) (fun cdv A outer s H vs Q E hr h => ?_)
  · obtain ⟨t, lt, dk, h, S, p, q, rfl, _⟩ := h
    rfl
  · obtain ⟨t, lt, dk, h, S, p, q, rfl, TA, W, hS, q1, q2, q3⟩ := h
    obtain ⟨dx, ho⟩ := TA.ob
    have hlt := TA.tu
    have hdk := TA.kp
    refine ⟨_, (pss_cons (ps_asg (pv 1) (pg_tup rfl (pgs_cons (pg_name (i := 2) sc_Table_need.nd rfl (Or.inl rfl)) (pgs_cons (pg_name (i := 3) sc_Table_need.nd rfl (Or.inl rfl)) pgs_nil))))
      (pss_cons (ps_if (PW.pt (pw_or (pt_not (pt_chain op_le op_lt pe_int (pv 2) (pe_callB call_lenK (by rfl) T.z_len PySem.boot_len (pa_cons (pe_fld (pv 0) rfl) pa_nil)))) (pw_or1 (pt_not (pt_chain op_le op_lt pe_int (pv 3) (pe_ix ix_list (pe_fld (pv 0) rfl) (pv 2) (fun _ _ => rfl))))))) (pss_one (ps_raise rfl (takes_of rfl rfl rfl rfl) (pmk_oex T.ox_NoHandle T.ini_NoHandle T.ti_NoHandle G_NoHandle___init__ (hr.mono (by decide)) T.b_NoHandle___init__ .nil pass0 rfl T.m_NoHandle (by exact (pa_cons (pv 1) pa_nil))))) pss_nil)
      (pss_one (ps_if (PW.pt (pw_or (pt_cmp (pc_dnotin (hu_of hr) (pv 2) (pe_fld (pv 0) rfl))) (pw_or1 (pt_cmpR op_ne (pv 3) (pe_op op_sub (pe_ix ix_list (pe_fld (pv 0) rfl) (pv 2) (fun _ _ => rfl)) pe_int) (nomark _))))) (pss_one (ps_raise rfl (takes_of rfl rfl rfl rfl) (pmk_oex T.ox_Ended T.ini_Ended T.ti_Ended G_Ended___init__ (hr.mono (by decide)) T.b_Ended___init__ .nil pass0 rfl T.m_Ended (by exact (pa_cons (pv 1) pa_nil))))) pss_nil)))), ?_⟩
    have bad : NoH S p q → tMkO a.c_NoHandle (spErr a.c_NoHandle "handle") [] (tCons (tVar 1) tNil) [some (.ref t), some (.ref h), some (.int p), some (.int q)] H (fun cls d H' => E cls d H') := fun nh => ⟨_, rfl, raise_err (q2 nh)⟩
    have gone : EndH S p q → tMkO a.c_Ended (spErr a.c_Ended "handle") [] (tCons (tVar 1) tNil) [some (.ref t), some (.ref h), some (.int p), some (.int q)] H (fun cls d H' => E cls d H') := fun nh => ⟨_, rfl, raise_err (q3 nh)⟩
    walk_at "go"
    refine ifD (fun b0 => ?_) (fun b0 => ?_)
    · walk_at "go"
      refine ifN (fun b1 => ?_) (fun b1 => ?_)
      · exact bad fun z => b1 (by rw [List.length_map]; exact z.2.1)
      · rw [List.length_map] at b1
        obtain ⟨z, hz, hz2⟩ := atI_ints b0 b1
        walk_at "go"
        refine ifD (fun b2 => ?_) (fun b2 => ?_)
        · walk_at "go"
          refine ifN (fun b3 => ?_) (fun b3 => ?_)
          · exact bad fun y => b3 (by have := y.2.2.2; rw [hz2] at this; exact this)
          · have begun : ¬ NoH S p q := fun nh => nh ⟨b0, b1, b2, by rw [hz2]; exact b3⟩
            by_cases hin : p ∈ S.keys
            · obtain ⟨e, he, ee, hv⟩ := kd_some (f := kf) W.nd hin
              have hat := (W.at_ e he).2.2.1
              rw [ee, hz2] at hat
              have hze : z = e.2.1 + 1 := Option.some.inj hat
              have hget : DGet H dk (.int p) (some (kf e)) := by
                have := DGet.k (k := Sum.inl p) hdk
                rw [hv] at this
                exact this
              walk_at "go"
              refine ifN (fun b4 => ?_) (fun b4 => ?_)
              · refine gone ⟨begun, ?_⟩
                rintro ⟨e2, he2, e3, e4⟩
                have h2 := (W.at_ e2 he2).2.2.1
                rw [e3, hz2] at h2
                have : z = e2.2.1 + 1 := Option.some.inj h2
                exact b4 (congrArg V.int (by omega))
              · have := V.int.inj b4
                exact q1 ⟨e, he, ee, by omega⟩
            · walk_at "go"
              refine ⟨DGet.k (k := Sum.inl p) hdk, ?_⟩
              rw [kd_none hin]
              refine ⟨_, rfl, ifT rfl ?_⟩
              refine gone ⟨begun, ?_⟩
              rintro ⟨e2, he2, e3, e4⟩
              exact hin (by rw [← e3]; exact List.mem_map.mpr ⟨e2, he2, rfl⟩)
        · exact ⟨_, rfl, ifT rfl (bad fun y => b2 y.2.2.1)⟩
    · exact ⟨_, rfl, ifT rfl (ifT rfl (bad fun y => b0 y.1))⟩
theorem live_not {S : Tb} (W : Wf S) {p q : Int} : (∃ e ∈ S.live, e.1 = p ∧ e.2.1 = q) ∨ NoH S p q ∨ EndH S p q := by
  by_cases h1 : ∃ e ∈ S.live, e.1 = p ∧ e.2.1 = q
  · exact .inl h1
  · by_cases h2 : NoH S p q
    · exact .inr (.inl h2)
    · exact .inr (.inr ⟨h2, h1⟩)
theorem ok_Table_look (T : Txt K mg a) : FnOk P w K mg base (L2.CX P w) 4 a.f_Table_look a.d_Table_look ["self", "handle"] (spLook K a.c_Table a.c_NoHandle a.c_Ended) := by
  have G_Table_need := ok_Table_need (P := P) (w := w) (base := base) T
  have cl := T.cl_Table
  have n1 := T.na_Table_turns
  have n2 := T.na_Table_kept
  have n3 := T.na_Table_peak
  refine T.F_Table_look.okX sc_Table_look (fun vs H Q E h => ?_) (fun cdv A outer s H vs Q E hr h => ?_)
  · obtain ⟨t, lt, dk, h, S, p, q, rfl, _⟩ := h
    rfl
  · obtain ⟨t, lt, dk, h, S, p, q, rfl, TA, W, hS, q1, q2, q3⟩ := h
    obtain ⟨dx, ho⟩ := TA.ob
    have hdk := TA.kp
    refine ⟨_, (pss_cons (ps_expr (pe_meth (pv 0) T.cl_Table T.mt_Table_need G_Table_need (hr.mono (by decide)) T.b_Table_need .nil (passes_call (takes_of rfl rfl rfl rfl) (fun _ _ _ _ h => h)) (pa_cons (pv 1) pa_nil)))
      (pss_one (ps_ret (pe_dget (hu_of hr) (pe_fld (pv 0) rfl) (pe_ix ix_tup (pv 1) pe_int (fun _ _ => rfl)) (fun _ _ => rfl))))), ?_⟩
    refine ⟨_, rfl, t, dx, _, rfl, ho, rfl, _, rfl, t, lt, dk, h, S, p, q, rfl, TA, W, hS, ?_, q2, q3⟩
    rintro ⟨e, he, rfl, rfl⟩
    have hget : DGet H dk (.int e.1) (some (kf e)) := by
      have := DGet.k (k := Sum.inl e.1) hdk
      rw [kd_val W.nd he] at this
      exact this
    walk_at "go"
    exact q1 e he rfl rfl
theorem ok_Table_end (T : Txt K mg a) : FnOk P w K mg base (L2.CX P w) 4 a.f_Table_end a.d_Table_end ["self", "handle"] (spEnd K a.c_Table a.c_NoHandle a.c_Ended) := by
  have G_Table_need := ok_Table_need (P := P) (w := w) (base := base) T
  have cl := T.cl_Table
  have n1 := T.na_Table_turns
  have n2 := T.na_Table_kept
  have n3 := T.na_Table_peak
  refine T.F_Table_end.okX sc_Table_end (fun vs H Q E h => ?_) (fun cdv A outer s H vs Q E hr h => ?_)
  · obtain ⟨t, lt, dk, h, S, p, q, rfl, _⟩ := h
    rfl
  · obtain ⟨t, lt, dk, h, S, p, q, rfl, TA, W, hS, q1, q2, q3⟩ := h
    obtain ⟨dx, ho⟩ := TA.ob
    have hlt := TA.tu
    have hdk := TA.kp
    have hI : IsD H dk := .inl ⟨_, .inl hdk⟩
    have ntd : t ≠ dk := ne_of ho hdk (by intro z; cases z)
    have nld : lt ≠ dk := ne_of hlt hdk (by intro z; cases z)
    refine ⟨_, (pss_cons (ps_expr (pe_meth (pv 0) T.cl_Table T.mt_Table_need G_Table_need (hr.mono (by decide)) T.b_Table_need .nil (passes_call (takes_of rfl rfl rfl rfl) (fun _ _ _ _ h => h)) (pa_cons (pv 1) pa_nil)))
      (pss_one (ps_ret (pe_dpop1 (pe_fld (pv 0) rfl) (pe_ix ix_tup (pv 1) pe_int (fun _ _ => rfl)) ⟨rfl, rfl, rfl, rfl⟩)))), ?_⟩
    refine ⟨_, rfl, t, dx, _, rfl, ho, rfl, _, rfl, t, lt, dk, h, S, p, q, rfl, TA, W, hS, ?_, q2, q3⟩
    rintro ⟨e, he, rfl, rfl⟩
    walk_at "go"
    refine ⟨kd_val W.nd he, ?_⟩
    refine q1 e he rfl rfl _ ⟨⟨dx, upd_get ntd ho⟩, upd_get nld hlt, ?_⟩ fun x o n e => upd_get n e
    rw [upd_same, kd_drop] <;> rfl
/-- a living handle was begun -/
theorem live_begun {S : Tb} (W : Wf S) {e : En} (he : e ∈ S.live) : ¬ NoH S e.1 e.2.1 := by
  obtain ⟨b0, b1, b2, b3⟩ := W.at_ e he
  refine fun nh => nh ⟨b0, b1, b3, ?_⟩
  rw [b2]
  show e.2.1 < e.2.1 + 1
  omega
theorem ok_Table_alive (T : Txt K mg a) : FnOk P w K mg base CX0 1 a.f_Table_alive a.d_Table_alive ["self"] (spAlive K a.c_Table) := by
  have cl := T.cl_Table
  have n1 := T.na_Table_turns
  have n2 := T.na_Table_kept
  have n3 := T.na_Table_peak
  refine T.F_Table_alive.ok sc_Table_alive (fun vs H Q E h => ?_) (fun cdv A outer s H vs Q E hr h => ?_)
  · obtain ⟨t, lt, dk, S, rfl, _⟩ := h
    rfl
  · obtain ⟨t, lt, dk, S, rfl, TA, W, h5, q⟩ := h
    obtain ⟨dx, ho⟩ := TA.ob
    have hlt := TA.tu
    have hdk := TA.kp
    have hk := kd_keys kf S.live
    refine ⟨_, (pss_one (ps_ret (pe_lc (own := [("place", 1)]) (g := gName 1) (tt := tYes) (te := (tTup (tCons _ (tCons (tOp _ (tOp (rIxL K) (tFld K _ "turns") _) _) tNil)))) rfl sc_Table_alive.nd (pi_list (by exact (pe_callB (call_sortedDX rfl) (by rfl) T.z_sorted (by decide +kernel) (pa_cons (pe_fld (pv 0) rfl) pa_nil)))) (blkOk_by (own := [("place", 1)]) (N := n_Table_alive) (sc := defScope s_Table_alive) (by decide +kernel)) (fun _ _ _ _ _ => (pg_name (i := 1) sc_Table_alive.nd rfl (Or.inl rfl))) (fun _ _ _ _ _ => pts_nil) (fun _ _ _ _ _ => (pe_tup (pa_cons (pv 1) (pa_cons (pe_op op_sub (pe_ix ix_list (pe_fld (pv 0) rfl) (pv 1) (fun _ _ => rfl)) pe_int) pa_nil))))))), ?_⟩
    walk_at "go"
    intro ys l perm srt hl
    have hlen : ys.length ≤ 5000 := by
      rw [perm.length_eq, List.length_map]
      exact h5
    walk_at "go"
    intro D hD
    have nlD : l ≠ D := fun z => by rw [← z, upd_same] at hD; cases hD
    have hD0 : H D = none := by rw [upd_ne nlD.symm] at hD; exact hD
    refine lcL (K := K) (a := l) (xs := ys.map V.int) (fun i H' => ∃ ts, H' D = some (.lst (ts.map V.ref)) ∧ Tups H' ts ((ys.take i).map fun p => (p, turnOf S p)) ∧ Same (upd H l (.lst (ys.map V.int))) H') ?_ ?_ ?_ ?_
    · exact ⟨[], upd_same, Paired.nil, Same.upd_new hD⟩
    · rintro i H' _ ⟨_, _, _, h⟩
      exact SqL.of (h _ _ upd_same)
    · rintro i y H' hi ⟨ts, h1, h2, h3⟩
      obtain ⟨u, rfl, hu, hiu⟩ := ints_at hi
      obtain ⟨e, he, rfl⟩ := List.mem_map.mp (perm.mem_iff.mp (List.mem_of_getElem? hu))
      obtain ⟨hix, htu⟩ := live_at W he
      have ho' := h3 _ _ (Same.upd_new hl _ _ ho)
      have hlt' := h3 _ _ (Same.upd_new hl _ _ hlt)
      have hts : ts.length = i := by
        rw [h2.len, List.length_map, List.length_take]
        omega
      refine ⟨rfl, ?_⟩
      walk_at "go"
      intro tp htp
      have nDt : D ≠ tp := ne_of_none h1 htp
      refine ⟨_, upd_get nDt h1, small_lt (by rw [List.length_map]; omega), wait ⟨ts ++ [tp], ?_, ?_, ?_⟩⟩
      · rw [upd_same, List.map_append] <;> rfl
      · rw [List.take_add_one, hu, Option.toList_some, List.map_append]
        refine Tups.snoc (h2.keep fun b xs e' => ?_) ?_
        · rw [upd_ne (ne_of e' h1 (by intro z; cases z)), upd_ne (ne_of_none e' htp)]
          exact e'
        · rw [upd_ne nDt.symm, upd_same]
          show some (HO.tup [V.int e.1, V.int (e.2.1 + 1 - 1)]) = some (HO.tup [V.int e.1, V.int (turnOf S e.1)])
          rw [htu, show e.2.1 + 1 - 1 = e.2.1 by omega]
      · intro b o e'
        have e2 := h3 _ _ e'
        rw [upd_ne (ne_of_none e' hD), upd_ne (ne_of_none e2 htp)]
        exact e2
    · rintro H' ⟨ts, h1, h2, h3⟩
      rw [List.length_map, List.take_length] at h2
      refine q D ys _ H' perm srt hD0 h1 ?_ ((Same.upd_new hl).trans h3)
      have := h2.dp (K := K)
      rw [List.map_map] at this
      exact this
theorem ok_Table_most (T : Txt K mg a) : FnOk P w K mg base CX0 1 a.f_Table_most a.d_Table_most ["self"] (spMost a.c_Table) := by
  have cl := T.cl_Table
  have n3 := T.na_Table_peak
  refine T.F_Table_most.ok sc_Table_most (fun vs H Q E h => ?_) (fun cdv A outer s H vs Q E hr h => ?_)
  · obtain ⟨t, lt, dk, S, rfl, _⟩ := h
    rfl
  · obtain ⟨t, lt, dk, S, rfl, TA, q⟩ := h
    obtain ⟨dx, ho⟩ := TA.ob
    refine ⟨_, (pss_one (ps_ret (pe_fld (pv 0) rfl))), ?_⟩
    walk_at "go"
    exact q
theorem ok_Table___len__ (T : Txt K mg a) : FnOk P w K mg base CX0 1 a.f_Table___len__ a.d_Table___len__ ["self"] (spLen a.c_Table) := by
  have cl := T.cl_Table
  have n2 := T.na_Table_kept
  refine T.F_Table___len__.ok sc_Table___len__ (fun vs H Q E h => ?_) (fun cdv A outer s H vs Q E hr h => ?_)
  · obtain ⟨t, lt, dk, S, rfl, _⟩ := h
    rfl
  · obtain ⟨t, lt, dk, S, rfl, TA, q⟩ := h
    obtain ⟨dx, ho⟩ := TA.ob
    have hdk := TA.kp
    refine ⟨_, (pss_one (ps_ret (pe_callB call_lenD (by rfl) T.z_len PySem.boot_len (pa_cons (pe_fld (pv 0) rfl) pa_nil)))), ?_⟩
    walk_at "go"
    rw [kd_len]
    exact q
end
end Pf
set_option Elab.async false
set_option linter.all false
set_option maxRecDepth 100000
set_option maxHeartbeats 4000000
namespace Pf
open PySem L2
local macro_rules | `(tactic| walk_at "nz") => `(tactic| (show (_ : Int) ≠ 0; omega))
local macro_rules | `(tactic| walk_at "ne") => `(tactic| first | assumption | (apply Ne.symm; assumption))
local macro_rules | `(tactic| walk_at "hp") => `(tactic| first | assumption | exact upd_same | (refine upd_get ?_ ?_; walk_at "ne"; walk_at "hp"))
local macro_rules | `(tactic| walk_at "sd") => `(tactic| first
  | (with_reducible show (_ : Int) < _; omega)
  | (with_reducible show (_ : Int) ≤ _; omega)
  | (with_reducible show (_ : Nat) < _; omega)
  | (with_reducible show (_ : Nat) ≤ _; omega)
  | rfl
  | assumption
  | exact kV_int _
  | exact kV_str _
  | (show (_ : Int) ≠ 0; omega)
  | exact SqL.of (by walk_at "hp")
  | exact ⟨_, SqL.of (by walk_at "hp")⟩
  | exact ⟨_, SqT.of (by walk_at "hp")⟩
  | exact ⟨_, (by assumption)⟩
  | exact SqT.of (by walk_at "hp")
  | exact Rd.of (by walk_at "hp")
  | exact Or.inl (SqL.of (by walk_at "hp"))
  | exact Or.inr (SqT.of (by walk_at "hp"))
  | exact Or.inr (by assumption)
  | (walk_at "hp")
  | (exact Or.inl ⟨rfl, _, SqL.of (by walk_at "hp")⟩)
  | (exact Or.inl ⟨by omega, by omega⟩)
  | (exact Or.inr ⟨by omega, by omega⟩)
  | (refine ⟨?_, ?_, ?_⟩ <;> omega)
  | omega
  | (exact small_le (by first | omega | (simp only [List.length_cons, List.length_nil]; omega)))
  | (exact small_lt (by first | omega | (simp only [List.length_cons, List.length_nil]; omega)))
  | exact Nat.le_of_ble_eq_true rfl
  | exact ⟨_, rfl⟩
  | decide)
local macro_rules | `(tactic| walk_at "st") => `(tactic| first
  | with_reducible refine sq_seq ?_
  | apply Exists.intro
  | (refine And.intro ?_ ?_; (walk_at "sd")))
local macro_rules | `(tactic| walk_at "go") => `(tactic| repeat (walk_at "st"))
/-! ### what was told, in plain Lean -/
abbrev cnt (ts : List Int) (p : Int) : Int := ts[p.toNat]?.getD 0
structure Hist (S : Tb) (told lives : List (Int × Int)) : Prop where
  nd : told.Nodup
  num : ∀ p : Int, 0 ≤ p → ((told.filter fun x => decide (x.1 = p)).length : Int) = cnt S.turns p
  in_ : ∀ x ∈ told, 0 ≤ x.1 ∧ x.1 < S.turns.length ∧ 0 ≤ x.2 ∧ x.2 < cnt S.turns x.1
  lv : lives.Perm (S.live.map fun e => (e.1, e.2.1))
  pk : (S.live.length : Int) ≤ S.peak
theorem Hist.empty : Hist ⟨[], [], 0⟩ [] [] := ⟨List.nodup_nil, fun p _ => rfl, (fun _ h => nomatch h), List.Perm.refl _, Int.le_refl _⟩
theorem cnt_grown (ts : List Int) (p : Int) (j : Nat) : (grown ts p)[j]?.getD 0 = ts[j]?.getD 0 := by
  unfold grown
  split
  · rcases Nat.lt_trichotomy j ts.length with h | h | h
    · rw [List.getElem?_append_left h]
    · rw [h, List.getElem?_append_right (Nat.le_refl _), Nat.sub_self, List.getElem?_eq_none (Nat.le_refl _)] <;> rfl
    · rw [List.getElem?_eq_none (by rw [List.length_append, List.length_singleton]; omega), List.getElem?_eq_none (by omega)]
  · rfl
theorem turnAt_cnt (ts : List Int) (p : Int) : turnAt ts p = cnt ts p := cnt_grown ts p p.toNat
theorem cnt_begin {S : Tb} {p f j : Int} (hp : 0 ≤ p) (hl : p ≤ S.turns.length) (hj : 0 ≤ j) : cnt (S.begin p f).turns j = if j = p then cnt S.turns p + 1 else cnt S.turns j := by
  have gl := (grown_len hp hl).1
  show (((grown S.turns p).set p.toNat (turnAt S.turns p + 1))[j.toNat]?).getD 0 = _
  by_cases e : j = p
  · rw [if_pos e, e, List.getElem?_set_self (by omega), turnAt_cnt] <;> rfl
  · rw [if_neg e, List.getElem?_set_ne (by omega)]
    exact cnt_grown _ _ _
theorem turns_begin {S : Tb} {p f : Int} (hp : 0 ≤ p) (hl : p ≤ S.turns.length) : p < ((S.begin p f).turns.length : Int) ∧ S.turns.length ≤ (S.begin p f).turns.length ∧ (S.begin p f).turns.length ≤ S.turns.length + 1 := by
  have gl := grown_len hp hl
  have e : (S.begin p f).turns.length = (grown S.turns p).length := List.length_set
  rw [e]
  refine ⟨gl.1, ?_, gl.2⟩
  unfold grown
  split
  · rw [List.length_append]; omega
  · exact Nat.le_refl _
theorem Hist.new {S : Tb} {told lives : List (Int × Int)} (h : Hist S told lives) (p : Int) : (p, cnt S.turns p) ∉ told := fun m => by
  have := (h.in_ _ m).2.2.2
  exact absurd this (Int.lt_irrefl _)
theorem Hist.far {S : Tb} {told lives : List (Int × Int)} (h : Hist S told lives) {p : Int} (hp : p ∉ S.keys) : ∀ x ∈ lives, x.1 ≠ p := fun x hx e => by
  obtain ⟨d, hd, rfl⟩ := List.mem_map.mp (h.lv.mem_iff.mp hx)
  exact hp (List.mem_map.mpr ⟨d, hd, e⟩)
theorem least_len {ks : List Int} {p : Int} (h : Least ks p) : p ≤ ks.length := by
  have key : ∀ n : Nat, (∀ j : Int, 0 ≤ j → j < n → j ∈ ks) → n ≤ ks.length := fun n hn => by
    have := nat_nodup_len (List.range n) (ks.map Int.toNat) List.nodup_range fun k hk => List.mem_map.mpr ⟨(k : Int), hn k (by omega) (by have := List.mem_range.mp hk; omega), by omega⟩
    rw [List.length_range, List.length_map] at this
    exact this
  have := key p.toNat fun j h0 h1 => h.below j h0 (by omega)
  have := h.pos
  omega
theorem Hist.begin {S : Tb} (W : Wf S) {told lives : List (Int × Int)} (h : Hist S told lives) {p f : Int} (L : Least S.keys p) : Hist (S.begin p f) (told ++ [(p, cnt S.turns p)]) (lives ++ [(p, cnt S.turns p)]) := by
  have hp := W.least_le L
  have h0 := L.pos
  have tb := turns_begin (f := f) h0 hp
  have c0 : 0 ≤ cnt S.turns p := by rw [← turnAt_cnt]; exact turnAt_pos W h0 hp
  refine ⟨nd_snoc h.nd (h.new p), fun j hj => ?_, fun x hx => ?_, ?_, ?_⟩
  · rw [List.filter_append, List.length_append, cnt_begin h0 hp hj]
    have := h.num j hj
    by_cases e : j = p
    · rw [if_pos e, List.filter_cons, if_pos (by simp [e])]
      rw [e] at this ⊢
      show (((told.filter fun x => decide (x.1 = p)).length + 1 : Nat) : Int) = _
      omega
    · rw [if_neg e, List.filter_cons, if_neg (by simp; exact fun z => e z.symm)]
      show (((told.filter fun x => decide (x.1 = j)).length + 0 : Nat) : Int) = _
      omega
  · rcases List.mem_append.mp hx with z | z
    · obtain ⟨a, b, c, d⟩ := h.in_ x z
      refine ⟨a, by omega, c, ?_⟩
      rw [cnt_begin h0 hp a]
      split
      · rename_i e
        rw [e] at d
        omega
      · exact d
    · rw [List.mem_singleton.mp z]
      refine ⟨h0, tb.1, c0, ?_⟩
      rw [cnt_begin h0 hp h0, if_pos rfl]
      show cnt S.turns p < cnt S.turns p + 1
      omega
  · show (lives ++ [(p, cnt S.turns p)]).Perm ((S.live ++ [(p, turnAt S.turns p, f)]).map fun e => (e.1, e.2.1))
    rw [List.map_append]
    show (lives ++ [(p, cnt S.turns p)]).Perm (S.live.map (fun e => (e.1, e.2.1)) ++ [(p, turnAt S.turns p)])
    rw [turnAt_cnt]
    exact h.lv.append_right _
  · rw [begin_len]
    show _ ≤ (if ((S.live.length + 1 : Nat) : Int) > S.peak then ((S.live.length + 1 : Nat) : Int) else S.peak)
    split <;> omega
theorem peak_lt {S : Tb} {p f : Int} (L : Least S.keys p) : p < (S.begin p f).peak := by
  have h := least_len L
  rw [List.length_map] at h
  show p < (if ((S.live.length + 1 : Nat) : Int) > S.peak then ((S.live.length + 1 : Nat) : Int) else S.peak)
  split <;> omega
theorem perm_pick {α : Type} : ∀ {l : List α} {i : Nat} {x : α}, l[i]? = some x → l.Perm (x :: l.eraseIdx i)
  | [], _, _, h => by simp at h
  | y :: l, 0, x, h => by
    have e : y = x := by simpa using h
    rw [e] <;> exact List.Perm.refl _
  | y :: l, i + 1, x, h => ((perm_pick (show l[i]? = some x by simpa using h)).cons y).trans (List.Perm.swap _ _ _)
theorem filt_perm : ∀ {l : List En} {e : En}, (l.map (·.1)).Nodup → e ∈ l → l.Perm (e :: l.filter fun d => decide (d.1 ≠ e.1))
  | [], _, _, h => nomatch h
  | d :: l, e, nd, h => by
    rw [List.map_cons, List.nodup_cons] at nd
    by_cases z : d.1 = e.1
    · have ed : d = e := by
        rcases List.mem_cons.mp h with y | y
        · exact y.symm
        · exact absurd (List.mem_map.mpr ⟨e, y, z.symm⟩) nd.1
      have all : (l.filter fun d => decide (d.1 ≠ e.1)) = l := List.filter_eq_self.mpr fun x hx => by
        simp only [ne_eq, decide_not, Bool.not_eq_true', decide_eq_false_iff_not]
        exact fun y => nd.1 (List.mem_map.mpr ⟨x, hx, by rw [z]; exact y⟩)
      rw [List.filter_cons, if_neg (by simp [z]), all, ed]
    · rw [List.filter_cons, if_pos (by simp [z])]
      have he : e ∈ l := by
        rcases List.mem_cons.mp h with y | y
        · exact absurd (by rw [y]) z
        · exact y
      exact ((filt_perm nd.2 he).cons d).trans (List.Perm.swap _ _ _)
theorem Hist.end {S : Tb} (W : Wf S) {told lives : List (Int × Int)} (h : Hist S told lives) {e : En} (he : e ∈ S.live) {i : Nat} (hi : lives[i]? = some (e.1, e.2.1)) : Hist (S.end e.1) told (lives.eraseIdx i) ∧ (S.end e.1).live.length + 1 = S.live.length := by
  have p1 := perm_pick hi
  have p2 := filt_perm W.nd he
  refine ⟨⟨h.nd, h.num, h.in_, ?_, ?_⟩, p2.length_eq.symm⟩
  · exact (List.perm_cons _).mp ((p1.symm.trans h.lv).trans (p2.map fun d => (d.1, d.2.1)))
  · have := h.pk
    have := p2.length_eq
    show (((S.live.filter fun d => decide (d.1 ≠ e.1)).length : Nat) : Int) ≤ S.peak
    rw [List.length_cons] at this
    omega
theorem Hist.pick {S : Tb} {told lives : List (Int × Int)} (h : Hist S told lives) {x : Int × Int} (hx : x ∈ lives) : ∃ e ∈ S.live, x = (e.1, e.2.1) := by
  obtain ⟨d, hd, rfl⟩ := List.mem_map.mp (h.lv.mem_iff.mp hx)
  exact ⟨d, hd, rfl⟩
theorem Hist.ended {S : Tb} {told lives : List (Int × Int)} (h : Hist S told lives) (hl : S.live = []) {x : Int × Int} (hx : x ∈ told) : EndH S x.1 x.2 := by
  refine ⟨fun nh => nh (h.in_ x hx), ?_⟩
  rw [hl]
  exact fun ⟨e, he, _⟩ => nomatch he
/-- the living ones, sorted, are those told -/
theorem lex_anti {p q : Int × Int} (h1 : SrtO.lexB q p = false) (h2 : SrtO.lexB p q = false) : p = q := by
  have a1 : ¬ (q.1 < p.1 ∨ (q.1 = p.1 ∧ q.2 < p.2)) := fun z => by rw [SrtO.lexB_iff.mpr z] at h1; cases h1
  have a2 : ¬ (p.1 < q.1 ∨ (p.1 = q.1 ∧ p.2 < q.2)) := fun z => by rw [SrtO.lexB_iff.mpr z] at h2; cases h2
  refine Prod.ext ?_ ?_ <;> omega
theorem told_sorted {S : Tb} (W : Wf S) {told lives ps : List (Int × Int)} (h : Hist S told lives) (hp : ps.Perm lives) (hs : SrtP ps) {ys : List Int} (py : ys.Perm S.keys) (sy : ys.Pairwise (· ≤ ·)) : ps = ys.map fun p => (p, turnOf S p) := by
  have nd : ys.Nodup := py.nodup_iff.mpr W.nd
  have strict : ys.Pairwise (· < ·) := by
    refine (sy.and nd).imp fun {a b} z => ?_
    have := z.2
    omega
  have p1 : (ys.map fun p => (p, turnOf S p)).Perm lives := by
    refine (py.map _).trans ?_
    refine List.Perm.trans ?_ h.lv.symm
    show ((S.live.map (·.1)).map fun p => (p, turnOf S p)).Perm _
    rw [List.map_map]
    refine List.Perm.of_eq (List.map_congr_left fun e he => ?_)
    show (e.1, turnOf S e.1) = (e.1, e.2.1)
    rw [(live_at W he).2]
  refine (hp.trans p1.symm).eq_of_pairwise (fun a b _ _ h1 h2 => lex_anti h1 h2) hs ?_
  rw [List.pairwise_map]
  refine strict.imp fun {a b} z => ?_
  cases e : SrtO.lexB (b, turnOf S b) (a, turnOf S a) with
  | false => rfl
  | true =>
    have e2 : b < a ∨ (b = a ∧ _) := SrtO.lexB_iff.mp e
    omega
section
variable {P : Program} {w : World} {K : PySem.W.Frag} {mg : Str → Option Value} {base : Heap} {a : Ad}
def spTwin (C : Addr) : Sp := fun vs H Q _ => ∃ (t lt dk : Addr) (S : Tb), vs = [.ref t] ∧ TabAt C H t lt dk S ∧ ∀ (t2 lt2 dk2 : Addr) (H' : Hp), H t2 = none → H lt2 = none → H dk2 = none → TabAt C H' t2 lt2 dk2 S → Same H H' → Q (.ref t2) H'
theorem ok_Table_twin (T : Txt K mg a) : FnOk P w K mg base CX0 3 a.f_Table_twin a.d_Table_twin ["self"] (spTwin a.c_Table) := by
  have G_Table___init__ := ok_Table___init__ (P := P) (w := w) (base := base) T
  have cl := T.cl_Table
  have n1 := T.na_Table_turns
  have n2 := T.na_Table_kept
  have n3 := T.na_Table_peak
  refine T.F_Table_twin.ok sc_Table_twin (fun vs H Q E h => ?_) (fun cdv A outer s H vs Q E hr h => ?_)
  · obtain ⟨t, lt, dk, S, rfl, _⟩ := h
    rfl
  · obtain ⟨t, lt, dk, S, rfl, TA, q⟩ := h
    refine ⟨_, (pss_cons (ps_set (i := 1) sc_Table_twin.nd rfl (Or.inl rfl) (pe_make0 T.mk_Table G_Table___init__ (hr.mono (by decide)) rfl T.m_Table T.b_Table___init__ .nil pass0))
      (pss_cons (ps_fld (pv 1) (pe_callTy call_list_of (by rfl) T.z_list (by decide +kernel) (pa_cons (pe_fld (pv 0) rfl) pa_nil)) rfl)
      (pss_cons (ps_fld (pv 1) (pe_callTy call_dictD (by rfl) T.z_dict (by decide +kernel) (pa_cons (pe_fld (pv 0) rfl) pa_nil)) rfl)
      (pss_cons (ps_fld (pv 1) (pe_fld (pv 0) rfl) rfl)
      (pss_one (ps_ret (pv 1))))))), ?_⟩
    intro x dx nx ndx nex
    refine ⟨x, dx, rfl, upd_same, fun lt0 dk0 H1 hlt0 hdk0 TA1 k1 => ⟨rfl, ?_⟩⟩
    have s1 : Same H H1 := fun y o e => k1 y o (ne_of_none e nx) (by rw [upd_ne (ne_of_none e nx), upd_ne (ne_of_none e ndx)]; exact e)
    have TB := TA.same s1
    obtain ⟨dxt, hto⟩ := TB.ob
    have htu := TB.tu
    have hkp := TB.kp
    obtain ⟨dx1, hx1⟩ := TA1.ob
    have ntx : t ≠ x := by
      obtain ⟨dq, hq⟩ := TA.ob
      exact ne_of_none hq nx
    have nltx : lt ≠ x := ne_of htu hx1 (by intro z; cases z)
    have ndkx : dk ≠ x := ne_of hkp hx1 (by intro z; cases z)
    walk_at "go"
    intro l2 hl2
    have nxl : x ≠ l2 := ne_of_none hx1 hl2
    have ntl : t ≠ l2 := ne_of_none hto hl2
    have ndl : dk ≠ l2 := ne_of_none hkp hl2
    walk_at "go"
    intro d2 hd2
    have nxd : x ≠ d2 := fun z => by rw [← z, upd_same] at hd2; cases hd2
    have hd2b : upd H1 l2 (.lst (S.turns.map V.int)) d2 = none := by rw [upd_ne nxd.symm] at hd2; exact hd2
    have nld : l2 ≠ d2 := fun z => by rw [← z, upd_same] at hd2b; cases hd2b
    have hd2c : H1 d2 = none := by rw [upd_ne nld.symm] at hd2b; exact hd2b
    have ntd : t ≠ d2 := ne_of_none hto hd2c
    walk_at "go"
    refine q x l2 d2 _ nx (s1.free hl2) (s1.free hd2c) ⟨⟨dx1, ?_⟩, ?_, ?_⟩ fun y o e => ?_
    · exact upd_same
    · rw [upd_ne nxl.symm, upd_ne nxl.symm, upd_ne nld, upd_ne nxl.symm, upd_same] <;> rfl
    · rw [upd_ne nxd.symm, upd_ne nxd.symm, upd_same] <;> rfl
    · have e1 := s1 _ _ e
      rw [upd_ne (ne_of_none e nx), upd_ne (ne_of_none e nx), upd_ne (ne_of_none e1 hd2c), upd_ne (ne_of_none e nx), upd_ne (ne_of_none e1 hl2)]
      exact e1
end
end Pf
set_option Elab.async false
set_option linter.all false
set_option maxRecDepth 100000
set_option maxHeartbeats 4000000
namespace Pf
open PySem L2
local macro_rules | `(tactic| walk_at "nz") => `(tactic| (show (_ : Int) ≠ 0; omega))
local macro_rules | `(tactic| walk_at "ne") => `(tactic| first | assumption | (apply Ne.symm; assumption))
local macro_rules | `(tactic| walk_at "hp") => `(tactic| first | assumption | exact upd_same | (refine upd_get ?_ ?_; walk_at "ne"; walk_at "hp"))
local macro_rules | `(tactic| walk_at "sd") => `(tactic| first
  | (with_reducible show (_ : Int) < _; omega)
  | (with_reducible show (_ : Int) ≤ _; omega)
  | (with_reducible show (_ : Nat) < _; omega)
  | (with_reducible show (_ : Nat) ≤ _; omega)
  | rfl
  | assumption
  | exact kV_int _
  | exact kV_str _
  | (show (_ : Int) ≠ 0; omega)
  | exact SqL.of (by walk_at "hp")
  | exact ⟨_, SqL.of (by walk_at "hp")⟩
  | exact ⟨_, SqT.of (by walk_at "hp")⟩
  | exact ⟨_, (by assumption)⟩
  | exact SqT.of (by walk_at "hp")
  | exact Rd.of (by walk_at "hp")
  | exact Or.inl (SqL.of (by walk_at "hp"))
  | exact Or.inr (SqT.of (by walk_at "hp"))
  | exact Or.inr (by assumption)
  | (walk_at "hp")
  | (exact Or.inl ⟨rfl, _, SqL.of (by walk_at "hp")⟩)
  | (exact Or.inl ⟨by omega, by omega⟩)
  | (exact Or.inr ⟨by omega, by omega⟩)
  | (refine ⟨?_, ?_, ?_⟩ <;> omega)
  | omega
  | (exact small_le (by first | omega | (simp only [List.length_cons, List.length_nil]; omega)))
  | (exact small_lt (by first | omega | (simp only [List.length_cons, List.length_nil]; omega)))
  | exact Nat.le_of_ble_eq_true rfl
  | exact ⟨_, rfl⟩
  | decide)
local macro_rules | `(tactic| walk_at "st") => `(tactic| first
  | with_reducible refine sq_seq ?_
  | apply Exists.intro
  | (refine And.intro ?_ ?_; (walk_at "sd")))
local macro_rules | `(tactic| walk_at "go") => `(tactic| repeat (walk_at "st"))
section
variable {P : Program} {w : World} {K : PySem.W.Frag} {mg : Str → Option Value} {base : Heap} {a : Ad}
/-- _law_ended: True of a handle that has ended -/
def spEnded (K : PySem.W.Frag) (C : Addr) : Sp := fun vs H Q _ => ∃ (t lt dk h : Addr) (S : Tb) (p q : Int), vs = [.ref t, .ref h] ∧ TabAt C H t lt dk S ∧ Wf S ∧ SqT K H h [.int p, .int q] ∧ EndH S p q ∧ ∀ H', Same H H' → Q (.bl true) H'
theorem ok__law_ended (T : Txt K mg a) : FnOk P w K mg base CX0 5 a.f__law_ended a.d__law_ended ["_law_table", "_law_grip"] (spEnded K a.c_Table) := by
  have G_Table_look := ok_Table_look (P := P) (w := w) (base := base) T
  refine T.F__law_ended.ok sc__law_ended (fun vs H Q E h => ?_) (fun cdv A outer s H vs Q E hr h => ?_)
  · obtain ⟨t, lt, dk, h, S, p, q, rfl, _⟩ := h
    rfl
  · obtain ⟨t, lt, dk, h, S, p, q, rfl, TA, W, hS, hE, qq⟩ := h
    obtain ⟨dx, ho⟩ := TA.ob
    have ecE := T.ec_Ended
    refine ⟨_, (pss_cons (ps_set (i := 2) sc__law_ended.nd rfl (Or.inl rfl) pe_bl)
      (pss_mid (ps_try_cls (tb := fun W => (tDrop (tMethW _ _ _ (WE W) _ _))) (l := [⟨.ref a.c_Ended, none, fun ea cls dd => (tAsg _ (gName 2))⟩]) (Wout := fun _ _ _ _ => False) rfl rfl takes0 (fun W pn xe tk po => (pss_one (ps_expr (pe_methW (pv 0) T.cl_Table T.mt_Table_look G_Table_look (hr.mono (by decide)) T.b_Table_look (fun σ => passAt tk σ) (by exact (pa_cons (pv 1) pa_nil)))))) (ClsOk.plain ⟨rfl, by decide, Or.inl T.m_Ended⟩ (fun ea oe cls dd pn hz hf => (pss_one (ps_set (i := 2) sc__law_ended.nd rfl (Or.inl rfl) pe_bl))) ClsOk.nil))
      (pss_one (ps_ret (pv 2))))), ?_⟩
    walk_at "go"
    refine mid_of (fun σ H' => σ = [some (.ref t), some (.ref h), some (.bl true)] ∧ Same H H') ?_ ?_
    · refine ⟨_, rfl, t, dx, _, rfl, ho, rfl, _, rfl, t, lt, dk, h, S, p, q, rfl, TA, W, hS, fun e he e1 e2 => absurd ⟨e, he, e1, e2⟩ hE.2, fun nh => absurd nh hE.1, fun _ d H1 hd0 hd1 s1 => ?_⟩
      refine ⟨true, T.ex_Ended_Ended, fun _ ea hea => ?_, fun z => nomatch z⟩
      walk_at "go"
      exact wait ⟨rfl, s1⟩
    · rintro σ H' ⟨rfl, s1⟩
      walk_at "go"
      exact qq _ s1
/-- everywhere but there -/
def Fr (ws : List Addr) (H H' : Hp) : Prop := ∀ x o, x ∉ ws → H x = some o → H' x = some o
def spLBegin (C : Addr) : Sp := fun vs H Q _ => ∃ (t lt dk tl vl : Addr) (S : Tb) (ta va : List Addr) (told lives : List (Int × Int)) (f : Int), vs = [.ref t, .ref tl, .ref vl, .int f] ∧ TabAt C H t lt dk S ∧ Wf S ∧ Hist S told lives ∧ S.live.length ≤ 1000 ∧ S.turns.length ≤ 1000 ∧ told.length ≤ 1000 ∧
  H tl = some (.lst (ta.map V.ref)) ∧ Tups H ta told ∧ H vl = some (.lst (va.map V.ref)) ∧ Tups H va lives ∧ lt ≠ tl ∧ lt ≠ vl ∧ tl ≠ vl ∧
  ∀ (p : Int) (x y : Addr) (H' : Hp), Least S.keys p → TabAt C H' t lt dk (S.begin p f) → H' tl = some (.lst ((ta ++ [x]).map V.ref)) → H' vl = some (.lst ((va ++ [y]).map V.ref)) → H' x = some (.tup [.int p, .int (cnt S.turns p)]) → H' y = some (.tup [.int p, .int (cnt S.turns p)]) → Fr [t, lt, dk, tl, vl] H H' → Q (.bl true) H'
theorem ok__law_begin (T : Txt K mg a) : FnOk P w K mg base CX0 5 a.f__law_begin a.d__law_begin ["_law_table", "_law_told", "_law_lives", "_law_figure"] (spLBegin a.c_Table) := by
  have G_Table_begin := ok_Table_begin (P := P) (w := w) (base := base) T
  have G_Table_look := ok_Table_look (P := P) (w := w) (base := base) T
  have G_Table_most := ok_Table_most (P := P) (w := w) (base := base) T
  refine T.F__law_begin.ok sc__law_begin (fun vs H Q E h => ?_) (fun cdv A outer s H vs Q E hr h => ?_)
  · obtain ⟨t, lt, dk, tl, vl, S, ta, va, told, lives, f, rfl, _⟩ := h
    rfl
  · obtain ⟨t, lt, dk, tl, vl, S, ta, va, told, lives, f, rfl, TA, W, Hi, z1, z2, z3, htl, tt, hvl, vt, n1, n2, n3, qq⟩ := h
    obtain ⟨dx, ho⟩ := TA.ob
    refine ⟨_, (pss_cons (ps_asg (pe_meth (pv 0) T.cl_Table T.mt_Table_begin G_Table_begin (hr.mono (by decide)) T.b_Table_begin .nil pass0 (pa_cons (pv 3) pa_nil)) (pg_tup rfl (pgs_cons (pg_name (i := 4) sc__law_begin.nd rfl (Or.inr rfl)) (pgs_cons (pg_name (i := 5) sc__law_begin.nd rfl (Or.inl rfl)) pgs_nil))))
      (pss_cons (ps_setLc (i := 6) (own := [("_law_grip", 7)]) (g := gName 7) (tt := (tTest (tOp _ (tOp (rIxT K) _ _) _))) rfl sc__law_begin.nd rfl rfl (sw_true rfl rfl rfl (by decide +kernel)) (pi_list (pv 1)) (blkOk_by (own := [("_law_grip", 7)]) (N := n__law_begin) (sc := defScope s__law_begin) (by decide +kernel)) (fun _ _ _ _ _ => (pg_name (i := 7) sc__law_begin.nd rfl (Or.inl rfl))) (fun _ _ _ _ _ => (pts_one (pt_cmpR op_eq (pe_ix ix_tup (pv 7) pe_int (fun _ _ => rfl)) (pv 4) (nomark _)))) (fun _ _ _ _ _ => (pv 7)))
      (pss_cons (ps_expr (pe_bm PySem.F.plainAttrs_list PySem.F.slot_list_append PySem.F.type_list_append mt_append (pv 1) (pa_cons (pe_tup (pa_cons (pv 4) (pa_cons (pv 5) pa_nil))) pa_nil)))
      (pss_cons (ps_if (PW.pt (pw_or (pt_cmpR op_ne (pv 5) (pe_callB call_lenK (by rfl) T.z_len PySem.boot_len (pa_cons (pv 6) pa_nil)) (nomark _)) (pw_or1 (pt_val (pe_callB (cr_any rfl) (by rfl) T.z_any (by decide +kernel) (pa_cons (pe_lc (own := [("_law_grip", 7)]) (g := gName 7) (tt := tYes) (te := (tOp _ (tOp (rIxT K) _ _) _)) rfl sc__law_begin.nd (pi_list (pv 2)) (blkOk_by (own := [("_law_grip", 7)]) (N := n__law_begin) (sc := defScope s__law_begin) (by decide +kernel)) (fun _ _ _ _ _ => (pg_name (i := 7) sc__law_begin.nd rfl (Or.inl rfl))) (fun _ _ _ _ _ => pts_nil) (fun _ _ _ _ _ => (pe_cmpR op_eq (pe_ix ix_tup (pv 7) pe_int (fun _ _ => rfl)) (pv 4) (nomark _)))) pa_nil)))))) (pss_one (ps_ret pe_bl)) pss_nil)
      (pss_cons (ps_expr (pe_bm PySem.F.plainAttrs_list PySem.F.slot_list_append PySem.F.type_list_append mt_append (pv 2) (pa_cons (pe_tup (pa_cons (pv 4) (pa_cons (pv 5) pa_nil))) pa_nil)))
      (pss_one (ps_ret (pe_and (pe_cmpR op_lt (pv 4) (pe_meth0 (pv 0) T.cl_Table T.mt_Table_most G_Table_most (hr.mono (by decide)) T.b_Table_most .nil pass0) (nomark _)) (pe_one (pe_cmpR op_eq (pe_meth (pv 0) T.cl_Table T.mt_Table_look G_Table_look (hr.mono (by decide)) T.b_Table_look .nil passL (pa_cons (pe_tup (pa_cons (pv 4) (pa_cons (pv 5) pa_nil))) pa_nil)) (pv 3) (nomark _))))))))))), ?_⟩
    refine ⟨_, rfl, t, dx, _, rfl, ho, rfl, _, rfl, t, lt, dk, S, f, rfl, TA, W, by omega, by omega, fun p tp H1 L TA1 htp0 htp k1 => ?_⟩
    have hlt0 := TA.tu
    have hdk0 := TA.kp
    have a1 : tl ≠ t := ne_of htl ho (by intro z; cases z)
    have a2 : vl ≠ t := ne_of hvl ho (by intro z; cases z)
    have a3 : tl ≠ dk := ne_of htl hdk0 (by intro z; cases z)
    have a4 : vl ≠ dk := ne_of hvl hdk0 (by intro z; cases z)
    have htl1 := k1 _ _ a1 n1.symm a3 htl
    have hvl1 := k1 _ _ a2 n2.symm a4 hvl
    have kt : ∀ x xs, H x = some (.tup xs) → H1 x = some (.tup xs) := fun x xs e => k1 _ _ (ne_of e ho (by intro z; cases z)) (ne_of e hlt0 (by intro z; cases z)) (ne_of e hdk0 (by intro z; cases z)) e
    have tt1 := tt.keep kt
    have vt1 := vt.keep kt
    obtain ⟨et, hat⟩ := tups_kof tt1
    obtain ⟨ev, hav⟩ := tups_kof vt1
    have lent := tt1.len
    have lenv := vt1.len
    rw [turnAt_cnt] at htp
    walk_at "go"
    intro D hD
    have nDt : tl ≠ D := ne_of_none htl1 hD
    refine lcL (K := K) (a := tl) (xs := ta.map V.ref) (fun i H' => ∃ ys : List V, H' D = some (.lst ys) ∧ ys.length = ((told.take i).filter fun x => decide (x.1 = p)).length ∧ Same H1 H') ?_ ?_ ?_ ?_
    · exact ⟨[], upd_same, rfl, Same.upd_new hD⟩
    · rintro i H' _ ⟨_, _, _, h⟩
      exact SqL.of (h _ _ htl1)
    · rintro i y H' hi ⟨ys, h1, h2, h3⟩
      obtain ⟨x, hx, rfl⟩ : ∃ x, ta[i]? = some x ∧ y = .ref x := by
        rw [List.getElem?_map] at hi
        obtain ⟨x, hx, e⟩ := Option.map_eq_some_iff.mp hi
        exact ⟨x, hx, e.symm⟩
      have hxt := h3 _ _ (hat x (List.mem_of_getElem? hx))
      have htd : told[i]? = some (kof H1 (.ref x)) := by rw [et, List.getElem?_map, hx] <;> rfl
      have hys : ys.length ≤ 1000 := by rw [h2]; exact Nat.le_trans (filt_len _ _ _) z3
      refine ⟨rfl, ?_⟩
      walk_at "go"
      refine ifD (fun e => ?_) (fun e => ?_)
      · have e2 : (kof H1 (.ref x)).1 = p := V.int.inj e
        have hys2 := small_lt (show ys.length ≤ 100000 by omega)
        walk_at "go"
        refine wait ⟨ys ++ [.ref x], upd_same, ?_, fun b o eb => ?_⟩
        · rw [take_filt_yes htd (by simp [e2]), List.length_append, List.length_append, h2] <;> rfl
        · rw [upd_ne (ne_of_none eb hD)]
          exact h3 _ _ eb
      · have e2 : ¬ (kof H1 (.ref x)).1 = p := fun z => e (congrArg V.int z)
        refine wait ⟨ys, h1, ?_, h3⟩
        rw [take_filt_no htd (by simp [e2])]
        exact h2
    · rintro H2 ⟨ys, h1, h2, h3⟩
      rw [List.length_map, lent, List.take_length] at h2
      have hnum : (ys.length : Int) = cnt S.turns p := by rw [h2]; exact Hi.num p L.pos
      have htl2 := h3 _ _ htl1
      have hvl2 := h3 _ _ hvl1
      walk_at "go"
      intro x hx
      have s2 : Same H2 (upd H2 x (.tup [.int p, .int (cnt S.turns p)])) := Same.upd_new hx
      have htl3 := s2 _ _ htl2
      have lta : (ta.map V.ref).length < sizeLine := small_lt (by rw [List.length_map]; omega)
      have nDx : D ≠ x := ne_of_none h1 hx
      obtain ⟨H4, e4⟩ : ∃ H4, H4 = upd (upd H2 x (.tup [.int p, .int (cnt S.turns p)])) tl (.lst (ta.map V.ref ++ [.ref x])) := ⟨_, rfl⟩
      have hD4 : H4 D = some (.lst ys) := by rw [e4, upd_ne nDt.symm, upd_ne nDx]; exact h1
      have k4 : ∀ z o, z ≠ tl → H2 z = some o → H4 z = some o := fun z o n e => by rw [e4, upd_ne n]; exact s2 _ _ e
      have htl4 : H4 tl = some (.lst ((ta ++ [x]).map V.ref)) := by rw [e4, upd_same, List.map_append] <;> rfl
      have hx4 : H4 x = some (.tup [.int p, .int (cnt S.turns p)]) := by rw [e4, upd_ne (ne_of_none htl2 hx).symm, upd_same]
      have hvl4 := k4 _ _ n3.symm hvl2
      walk_at "go"
      rw [← e4]
      refine ifNN (congrArg V.int hnum.symm) ?_
      walk_at "go"
      intro B hB
      have nBv : vl ≠ B := ne_of_none hvl4 hB
      refine lcL (K := K) (a := vl) (xs := va.map V.ref) (fun i H' => ∃ bs : List Bool, H' B = some (.lst (bs.map V.bl)) ∧ bs = (lives.take i).map (fun _ => false) ∧ Same H4 H') ?_ ?_ ?_ ?_
      · exact ⟨[], upd_same, rfl, Same.upd_new hB⟩
      · rintro i H' _ ⟨_, _, _, h⟩
        exact SqL.of (h _ _ hvl4)
      · rintro i y H' hi ⟨bs, h4, h5, h6⟩
        obtain ⟨z, hz, rfl⟩ : ∃ z, va[i]? = some z ∧ y = .ref z := by
          rw [List.getElem?_map] at hi
          obtain ⟨z, hz, e⟩ := Option.map_eq_some_iff.mp hi
          exact ⟨z, hz, e.symm⟩
        have hz1 := hav z (List.mem_of_getElem? hz)
        have hz6 := h6 _ _ (k4 _ _ (ne_of hz1 htl1 (by intro q; cases q)) (h3 _ _ hz1))
        have hld : lives[i]? = some (kof H1 (.ref z)) := by rw [ev, List.getElem?_map, hz] <;> rfl
        have ne : ¬ (kof H1 (.ref z)).1 = p := Hi.far L.out _ (List.mem_of_getElem? hld)
        refine ⟨rfl, ?_⟩
        walk_at "go"
        refine ⟨small_lt (by rw [List.length_map, h5, List.length_map, List.length_take]; have := Hi.lv.length_eq; rw [List.length_map] at this; omega), wait ⟨bs ++ [false], ?_, ?_, fun b o eb => ?_⟩⟩
        · rw [upd_same, List.map_append, decide_eq_false (fun q => ne (V.int.inj q))] <;> rfl
        · rw [h5, List.take_add_one, hld, Option.toList_some, List.map_append] <;> rfl
        · rw [upd_ne (ne_of_none eb hB)]
          exact h6 _ _ eb
      · rintro H5 ⟨bs, h4, h5, h6⟩
        have hno : bs.any id = false := by
          rw [h5]
          induction (lives.take (va.map V.ref).length) with
          | nil => rfl
          | cons _ _ ih => exact ih
        walk_at "go"
        refine ifF hno ?_
        have hvl5 := h6 _ _ hvl4
        have lva : (va.map V.ref).length < sizeLine := small_lt (by have := Hi.lv.length_eq; rw [List.length_map] at this; rw [List.length_map]; omega)
        walk_at "go"
        intro y hy
        have s5 : Same H5 (upd H5 y (.tup [.int p, .int (cnt S.turns p)])) := Same.upd_new hy
        have hvl6 := s5 _ _ hvl5
        obtain ⟨H6, e6⟩ : ∃ H6, H6 = upd (upd H5 y (.tup [.int p, .int (cnt S.turns p)])) vl (.lst (va.map V.ref ++ [.ref y])) := ⟨_, rfl⟩
        have k6 : ∀ z o, z ≠ vl → H5 z = some o → H6 z = some o := fun z o n e => by rw [e6, upd_ne n]; exact s5 _ _ e
        have kk : ∀ z o, z ≠ tl → z ≠ vl → H1 z = some o → H6 z = some o := fun z o m1 m2 e => k6 _ _ m2 (h6 _ _ (k4 _ _ m1 (h3 _ _ e)))
        have TA6 : TabAt a.c_Table H6 t lt dk (S.begin p f) := TA1.keep fun z o hz e => by
          rcases hz with rfl | rfl | rfl
          · exact kk _ _ a1.symm a2.symm e
          · exact kk _ _ n1 n2 e
          · exact kk _ _ a3.symm a4.symm e
        obtain ⟨dx6, ho6⟩ := TA6.ob
        have hvl7 : H6 vl = some (.lst ((va ++ [y]).map V.ref)) := by rw [e6, upd_same, List.map_append] <;> rfl
        have hy6 : H6 y = some (.tup [.int p, .int (cnt S.turns p)]) := by rw [e6, upd_ne (ne_of_none hvl5 hy).symm, upd_same]
        have htl6 := k6 _ _ n3 (h6 _ _ htl4)
        have hx6 := k6 _ _ (ne_of hx4 hvl4 (by intro z; cases z)) (h6 _ _ hx4)
        have W6 := W.begin (f := f) L
        have fin : ∀ H', Same H6 H' → Q (.bl true) H' := fun H' s' => qq p x y H' L (TA6.same s') (s' _ _ htl6) (s' _ _ hvl7) (s' _ _ hx6) (s' _ _ hy6) fun z o hz e => by
          simp only [List.mem_cons, List.not_mem_nil, or_false, not_or] at hz
          exact s' _ _ (kk _ _ hz.2.2.2.1 hz.2.2.2.2 (k1 _ _ hz.1 hz.2.1 hz.2.2.1 e))
        walk_at "go"
        rw [← e6]
        refine ⟨ho6, rfl, ⟨t, lt, dk, _, rfl, TA6, ?_⟩⟩
        walk_at "go"
        refine ifYes (peak_lt L) ?_
        walk_at "go"
        intro z hz
        have s7 : Same H6 (upd H6 z (.tup [.int p, .int (cnt S.turns p)])) := Same.upd_new hz
        have he : (p, turnAt S.turns p, f) ∈ (S.begin p f).live := List.mem_append_right _ List.mem_cons_self
        have ho7 := s7 _ _ ho6
        have lk := live_begun W6 he
        rw [show ((p, turnAt S.turns p, f) : En).2.1 = cnt S.turns p from turnAt_cnt _ _] at lk
        walk_at "go"
        refine ⟨TA6.same s7, W6, SqT.of upd_same, fun e he2 h1 h2 => ?_, fun nh => absurd nh lk, fun eh => absurd ⟨_, he, rfl, turnAt_cnt _ _⟩ eh.2⟩
        rw [live_uniq W6 he2 he h1]
        walk_at "go"
        have e1 : decide (V.int ((p, turnAt S.turns p, f) : En).2.2 = V.int f) = true := decide_eq_true rfl
        rw [e1]
        exact fin _ s7
end
end Pf
set_option Elab.async false
set_option linter.all false
set_option maxRecDepth 100000
set_option maxHeartbeats 4000000
namespace Pf
open PySem L2
local macro_rules | `(tactic| walk_at "nz") => `(tactic| (show (_ : Int) ≠ 0; omega))
local macro_rules | `(tactic| walk_at "ne") => `(tactic| first | assumption | (apply Ne.symm; assumption))
local macro_rules | `(tactic| walk_at "hp") => `(tactic| first | assumption | exact upd_same | (refine upd_get ?_ ?_; walk_at "ne"; walk_at "hp"))
local macro_rules | `(tactic| walk_at "sd") => `(tactic| first
  | (with_reducible show (_ : Int) < _; omega)
  | (with_reducible show (_ : Int) ≤ _; omega)
  | (with_reducible show (_ : Nat) < _; omega)
  | (with_reducible show (_ : Nat) ≤ _; omega)
  | rfl
  | assumption
  | exact kV_int _
  | exact kV_str _
  | (show (_ : Int) ≠ 0; omega)
  | exact SqL.of (by walk_at "hp")
  | exact ⟨_, SqL.of (by walk_at "hp")⟩
  | exact ⟨_, SqT.of (by walk_at "hp")⟩
  | exact ⟨_, (by assumption)⟩
  | exact SqT.of (by walk_at "hp")
  | exact Rd.of (by walk_at "hp")
  | exact Or.inl (SqL.of (by walk_at "hp"))
  | exact Or.inr (SqT.of (by walk_at "hp"))
  | exact Or.inr (by assumption)
  | (walk_at "hp")
  | (exact Or.inl ⟨rfl, _, SqL.of (by walk_at "hp")⟩)
  | (exact Or.inl ⟨by omega, by omega⟩)
  | (exact Or.inr ⟨by omega, by omega⟩)
  | (refine ⟨?_, ?_, ?_⟩ <;> omega)
  | omega
  | (exact small_le (by first | omega | (simp only [List.length_cons, List.length_nil]; omega)))
  | (exact small_lt (by first | omega | (simp only [List.length_cons, List.length_nil]; omega)))
  | exact Nat.le_of_ble_eq_true rfl
  | exact ⟨_, rfl⟩
  | decide)
local macro_rules | `(tactic| walk_at "st") => `(tactic| first
  | with_reducible refine sq_seq ?_
  | apply Exists.intro
  | (refine And.intro ?_ ?_; (walk_at "sd")))
local macro_rules | `(tactic| walk_at "go") => `(tactic| repeat (walk_at "st"))
section
variable {P : Program} {w : World} {K : PySem.W.Frag} {mg : Str → Option Value} {base : Heap} {a : Ad}
/-! ### the law -/
theorem TabAt.draw {C : Addr} {H H' : Hp} {b g l lt dk t : Addr} {n : Int} {S : Tb} (h : TabAt C H t lt dk S) (B : BoxAt H b g l n) (n1 : b ≠ lt) (n2 : g ≠ lt) (k : Keep2 b g H H') : TabAt C H' t lt dk S := by
  obtain ⟨⟨xb, hb⟩, ⟨xg, hg⟩, _⟩ := B.lists
  refine h.keep fun x o hx e => k x o ?_ ?_ e
  · rcases hx with rfl | rfl | rfl
    · obtain ⟨dx, ho⟩ := h.ob
      exact ne_of ho hb (by intro z; cases z)
    · exact n1.symm
    · exact ne_of h.kp hb (by intro z; cases z)
  · rcases hx with rfl | rfl | rfl
    · obtain ⟨dx, ho⟩ := h.ob
      exact ne_of ho hg (by intro z; cases z)
    · exact n2.symm
    · exact ne_of h.kp hg (by intro z; cases z)
theorem nd_ne {A : List Addr} (h : A.Nodup) {x y : Addr} (i j : Nat) (hij : i ≠ j) (hi : A[i]? = some x) (hj : A[j]? = some y) : x ≠ y := fun e => by
  subst e
  exact hij ((List.getElem?_inj (List.getElem?_eq_some_iff.mp hi).1 h).mp (hi.trans hj.symm))
/-- where all lies -/
structure Ad8 where
  b : Addr
  g : Addr
  l : Addr
  t : Addr
  lt : Addr
  dk : Addr
  t2 : Addr
  lt2 : Addr
  dk2 : Addr
  tl : Addr
  vl : Addr
  fd : Addr
abbrev Ad8.ls (A : Ad8) : List Addr := [A.b, A.g, A.l, A.lt, A.lt2, A.tl, A.vl]
abbrev Ad8.ds (A : Ad8) : List Addr := [A.dk, A.dk2, A.fd]
structure Ap8 (A : Ad8) : Prop where
  ls : A.ls.Nodup
  ds : A.ds.Nodup
  os : A.t ≠ A.t2
/-- what all is -/
structure Sc (C : Addr) (H : Hp) (A : Ad8) (n : Int) (S S2 : Tb) (ta va : List Addr) (told lives : List (Int × Int)) (F : List (List Key × V)) : Prop where
  box : BoxAt H A.b A.g A.l n
  tab : TabAt C H A.t A.lt A.dk S
  twn : TabAt C H A.t2 A.lt2 A.dk2 S2
  tl : H A.tl = some (.lst (ta.map V.ref))
  tt : Tups H ta told
  vl : H A.vl = some (.lst (va.map V.ref))
  vt : Tups H va lives
  fd : H A.fd = some (.dT F)
theorem Sc.same {C : Addr} {H H' : Hp} {A : Ad8} {n : Int} {S S2 : Tb} {ta va : List Addr} {told lives : List (Int × Int)} {F : List (List Key × V)} (h : Sc C H A n S S2 ta va told lives F) (k : Same H H') : Sc C H' A n S S2 ta va told lives F :=
  ⟨h.box.same k, h.tab.same k, h.twn.same k, k _ _ h.tl, h.tt.keep fun _ _ e => k _ _ e, k _ _ h.vl, h.vt.keep fun _ _ e => k _ _ e, k _ _ h.fd⟩
section
variable {C : Addr} {H H' : Hp} {A : Ad8} {n n' : Int} {S S2 S' : Tb} {ta va ta' va' : List Addr} {told lives told' lives' : List (Int × Int)} {F F' : List (List Key × V)}
theorem Sc.lists (h : Sc C H A n S S2 ta va told lives F) : ∀ x ∈ A.ls, ∃ xs, H x = some (.lst xs) := fun x hx => by
  obtain ⟨⟨xb, hb⟩, ⟨xg, hg⟩, ⟨xl, hl⟩⟩ := h.box.lists
  simp only [List.mem_cons, List.not_mem_nil, or_false] at hx
  rcases hx with rfl | rfl | rfl | rfl | rfl | rfl | rfl
  · exact ⟨_, hb⟩
  · exact ⟨_, hg⟩
  · exact ⟨_, hl⟩
  · exact ⟨_, h.tab.tu⟩
  · exact ⟨_, h.twn.tu⟩
  · exact ⟨_, h.tl⟩
  · exact ⟨_, h.vl⟩
/-- a dict, an object or a tuple is none of the lists -/
theorem Sc.off (h : Sc C H A n S S2 ta va told lives F) {x y : Addr} {o : HO} (e : H x = some o) (hy : y ∈ A.ls) (no : ∀ xs, o ≠ .lst xs) : x ≠ y := fun z => by
  obtain ⟨xs, hxs⟩ := h.lists y hy
  rw [← z, e] at hxs
  exact no xs (Option.some.inj hxs)
theorem Sc.draw (h : Sc C H A n S S2 ta va told lives F) (P : Ap8 A) (B : BoxAt H' A.b A.g A.l n') (k : Keep2 A.b A.g H H') : Sc C H' A n' S S2 ta va told lives F := by
  have kt : ∀ x xs, H x = some (.tup xs) → H' x = some (.tup xs) := fun x xs e => k _ _ (h.off e (by simp) (by intro _ z; cases z)) (h.off e (by simp) (by intro _ z; cases z)) e
  refine ⟨B, h.tab.draw h.box (nd_ne P.ls 0 3 (by decide) rfl rfl) (nd_ne P.ls 1 3 (by decide) rfl rfl) k, h.twn.draw h.box (nd_ne P.ls 0 4 (by decide) rfl rfl) (nd_ne P.ls 1 4 (by decide) rfl rfl) k,
    k _ _ (nd_ne P.ls 5 0 (by decide) rfl rfl) (nd_ne P.ls 5 1 (by decide) rfl rfl) h.tl, h.tt.keep kt, k _ _ (nd_ne P.ls 6 0 (by decide) rfl rfl) (nd_ne P.ls 6 1 (by decide) rfl rfl) h.vl, h.vt.keep kt,
    k _ _ (h.off h.fd (by simp) (by intro _ z; cases z)) (h.off h.fd (by simp) (by intro _ z; cases z)) h.fd⟩
/-- the table and the two lists were changed -/
theorem Sc.begun (h : Sc C H A n S S2 ta va told lives F) (P : Ap8 A) (T' : TabAt C H' A.t A.lt A.dk S') (e1 : H' A.tl = some (.lst (ta'.map V.ref))) (e2 : H' A.vl = some (.lst (va'.map V.ref))) (k : Fr [A.t, A.lt, A.dk, A.tl, A.vl] H H') (t1 : Tups H' ta' told') (t2 : Tups H' va' lives') : Sc C H' A n S' S2 ta' va' told' lives' F := by
  obtain ⟨dx, ho⟩ := h.tab.ob
  obtain ⟨dx2, ho2⟩ := h.twn.ob
  have kp := h.tab.kp
  have notD : ∀ {x : Addr} {xs : List V}, H x = some (.lst xs) → x ≠ A.t ∧ x ≠ A.dk := fun e => ⟨ne_of e ho (by intro z; cases z), ne_of e kp (by intro z; cases z)⟩
  obtain ⟨⟨xb, hb⟩, ⟨xg, hg⟩, ⟨xl, hl⟩⟩ := h.box.lists
  have out : ∀ {x : Addr} {o : HO}, H x = some o → x ≠ A.t → x ≠ A.lt → x ≠ A.dk → x ≠ A.tl → x ≠ A.vl → H' x = some o := fun e m1 m2 m3 m4 m5 => k _ _ (by simp only [List.mem_cons, List.not_mem_nil, or_false, not_or]; exact ⟨m1, m2, m3, m4, m5⟩) e
  refine ⟨h.box.keep fun x o e hx => ?_, T', h.twn.keep fun x o hx e => ?_, e1, t1, e2, t2, ?_⟩
  · rcases hx with rfl | rfl | rfl
    · exact out e (notD hb).1 (nd_ne P.ls 0 3 (by decide) rfl rfl) (notD hb).2 (nd_ne P.ls 0 5 (by decide) rfl rfl) (nd_ne P.ls 0 6 (by decide) rfl rfl)
    · exact out e (notD hg).1 (nd_ne P.ls 1 3 (by decide) rfl rfl) (notD hg).2 (nd_ne P.ls 1 5 (by decide) rfl rfl) (nd_ne P.ls 1 6 (by decide) rfl rfl)
    · exact out e (notD hl).1 (nd_ne P.ls 2 3 (by decide) rfl rfl) (notD hl).2 (nd_ne P.ls 2 5 (by decide) rfl rfl) (nd_ne P.ls 2 6 (by decide) rfl rfl)
  · rcases hx with rfl | rfl | rfl
    · exact out e P.os.symm (h.off ho2 (by simp) (by intro _ z; cases z)) (ne_of ho2 kp (by intro z; cases z)) (h.off ho2 (by simp) (by intro _ z; cases z)) (h.off ho2 (by simp) (by intro _ z; cases z))
    · exact out e (notD h.twn.tu).1 (nd_ne P.ls 4 3 (by decide) rfl rfl) (notD h.twn.tu).2 (nd_ne P.ls 4 5 (by decide) rfl rfl) (nd_ne P.ls 4 6 (by decide) rfl rfl)
    · exact out e (ne_of h.twn.kp ho (by intro z; cases z)) (h.off h.twn.kp (by simp) (by intro _ z; cases z)) (nd_ne P.ds 1 0 (by decide) rfl rfl) (h.off h.twn.kp (by simp) (by intro _ z; cases z)) (h.off h.twn.kp (by simp) (by intro _ z; cases z))
  · exact out h.fd (ne_of h.fd ho (by intro z; cases z)) (h.off h.fd (by simp) (by intro _ z; cases z)) (nd_ne P.ds 2 0 (by decide) rfl rfl) (h.off h.fd (by simp) (by intro _ z; cases z)) (h.off h.fd (by simp) (by intro _ z; cases z))
theorem Sc.keepT (h : Sc C H A n S S2 ta va told lives F) (k : Fr [A.t, A.lt, A.dk, A.tl, A.vl] H H') : ∀ x xs, H x = some (.tup xs) → H' x = some (.tup xs) := fun x xs e => by
  obtain ⟨dx, ho⟩ := h.tab.ob
  refine k _ _ ?_ e
  simp only [List.mem_cons, List.not_mem_nil, or_false, not_or]
  exact ⟨ne_of e ho (by intro z; cases z), h.off e (by simp) (by intro _ z; cases z), ne_of e h.tab.kp (by intro z; cases z), h.off e (by simp) (by intro _ z; cases z), h.off e (by simp) (by intro _ z; cases z)⟩
/-- the twin was changed -/
theorem Sc.twin (h : Sc C H A n S S2 ta va told lives F) (P : Ap8 A) (T' : TabAt C H' A.t2 A.lt2 A.dk2 S') (k : ∀ x o, x ≠ A.t2 → x ≠ A.lt2 → x ≠ A.dk2 → H x = some o → H' x = some o) : Sc C H' A n S S' ta va told lives F := by
  obtain ⟨dx, ho⟩ := h.tab.ob
  obtain ⟨dx2, ho2⟩ := h.twn.ob
  have kp := h.twn.kp
  have notD : ∀ {x : Addr} {xs : List V}, H x = some (.lst xs) → x ≠ A.t2 ∧ x ≠ A.dk2 := fun e => ⟨ne_of e ho2 (by intro z; cases z), ne_of e kp (by intro z; cases z)⟩
  obtain ⟨⟨xb, hb⟩, ⟨xg, hg⟩, ⟨xl, hl⟩⟩ := h.box.lists
  have kt : ∀ x xs, H x = some (.tup xs) → H' x = some (.tup xs) := fun x xs e => k _ _ (ne_of e ho2 (by intro z; cases z)) (h.off e (by simp) (by intro _ z; cases z)) (ne_of e kp (by intro z; cases z)) e
  refine ⟨h.box.keep fun x o e hx => ?_, h.tab.keep fun x o hx e => ?_, T', k _ _ (notD h.tl).1 (nd_ne P.ls 5 4 (by decide) rfl rfl) (notD h.tl).2 h.tl, h.tt.keep kt, k _ _ (notD h.vl).1 (nd_ne P.ls 6 4 (by decide) rfl rfl) (notD h.vl).2 h.vl, h.vt.keep kt, k _ _ (ne_of h.fd ho2 (by intro z; cases z)) (h.off h.fd (by simp) (by intro _ z; cases z)) (nd_ne P.ds 2 1 (by decide) rfl rfl) h.fd⟩
  · rcases hx with rfl | rfl | rfl
    · exact k _ _ (notD hb).1 (nd_ne P.ls 0 4 (by decide) rfl rfl) (notD hb).2 e
    · exact k _ _ (notD hg).1 (nd_ne P.ls 1 4 (by decide) rfl rfl) (notD hg).2 e
    · exact k _ _ (notD hl).1 (nd_ne P.ls 2 4 (by decide) rfl rfl) (notD hl).2 e
  · rcases hx with rfl | rfl | rfl
    · exact k _ _ P.os (h.off ho (by simp) (by intro _ z; cases z)) (ne_of ho kp (by intro z; cases z)) e
    · exact k _ _ (notD h.tab.tu).1 (nd_ne P.ls 3 4 (by decide) rfl rfl) (notD h.tab.tu).2 e
    · exact k _ _ (ne_of h.tab.kp ho2 (by intro z; cases z)) (h.off h.tab.kp (by simp) (by intro _ z; cases z)) (nd_ne P.ds 0 1 (by decide) rfl rfl) e
/-- the table's dict was changed -/
theorem Sc.tabE (h : Sc C H A n S S2 ta va told lives F) (P : Ap8 A) (T' : TabAt C H' A.t A.lt A.dk S') (k : ∀ x o, x ≠ A.dk → H x = some o → H' x = some o) : Sc C H' A n S' S2 ta va told lives F := by
  obtain ⟨dx2, ho2⟩ := h.twn.ob
  have kp := h.tab.kp
  obtain ⟨⟨xb, hb⟩, ⟨xg, hg⟩, ⟨xl, hl⟩⟩ := h.box.lists
  refine ⟨h.box.keep fun x o e hx => ?_, T', h.twn.keep fun x o hx e => ?_, k _ _ (ne_of h.tl kp (by intro z; cases z)) h.tl, h.tt.keep fun x xs e => k _ _ (ne_of e kp (by intro z; cases z)) e, k _ _ (ne_of h.vl kp (by intro z; cases z)) h.vl, h.vt.keep fun x xs e => k _ _ (ne_of e kp (by intro z; cases z)) e, k _ _ (nd_ne P.ds 2 0 (by decide) rfl rfl) h.fd⟩
  · rcases hx with rfl | rfl | rfl
    · exact k _ _ (ne_of hb kp (by intro z; cases z)) e
    · exact k _ _ (ne_of hg kp (by intro z; cases z)) e
    · exact k _ _ (ne_of hl kp (by intro z; cases z)) e
  · rcases hx with rfl | rfl | rfl
    · exact k _ _ (ne_of ho2 kp (by intro z; cases z)) e
    · exact k _ _ (ne_of h.twn.tu kp (by intro z; cases z)) e
    · exact k _ _ (nd_ne P.ds 1 0 (by decide) rfl rfl) e
/-- the figures were changed -/
theorem Sc.fig (h : Sc C H A n S S2 ta va told lives F) (P : Ap8 A) : Sc C (upd H A.fd (.dT F')) A n S S2 ta va told lives F' := by
  have kp := h.fd
  obtain ⟨dx, ho⟩ := h.tab.ob
  obtain ⟨dx2, ho2⟩ := h.twn.ob
  obtain ⟨⟨xb, hb⟩, ⟨xg, hg⟩, ⟨xl, hl⟩⟩ := h.box.lists
  refine ⟨h.box.keep fun x o e hx => ?_, h.tab.keep fun x o hx e => ?_, h.twn.keep fun x o hx e => ?_, upd_get (ne_of h.tl kp (by intro z; cases z)) h.tl, h.tt.keep fun x xs e => upd_get (ne_of e kp (by intro z; cases z)) e, upd_get (ne_of h.vl kp (by intro z; cases z)) h.vl, h.vt.keep fun x xs e => upd_get (ne_of e kp (by intro z; cases z)) e, upd_same⟩
  · rcases hx with rfl | rfl | rfl
    · exact upd_get (ne_of hb kp (by intro z; cases z)) e
    · exact upd_get (ne_of hg kp (by intro z; cases z)) e
    · exact upd_get (ne_of hl kp (by intro z; cases z)) e
  · rcases hx with rfl | rfl | rfl
    · exact upd_get (ne_of ho kp (by intro z; cases z)) e
    · exact upd_get (ne_of h.tab.tu kp (by intro z; cases z)) e
    · exact upd_get (nd_ne P.ds 0 2 (by decide) rfl rfl) e
  · rcases hx with rfl | rfl | rfl
    · exact upd_get (ne_of ho2 kp (by intro z; cases z)) e
    · exact upd_get (ne_of h.twn.tu kp (by intro z; cases z)) e
    · exact upd_get (nd_ne P.ds 1 2 (by decide) rfl rfl) e
/-- a living one was taken out -/
theorem Sc.out (h : Sc C H A n S S2 ta va told lives F) (P : Ap8 A) (hv : ∀ x ∈ va', x ∈ va) (t2 : Tups H va' lives') : Sc C (upd H A.vl (.lst (va'.map V.ref))) A n S S2 ta va' told lives' F := by
  have kp := h.vl
  obtain ⟨dx, ho⟩ := h.tab.ob
  obtain ⟨dx2, ho2⟩ := h.twn.ob
  have kt : ∀ x xs, H x = some (.tup xs) → upd H A.vl (.lst (va'.map V.ref)) x = some (.tup xs) := fun x xs e => upd_get (ne_of e kp (by intro z; cases z)) e
  refine ⟨h.box.keep fun x o e hx => ?_, h.tab.keep fun x o hx e => ?_, h.twn.keep fun x o hx e => ?_, upd_get (nd_ne P.ls 5 6 (by decide) rfl rfl) h.tl, h.tt.keep kt, upd_same, t2.keep kt, upd_get (ne_of h.fd kp (by intro z; cases z)) h.fd⟩
  · rcases hx with rfl | rfl | rfl
    · exact upd_get (nd_ne P.ls 0 6 (by decide) rfl rfl) e
    · exact upd_get (nd_ne P.ls 1 6 (by decide) rfl rfl) e
    · exact upd_get (nd_ne P.ls 2 6 (by decide) rfl rfl) e
  · rcases hx with rfl | rfl | rfl
    · exact upd_get (ne_of ho kp (by intro z; cases z)) e
    · exact upd_get (nd_ne P.ls 3 6 (by decide) rfl rfl) e
    · exact upd_get (ne_of h.tab.kp kp (by intro z; cases z)) e
  · rcases hx with rfl | rfl | rfl
    · exact upd_get (ne_of ho2 kp (by intro z; cases z)) e
    · exact upd_get (nd_ne P.ls 4 6 (by decide) rfl rfl) e
    · exact upd_get (ne_of h.twn.kp kp (by intro z; cases z)) e
end
end
end Pf
set_option Elab.async false
set_option linter.all false
set_option maxRecDepth 100000
set_option maxHeartbeats 4000000
namespace Pf
open PySem L2
local macro_rules | `(tactic| walk_at "nz") => `(tactic| (show (_ : Int) ≠ 0; omega))
local macro_rules | `(tactic| walk_at "ne") => `(tactic| first | assumption | (apply Ne.symm; assumption))
local macro_rules | `(tactic| walk_at "hp") => `(tactic| first | assumption | exact upd_same | (refine upd_get ?_ ?_; walk_at "ne"; walk_at "hp"))
local macro_rules | `(tactic| walk_at "sd") => `(tactic| first
  | (with_reducible show (_ : Int) < _; omega)
  | (with_reducible show (_ : Int) ≤ _; omega)
  | (with_reducible show (_ : Nat) < _; omega)
  | (with_reducible show (_ : Nat) ≤ _; omega)
  | rfl
  | assumption
  | exact kV_int _
  | exact kV_str _
  | (show (_ : Int) ≠ 0; omega)
  | exact SqL.of (by walk_at "hp")
  | exact ⟨_, SqL.of (by walk_at "hp")⟩
  | exact ⟨_, SqT.of (by walk_at "hp")⟩
  | exact ⟨_, (by assumption)⟩
  | exact SqT.of (by walk_at "hp")
  | exact Rd.of (by walk_at "hp")
  | exact Or.inl (SqL.of (by walk_at "hp"))
  | exact Or.inr (SqT.of (by walk_at "hp"))
  | exact Or.inr (by assumption)
  | (walk_at "hp")
  | (exact Or.inl ⟨rfl, _, SqL.of (by walk_at "hp")⟩)
  | (exact Or.inl ⟨by omega, by omega⟩)
  | (exact Or.inr ⟨by omega, by omega⟩)
  | (refine ⟨?_, ?_, ?_⟩ <;> omega)
  | omega
  | (exact small_le (by first | omega | (simp only [List.length_cons, List.length_nil]; omega)))
  | (exact small_lt (by first | omega | (simp only [List.length_cons, List.length_nil]; omega)))
  | exact Nat.le_of_ble_eq_true rfl
  | exact ⟨_, rfl⟩
  | decide)
local macro_rules | `(tactic| walk_at "st") => `(tactic| first
  | with_reducible refine sq_seq ?_
  | apply Exists.intro
  | (refine And.intro ?_ ?_; (walk_at "sd")))
local macro_rules | `(tactic| walk_at "go") => `(tactic| repeat (walk_at "st"))
section
variable {P : Program} {w : World} {K : PySem.W.Frag} {mg : Str → Option Value} {base : Heap} {a : Ad}
theorem newNd {A : Ad8} {H : Hp} {C : Addr} {n : Int} {S S2 : Tb} {ta va : List Addr} {told lives : List (Int × Int)} {F : List (List Key × V)} (h : Sc C H A n S S2 ta va told lives F) (P : Ap8 A) {t2 lt2 dk2 : Addr} (e1 : H t2 = none) (e2 : H lt2 = none) (e3 : H dk2 = none) : Ap8 { A with t2 := t2, lt2 := lt2, dk2 := dk2 } := by
  obtain ⟨dx, ho⟩ := h.tab.ob
  have ne : ∀ x ∈ A.ls, x ≠ lt2 := fun x hx => by
    obtain ⟨xs, e⟩ := h.lists x hx
    exact ne_of_none e e2
  have L := P.ls
  have D := P.ds
  have n1 := ne_of_none h.tab.kp e3
  have n2 := ne_of_none h.fd e3
  have q0 := ne A.b (by simp)
  have q1 := ne A.g (by simp)
  have q2 := ne A.l (by simp)
  have q3 := ne A.lt (by simp)
  have q5 := ne A.tl (by simp)
  have q6 := ne A.vl (by simp)
  simp only [List.nodup_cons, List.mem_cons, List.not_mem_nil, or_false, not_or, List.nodup_nil, not_false_eq_true, and_true] at L D
  refine ⟨?_, ?_, ne_of_none ho e1⟩
  · simp only [List.nodup_cons, List.mem_cons, List.not_mem_nil, or_false, not_or, List.nodup_nil, not_false_eq_true, and_true]
    obtain ⟨⟨a1, a2, a3, a4, a5, a6⟩, ⟨b2, b3, b4, b5, b6⟩, ⟨c3, c4, c5, c6⟩, ⟨d4, d5, d6⟩, ⟨e5, e6⟩, f6⟩ := L
    exact ⟨⟨a1, a2, a3, q0, a5, a6⟩, ⟨b2, b3, q1, b5, b6⟩, ⟨c3, q2, c5, c6⟩, ⟨q3, d5, d6⟩, ⟨q5.symm, q6.symm⟩, f6⟩
  · simp only [List.nodup_cons, List.mem_cons, List.not_mem_nil, or_false, not_or, List.nodup_nil, not_false_eq_true, and_true]
    exact ⟨⟨n1, D.1.2⟩, n2.symm⟩
theorem paired_erase {α β : Type} {R : α → β → Prop} : ∀ {as : List α} {bs : List β} (i : Nat), Paired R as bs → Paired R (as.eraseIdx i) (bs.eraseIdx i)
  | _, _, _, .nil => .nil
  | _, _, 0, .cons _ r => r
  | _, _, i + 1, .cons e r => .cons e (paired_erase i r)
theorem map_erase {α β : Type} (f : α → β) : ∀ (l : List α) (i : Nat), (l.map f).eraseIdx i = (l.eraseIdx i).map f
  | [], _ => rfl
  | _ :: _, 0 => rfl
  | x :: l, i + 1 => congrArg (f x :: ·) (map_erase f l i)
theorem told_pairs (S : Tb) (ys : List Int) : told S ys = (ys.map fun p => (p, turnOf S p)).map pairD := by
  unfold told
  rw [List.map_map] <;> rfl
theorem told_shaped (S : Tb) (ys : List Int) : SeqAt.shaped (.list (told S ys)) = true := by
  rw [told_pairs]
  exact shaped_pairs _
abbrev fk (x : Int × Int) : List Key := [Sum.inl x.1, Sum.inl x.2]
/-- the figures of the living ones -/
structure Figs (S : Tb) (told : List (Int × Int)) (F : List (List Key × V)) : Prop where
  keys : F.map (·.1) = told.map fk
  at_ : ∀ e ∈ S.live, valV F (fk (e.1, e.2.1)) = some (.int e.2.2)
def spLaw (K : PySem.W.Frag) : Sp := fun vs H Q _ => ∃ (c : Addr) (ns : List Int), vs = [.ref c] ∧ SqL K H c (ns.map V.int) ∧ ns.length ≤ 63 ∧ ∀ H', Q (.bl true) H'
/-- what stands ahead of the k-th deed -/
def In8 (C b g l : Addr) (sp : Int) (N : Nat) (k : Int) (H : Hp) (t t2 tl vl fd : Addr) (pk : Tb → Prop) : Prop := ∃ (A : Ad8) (n : Int) (S S2 : Tb) (ta va : List Addr) (told lives : List (Int × Int)) (F : List (List Key × V)),
  b = A.b ∧ g = A.g ∧ l = A.l ∧ t = A.t ∧ t2 = A.t2 ∧ tl = A.tl ∧ vl = A.vl ∧ fd = A.fd ∧ Sc C H A n S S2 ta va told lives F ∧ Ap8 A ∧ Wf S ∧ Wf S2 ∧ Hist S told lives ∧ Figs S told F ∧ pk S ∧ (sp < k → S2 = S) ∧ n ≤ 10 + 10 * N ∧ told.length ≤ N ∧ S.turns.length ≤ N ∧ S2.turns.length ≤ N ∧ S.live.length ≤ N ∧ S2.live.length ≤ N
theorem ok_law (T : Txt K mg a) : FnOk P w K mg base CX0 6 a.f_law a.d_law ["_law_script"] (spLaw K) := by
  have G__law_box := ok__law_box (P := P) (w := w) (base := base) T
  have G__law_take := ok__law_take (P := P) (w := w) (base := base) T
  have G__law_begin := ok__law_begin (P := P) (w := w) (base := base) T
  have G__law_ended := ok__law_ended (P := P) (w := w) (base := base) T
  have G_Table___init__ := ok_Table___init__ (P := P) (w := w) (base := base) T
  have G_Table_twin := ok_Table_twin (P := P) (w := w) (base := base) T
  have G_Table_begin := ok_Table_begin (P := P) (w := w) (base := base) T
  have G_Table_end := ok_Table_end (P := P) (w := w) (base := base) T
  have G_Table_alive := ok_Table_alive (P := P) (w := w) (base := base) T
  have G_Table_most := ok_Table_most (P := P) (w := w) (base := base) T
  have G_Table___len__ := ok_Table___len__ (P := P) (w := w) (base := base) T
  refine T.F_law.ok sc_law (fun vs H Q E h => ?_) (fun cdv A outer s H vs Q E hr h => ?_)
  · obtain ⟨c, ns, rfl, _⟩ := h
    rfl
  · obtain ⟨c, ns, rfl, hS, hl, q⟩ := h
    refine ⟨_, (pss_cons (ps_set (i := 1) sc_law.nd rfl (Or.inl rfl) (pe_call G__law_box (hr.mono (by decide)) rfl T.m__law_box T.F__law_box.kp T.b__law_box .nil pass0 (pa_cons (pv 0) pa_nil)))
      (pss_cons (ps_set (i := 2) sc_law.nd rfl (Or.inl rfl) (pe_call G__law_take (hr.mono (by decide)) rfl T.m__law_take T.F__law_take.kp T.b__law_take .nil pass0 (pa_cons (pv 1) (pa_cons pe_int pa_nil))))
      (pss_cons (ps_set (i := 3) sc_law.nd rfl (Or.inl rfl) (pe_call G__law_take (hr.mono (by decide)) rfl T.m__law_take T.F__law_take.kp T.b__law_take .nil pass0 (pa_cons (pv 1) (pa_cons pe_int pa_nil))))
      (pss_cons (ps_set (i := 4) sc_law.nd rfl (Or.inr rfl) (pe_make0 T.mk_Table G_Table___init__ (hr.mono (by decide)) rfl T.m_Table T.b_Table___init__ .nil pass0))
      (pss_cons (ps_set (i := 5) sc_law.nd rfl (Or.inl rfl) (pe_meth0 (pv 4) T.cl_Table T.mt_Table_twin G_Table_twin (hr.mono (by decide)) T.b_Table_twin .nil pass0))
      (pss_cons (ps_set (i := 6) sc_law.nd rfl (Or.inl rfl) (pe_lst pa_nil))
      (pss_cons (ps_set (i := 7) sc_law.nd rfl (Or.inl rfl) (pe_lst pa_nil))
      (pss_cons (ps_set (i := 8) sc_law.nd rfl (Or.inl rfl) pe_dnewT)
      (pss_cons (ps_set (i := 9) sc_law.nd rfl (Or.inl rfl) pe_int)
      (pss_cons (ps_stop (ps_for PassesOwn.never rfl (pi_wait (pi_range1 rfl T.z_range (pa_cons (pe_op op_add pe_int (pe_call G__law_take (hr.mono (by decide)) rfl T.m__law_take T.F__law_take.kp T.b__law_take .nil pass0 (pa_cons (pv 1) (pa_cons pe_int pa_nil)))) pa_nil))) (pg_name (i := 10) sc_law.nd rfl (Or.inl rfl)) (pss_mid (ps_if (pt_cmpR op_eq (pv 10) (pv 3) (nomark _)) (pss_one (ps_set (i := 5) sc_law.nd rfl (Or.inl rfl) (pe_meth0 (pv 4) T.cl_Table T.mt_Table_twin G_Table_twin (hr.mono (by decide)) T.b_Table_twin .nil pass0))) pss_nil)
      (pss_mid (ps_if (pt_mid (PW.pt (pw_or (pt_cmpR op_eq (pe_callB call_lenK (by rfl) T.z_len PySem.boot_len (pa_cons (pv 7) pa_nil)) pe_int (nomark _)) (pw_or1 (pt_cmpR op_lt (pe_call G__law_take (hr.mono (by decide)) rfl T.m__law_take T.F__law_take.kp T.b__law_take .nil pass0 (pa_cons (pv 1) (pa_cons pe_int pa_nil))) (pe_op op_add pe_int (pv 2)) (nomark _)))))) (pss_cons (ps_set (i := 11) sc_law.nd rfl (Or.inl rfl) (pe_call G__law_take (hr.mono (by decide)) rfl T.m__law_take T.F__law_take.kp T.b__law_take .nil pass0 (pa_cons (pv 1) (pa_cons pe_int pa_nil))))
      (pss_cons (ps_if (pt_not (pt_val (pe_call G__law_begin (hr.mono (by decide)) rfl T.m__law_begin T.F__law_begin.kp T.b__law_begin .nil pass0 (pa_cons (pv 4) (pa_cons (pv 6) (pa_cons (pv 7) (pa_cons (pv 11) pa_nil))))))) (pss_one (ps_ret pe_bl)) pss_nil)
      (pss_cons (ps_dput (hu_of hr) (pv 8) (pe_ix ix_list (pv 6) (pe_un un_neg pe_int) (fun _ _ => rfl)) (pv 11) rfl)
      (pss_one (ps_if (PW.pt (pw_and (pt_cmpR op_ge (pv 10) (pv 3) (nomark _)) (pw_and1 (pt_cmpR (op_neD (hr.units)) (pe_meth (pv 5) T.cl_Table T.mt_Table_begin G_Table_begin (hr.mono (by decide)) T.b_Table_begin .nil pass0 (pa_cons (pv 11) pa_nil)) (pe_ix ix_list (pv 6) (pe_un un_neg pe_int) (fun _ _ => rfl)) (nomark _))))) (pss_one (ps_ret pe_bl)) pss_nil))))) (pss_cons (ps_set (i := 12) sc_law.nd rfl (Or.inl rfl) (pe_bm PySem.F.plainAttrs_list PySem.F.slot_list_pop PySem.F.type_list_pop mt_popAt (pv 7) (pa_cons (pe_call G__law_take (hr.mono (by decide)) rfl T.m__law_take T.F__law_take.kp T.b__law_take .nil pass0 (pa_cons (pv 1) (pa_cons (pe_callB call_lenK (by rfl) T.z_len PySem.boot_len (pa_cons (pv 7) pa_nil)) pa_nil))) pa_nil)))
      (pss_one (ps_if (PW.pt (pw_or (pt_cmpR op_ne (pe_meth (pv 4) T.cl_Table T.mt_Table_end G_Table_end (hr.mono (by decide)) T.b_Table_end .nil passL (pa_cons (pv 12) pa_nil)) (pe_dget (hu_of hr) (pv 8) (pv 12) (fun _ _ => rfl)) (nomark _)) (pw_or1 (PW.pt (pw_and (pt_cmpR op_ge (pv 10) (pv 3) (nomark _)) (pw_and1 (pt_cmpR op_ne (pe_meth (pv 5) T.cl_Table T.mt_Table_end G_Table_end (hr.mono (by decide)) T.b_Table_end .nil passL (pa_cons (pv 12) pa_nil)) (pe_dget (hu_of hr) (pv 8) (pv 12) (fun _ _ => rfl)) (nomark _)))))))) (pss_one (ps_ret pe_bl)) pss_nil))))
      (pss_cons (ps_set (i := 9) sc_law.nd rfl (Or.inl rfl) (pe_callB (call_max2 rfl) (by rfl) T.z_max (by decide +kernel) (pa_cons (pv 9) (pa_cons (pe_callB call_lenK (by rfl) T.z_len PySem.boot_len (pa_cons (pv 7) pa_nil)) pa_nil))))
      (pss_one (ps_if (PW.pt (pw_or (pt_cmpR (op_neD (hr.units)) (pe_meth0 (pv 4) T.cl_Table T.mt_Table_alive G_Table_alive (hr.mono (by decide)) T.b_Table_alive .nil pass0) (pe_callB cr_sortP (by rfl) T.z_sorted (by decide +kernel) (pa_cons (pv 7) pa_nil)) (nomark _)) (pw_or (pt_cmpR op_ne (pe_callB (call_lenO T.mt_Table___len__ G_Table___len__ (hr.mono (by decide)) T.b_Table___len__ pass0) (by rfl) T.z_len PySem.boot_len (pa_cons (pv 4) pa_nil)) (pe_callB call_lenK (by rfl) T.z_len PySem.boot_len (pa_cons (pv 7) pa_nil)) (nomark _)) (pw_or1 (pt_cmpR op_ne (pe_meth0 (pv 4) T.cl_Table T.mt_Table_most G_Table_most (hr.mono (by decide)) T.b_Table_most .nil pass0) (pv 9) (nomark _)))))) (pss_one (ps_ret pe_bl)) pss_nil)))))))
      (pss_cons (ps_if (pt_mid (PW.pt (pw_and (pt_cmpR op_lt (pv 3) pe_int (nomark _)) (pw_and1 (PW.pt (pw_or (pt_cmpR (op_neD (hr.units)) (pe_meth0 (pv 5) T.cl_Table T.mt_Table_alive G_Table_alive (hr.mono (by decide)) T.b_Table_alive .nil pass0) (pe_meth0 (pv 4) T.cl_Table T.mt_Table_alive G_Table_alive (hr.mono (by decide)) T.b_Table_alive .nil pass0) (nomark _)) (pw_or1 (pt_cmpR op_ne (pe_meth0 (pv 5) T.cl_Table T.mt_Table_most G_Table_most (hr.mono (by decide)) T.b_Table_most .nil pass0) (pv 9) (nomark _))))))))) (pss_one (ps_ret pe_bl)) pss_nil)
      (pss_cons (ps_stop (ps_while PassesOwn.never (pt_cmpR op_gt (pe_callB call_lenK (by rfl) T.z_len PySem.boot_len (pa_cons (pv 7) pa_nil)) pe_int (nomark _)) (pss_one (ps_expr (pe_meth (pv 4) T.cl_Table T.mt_Table_end G_Table_end (hr.mono (by decide)) T.b_Table_end .nil passL (pa_cons (pe_bm PySem.F.plainAttrs_list PySem.F.slot_list_pop PySem.F.type_list_pop mt_popAt (pv 7) (pa_cons (pe_call G__law_take (hr.mono (by decide)) rfl T.m__law_take T.F__law_take.kp T.b__law_take .nil pass0 (pa_cons (pv 1) (pa_cons (pe_callB call_lenK (by rfl) T.z_len PySem.boot_len (pa_cons (pv 7) pa_nil)) pa_nil))) pa_nil)) pa_nil))))))
      (pss_one (ps_ret (pe_and (pe_cmpR (op_eqD (hr.units)) (pe_meth0 (pv 4) T.cl_Table T.mt_Table_alive G_Table_alive (hr.mono (by decide)) T.b_Table_alive .nil pass0) (pe_lst pa_nil) (nomark _)) (pe_and (pe_cmpR op_eq (pe_lenT rfl hr.units (by rfl) T.z_len (by rfl) T.z_set (pv 6)) (pe_callB call_lenK (by rfl) T.z_len PySem.boot_len (pa_cons (pv 6) pa_nil)) (nomark _)) (pe_one (pe_callB (cr_all rfl) (by rfl) T.z_all (by decide +kernel) (pa_cons (pe_lc (own := [("_law_grip", 12)]) (g := gName 12) (tt := tYes) rfl sc_law.nd (pi_list (pv 6)) (blkOk_by (own := [("_law_grip", 12)]) (N := n_law) (sc := defScope s_law) (by decide +kernel)) (fun _ _ _ _ _ => (pg_name (i := 12) sc_law.nd rfl (Or.inl rfl))) (fun _ _ _ _ _ => pts_nil) (fun _ _ _ _ _ => (pe_call G__law_ended (hr.mono (by decide)) rfl T.m__law_ended T.F__law_ended.kp T.b__law_ended .nil pass0 (pa_cons (pv 4) (pa_cons (pv 12) pa_nil))))) pa_nil))))))))))))))))))), ?_⟩
    walk_at "go"
    intro b g l H1 hb0 hg0 hl0 B1 s1
    obtain ⟨⟨xb, hb1⟩, ⟨xg, hg1⟩, ⟨xl, hl1⟩⟩ := B1.lists
    walk_at "go"
    intro busy H2 b0 b1 B2 k2
    walk_at "go"
    intro spr H3 p0 p1 B3 k3
    walk_at "go"
    intro t dx ht hdx ndx
    refine ⟨t, dx, rfl, upd_same, fun lt dk H4 hlt hdk TA4 k4 => ⟨rfl, ?_⟩⟩
    have s4 : Same H3 H4 := fun x o e => k4 x o (ne_of_none e ht) (by rw [upd_ne (ne_of_none e ht), upd_ne (ne_of_none e hdx)]; exact e)
    obtain ⟨dx4, ho4⟩ := TA4.ob
    have hlt3 : H3 lt = none := by
      cases z : H3 lt with
      | none => rfl
      | some o =>
        rw [upd_ne (ne_of_none z ht), upd_ne (ne_of_none z hdx), z] at hlt
        cases hlt
    walk_at "go"
    intro t2 lt2 dk2 H5 ht2 hlt2 hdk2 TW5 s5
    walk_at "go"
    intro tl htl
    have s6 : Same H5 (upd H5 tl (.lst [])) := Same.upd_new htl
    walk_at "go"
    intro vl hvl
    have s7 : Same (upd H5 tl (.lst [])) (upd (upd H5 tl (.lst [])) vl (.lst [])) := Same.upd_new hvl
    walk_at "go"
    intro fd hfd
    obtain ⟨H8, e8⟩ : ∃ H8, H8 = upd (upd (upd H5 tl (.lst [])) vl (.lst [])) fd (.dT []) := ⟨_, rfl⟩
    have s8 : Same (upd (upd H5 tl (.lst [])) vl (.lst [])) H8 := by rw [e8]; exact Same.upd_new hfd
    have s58 : Same H5 H8 := (s6.trans s7).trans s8
    have s38 : Same H3 H8 := (s4.trans s5).trans s58
    obtain ⟨gs, ls, dd, hb3, hg3, hl3, _, _, _, _, nbg, nbl, ngl⟩ := B3.ex
    have hvl5 : H5 vl = none := s6.free hvl
    have hfd5 : H5 fd = none := s6.free (s7.free hfd)
    have dn : ∀ {x : Addr} {o : HO}, H3 x = some o → x ≠ lt ∧ x ≠ lt2 ∧ x ≠ tl ∧ x ≠ vl := fun e => ⟨ne_of_none e hlt3, ne_of_none (s4 _ _ e) hlt2, ne_of_none (s5 _ _ (s4 _ _ e)) htl, ne_of_none (s5 _ _ (s4 _ _ e)) hvl5⟩
    have nlt : lt ≠ lt2 ∧ lt ≠ tl ∧ lt ≠ vl := ⟨ne_of_none TA4.tu hlt2, ne_of_none (s5 _ _ TA4.tu) htl, ne_of_none (s5 _ _ TA4.tu) hvl5⟩
    have nlt2 : lt2 ≠ tl ∧ lt2 ≠ vl := ⟨ne_of_none TW5.tu htl, ne_of_none TW5.tu hvl5⟩
    have ntv : tl ≠ vl := fun z => by rw [← z, upd_same] at hvl; cases hvl
    have Ap : Ap8 ⟨b, g, l, t, lt, dk, t2, lt2, dk2, tl, vl, fd⟩ := by
      refine ⟨?_, ?_, ne_of_none ho4 ht2⟩
      · simp only [List.nodup_cons, List.mem_cons, List.not_mem_nil, or_false, not_or, List.nodup_nil, not_false_eq_true, and_true]
        exact ⟨⟨nbg, nbl, dn hb3⟩, ⟨ngl, dn hg3⟩, dn hl3, nlt, nlt2, ntv⟩
      · simp only [List.nodup_cons, List.mem_cons, List.not_mem_nil, or_false, not_or, List.nodup_nil, not_false_eq_true, and_true]
        exact ⟨⟨ne_of_none TA4.kp hdk2, ne_of_none (s5 _ _ TA4.kp) hfd5⟩, ne_of_none TW5.kp hfd5⟩
    have Sc8 : Sc a.c_Table H8 ⟨b, g, l, t, lt, dk, t2, lt2, dk2, tl, vl, fd⟩ (0 + 1 + 1) ⟨[], [], 0⟩ ⟨[], [], 0⟩ [] [] [] [] [] :=
      ⟨B3.same s38, (TA4.same s5).same s58, TW5.same s58, s8 _ _ (s7 _ _ upd_same), .nil, s8 _ _ upd_same, .nil, by rw [e8, upd_same]⟩
    walk_at "go"
    rw [← e8]
    refine stop_in ?_
    have B8 : BoxAt H8 b g l (0 + 1 + 1) := Sc8.box
    walk_at "go"
    intro r H9 r0 r1 B9 k9
    have Sc9 := Sc8.draw Ap B9 k9
    walk_at "go"
    refine wait ?_
    refine forR (lo := 0) (n := (20 + r).toNat) (fun i σ H' => ∃ (u2 : Addr) (pk : Int) (w10 w11 w12 : Option V), σ = [some (.ref c), some (.ref b), some (.int busy), some (.int spr), some (.ref t), some (.ref u2), some (.ref tl), some (.ref vl), some (.ref fd), some (.int pk), w10, w11, w12] ∧ In8 a.c_Table b g l spr i i H' t u2 tl vl fd (fun S => pk = S.peak)) ?_ ?_ ?_
    · exact ⟨t2, 0, _, _, _, rfl, _, _, _, _, _, _, _, _, _, rfl, rfl, rfl, rfl, rfl, rfl, rfl, rfl, Sc9, Ap, Wf.empty, Wf.empty, Hist.empty, ⟨rfl, fun e he => nomatch he⟩, rfl, fun _ => rfl, by decide, Nat.le_refl _, Nat.le_refl _, Nat.le_refl _, Nat.le_refl _, Nat.le_refl _⟩
    · rintro i σ Hi hi ⟨u2, pk, w10, w11, w12, rfl, ⟨b', g', l', t', lt', dk', t2', lt2', dk2', tl', vl', fd'⟩, n, S, S2, ta, va, told, lives, F, q1, q2, q3, q4, q5, q6, q7, q8, Sx, Px, W, W2, Hx, Fx, ep, es, z1, z2, z3, z4, z5, z6⟩
      dsimp only at q1 q2 q3 q4 q5 q6 q7 q8
      subst q1 q2 q3 q4 q5 q6 q7 q8
      have hi2 : i < 101 := by omega
      obtain ⟨dxi, hoi⟩ := Sx.tab.ob
      have TAi := Sx.tab
      dsimp only at TAi hoi
      refine mid_of (fun σ H' => ∃ (u2 : Addr), σ = [some (.ref c), some (.ref b), some (.int busy), some (.int spr), some (.ref t), some (.ref u2), some (.ref tl), some (.ref vl), some (.ref fd), some (.int pk), some (.int (0 + (i : Int))), w11, w12] ∧ In8 a.c_Table b g l spr i (i + 1) H' t u2 tl vl fd (fun S => pk = S.peak)) ?_ ?_
      · walk_at "go"
        refine ifD (fun e => ?_) (fun e => ?_)
        · walk_at "go"
          intro u lu du H' hu0 hlu0 hdu0 TU s'
          walk_at "go"
          refine wait ⟨u, rfl, ⟨b, g, l, t, lt', dk', u, lu, du, tl, vl, fd⟩, n, S, S, ta, va, told, lives, F, rfl, rfl, rfl, rfl, rfl, rfl, rfl, rfl, ?_, newNd Sx Px hu0 hlu0 hdu0, W, W, Hx, Fx, ep, fun _ => rfl, by omega, z2, z3, z3, z5, z5⟩
          have Sc' := Sx.same s'
          exact ⟨Sc'.box, Sc'.tab, TU, Sc'.tl, Sc'.tt, Sc'.vl, Sc'.vt, Sc'.fd⟩
        · have ne : (0 + (i : Int)) ≠ spr := fun z => e (congrArg V.int z)
          refine wait ⟨u2, rfl, ⟨b, g, l, t, lt', dk', u2, lt2', dk2', tl, vl, fd⟩, n, S, S2, ta, va, told, lives, F, rfl, rfl, rfl, rfl, rfl, rfl, rfl, rfl, Sx, Px, W, W2, Hx, Fx, ep, fun z => es (by omega), by omega, z2, z3, z4, z5, z6⟩
      · clear Sx Px W W2 Hx Fx ep es z1 z2 z3 z4 z5 z6 hoi TAi
        rintro σ Hj ⟨u2, rfl, ⟨b', g', l', t', lt', dk', t2', lt2', dk2', tl', vl', fd'⟩, n, S, S2, ta, va, told, lives, F, q1, q2, q3, q4, q5, q6, q7, q8, Sx, Px, W, W2, Hx, Fx, ep, es, z1, z2, z3, z4, z5, z6⟩
        dsimp only at q1 q2 q3 q4 q5 q6 q7 q8
        subst q1 q2 q3 q4 q5 q6 q7 q8
        refine mid_of (fun σ H' => ∃ (w11 w12 : Option V), σ = [some (.ref c), some (.ref b), some (.int busy), some (.int spr), some (.ref t), some (.ref u2), some (.ref tl), some (.ref vl), some (.ref fd), some (.int pk), some (.int (0 + (i : Int))), w11, w12] ∧ In8 a.c_Table b g l spr (i + 1) (i + 1) H' t u2 tl vl fd (fun S => S.peak = if (S.live.length : Int) > pk then (S.live.length : Int) else pk)) ?_ ?_
        · have Bj : BoxAt Hj b g l n := Sx.box
          have hvlj : Hj vl = some (.lst (va.map V.ref)) := Sx.vl
          have lenv : va.length = lives.length := Sx.vt.len
          have lent : ta.length = told.length := Sx.tt.len
          have llv : lives.length = S.live.length := by rw [Hx.lv.length_eq, List.length_map]
          refine midT_of (fun c' H' => ∃ n', Sc a.c_Table H' ⟨b, g, l, t, lt', dk', u2, lt2', dk2', tl, vl, fd⟩ n' S S2 ta va told lives F ∧ n' ≤ n + 1 ∧ (c' = false → 0 < va.length)) ?_ ?_
          · walk_at "go"
            refine ifD (fun e => ?_) (fun e => ?_)
            · exact wait ⟨_, Sx, by omega, fun z => nomatch z⟩
            · have hv0 : 0 < va.length := by
                rcases Nat.eq_zero_or_pos va.length with z | z
                · exact absurd (by rw [List.length_map, z] <;> rfl) e
                · exact z
              walk_at "go"
              intro x H1' x0 x1 B1' k1'
              walk_at "go"
              exact wait ⟨_, Sx.draw Px B1' k1', by omega, fun _ => hv0⟩
          · rintro c' H0' ⟨n', Sy, hn', hc'⟩
            clear Sx Bj hvlj
            have Bk : BoxAt H0' b g l n' := Sy.box
            refine ifB (fun e => ?_) (fun e => ?_)
            · walk_at "go"
              intro f H1' f0 f1 B1' k1'
              have Sz := Sy.draw Px B1' k1'
              have c0 : cnt S.turns = cnt S.turns := rfl
              refine ⟨_, rfl, _, rfl, _, rfl, _, rfl, t, lt', dk', tl, vl, S, ta, va, told, lives, f, rfl, Sz.tab, W, Hx, by omega, by omega, by omega, Sz.tl, Sz.tt, Sz.vl, Sz.vt, nd_ne Px.ls 3 5 (by decide) rfl rfl, nd_ne Px.ls 3 6 (by decide) rfl rfl, nd_ne Px.ls 5 6 (by decide) rfl rfl, fun p x y H2 L TA2 htl2 hvl2 hx2 hy2 fr => ?_⟩
              have S2_ := Sz.begun Px TA2 htl2 hvl2 fr (told' := told ++ [(p, cnt S.turns p)]) (lives' := lives ++ [(p, cnt S.turns p)]) ((Sz.tt.keep (Sz.keepT fr)).snoc hx2) ((Sz.vt.keep (Sz.keepT fr)).snoc hy2)
              have Hx2 := Hx.begin W (f := f) L
              have W_ := W.begin (f := f) L
              have hpl := W.least_le L
              have tb := turns_begin (f := f) L.pos hpl
              have bl := begin_len S p f
              have hfd2 : H2 fd = some (.dT F) := S2_.fd
              have lF : F.length < sizeLine := by
                have := congrArg List.length Fx.keys
                rw [List.length_map, List.length_map] at this
                exact small_lt (by omega)
              have aM : atI ((ta ++ [x]).map V.ref) (-1) = some (.ref x) := by
                unfold atI ixN
                rw [List.length_map, List.length_append, List.length_singleton, if_neg (by decide), if_pos (by omega), Option.bind_some, List.getElem?_map, show ((-1 : Int) + ((ta.length + 1 : Nat) : Int)).toNat = ta.length by omega, List.getElem?_append_right (Nat.le_refl _), Nat.sub_self] <;> rfl
              walk_at "go"
              refine ⟨DPut.t (k := fk (p, cnt S.turns p)) hfd2 hx2 lF, ?_⟩
              have S3 := S2_.fig Px (F' := putK F (fk (p, cnt S.turns p)) (.int f))
              have kno : valV F (fk (p, cnt S.turns p)) = none := by
                cases z : valV F (fk (p, cnt S.turns p)) with
                | none => rfl
                | some v =>
                  have m := valV_in z
                  rw [Fx.keys] at m
                  obtain ⟨⟨x1, x2⟩, m1, m2⟩ := List.mem_map.mp m
                  have m3 : x1 = p := by
                    have := congrArg List.head? m2
                    exact Sum.inl.inj (Option.some.inj this)
                  have m4 : x2 = cnt S.turns p := by
                    have := congrArg (fun l => l.tail.head?) m2
                    exact Sum.inl.inj (Option.some.inj this)
                  rw [m3, m4] at m1
                  exact absurd m1 (Hx.new p)
              have Fx2 : Figs (S.begin p f) (told ++ [(p, cnt S.turns p)]) (putK F (fk (p, cnt S.turns p)) (.int f)) := by
                refine ⟨?_, fun e he => ?_⟩
                · rw [putK_new _ kno, List.map_append, List.map_append, Fx.keys] <;> rfl
                · rw [valV_put]
                  rcases List.mem_append.mp (show e ∈ S.live ++ [(p, turnAt S.turns p, f)] from he) with z | z
                  · rw [if_neg, Fx.at_ e z]
                    intro y
                    have := Sum.inl.inj (Option.some.inj (congrArg List.head? y))
                    exact L.out (List.mem_map.mpr ⟨e, z, this⟩)
                  · have e' := List.mem_singleton.mp z
                    subst e'
                    rw [if_pos]
                    show fk (p, turnAt S.turns p) = fk (p, cnt S.turns p)
                    rw [turnAt_cnt]
              have pkk : (S.begin p f).peak = if ((S.begin p f).live.length : Int) > pk then ((S.begin p f).live.length : Int) else pk := by
                rw [begin_len, show pk = S.peak from ep] <;> rfl
              have htl3 := S3.tl
              have hx3 : upd H2 fd (.dT (putK F (fk (p, cnt S.turns p)) (.int f))) x = some (.tup [.int p, .int (cnt S.turns p)]) := upd_get (ne_of hx2 hfd2 (by intro z; cases z)) hx2
              obtain ⟨H3, e3⟩ : ∃ H3, H3 = upd H2 fd (.dT (putK F (fk (p, cnt S.turns p)) (.int f))) := ⟨_, rfl⟩
              rw [← e3] at S3 htl3 hx3
              rw [← e3]
              walk_at "go"
              refine ifD (fun hk => ?_) (fun hk => ?_)
              · have eS := es (by omega)
                subst eS
                obtain ⟨dx3, ho3⟩ := S3.twn.ob
                refine ⟨_, rfl, u2, dx3, _, rfl, ho3, rfl, _, rfl, u2, lt2', dk2', S2, f, rfl, S3.twn, W2, by omega, by omega, fun p' tp H4 L' TW4 htp0 htp k4 => ?_⟩
                have ep' := L'.uniq L
                subst ep'
                rw [turnAt_cnt] at htp
                have S4 := S3.twin Px TW4 k4
                have htl4 := S4.tl
                have hx4 : H4 x = some (.tup [.int p', .int (cnt S2.turns p')]) := k4 _ _ (ne_of hx3 ho3 (by intro z; cases z)) (S3.off hx3 (by simp) (by intro _ z; cases z)) (ne_of hx3 S3.twn.kp (by intro z; cases z)) hx3
                dsimp only at htl4
                walk_at "go"
                refine ⟨pairD_of (p := (p', cnt S2.turns p')) htp, pairD_of (p := (p', cnt S2.turns p')) hx4, rfl, rfl, ?_⟩
                rw [eqv_self (shaped_pair _)]
                refine ⟨_, rfl, ifF rfl ?_⟩
                exact wait ⟨_, _, rfl, _, _, _, _, _, _, _, _, _, rfl, rfl, rfl, rfl, rfl, rfl, rfl, rfl, S4, Px, W_, W_, Hx2, Fx2, pkk, fun _ => rfl, by omega, by rw [List.length_append, List.length_singleton]; omega, by omega, by omega, by omega, by omega⟩
              · exact wait ⟨_, _, rfl, _, _, _, _, _, _, _, _, _, rfl, rfl, rfl, rfl, rfl, rfl, rfl, rfl, S3, Px, W_, W2, Hx2, Fx2, pkk, fun z => absurd z (by omega), by omega, by rw [List.length_append, List.length_singleton]; omega, by omega, by omega, by omega, by omega⟩
            · have hv0 := hc' e
              have hvl0 : H0' vl = some (.lst (va.map V.ref)) := Sy.vl
              have lvm : (va.map V.ref).length = va.length := List.length_map _
              walk_at "go"
              intro j H1' j0 j1 B1' k1'
              have Sz := Sy.draw Px B1' k1'
              have hvl1 : H1' vl = some (.lst (va.map V.ref)) := Sz.vl
              have hsi : seqIndex? j (va.map V.ref).length = some j.toNat := seqIndex_of j0 j1
              rw [lvm] at j1
              obtain ⟨x, hx⟩ : ∃ x, va[j.toNat]? = some x := ⟨_, List.getElem?_eq_getElem (by omega)⟩
              obtain ⟨el, hal⟩ := tups_kof Sz.vt
              have hxt := hal x (List.mem_of_getElem? hx)
              have hld : lives[j.toNat]? = some (kof H1' (.ref x)) := by rw [el, List.getElem?_map, hx] <;> rfl
              obtain ⟨e', he', ek⟩ := Hx.pick (List.mem_of_getElem? hld)
              rw [ek] at hxt hld
              have hgx : (va.map V.ref)[j.toNat]? = some (.ref x) := by rw [List.getElem?_map, hx] <;> rfl
              have S2_ := Sz.out Px (va' := va.eraseIdx j.toNat) (lives' := lives.eraseIdx j.toNat) (fun z hz => List.mem_of_mem_eraseIdx hz) (paired_erase _ Sz.vt)
              have hx2 : upd H1' vl (.lst ((va.eraseIdx j.toNat).map V.ref)) x = some (.tup [.int e'.1, .int e'.2.1]) := upd_get (ne_of hxt hvl1 (by intro z; cases z)) hxt
              rw [← map_erase] at hx2
              obtain ⟨H2, e2⟩ : ∃ H2, H2 = upd H1' vl (.lst ((va.map V.ref).eraseIdx j.toNat)) := ⟨_, rfl⟩
              rw [← e2] at hx2
              rw [← map_erase, ← e2] at S2_
              obtain ⟨dx2, ho2⟩ := S2_.tab.ob
              obtain ⟨Hx2, len2⟩ := Hx.end W he' hld
              have W_ := W.end e'.1
              walk_at "go"
              rw [← e2]
              refine ⟨ho2, rfl, _, rfl, t, lt', dk', x, S, e'.1, e'.2.1, rfl, S2_.tab, W, SqT.of hx2, fun d hd h1 h2 H3 TA3 k3 => ?_, fun nh => absurd nh (live_begun W he'), fun eh => absurd ⟨e', he', rfl, rfl⟩ eh.2⟩
              have ed := live_uniq W hd he' h1
              subst ed
              have S3 := S2_.tabE Px TA3 k3
              have hx3 := k3 _ _ (ne_of hx2 S2_.tab.kp (by intro z; cases z)) hx2
              have hg3 : DGet H3 fd (.ref x) (some (.int d.2.2)) := by
                have := DGet.t (k := fk (d.1, d.2.1)) S3.fd hx3
                rw [Fx.at_ d hd] at this
                exact this
              have Fx2 : Figs (S.end d.1) told F := ⟨Fx.keys, fun e he => Fx.at_ e (List.mem_filter.mp he).1⟩
              have pkk : (S.end d.1).peak = if ((S.end d.1).live.length : Int) > pk then ((S.end d.1).live.length : Int) else pk := by
                have := Hx.pk
                have ep2 : pk = S.peak := ep
                rw [if_neg (by omega), ep2] <;> rfl
              walk_at "go"
              refine ifNN rfl ?_
              walk_at "go"
              refine ifD (fun hk => ?_) (fun hk => ?_)
              · have eS := es (by omega)
                subst eS
                obtain ⟨dx3, ho3⟩ := S3.twn.ob
                refine ⟨_, rfl, u2, dx3, _, rfl, ho3, rfl, _, rfl, u2, lt2', dk2', x, S2, d.1, d.2.1, rfl, S3.twn, W2, SqT.of hx3, fun d' hd' h1' h2' H4 TW4 k4 => ?_, fun nh => absurd nh (live_begun W he'), fun eh => absurd ⟨d, he', rfl, rfl⟩ eh.2⟩
                have ed' := live_uniq W hd' he' h1'
                subst ed'
                have S4 := S3.twin Px TW4 fun y o _ _ m => k4 y o m
                have hx4 := k4 _ _ (ne_of hx3 S3.twn.kp (by intro z; cases z)) hx3
                have hg4 : DGet H4 fd (.ref x) (some (.int d'.2.2)) := by
                  have := DGet.t (k := fk (d'.1, d'.2.1)) S4.fd hx4
                  rw [Fx.at_ d' hd'] at this
                  exact this
                walk_at "go"
                refine ifNN rfl ?_
                exact wait ⟨_, _, rfl, _, _, _, _, _, _, _, _, _, rfl, rfl, rfl, rfl, rfl, rfl, rfl, rfl, S4, Px, W_, W_, Hx2, Fx2, pkk, fun _ => rfl, by omega, by omega, by show S2.turns.length ≤ _; omega, by show S2.turns.length ≤ _; omega, by omega, by omega⟩
              · exact wait ⟨_, _, rfl, _, _, _, _, _, _, _, _, _, rfl, rfl, rfl, rfl, rfl, rfl, rfl, rfl, S3, Px, W_, W2, Hx2, Fx2, pkk, fun z => absurd z (by omega), by omega, by omega, by show S.turns.length ≤ _; omega, by omega, by omega, by omega⟩
        · clear Sx Px W W2 Hx Fx ep es z1 z2 z3 z4 z5 z6
          rintro σ Hk ⟨v11, v12, rfl, ⟨b', g', l', t', lt', dk', t2', lt2', dk2', tl', vl', fd'⟩, n, S, S2, ta, va, told, lives, F, q1, q2, q3, q4, q5, q6, q7, q8, Sx, Px, W, W2, Hx, Fx, ep, es, z1, z2, z3, z4, z5, z6⟩
          dsimp only at q1 q2 q3 q4 q5 q6 q7 q8
          subst q1 q2 q3 q4 q5 q6 q7 q8
          have hvlk : Hk vl = some (.lst (va.map V.ref)) := Sx.vl
          have lenv : va.length = lives.length := Sx.vt.len
          have llv : lives.length = S.live.length := by rw [Hx.lv.length_eq, List.length_map]
          have lvm : (va.map V.ref).length = va.length := List.length_map _
          obtain ⟨dxk, hok⟩ := Sx.tab.ob
          have TAk := Sx.tab
          dsimp only at TAk hok
          walk_at "go"
          intro D ys xs H1' perm srt hD hD1 dp s1'
          have Sx1 := Sx.same s1'
          have hvl1 : H1' vl = some (.lst (va.map V.ref)) := Sx1.vl
          have TA1 := Sx1.tab
          refine ⟨_, rfl, vl, va, lives, rfl, SqL.of hvl1, Sx1.vt, fun d ts2 ps2 pp ss tt2 hd => ?_⟩
          have s2' : Same H1' (upd H1' d (.lst (ts2.map V.ref))) := Same.upd_new hd
          have Sx2 := Sx1.same s2'
          have hvl2 : upd H1' d (.lst (ts2.map V.ref)) vl = some (.lst (va.map V.ref)) := Sx2.vl
          obtain ⟨dx2, ho2⟩ := Sx2.tab.ob
          have TA2 := Sx2.tab
          dsimp only at TA2 ho2
          have eps := told_sorted W Hx pp ss perm srt
          have dD : Dp K (upd H1' d (.lst (ts2.map V.ref))) (.ref D) (.list (Pf.told S ys)) := .lst (SqL.of (s2' _ _ hD1)) (dp.same s2')
          have dd2 : Dp K (upd H1' d (.lst (ts2.map V.ref))) (.ref d) (.list (Pf.told S ys)) := .lst (SqL.of upd_same) (by rw [told_pairs, ← eps]; exact (tt2.keep fun _ _ e => s2' _ _ e).dp)
          refine ⟨_, _, dD, dd2, told_shaped _ _, told_shaped _ _, ?_⟩
          rw [eqv_self (told_shaped _ _)]
          refine ⟨_, rfl, ifF rfl ?_⟩
          walk_at "go"
          refine ifNN (congrArg V.int (by rw [lvm, lenv, llv])) ?_
          walk_at "go"
          refine ifNN (congrArg V.int (by rw [ep, lvm, lenv, llv])) ?_
          exact wait ⟨_, _, _, _, _, rfl, _, _, _, _, _, _, _, _, _, rfl, rfl, rfl, rfl, rfl, rfl, rfl, rfl, Sx2, Px, W, W2, Hx, Fx, (show (if ((va.map V.ref).length : Int) > pk then ((va.map V.ref).length : Int) else pk) = S.peak by rw [ep, lvm, lenv, llv]), fun z => es (by omega), z1, z2, z3, z4, z5, z6⟩
    · rintro σ Hc ⟨u2, pk, w10, w11, w12, rfl, ⟨b', g', l', t', lt', dk', t2', lt2', dk2', tl', vl', fd'⟩, n, S, S2, ta, va, told, lives, F, q1, q2, q3, q4, q5, q6, q7, q8, Sx, Px, W, W2, Hx, Fx, ep, es, z1, z2, z3, z4, z5, z6⟩
      dsimp only at q1 q2 q3 q4 q5 q6 q7 q8
      subst q1 q2 q3 q4 q5 q6 q7 q8
      have eN : ((20 + r).toNat : Int) = 20 + r := by omega
      have TAc : TabAt a.c_Table Hc t lt' dk' S := Sx.tab
      have TWc : TabAt a.c_Table Hc u2 lt2' dk2' S2 := Sx.twn
      obtain ⟨dxc, hoc⟩ := TAc.ob
      obtain ⟨dxw, how⟩ := TWc.ob
      refine midT_of (fun c' H' => c' = false ∧ Same Hc H') ?_ ?_
      · walk_at "go"
        refine ifD (fun hs => ?_) (fun hs => ?_)
        · have eS := es (by omega)
          subst eS
          walk_at "go"
          intro D1 ys1 xs1 H1' perm1 srt1 hD1 hD1' dp1 s1'
          have TA1 := TAc.same s1'
          have ho1 := s1' _ _ hoc
          walk_at "go"
          intro D2 ys2 xs2 H2' perm2 srt2 hD2 hD2' dp2 s2'
          have eys : ys2 = ys1 := sorted_same (perm2.trans perm1.symm) srt2 srt1
          subst eys
          have how2 := s2' _ _ (s1' _ _ how)
          have TW2 := (TWc.same s1').same s2'
          have d1 : Dp K H2' (.ref D1) (.list (Pf.told S2 ys2)) := .lst (SqL.of (s2' _ _ hD1')) (dp1.same s2')
          have d2 : Dp K H2' (.ref D2) (.list (Pf.told S2 ys2)) := .lst (SqL.of hD2') dp2
          refine ⟨_, _, d1, d2, told_shaped _ _, told_shaped _ _, ?_⟩
          rw [eqv_self (told_shaped _ _)]
          refine ⟨_, rfl, ifF rfl ?_⟩
          walk_at "go"
          have epk : pk = S2.peak := ep
          exact wait ⟨by rw [epk, decide_eq_true rfl] <;> rfl, s1'.trans s2'⟩
        · exact wait ⟨rfl, Same.refl _⟩
      · rintro c' Hd ⟨rfl, sd⟩
        have Sd := Sx.same sd
        refine ifF rfl ?_
        refine sq_seq ?_
        have lent : ta.length = told.length := Sd.tt.len
        refine while_W (fun m σ H' => σ = [some (.ref c), some (.ref b), some (.int busy), some (.int spr), some (.ref t), some (.ref u2), some (.ref tl), some (.ref vl), some (.ref fd), some (.int pk), w10, w11, w12] ∧ ∃ (n : Int) (S : Tb) (va : List Addr) (lives : List (Int × Int)), Sc a.c_Table H' ⟨b, g, l, t, lt', dk', u2, lt2', dk2', tl, vl, fd⟩ n S S2 ta va told lives F ∧ Wf S ∧ Hist S told lives ∧ lives.length = m ∧ m ≤ 1000 ∧ n + m ≤ 5000) lives.length ?_ ?_
        · exact ⟨rfl, n, S, va, lives, Sd, W, Hx, rfl, by have := Hx.lv.length_eq; rw [List.length_map] at this; omega, by have := Hx.lv.length_eq; rw [List.length_map] at this; omega⟩
        · clear Sx Sd W Hx TAc TWc hoc how z5
          rintro m σ He ⟨rfl, n, S, va, lives, Sx, W, Hx, hm, hm2, hn⟩
          have hvle : He vl = some (.lst (va.map V.ref)) := Sx.vl
          have lenv : va.length = lives.length := Sx.vt.len
          have llv : lives.length = S.live.length := by rw [Hx.lv.length_eq, List.length_map]
          have lvm : (va.map V.ref).length = va.length := List.length_map _
          have Bx : BoxAt He b g l n := Sx.box
          have TAe : TabAt a.c_Table He t lt' dk' S := Sx.tab
          obtain ⟨dxe, hoe⟩ := TAe.ob
          walk_at "go"
          refine ifD (fun hp => next_W ?_) (fun hp => ?_)
          · walk_at "go"
            intro j H1' j0 j1 B1' k1'
            have Sz := Sx.draw Px B1' k1'
            have hvl1 : H1' vl = some (.lst (va.map V.ref)) := Sz.vl
            have hsi : seqIndex? j (va.map V.ref).length = some j.toNat := seqIndex_of j0 j1
            rw [lvm] at j1
            obtain ⟨x, hx⟩ : ∃ x, va[j.toNat]? = some x := ⟨_, List.getElem?_eq_getElem (by omega)⟩
            obtain ⟨el, hal⟩ := tups_kof Sz.vt
            have hxt := hal x (List.mem_of_getElem? hx)
            have hld : lives[j.toNat]? = some (kof H1' (.ref x)) := by rw [el, List.getElem?_map, hx] <;> rfl
            obtain ⟨e', he', ek⟩ := Hx.pick (List.mem_of_getElem? hld)
            rw [ek] at hxt hld
            have hgx : (va.map V.ref)[j.toNat]? = some (.ref x) := by rw [List.getElem?_map, hx] <;> rfl
            have S2_ := Sz.out Px (va' := va.eraseIdx j.toNat) (lives' := lives.eraseIdx j.toNat) (fun z hz => List.mem_of_mem_eraseIdx hz) (paired_erase _ Sz.vt)
            have hx2 : upd H1' vl (.lst ((va.eraseIdx j.toNat).map V.ref)) x = some (.tup [.int e'.1, .int e'.2.1]) := upd_get (ne_of hxt hvl1 (by intro z; cases z)) hxt
            rw [← map_erase] at hx2
            obtain ⟨H2, e2⟩ : ∃ H2, H2 = upd H1' vl (.lst ((va.map V.ref).eraseIdx j.toNat)) := ⟨_, rfl⟩
            rw [← e2] at hx2
            rw [← map_erase, ← e2] at S2_
            obtain ⟨Hx2, len2⟩ := Hx.end W he' hld
            have lm : (lives.eraseIdx j.toNat).length + 1 = m := by
              rw [List.length_eraseIdx_of_lt (by omega)]
              omega
            refine ⟨vl, va.map V.ref, j, j.toNat, .ref x, rfl, rfl, hvl1, by omega, by omega, hsi, hgx, ?_⟩
            rw [← e2]
            refine ⟨t, lt', dk', x, S, e'.1, e'.2.1, rfl, S2_.tab, W, SqT.of hx2, fun d hd h1 h2 H3 TA3 k3 => ?_, fun nh => absurd nh (live_begun W he'), fun eh => absurd ⟨e', he', rfl, rfl⟩ eh.2⟩
            have ed := live_uniq W hd he' h1
            subst ed
            exact wait ⟨m - 1, by omega, rfl, _, _, _, _, S2_.tabE Px TA3 k3, W.end _, Hx2, by omega, by omega, by omega⟩
          · have m0 : lives = [] := List.eq_nil_of_length_eq_zero (by omega)
            have l0 : S.live = [] := List.eq_nil_of_length_eq_zero (by omega)
            walk_at "go"
            intro D ys xs H1' perm srt hD hD1 dp s1'
            walk_at "go"
            intro E' hE'
            have ey : ys = [] := by
              have := perm
              rw [show S.keys = [] by show S.live.map _ = []; rw [l0] <;> rfl] at this
              exact this.eq_nil
            subst ey
            have s2' : Same H1' (upd H1' E' (.lst [])) := Same.upd_new hE'
            have s12 : Same He (upd H1' E' (.lst [])) := s1'.trans s2'
            have Sy := Sx.same s12
            obtain ⟨H2, e2⟩ : ∃ H2, H2 = upd H1' E' (.lst []) := ⟨_, rfl⟩
            have hE2 : H2 E' = some (.lst []) := by rw [e2, upd_same]
            rw [← e2] at Sy s12 s2'
            rw [← e2]
            have dD : Dp K H2 (.ref D) (.list []) := .lst (SqL.of (s2' _ _ hD1)) (dp.same s2')
            have dE : Dp K H2 (.ref E') (.list []) := .lst (SqL.of hE2) .nil
            have htl2 : H2 tl = some (.lst (ta.map V.ref)) := Sy.tl
            obtain ⟨et, hat⟩ := tups_kof Sy.tt
            refine ⟨_, _, dD, dE, rfl, rfl, ?_⟩
            rw [eqv_self rfl]
            obtain ⟨ks, eks⟩ : ∃ ks : List (Addr × List Int), ks = ta.map fun x => (x, [(kof H2 (.ref x)).1, (kof H2 (.ref x)).2]) := ⟨_, rfl⟩
            have k1 : (ks.map fun p => V.ref p.1) = ta.map V.ref := by rw [eks, List.map_map] <;> rfl
            have k2 : (ks.map (·.2)) = told.map fun p => [p.1, p.2] := by rw [eks, List.map_map, et, List.map_map] <;> rfl
            have k3 : (ks.map (·.2)).Nodup := by
              rw [k2]
              refine List.Pairwise.map _ (fun p q ne e => ne ?_) Hx.nd
              have e1 := List.cons.inj e
              have e2 := List.cons.inj e1.2
              exact Prod.ext e1.1 e2.1
            have k4 : ks.length = ta.length := by rw [eks, List.length_map]
            refine ⟨_, rfl, ifT rfl ?_⟩
            refine ⟨_, rfl, tl, ks, rfl, by rw [k1]; exact SqL.of htl2, fun p hp => ?_, k3, by omega, ?_⟩
            · rw [eks] at hp
              obtain ⟨x, hx, rfl⟩ := List.mem_map.mp hp
              exact SqT.of (hat x hx)
            walk_at "go"
            refine ifYes (congrArg V.int (by rw [k4, List.length_map])) ?_
            walk_at "go"
            intro B hB
            have nBt : tl ≠ B := ne_of_none htl2 hB
            refine lcL (K := K) (a := tl) (xs := ta.map V.ref) (fun i H' => ∃ bs : List Bool, H' B = some (.lst (bs.map V.bl)) ∧ bs = (told.take i).map (fun _ => true) ∧ Same H2 H') ?_ ?_ ?_ ?_
            · exact ⟨[], upd_same, rfl, Same.upd_new hB⟩
            · rintro i H' _ ⟨_, _, _, h⟩
              exact SqL.of (h _ _ htl2)
            · rintro i y H' hi ⟨bs, h4, h5, h6⟩
              obtain ⟨x, hx, rfl⟩ : ∃ x, ta[i]? = some x ∧ y = .ref x := by
                rw [List.getElem?_map] at hi
                obtain ⟨x, hx, e⟩ := Option.map_eq_some_iff.mp hi
                exact ⟨x, hx, e.symm⟩
              have hx6 := h6 _ _ (hat x (List.mem_of_getElem? hx))
              have htd : told[i]? = some (kof H2 (.ref x)) := by rw [et, List.getElem?_map, hx] <;> rfl
              have hend := Hx.ended l0 (List.mem_of_getElem? htd)
              have TA6 := (show TabAt a.c_Table H2 t lt' dk' S from Sy.tab).same h6
              refine ⟨rfl, ?_⟩
              walk_at "go"
              intro H7 s7
              refine ⟨_, s7 _ _ h4, small_lt (by rw [List.length_map, h5, List.length_map, List.length_take]; omega), wait ⟨bs ++ [true], ?_, ?_, fun b' o eb => ?_⟩⟩
              · rw [upd_same, List.map_append] <;> rfl
              · rw [h5, List.take_add_one, htd, Option.toList_some, List.map_append] <;> rfl
              · rw [upd_ne (ne_of_none eb hB)]
                exact s7 _ _ (h6 _ _ eb)
            · rintro H5 ⟨bs, h4, h5, h6⟩
              have hall : bs.all id = true := by
                rw [h5]
                induction (told.take (ta.map V.ref).length) with
                | nil => rfl
                | cons _ _ ih => exact ih
              walk_at "go"
              rw [hall]
              exact q _
end
end Pf
set_option Elab.async false
set_option linter.all false
set_option maxRecDepth 100000
set_option maxHeartbeats 4000000
namespace Pf
open PySem L2
theorem kb_of {K : PySem.W.Frag} {x qual : Str} {st : Stmt} {f : Addr} {fd : FuncData} {ps ks : List Str} (F : Fun K x qual st f fd) (hp : ps.length = 2)
    (h : ∀ (kV doc pm : Value) (an : Option Addr) (cdv ct : Value) (u v : Value), bindArgs (PySem.W.fnOf x qual (defArgs st) (defBody st) (defScope st) .none kV doc pm an cdv ct) ⟨[u], ks.zip [v]⟩ = pure (ps.zip [u, v])) : KBinds K fd ps ks kbG kbV := by
  obtain ⟨oc, od, kV, doc, pm, an, cdv, ct, osl, rfl, lk, hcd⟩ := F.ex
  constructor
  · intro s us ws _ hl
    match us, ws, hl with
    | [u], [v], _ => exact .of_eq (h kV doc pm an cdv ct u v)
    | [], _, hl => rw [hp] at hl; cases hl
    | [_], [], hl => rw [hp] at hl; cases hl
    | [_], _ :: _ :: _, hl => rw [hp] at hl; cases hl
    | _ :: _ :: _, _, hl => rw [hp] at hl; cases hl
  · intro vs us zs ws r1 r2
    match vs, us, zs, ws, r1, r2 with
    | [_], [_], [_], [_], .cons a .nil, .cons b .nil => exact .cons a (.cons b .nil)
    | [], [], _, _, .nil, _ => exact .nil
    | [_], [_], [], [], .cons _ .nil, .nil => exact .nil
    | [_], [_], _ :: _ :: _, _ :: _ :: _, .cons _ .nil, .cons _ (.cons _ _) => exact .nil
    | _ :: _ :: _, _ :: _ :: _, _, _, .cons _ (.cons _ _), _ => exact .nil
theorem all_mk {K : PySem.W.Frag} {h : Heap} {mg : Str → Option Value} (X : K.In h) (G : h.Ns mainGlobals mg)
    {cc_Table : Addr}
    {cc_PactError : Addr}
    {cc_NoHandle : Addr}
    {nm_NoHandle qq_NoHandle : Str} {NN_NoHandle : Addr} {bs_NoHandle : List Value} {sn_NoHandle : List Str} {su_NoHandle : List Value} {ab_NoHandle : Bool} {co_NoHandle : Option Bool} {ddd_NoHandle : Option Addr} {m0_NoHandle m1_NoHandle m2_NoHandle m3_NoHandle m5_NoHandle : Option Value}
    {cc_Ended : Addr}
    {nm_Ended qq_Ended : Str} {NN_Ended : Addr} {bs_Ended : List Value} {sn_Ended : List Str} {su_Ended : List Value} {ab_Ended : Bool} {co_Ended : Option Bool} {ddd_Ended : Option Addr} {m0_Ended m1_Ended m2_Ended m3_Ended m5_Ended : Option Value}
    {ff_NoHandle___init__ : Addr} {od_NoHandle___init__ an_NoHandle___init__ : Option Addr} {sl_NoHandle___init__ : Array (Option Value)} {oc_NoHandle___init__ kV_NoHandle___init__ dc_NoHandle___init__ pm_NoHandle___init__ cd_NoHandle___init__ ct_NoHandle___init__ : Value}
    {ff_Ended___init__ : Addr} {od_Ended___init__ an_Ended___init__ : Option Addr} {sl_Ended___init__ : Array (Option Value)} {oc_Ended___init__ kV_Ended___init__ dc_Ended___init__ pm_Ended___init__ cd_Ended___init__ ct_Ended___init__ : Value}
    {ff_Table___init__ : Addr} {od_Table___init__ an_Table___init__ : Option Addr} {sl_Table___init__ : Array (Option Value)} {oc_Table___init__ kV_Table___init__ dc_Table___init__ pm_Table___init__ cd_Table___init__ ct_Table___init__ : Value}
    {ff_Table_begin : Addr} {od_Table_begin an_Table_begin : Option Addr} {sl_Table_begin : Array (Option Value)} {oc_Table_begin kV_Table_begin dc_Table_begin pm_Table_begin cd_Table_begin ct_Table_begin : Value}
    {ff_Table_need : Addr} {od_Table_need an_Table_need : Option Addr} {sl_Table_need : Array (Option Value)} {oc_Table_need kV_Table_need dc_Table_need pm_Table_need cd_Table_need ct_Table_need : Value}
    {ff_Table_look : Addr} {od_Table_look an_Table_look : Option Addr} {sl_Table_look : Array (Option Value)} {oc_Table_look kV_Table_look dc_Table_look pm_Table_look cd_Table_look ct_Table_look : Value}
    {ff_Table_end : Addr} {od_Table_end an_Table_end : Option Addr} {sl_Table_end : Array (Option Value)} {oc_Table_end kV_Table_end dc_Table_end pm_Table_end cd_Table_end ct_Table_end : Value}
    {ff_Table_alive : Addr} {od_Table_alive an_Table_alive : Option Addr} {sl_Table_alive : Array (Option Value)} {oc_Table_alive kV_Table_alive dc_Table_alive pm_Table_alive cd_Table_alive ct_Table_alive : Value}
    {ff_Table_most : Addr} {od_Table_most an_Table_most : Option Addr} {sl_Table_most : Array (Option Value)} {oc_Table_most kV_Table_most dc_Table_most pm_Table_most cd_Table_most ct_Table_most : Value}
    {ff_Table_twin : Addr} {od_Table_twin an_Table_twin : Option Addr} {sl_Table_twin : Array (Option Value)} {oc_Table_twin kV_Table_twin dc_Table_twin pm_Table_twin cd_Table_twin ct_Table_twin : Value}
    {ff_Table___len__ : Addr} {od_Table___len__ an_Table___len__ : Option Addr} {sl_Table___len__ : Array (Option Value)} {oc_Table___len__ kV_Table___len__ dc_Table___len__ pm_Table___len__ cd_Table___len__ ct_Table___len__ : Value}
    {ff__law_box : Addr} {od__law_box an__law_box : Option Addr} {sl__law_box : Array (Option Value)} {oc__law_box kV__law_box dc__law_box pm__law_box cd__law_box ct__law_box : Value}
    {ff__law_mixed : Addr} {od__law_mixed an__law_mixed : Option Addr} {sl__law_mixed : Array (Option Value)} {oc__law_mixed kV__law_mixed dc__law_mixed pm__law_mixed cd__law_mixed ct__law_mixed : Value}
    {ff__law_take : Addr} {od__law_take an__law_take : Option Addr} {sl__law_take : Array (Option Value)} {oc__law_take kV__law_take dc__law_take pm__law_take cd__law_take ct__law_take : Value}
    {ff__law_ended : Addr} {od__law_ended an__law_ended : Option Addr} {sl__law_ended : Array (Option Value)} {oc__law_ended kV__law_ended dc__law_ended pm__law_ended cd__law_ended ct__law_ended : Value}
    {ff__law_begin : Addr} {od__law_begin an__law_begin : Option Addr} {sl__law_begin : Array (Option Value)} {oc__law_begin kV__law_begin dc__law_begin pm__law_begin cd__law_begin ct__law_begin : Value}
    {ff_law : Addr} {od_law an_law : Option Addr} {sl_law : Array (Option Value)} {oc_law kV_law dc_law pm_law cd_law ct_law : Value}
    (aC_Table : PySem.W.nsIn K mainGlobals "Table" = some (some (.ref cc_Table)))
    (pg_Table : PySem.W.plainGet K cc_Table Str.empty = true)
    (hd_Table : PySem.W.hasDictIn K cc_Table = true)
    (po_Table : PySem.W.plainOver K cc_Table = true)
    (sa_Table : PySem.W.findIn K (.ref cc_Table) "__setattr__" = some (some (.builtin "object.__setattr__")))
    (mk_Table : PySem.W.makesIn K cc_Table = true)
    (kc_Table : PySem.W.keepIn K (.ref cc_Table) = true)
    (na_Table_turns : PySem.W.findIn K (.ref cc_Table) "turns" = some none)
    (na_Table_kept : PySem.W.findIn K (.ref cc_Table) "kept" = some none)
    (na_Table_peak : PySem.W.findIn K (.ref cc_Table) "peak" = some none)
    (aC_PactError : PySem.W.nsIn K mainGlobals "PactError" = some (some (.ref cc_PactError)))
    (bE_PactError : PySem.W.subIn K (.ref cc_PactError) (.type "BaseException") = some true)
    (hd_PactError : PySem.W.hasDictIn K cc_PactError = true)
    (ty_PactError : PySem.W.typeIn K (.ref cc_PactError) = some (.type "type"))
    (aC_NoHandle : PySem.W.nsIn K mainGlobals "NoHandle" = some (some (.ref cc_NoHandle)))
    (bE_NoHandle : PySem.W.subIn K (.ref cc_NoHandle) (.type "BaseException") = some true)
    (hd_NoHandle : PySem.W.hasDictIn K cc_NoHandle = true)
    (ty_NoHandle : PySem.W.typeIn K (.ref cc_NoHandle) = some (.type "type"))
    (xL_NoHandle : K.lookup cc_NoHandle = some (excClassObj nm_NoHandle qq_NoHandle cc_NoHandle NN_NoHandle bs_NoHandle [.ref cc_PactError, .type "ValueError", .type "Exception", .type "BaseException", .type "object"] true sn_NoHandle su_NoHandle ab_NoHandle co_NoHandle ddd_NoHandle m0_NoHandle m1_NoHandle m2_NoHandle m3_NoHandle m5_NoHandle "ValueError.__new__"))
    (sa_NoHandle : PySem.W.findIn K (.ref cc_NoHandle) "__setattr__" = some (some (.builtin "object.__setattr__")))
    (ga_NoHandle : PySem.W.findIn K (.ref cc_NoHandle) "__getattribute__" = some (some (.builtin "BaseException.__getattribute__")))
    (gg_NoHandle : PySem.W.findIn K (.ref cc_NoHandle) "__getattr__" = some none)
    (kc_NoHandle : PySem.W.keepIn K (.ref cc_NoHandle) = true)
    (cc__NoHandle : PySem.W.findIn K (.ref cc_NoHandle) "__class__" = some (some (.builtin "object.__class__")))
    (mo_NoHandle : PySem.W.mroIn K cc_NoHandle (.type "object") = some true)
    (na_NoHandle_handle : PySem.W.findIn K (.ref cc_NoHandle) "handle" = some none)
    (aC_Ended : PySem.W.nsIn K mainGlobals "Ended" = some (some (.ref cc_Ended)))
    (bE_Ended : PySem.W.subIn K (.ref cc_Ended) (.type "BaseException") = some true)
    (hd_Ended : PySem.W.hasDictIn K cc_Ended = true)
    (ty_Ended : PySem.W.typeIn K (.ref cc_Ended) = some (.type "type"))
    (xL_Ended : K.lookup cc_Ended = some (excClassObj nm_Ended qq_Ended cc_Ended NN_Ended bs_Ended [.ref cc_PactError, .type "ValueError", .type "Exception", .type "BaseException", .type "object"] true sn_Ended su_Ended ab_Ended co_Ended ddd_Ended m0_Ended m1_Ended m2_Ended m3_Ended m5_Ended "ValueError.__new__"))
    (sa_Ended : PySem.W.findIn K (.ref cc_Ended) "__setattr__" = some (some (.builtin "object.__setattr__")))
    (ga_Ended : PySem.W.findIn K (.ref cc_Ended) "__getattribute__" = some (some (.builtin "BaseException.__getattribute__")))
    (gg_Ended : PySem.W.findIn K (.ref cc_Ended) "__getattr__" = some none)
    (kc_Ended : PySem.W.keepIn K (.ref cc_Ended) = true)
    (cc__Ended : PySem.W.findIn K (.ref cc_Ended) "__class__" = some (some (.builtin "object.__class__")))
    (mo_Ended : PySem.W.mroIn K cc_Ended (.type "object") = some true)
    (na_Ended_handle : PySem.W.findIn K (.ref cc_Ended) "handle" = some none)
    (sGet : PySem.W.specialIn K (.builtin "object.__class__") "__get__" = some (some (.builtin "getset_descriptor.__get__")))
    (tGet : PySem.W.takesIn K (.builtin "object.__class__") = some true)
    (su_Ended_Ended : PySem.W.subIn K (.ref cc_Ended) (.ref cc_Ended) = some true)
    (su_NoHandle_Ended : PySem.W.subIn K (.ref cc_NoHandle) (.ref cc_Ended) = some false)
    (a_NoHandle___init__ : PySem.W.findIn K (.ref cc_NoHandle) "__init__" = some (some (.ref ff_NoHandle___init__)))
    (i_NoHandle___init__ : PySem.W.isFn K (.ref ff_NoHandle___init__) = true)
    (l_NoHandle___init__ : K.lookup ff_NoHandle___init__ = some ⟨oc_NoHandle___init__, od_NoHandle___init__, .func (PySem.W.fnOf "__init__" "NoHandle.__init__" (defArgs s_NoHandle___init__) (defBody s_NoHandle___init__) (defScope s_NoHandle___init__) .none kV_NoHandle___init__ dc_NoHandle___init__ pm_NoHandle___init__ an_NoHandle___init__ cd_NoHandle___init__ ct_NoHandle___init__), sl_NoHandle___init__⟩)
    (c_NoHandle___init__ : PySem.W.codeIn K cd_NoHandle___init__ "NoHandle.__init__" = true)
    (k_NoHandle___init__ : PySem.W.keepIn K (.ref ff_NoHandle___init__) = true)
    (a_Ended___init__ : PySem.W.findIn K (.ref cc_Ended) "__init__" = some (some (.ref ff_Ended___init__)))
    (i_Ended___init__ : PySem.W.isFn K (.ref ff_Ended___init__) = true)
    (l_Ended___init__ : K.lookup ff_Ended___init__ = some ⟨oc_Ended___init__, od_Ended___init__, .func (PySem.W.fnOf "__init__" "Ended.__init__" (defArgs s_Ended___init__) (defBody s_Ended___init__) (defScope s_Ended___init__) .none kV_Ended___init__ dc_Ended___init__ pm_Ended___init__ an_Ended___init__ cd_Ended___init__ ct_Ended___init__), sl_Ended___init__⟩)
    (c_Ended___init__ : PySem.W.codeIn K cd_Ended___init__ "Ended.__init__" = true)
    (k_Ended___init__ : PySem.W.keepIn K (.ref ff_Ended___init__) = true)
    (a_Table___init__ : PySem.W.findIn K (.ref cc_Table) "__init__" = some (some (.ref ff_Table___init__)))
    (i_Table___init__ : PySem.W.isFn K (.ref ff_Table___init__) = true)
    (l_Table___init__ : K.lookup ff_Table___init__ = some ⟨oc_Table___init__, od_Table___init__, .func (PySem.W.fnOf "__init__" "Table.__init__" (defArgs s_Table___init__) (defBody s_Table___init__) (defScope s_Table___init__) .none kV_Table___init__ dc_Table___init__ pm_Table___init__ an_Table___init__ cd_Table___init__ ct_Table___init__), sl_Table___init__⟩)
    (c_Table___init__ : PySem.W.codeIn K cd_Table___init__ "Table.__init__" = true)
    (k_Table___init__ : PySem.W.keepIn K (.ref ff_Table___init__) = true)
    (a_Table_begin : PySem.W.findIn K (.ref cc_Table) "begin" = some (some (.ref ff_Table_begin)))
    (i_Table_begin : PySem.W.isFn K (.ref ff_Table_begin) = true)
    (l_Table_begin : K.lookup ff_Table_begin = some ⟨oc_Table_begin, od_Table_begin, .func (PySem.W.fnOf "begin" "Table.begin" (defArgs s_Table_begin) (defBody s_Table_begin) (defScope s_Table_begin) .none kV_Table_begin dc_Table_begin pm_Table_begin an_Table_begin cd_Table_begin ct_Table_begin), sl_Table_begin⟩)
    (c_Table_begin : PySem.W.codeIn K cd_Table_begin "Table.begin" = true)
    (k_Table_begin : PySem.W.keepIn K (.ref ff_Table_begin) = true)
    (a_Table_need : PySem.W.findIn K (.ref cc_Table) "need" = some (some (.ref ff_Table_need)))
    (i_Table_need : PySem.W.isFn K (.ref ff_Table_need) = true)
    (l_Table_need : K.lookup ff_Table_need = some ⟨oc_Table_need, od_Table_need, .func (PySem.W.fnOf "need" "Table.need" (defArgs s_Table_need) (defBody s_Table_need) (defScope s_Table_need) .none kV_Table_need dc_Table_need pm_Table_need an_Table_need cd_Table_need ct_Table_need), sl_Table_need⟩)
    (c_Table_need : PySem.W.codeIn K cd_Table_need "Table.need" = true)
    (k_Table_need : PySem.W.keepIn K (.ref ff_Table_need) = true)
    (a_Table_look : PySem.W.findIn K (.ref cc_Table) "look" = some (some (.ref ff_Table_look)))
    (i_Table_look : PySem.W.isFn K (.ref ff_Table_look) = true)
    (l_Table_look : K.lookup ff_Table_look = some ⟨oc_Table_look, od_Table_look, .func (PySem.W.fnOf "look" "Table.look" (defArgs s_Table_look) (defBody s_Table_look) (defScope s_Table_look) .none kV_Table_look dc_Table_look pm_Table_look an_Table_look cd_Table_look ct_Table_look), sl_Table_look⟩)
    (c_Table_look : PySem.W.codeIn K cd_Table_look "Table.look" = true)
    (k_Table_look : PySem.W.keepIn K (.ref ff_Table_look) = true)
    (a_Table_end : PySem.W.findIn K (.ref cc_Table) "end" = some (some (.ref ff_Table_end)))
    (i_Table_end : PySem.W.isFn K (.ref ff_Table_end) = true)
    (l_Table_end : K.lookup ff_Table_end = some ⟨oc_Table_end, od_Table_end, .func (PySem.W.fnOf "end" "Table.end" (defArgs s_Table_end) (defBody s_Table_end) (defScope s_Table_end) .none kV_Table_end dc_Table_end pm_Table_end an_Table_end cd_Table_end ct_Table_end), sl_Table_end⟩)
    (c_Table_end : PySem.W.codeIn K cd_Table_end "Table.end" = true)
    (k_Table_end : PySem.W.keepIn K (.ref ff_Table_end) = true)
    (a_Table_alive : PySem.W.findIn K (.ref cc_Table) "alive" = some (some (.ref ff_Table_alive)))
    (i_Table_alive : PySem.W.isFn K (.ref ff_Table_alive) = true)
    (l_Table_alive : K.lookup ff_Table_alive = some ⟨oc_Table_alive, od_Table_alive, .func (PySem.W.fnOf "alive" "Table.alive" (defArgs s_Table_alive) (defBody s_Table_alive) (defScope s_Table_alive) .none kV_Table_alive dc_Table_alive pm_Table_alive an_Table_alive cd_Table_alive ct_Table_alive), sl_Table_alive⟩)
    (c_Table_alive : PySem.W.codeIn K cd_Table_alive "Table.alive" = true)
    (k_Table_alive : PySem.W.keepIn K (.ref ff_Table_alive) = true)
    (a_Table_most : PySem.W.findIn K (.ref cc_Table) "most" = some (some (.ref ff_Table_most)))
    (i_Table_most : PySem.W.isFn K (.ref ff_Table_most) = true)
    (l_Table_most : K.lookup ff_Table_most = some ⟨oc_Table_most, od_Table_most, .func (PySem.W.fnOf "most" "Table.most" (defArgs s_Table_most) (defBody s_Table_most) (defScope s_Table_most) .none kV_Table_most dc_Table_most pm_Table_most an_Table_most cd_Table_most ct_Table_most), sl_Table_most⟩)
    (c_Table_most : PySem.W.codeIn K cd_Table_most "Table.most" = true)
    (k_Table_most : PySem.W.keepIn K (.ref ff_Table_most) = true)
    (a_Table_twin : PySem.W.findIn K (.ref cc_Table) "twin" = some (some (.ref ff_Table_twin)))
    (i_Table_twin : PySem.W.isFn K (.ref ff_Table_twin) = true)
    (l_Table_twin : K.lookup ff_Table_twin = some ⟨oc_Table_twin, od_Table_twin, .func (PySem.W.fnOf "twin" "Table.twin" (defArgs s_Table_twin) (defBody s_Table_twin) (defScope s_Table_twin) .none kV_Table_twin dc_Table_twin pm_Table_twin an_Table_twin cd_Table_twin ct_Table_twin), sl_Table_twin⟩)
    (c_Table_twin : PySem.W.codeIn K cd_Table_twin "Table.twin" = true)
    (k_Table_twin : PySem.W.keepIn K (.ref ff_Table_twin) = true)
    (a_Table___len__ : PySem.W.findIn K (.ref cc_Table) "__len__" = some (some (.ref ff_Table___len__)))
    (i_Table___len__ : PySem.W.isFn K (.ref ff_Table___len__) = true)
    (l_Table___len__ : K.lookup ff_Table___len__ = some ⟨oc_Table___len__, od_Table___len__, .func (PySem.W.fnOf "__len__" "Table.__len__" (defArgs s_Table___len__) (defBody s_Table___len__) (defScope s_Table___len__) .none kV_Table___len__ dc_Table___len__ pm_Table___len__ an_Table___len__ cd_Table___len__ ct_Table___len__), sl_Table___len__⟩)
    (c_Table___len__ : PySem.W.codeIn K cd_Table___len__ "Table.__len__" = true)
    (k_Table___len__ : PySem.W.keepIn K (.ref ff_Table___len__) = true)
    (a__law_box : PySem.W.nsIn K mainGlobals "_law_box" = some (some (.ref ff__law_box)))
    (l__law_box : K.lookup ff__law_box = some ⟨oc__law_box, od__law_box, .func (PySem.W.fnOf "_law_box" "_law_box" (defArgs s__law_box) (defBody s__law_box) (defScope s__law_box) .none kV__law_box dc__law_box pm__law_box an__law_box cd__law_box ct__law_box), sl__law_box⟩)
    (c__law_box : PySem.W.codeIn K cd__law_box "_law_box" = true)
    (k__law_box : PySem.W.keepIn K (.ref ff__law_box) = true)
    (a__law_mixed : PySem.W.nsIn K mainGlobals "_law_mixed" = some (some (.ref ff__law_mixed)))
    (l__law_mixed : K.lookup ff__law_mixed = some ⟨oc__law_mixed, od__law_mixed, .func (PySem.W.fnOf "_law_mixed" "_law_mixed" (defArgs s__law_mixed) (defBody s__law_mixed) (defScope s__law_mixed) .none kV__law_mixed dc__law_mixed pm__law_mixed an__law_mixed cd__law_mixed ct__law_mixed), sl__law_mixed⟩)
    (c__law_mixed : PySem.W.codeIn K cd__law_mixed "_law_mixed" = true)
    (k__law_mixed : PySem.W.keepIn K (.ref ff__law_mixed) = true)
    (a__law_take : PySem.W.nsIn K mainGlobals "_law_take" = some (some (.ref ff__law_take)))
    (l__law_take : K.lookup ff__law_take = some ⟨oc__law_take, od__law_take, .func (PySem.W.fnOf "_law_take" "_law_take" (defArgs s__law_take) (defBody s__law_take) (defScope s__law_take) .none kV__law_take dc__law_take pm__law_take an__law_take cd__law_take ct__law_take), sl__law_take⟩)
    (c__law_take : PySem.W.codeIn K cd__law_take "_law_take" = true)
    (k__law_take : PySem.W.keepIn K (.ref ff__law_take) = true)
    (a__law_ended : PySem.W.nsIn K mainGlobals "_law_ended" = some (some (.ref ff__law_ended)))
    (l__law_ended : K.lookup ff__law_ended = some ⟨oc__law_ended, od__law_ended, .func (PySem.W.fnOf "_law_ended" "_law_ended" (defArgs s__law_ended) (defBody s__law_ended) (defScope s__law_ended) .none kV__law_ended dc__law_ended pm__law_ended an__law_ended cd__law_ended ct__law_ended), sl__law_ended⟩)
    (c__law_ended : PySem.W.codeIn K cd__law_ended "_law_ended" = true)
    (k__law_ended : PySem.W.keepIn K (.ref ff__law_ended) = true)
    (a__law_begin : PySem.W.nsIn K mainGlobals "_law_begin" = some (some (.ref ff__law_begin)))
    (l__law_begin : K.lookup ff__law_begin = some ⟨oc__law_begin, od__law_begin, .func (PySem.W.fnOf "_law_begin" "_law_begin" (defArgs s__law_begin) (defBody s__law_begin) (defScope s__law_begin) .none kV__law_begin dc__law_begin pm__law_begin an__law_begin cd__law_begin ct__law_begin), sl__law_begin⟩)
    (c__law_begin : PySem.W.codeIn K cd__law_begin "_law_begin" = true)
    (k__law_begin : PySem.W.keepIn K (.ref ff__law_begin) = true)
    (a_law : PySem.W.nsIn K mainGlobals "law" = some (some (.ref ff_law)))
    (l_law : K.lookup ff_law = some ⟨oc_law, od_law, .func (PySem.W.fnOf "law" "law" (defArgs s_law) (defBody s_law) (defScope s_law) .none kV_law dc_law pm_law an_law cd_law ct_law), sl_law⟩)
    (c_law : PySem.W.codeIn K cd_law "law" = true)
    (k_law : PySem.W.keepIn K (.ref ff_law) = true)
    (ti_NoHandle : PySem.W.typeIn K (.ref ff_NoHandle___init__) = some (.type "function"))
    (ti_Ended : PySem.W.typeIn K (.ref ff_Ended___init__) = some (.type "function"))
    (z_max : PySem.W.nsIn K mainGlobals "max" = some none)
    (z_len : PySem.W.nsIn K mainGlobals "len" = some none)
    (z_sorted : PySem.W.nsIn K mainGlobals "sorted" = some none)
    (z_list : PySem.W.nsIn K mainGlobals "list" = some none)
    (z_dict : PySem.W.nsIn K mainGlobals "dict" = some none)
    (z_any : PySem.W.nsIn K mainGlobals "any" = some none)
    (z_range : PySem.W.nsIn K mainGlobals "range" = some none)
    (z_all : PySem.W.nsIn K mainGlobals "all" = some none)
    (z_set : PySem.W.nsIn K mainGlobals "set" = some none)
    : ∃ a : Ad, Txt K mg a := by
  have F_NoHandle___init__ := fun_mk (st := s_NoHandle___init__) l_NoHandle___init__ c_NoHandle___init__ k_NoHandle___init__
  have b_NoHandle___init__ := F_NoHandle___init__.binds (ps := ["self", "handle"]) fun _ _ _ _ _ _ us hl => match us, hl with | [_, _], _ => rfl
  have F_Ended___init__ := fun_mk (st := s_Ended___init__) l_Ended___init__ c_Ended___init__ k_Ended___init__
  have b_Ended___init__ := F_Ended___init__.binds (ps := ["self", "handle"]) fun _ _ _ _ _ _ us hl => match us, hl with | [_, _], _ => rfl
  have F_Table___init__ := fun_mk (st := s_Table___init__) l_Table___init__ c_Table___init__ k_Table___init__
  have b_Table___init__ := F_Table___init__.binds (ps := ["self"]) fun _ _ _ _ _ _ us hl => match us, hl with | [_], _ => rfl
  have F_Table_begin := fun_mk (st := s_Table_begin) l_Table_begin c_Table_begin k_Table_begin
  have b_Table_begin := F_Table_begin.binds (ps := ["self", "number"]) fun _ _ _ _ _ _ us hl => match us, hl with | [_, _], _ => rfl
  have F_Table_need := fun_mk (st := s_Table_need) l_Table_need c_Table_need k_Table_need
  have b_Table_need := F_Table_need.binds (ps := ["self", "handle"]) fun _ _ _ _ _ _ us hl => match us, hl with | [_, _], _ => rfl
  have F_Table_look := fun_mk (st := s_Table_look) l_Table_look c_Table_look k_Table_look
  have b_Table_look := F_Table_look.binds (ps := ["self", "handle"]) fun _ _ _ _ _ _ us hl => match us, hl with | [_, _], _ => rfl
  have F_Table_end := fun_mk (st := s_Table_end) l_Table_end c_Table_end k_Table_end
  have b_Table_end := F_Table_end.binds (ps := ["self", "handle"]) fun _ _ _ _ _ _ us hl => match us, hl with | [_, _], _ => rfl
  have F_Table_alive := fun_mk (st := s_Table_alive) l_Table_alive c_Table_alive k_Table_alive
  have b_Table_alive := F_Table_alive.binds (ps := ["self"]) fun _ _ _ _ _ _ us hl => match us, hl with | [_], _ => rfl
  have F_Table_most := fun_mk (st := s_Table_most) l_Table_most c_Table_most k_Table_most
  have b_Table_most := F_Table_most.binds (ps := ["self"]) fun _ _ _ _ _ _ us hl => match us, hl with | [_], _ => rfl
  have F_Table_twin := fun_mk (st := s_Table_twin) l_Table_twin c_Table_twin k_Table_twin
  have b_Table_twin := F_Table_twin.binds (ps := ["self"]) fun _ _ _ _ _ _ us hl => match us, hl with | [_], _ => rfl
  have F_Table___len__ := fun_mk (st := s_Table___len__) l_Table___len__ c_Table___len__ k_Table___len__
  have b_Table___len__ := F_Table___len__.binds (ps := ["self"]) fun _ _ _ _ _ _ us hl => match us, hl with | [_], _ => rfl
  have F__law_box := fun_mk (st := s__law_box) l__law_box c__law_box k__law_box
  have b__law_box := F__law_box.binds (ps := ["_law_script"]) fun _ _ _ _ _ _ us hl => match us, hl with | [_], _ => rfl
  have F__law_mixed := fun_mk (st := s__law_mixed) l__law_mixed c__law_mixed k__law_mixed
  have b__law_mixed := F__law_mixed.binds (ps := ["_law_cell", "_law_k"]) fun _ _ _ _ _ _ us hl => match us, hl with | [_, _], _ => rfl
  have F__law_take := fun_mk (st := s__law_take) l__law_take c__law_take k__law_take
  have b__law_take := F__law_take.binds (ps := ["_law_box_here", "_law_size"]) fun _ _ _ _ _ _ us hl => match us, hl with | [_, _], _ => rfl
  have F__law_ended := fun_mk (st := s__law_ended) l__law_ended c__law_ended k__law_ended
  have b__law_ended := F__law_ended.binds (ps := ["_law_table", "_law_grip"]) fun _ _ _ _ _ _ us hl => match us, hl with | [_, _], _ => rfl
  have F__law_begin := fun_mk (st := s__law_begin) l__law_begin c__law_begin k__law_begin
  have b__law_begin := F__law_begin.binds (ps := ["_law_table", "_law_told", "_law_lives", "_law_figure"]) fun _ _ _ _ _ _ us hl => match us, hl with | [_, _, _, _], _ => rfl
  have F_law := fun_mk (st := s_law) l_law c_law k_law
  have b_law := F_law.binds (ps := ["_law_script"]) fun _ _ _ _ _ _ us hl => match us, hl with | [_], _ => rfl
  exact ⟨⟨cc_Table, cc_PactError, cc_NoHandle, cc_Ended, ff_NoHandle___init__, (PySem.W.fnOf "__init__" "NoHandle.__init__" (defArgs s_NoHandle___init__) (defBody s_NoHandle___init__) (defScope s_NoHandle___init__) .none kV_NoHandle___init__ dc_NoHandle___init__ pm_NoHandle___init__ an_NoHandle___init__ cd_NoHandle___init__ ct_NoHandle___init__), ff_Ended___init__, (PySem.W.fnOf "__init__" "Ended.__init__" (defArgs s_Ended___init__) (defBody s_Ended___init__) (defScope s_Ended___init__) .none kV_Ended___init__ dc_Ended___init__ pm_Ended___init__ an_Ended___init__ cd_Ended___init__ ct_Ended___init__), ff_Table___init__, (PySem.W.fnOf "__init__" "Table.__init__" (defArgs s_Table___init__) (defBody s_Table___init__) (defScope s_Table___init__) .none kV_Table___init__ dc_Table___init__ pm_Table___init__ an_Table___init__ cd_Table___init__ ct_Table___init__), ff_Table_begin, (PySem.W.fnOf "begin" "Table.begin" (defArgs s_Table_begin) (defBody s_Table_begin) (defScope s_Table_begin) .none kV_Table_begin dc_Table_begin pm_Table_begin an_Table_begin cd_Table_begin ct_Table_begin), ff_Table_need, (PySem.W.fnOf "need" "Table.need" (defArgs s_Table_need) (defBody s_Table_need) (defScope s_Table_need) .none kV_Table_need dc_Table_need pm_Table_need an_Table_need cd_Table_need ct_Table_need), ff_Table_look, (PySem.W.fnOf "look" "Table.look" (defArgs s_Table_look) (defBody s_Table_look) (defScope s_Table_look) .none kV_Table_look dc_Table_look pm_Table_look an_Table_look cd_Table_look ct_Table_look), ff_Table_end, (PySem.W.fnOf "end" "Table.end" (defArgs s_Table_end) (defBody s_Table_end) (defScope s_Table_end) .none kV_Table_end dc_Table_end pm_Table_end an_Table_end cd_Table_end ct_Table_end), ff_Table_alive, (PySem.W.fnOf "alive" "Table.alive" (defArgs s_Table_alive) (defBody s_Table_alive) (defScope s_Table_alive) .none kV_Table_alive dc_Table_alive pm_Table_alive an_Table_alive cd_Table_alive ct_Table_alive), ff_Table_most, (PySem.W.fnOf "most" "Table.most" (defArgs s_Table_most) (defBody s_Table_most) (defScope s_Table_most) .none kV_Table_most dc_Table_most pm_Table_most an_Table_most cd_Table_most ct_Table_most), ff_Table_twin, (PySem.W.fnOf "twin" "Table.twin" (defArgs s_Table_twin) (defBody s_Table_twin) (defScope s_Table_twin) .none kV_Table_twin dc_Table_twin pm_Table_twin an_Table_twin cd_Table_twin ct_Table_twin), ff_Table___len__, (PySem.W.fnOf "__len__" "Table.__len__" (defArgs s_Table___len__) (defBody s_Table___len__) (defScope s_Table___len__) .none kV_Table___len__ dc_Table___len__ pm_Table___len__ an_Table___len__ cd_Table___len__ ct_Table___len__), ff__law_box, (PySem.W.fnOf "_law_box" "_law_box" (defArgs s__law_box) (defBody s__law_box) (defScope s__law_box) .none kV__law_box dc__law_box pm__law_box an__law_box cd__law_box ct__law_box), ff__law_mixed, (PySem.W.fnOf "_law_mixed" "_law_mixed" (defArgs s__law_mixed) (defBody s__law_mixed) (defScope s__law_mixed) .none kV__law_mixed dc__law_mixed pm__law_mixed an__law_mixed cd__law_mixed ct__law_mixed), ff__law_take, (PySem.W.fnOf "_law_take" "_law_take" (defArgs s__law_take) (defBody s__law_take) (defScope s__law_take) .none kV__law_take dc__law_take pm__law_take an__law_take cd__law_take ct__law_take), ff__law_ended, (PySem.W.fnOf "_law_ended" "_law_ended" (defArgs s__law_ended) (defBody s__law_ended) (defScope s__law_ended) .none kV__law_ended dc__law_ended pm__law_ended an__law_ended cd__law_ended ct__law_ended), ff__law_begin, (PySem.W.fnOf "_law_begin" "_law_begin" (defArgs s__law_begin) (defBody s__law_begin) (defScope s__law_begin) .none kV__law_begin dc__law_begin pm__law_begin an__law_begin cd__law_begin ct__law_begin), ff_law, (PySem.W.fnOf "law" "law" (defArgs s_law) (defBody s_law) (defScope s_law) .none kV_law dc_law pm_law an_law cd_law ct_law)⟩, { m_Table := PySem.W.mg_of X G aC_Table, cl_Table := ⟨pg_Table, hd_Table, po_Table, sa_Table⟩, mk_Table := ⟨mk_Table, a_Table___init__, i_Table___init__, kc_Table⟩, na_Table_turns := na_Table_turns, na_Table_kept := na_Table_kept, na_Table_peak := na_Table_peak, m_PactError := PySem.W.mg_of X G aC_PactError, m_NoHandle := PySem.W.mg_of X G aC_NoHandle, ox_NoHandle := ⟨⟨_, _, _, _, _, _, _, _, _, _, _, _, _, _, _, xL_NoHandle, rfl⟩, sa_NoHandle, bE_NoHandle, ty_NoHandle, kc_NoHandle⟩, xf_NoHandle := ⟨ga_NoHandle, gg_NoHandle, bE_NoHandle, hd_NoHandle⟩, ec_NoHandle := ⟨ga_NoHandle, gg_NoHandle, bE_NoHandle, hd_NoHandle, cc__NoHandle, sGet, tGet, mo_NoHandle⟩, ini_NoHandle := a_NoHandle___init__, ti_NoHandle := ti_NoHandle, na_NoHandle_handle := na_NoHandle_handle, m_Ended := PySem.W.mg_of X G aC_Ended, ox_Ended := ⟨⟨_, _, _, _, _, _, _, _, _, _, _, _, _, _, _, xL_Ended, rfl⟩, sa_Ended, bE_Ended, ty_Ended, kc_Ended⟩, xf_Ended := ⟨ga_Ended, gg_Ended, bE_Ended, hd_Ended⟩, ec_Ended := ⟨ga_Ended, gg_Ended, bE_Ended, hd_Ended, cc__Ended, sGet, tGet, mo_Ended⟩, ini_Ended := a_Ended___init__, ti_Ended := ti_Ended, na_Ended_handle := na_Ended_handle, ex_Ended_Ended := PySem.W.exm_ref bE_Ended hd_Ended ty_Ended su_Ended_Ended, ex_NoHandle_Ended := PySem.W.exm_ref bE_Ended hd_Ended ty_Ended su_NoHandle_Ended, F_NoHandle___init__ := F_NoHandle___init__, b_NoHandle___init__ := b_NoHandle___init__, F_Ended___init__ := F_Ended___init__, b_Ended___init__ := b_Ended___init__, F_Table___init__ := F_Table___init__, b_Table___init__ := b_Table___init__, mt_Table_begin := ⟨a_Table_begin, i_Table_begin, k_Table_begin⟩, F_Table_begin := F_Table_begin, b_Table_begin := b_Table_begin, mt_Table_need := ⟨a_Table_need, i_Table_need, k_Table_need⟩, F_Table_need := F_Table_need, b_Table_need := b_Table_need, mt_Table_look := ⟨a_Table_look, i_Table_look, k_Table_look⟩, F_Table_look := F_Table_look, b_Table_look := b_Table_look, mt_Table_end := ⟨a_Table_end, i_Table_end, k_Table_end⟩, F_Table_end := F_Table_end, b_Table_end := b_Table_end, mt_Table_alive := ⟨a_Table_alive, i_Table_alive, k_Table_alive⟩, F_Table_alive := F_Table_alive, b_Table_alive := b_Table_alive, mt_Table_most := ⟨a_Table_most, i_Table_most, k_Table_most⟩, F_Table_most := F_Table_most, b_Table_most := b_Table_most, mt_Table_twin := ⟨a_Table_twin, i_Table_twin, k_Table_twin⟩, F_Table_twin := F_Table_twin, b_Table_twin := b_Table_twin, mt_Table___len__ := ⟨a_Table___len__, i_Table___len__, k_Table___len__⟩, F_Table___len__ := F_Table___len__, b_Table___len__ := b_Table___len__, m__law_box := PySem.W.mg_of X G a__law_box, F__law_box := F__law_box, b__law_box := b__law_box, m__law_mixed := PySem.W.mg_of X G a__law_mixed, F__law_mixed := F__law_mixed, b__law_mixed := b__law_mixed, m__law_take := PySem.W.mg_of X G a__law_take, F__law_take := F__law_take, b__law_take := b__law_take, m__law_ended := PySem.W.mg_of X G a__law_ended, F__law_ended := F__law_ended, b__law_ended := b__law_ended, m__law_begin := PySem.W.mg_of X G a__law_begin, F__law_begin := F__law_begin, b__law_begin := b__law_begin, m_law := PySem.W.mg_of X G a_law, F_law := F_law, b_law := b_law, z_max := PySem.W.mg_none_of X G z_max, z_len := PySem.W.mg_none_of X G z_len, z_sorted := PySem.W.mg_none_of X G z_sorted, z_list := PySem.W.mg_none_of X G z_list, z_dict := PySem.W.mg_none_of X G z_dict, z_any := PySem.W.mg_none_of X G z_any, z_range := PySem.W.mg_none_of X G z_range, z_all := PySem.W.mg_none_of X G z_all, z_set := PySem.W.mg_none_of X G z_set }⟩
theorem all_end {l : PySem.W.OpenLaw} {w : World} {K : PySem.W.Frag} {h : Heap} {mg : Str → Option Value} {fa : Addr} (X : K.In h) (G : h.Ns mainGlobals mg) (hfa : mg "law" = some (.ref fa)) (hT : ∃ a : Ad, Txt K mg a) :
    ∃ fd : FuncData, (∀ (s : Shared) (v : Value), BindsTo s fd ⟨[v], []⟩ [("_law_script", v)]) ∧ ∀ base : Heap, K.In base → base.Ns mainGlobals mg → FnOk l.prog w K mg base CX0 6 fa fd ["_law_script"] (spLaw K) := by
  obtain ⟨a, T⟩ := hT
  have e := hfa.symm.trans T.m_law
  cases e
  obtain ⟨oc, od, kV, doc, pm, an, cdv, ct, osl, e, lk, hcd⟩ := T.F_law.ex
  refine ⟨a.d_law, fun s v => ?_, fun base _ _ => ok_law T⟩
  rw [e]
  exact .of_eq rfl
theorem walk {l : PySem.W.OpenLaw} {q : Program} {loose : List Str} {XP : (Str → Option Value) → Heap → Prop} {YP : World → Heap → Prop} {d : DefRec} {K : Params → PySem.W.Frag} (hn : l.most = some 63) (hdf : d.params.defaults = [])
    (hY : ∀ (w : World) (h : Heap), YP w h → (K w.params).In h)
    (F : ∀ (w : World) (mg : Str → Option Value) (fa : Addr) (h : Heap), (K w.params).In h → h.Ns mainGlobals mg → mg d.name = some (.ref fa) →
      ∃ fd : FuncData, (∀ (s : Shared) (u : Value), BindsTo s fd ⟨[u], []⟩ [("_law_script", u)]) ∧ ∀ base : Heap, (K w.params).In base → base.Ns mainGlobals mg → FnOk l.prog w (K w.params) mg base CX0 6 fa fd ["_law_script"] (spLaw (K w.params))) :
    PySem.W.WalkO q loose XP YP l.row.toRowW d [] (fun f vs => PySem.call f vs) :=
  L2.walk_of (n := 63) (k := 6) (x := "_law_script") (CX := fun _ => CX0) (sp := fun w => spLaw (K w.params)) hn (by decide) hdf ⟨rfl, by decide, by decide⟩ hY F (fun _ _ a ns hl _ hS => ⟨a, ns, rfl, hS, hl, fun _ => rfl⟩) fun _ _ _ _ _ z => z
end Pf
open PySem PySem.W PyProof.Rows in
set_option maxRecDepth 100000 in
set_option maxHeartbeats 0 in
theorem PySem.Challenge.cw_pactford_k08_whole_handles_never_again_holds : PySem.Challenge.rw_pactford_k08_whole_handles_never_again.Holds := by
  w_on; o_law; k_head; (case hw => w_witness2)
  k_fill
  refine Pf.walk (l := PySem.Challenge.rw_pactford_k08_whole_handles_never_again) rfl rfl (fun w h Y => PySem.W.kIn_of Y) ?F
  case F =>
    intro w mg fa h KX G hmg
    refine' Pf.all_end KX G hmg (Pf.all_mk KX G ?aC_Table ?pg_Table ?hd_Table ?po_Table ?sa_Table ?mk_Table ?kc_Table ?na_Table_turns ?na_Table_kept ?na_Table_peak ?aC_PactError ?bE_PactError ?hd_PactError ?ty_PactError ?aC_NoHandle ?bE_NoHandle ?hd_NoHandle ?ty_NoHandle ?xL_NoHandle ?sa_NoHandle ?ga_NoHandle ?gg_NoHandle ?kc_NoHandle ?cc__NoHandle ?mo_NoHandle ?na_NoHandle_handle ?aC_Ended ?bE_Ended ?hd_Ended ?ty_Ended ?xL_Ended ?sa_Ended ?ga_Ended ?gg_Ended ?kc_Ended ?cc__Ended ?mo_Ended ?na_Ended_handle ?sGet ?tGet ?su_Ended_Ended ?su_NoHandle_Ended ?a_NoHandle___init__ ?i_NoHandle___init__ ?l_NoHandle___init__ ?c_NoHandle___init__ ?k_NoHandle___init__ ?a_Ended___init__ ?i_Ended___init__ ?l_Ended___init__ ?c_Ended___init__ ?k_Ended___init__ ?a_Table___init__ ?i_Table___init__ ?l_Table___init__ ?c_Table___init__ ?k_Table___init__ ?a_Table_begin ?i_Table_begin ?l_Table_begin ?c_Table_begin ?k_Table_begin ?a_Table_need ?i_Table_need ?l_Table_need ?c_Table_need ?k_Table_need ?a_Table_look ?i_Table_look ?l_Table_look ?c_Table_look ?k_Table_look ?a_Table_end ?i_Table_end ?l_Table_end ?c_Table_end ?k_Table_end ?a_Table_alive ?i_Table_alive ?l_Table_alive ?c_Table_alive ?k_Table_alive ?a_Table_most ?i_Table_most ?l_Table_most ?c_Table_most ?k_Table_most ?a_Table_twin ?i_Table_twin ?l_Table_twin ?c_Table_twin ?k_Table_twin ?a_Table___len__ ?i_Table___len__ ?l_Table___len__ ?c_Table___len__ ?k_Table___len__ ?a__law_box ?l__law_box ?c__law_box ?k__law_box ?a__law_mixed ?l__law_mixed ?c__law_mixed ?k__law_mixed ?a__law_take ?l__law_take ?c__law_take ?k__law_take ?a__law_ended ?l__law_ended ?c__law_ended ?k__law_ended ?a__law_begin ?l__law_begin ?c__law_begin ?k__law_begin ?a_law ?l_law ?c_law ?k_law ?ti_NoHandle ?ti_Ended ?z_max ?z_len ?z_sorted ?z_list ?z_dict ?z_any ?z_range ?z_all ?z_set)
    (case aC_Table => k_is)
    (case pg_Table => k_is)
    (case hd_Table => k_is)
    (case po_Table => k_is)
    (case sa_Table => k_is)
    (case mk_Table => k_is)
    (case kc_Table => k_is)
    (case na_Table_turns => k_is)
    (case na_Table_kept => k_is)
    (case na_Table_peak => k_is)
    (case aC_PactError => k_is)
    (case bE_PactError => k_is)
    (case hd_PactError => k_is)
    (case ty_PactError => k_is)
    (case aC_NoHandle => k_is)
    (case bE_NoHandle => k_is)
    (case hd_NoHandle => k_is)
    (case ty_NoHandle => k_is)
    (case xL_NoHandle => k_is)
    (case sa_NoHandle => k_is)
    (case ga_NoHandle => k_is)
    (case gg_NoHandle => k_is)
    (case kc_NoHandle => k_is)
    (case cc__NoHandle => k_is)
    (case mo_NoHandle => k_is)
    (case na_NoHandle_handle => k_is)
    (case aC_Ended => k_is)
    (case bE_Ended => k_is)
    (case hd_Ended => k_is)
    (case ty_Ended => k_is)
    (case xL_Ended => k_is)
    (case sa_Ended => k_is)
    (case ga_Ended => k_is)
    (case gg_Ended => k_is)
    (case kc_Ended => k_is)
    (case cc__Ended => k_is)
    (case mo_Ended => k_is)
    (case na_Ended_handle => k_is)
    (case sGet => k_is)
    (case tGet => k_is)
    (case su_Ended_Ended => first | rfl | k_is)
    (case su_NoHandle_Ended => first | rfl | k_is)
    (case a_NoHandle___init__ => k_is)
    (case i_NoHandle___init__ => k_is)
    (case l_NoHandle___init__ => k_is)
    (case c_NoHandle___init__ => k_is)
    (case k_NoHandle___init__ => k_is)
    (case a_Ended___init__ => k_is)
    (case i_Ended___init__ => k_is)
    (case l_Ended___init__ => k_is)
    (case c_Ended___init__ => k_is)
    (case k_Ended___init__ => k_is)
    (case a_Table___init__ => k_is)
    (case i_Table___init__ => k_is)
    (case l_Table___init__ => k_is)
    (case c_Table___init__ => k_is)
    (case k_Table___init__ => k_is)
    (case a_Table_begin => k_is)
    (case i_Table_begin => k_is)
    (case l_Table_begin => k_is)
    (case c_Table_begin => k_is)
    (case k_Table_begin => k_is)
    (case a_Table_need => k_is)
    (case i_Table_need => k_is)
    (case l_Table_need => k_is)
    (case c_Table_need => k_is)
    (case k_Table_need => k_is)
    (case a_Table_look => k_is)
    (case i_Table_look => k_is)
    (case l_Table_look => k_is)
    (case c_Table_look => k_is)
    (case k_Table_look => k_is)
    (case a_Table_end => k_is)
    (case i_Table_end => k_is)
    (case l_Table_end => k_is)
    (case c_Table_end => k_is)
    (case k_Table_end => k_is)
    (case a_Table_alive => k_is)
    (case i_Table_alive => k_is)
    (case l_Table_alive => k_is)
    (case c_Table_alive => k_is)
    (case k_Table_alive => k_is)
    (case a_Table_most => k_is)
    (case i_Table_most => k_is)
    (case l_Table_most => k_is)
    (case c_Table_most => k_is)
    (case k_Table_most => k_is)
    (case a_Table_twin => k_is)
    (case i_Table_twin => k_is)
    (case l_Table_twin => k_is)
    (case c_Table_twin => k_is)
    (case k_Table_twin => k_is)
    (case a_Table___len__ => k_is)
    (case i_Table___len__ => k_is)
    (case l_Table___len__ => k_is)
    (case c_Table___len__ => k_is)
    (case k_Table___len__ => k_is)
    (case a__law_box => k_is)
    (case l__law_box => k_is)
    (case c__law_box => k_is)
    (case k__law_box => k_is)
    (case a__law_mixed => k_is)
    (case l__law_mixed => k_is)
    (case c__law_mixed => k_is)
    (case k__law_mixed => k_is)
    (case a__law_take => k_is)
    (case l__law_take => k_is)
    (case c__law_take => k_is)
    (case k__law_take => k_is)
    (case a__law_ended => k_is)
    (case l__law_ended => k_is)
    (case c__law_ended => k_is)
    (case k__law_ended => k_is)
    (case a__law_begin => k_is)
    (case l__law_begin => k_is)
    (case c__law_begin => k_is)
    (case k__law_begin => k_is)
    (case a_law => k_is)
    (case l_law => k_is)
    (case c_law => k_is)
    (case k_law => k_is)
    (case ti_NoHandle => k_is)
    (case ti_Ended => k_is)
    (case z_max => k_is)
    (case z_len => k_is)
    (case z_sorted => k_is)
    (case z_list => k_is)
    (case z_dict => k_is)
    (case z_any => k_is)
    (case z_range => k_is)
    (case z_all => k_is)
    (case z_set => k_is)
