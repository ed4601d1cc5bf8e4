import PyProof.Rows.All
import Wide.All
import OpenK.AllK
import Wide.FinOn
import HandS.ForMost
import HandS.NoneIn
import HandS.More
import HandS.SortInts
import HandS.Wide
import HandS.IsInst
import HandS.EndBits
import HandS.TupAny
import HandS.Walk
import HandS.ForExc
import HandS.TryMany
import HandS.ExcInit
import HandS.ExcField
import HandS.ExcIs
import PySem.Challenge.RW_pactford_k01_words_cross
set_option Elab.async false
set_option linter.all false
set_option maxRecDepth 100000
set_option maxHeartbeats 4000000
/-! Rules that the hand layer lacks, for these programs. -/
namespace L2
open PySem PySem.Spec PyProof.Rows
section
variable {X : Cx}
theorem get_list : PGet X (rIxL X.K) := by
  intro pins s σ H x y v u Q I rx ry h
  obtain ⟨p, xs, i, z, rfl, rfl, hq, he, q⟩ := h
  cases rx
  obtain ⟨t, rfl⟩ := ry
  obtain ⟨its, r, pl, hz⟩ := I.list hq
  obtain ⟨j, h1, h2, h3, h4, h5⟩ := atI_get he
  obtain ⟨w, ew, rw'⟩ := r.get h2
  have hl := r.length
  have hn := line63
  have fin : EP X pins σ Q w s := ⟨z, H, I, rw', q⟩
  by_cases h0 : 0 ≤ i
  · have hj : i.toNat = j := by
      rw [seqIndex_of h0 h5] at h1
      exact Option.some.inj h1
    exact wpAny_getItem_list pl.isList h0 (by omega) (by rw [hj]; simpa using ew) fin
  · have hj : (i + (its.toArray.size : Int)).toNat = j := by
      rw [seqIndex_neg (by omega) h4] at h1
      rw [List.size_toArray, ← hl]
      exact Option.some.inj h1
    exact wpAny_getItem_list_neg pl.isList (by omega) (by rw [List.size_toArray] <;> omega) (by omega) (by rw [hj]; simpa using ew) fin
end
section
variable {X : Cx} {CX : CXT} {k : Nat} {f C : Addr} {fd : FuncData} {ps ks : List Str} {sp : Sp} {E : XK} {x m : Str} {p pos apos kpos : Pos} {e o : Expr} {es : List Expr} {kws : List Keyword} {te ta : TE} {t tk : TA} {nm : Option Str}
variable {g : List Value → List Value → List Value} {gV : List V → List V → List V}
/-- o.m(.., k = v, ..) -/
def tMethK (C : Addr) (m : Str) (sp : Sp) (gV : List V → List V → List V) (E : XK) (ta : TE) (t tk : TA) : TE := fun σ H Q => ta σ H fun x H1 => ∃ a dx fs, x = .ref a ∧ H1 a = some (.ins C dx fs) ∧ fs.lookup m = none ∧
  t σ H1 fun vs H2 => tk σ H2 fun zs H3 => sp (gV (x :: vs) zs) H3 Q E
theorem pe_methK0 {pl : Sem Bool} (he : PE X o ta) (c : Cls X.K C) (hm : Meth X.K C m f) (F : FnOk X.prog X.w X.K X.mg X.base CX k f fd ps sp) (hr : Room k X.A) (hb : KBinds X.K fd ps ks g gV) (hx : Passes CX X E) (hkw : PK X kws tk)
    (hall : (backToKw pos (keywordEach kws X.env)).all (·.1.isSome) = true := by rfl) (hks : (backToKw pos (keywordEach kws X.env)).filterMap (·.1) = ks := by rfl)
    (hpl : ((backTo pos (starEach [] X.env)).any (·.1) || (backToKw pos (keywordEach kws X.env)).any (·.1.isNone)) = false := by rfl)
    (ht : eval (.Call (.Attribute o m apos) [] kws pos) X.env = (do
      let ov ← eval o X.env
      standAt apos.atName
      let (f, first) ← holding [ov] (getMethod ov m pl)
      callWith pos f first (backTo pos (starEach [] X.env)) (backToKw pos (keywordEach kws X.env))) := by rfl) :
    PE X (.Call (.Attribute o m apos) [] kws pos) (tMethK C m sp gV E ta tNil tk) := by
  refine ⟨fun pins s σ H Q I h => ?_⟩
  refine PySem.W.methodCall_KW (pl := pl) (thn (he.run pins s σ H _ I h) fun u s1 ⟨x, H1, I1, rx, a, dx, fs, ex, ea, l, q⟩ => ?_) ht
  subst ex
  obtain rfl : u = Value.ref a := rx
  refine getmeth_ok I1 ea c hm l ?_
  refine PySem.W.callWith_KW0 (first := [.ref a]) (h₀ := X.base) I.ok.mod.kin hm.kp hall (thn (hkw.run pos pins s1 σ H1 _ I1 q) fun ws s2 ⟨zs, H2, I2, rz, q2⟩ => ⟨I2.kIn, ?_⟩) hpl
  rw [hks]
  exact run_fnk (us := [.ref a]) (vs := [.ref a]) F hr hb hx I2 (.cons rfl .nil) rz q2
theorem pe_methK {pl : Sem Bool} (he : PE X o ta) (c : Cls X.K C) (hm : Meth X.K C m f) (F : FnOk X.prog X.w X.K X.mg X.base CX k f fd ps sp) (hr : Room k X.A) (hb : KBinds X.K fd ps ks g gV) (hx : Passes CX X E) (ha : PA X (e :: es) t) (hkw : PK X kws tk)
    (hall : (backToKw pos (keywordEach kws X.env)).all (·.1.isSome) = true := by rfl) (hks : (backToKw pos (keywordEach kws X.env)).filterMap (·.1) = ks := by rfl)
    (hst : starEach (e :: es) X.env = (false, eval e X.env) :: starEach es X.env := by rfl)
    (hpl : ((backTo pos (starEach (e :: es) X.env)).any (·.1) || (backToKw pos (keywordEach kws X.env)).any (·.1.isNone)) = false := by rfl)
    (ht : eval (.Call (.Attribute o m apos) (e :: es) kws pos) X.env = (do
      let ov ← eval o X.env
      standAt apos.atName
      let (f, first) ← holding [ov] (getMethod ov m pl)
      callWith pos f first (backTo pos (starEach (e :: es) X.env)) (backToKw pos (keywordEach kws X.env))) := by rfl) :
    PE X (.Call (.Attribute o m apos) (e :: es) kws pos) (tMethK C m sp gV E ta t tk) := by
  refine ⟨fun pins s σ H Q I h => ?_⟩
  refine PySem.W.methodCall_KW (pl := pl) (thn (he.run pins s σ H _ I h) fun u s1 ⟨x, H1, I1, rx, a, dx, fs, ex, ea, l, q⟩ => ?_) ht
  subst ex
  obtain rfl : u = Value.ref a := rx
  refine getmeth_ok I1 ea c hm l ?_
  refine PySem.W.callWith_KW (first := [.ref a]) (h₀ := X.base) I.ok.mod.kin hm.kp hall (thn (ha.run pos pins s1 σ H1 _ I1 q) fun us s2 ⟨vs, H2, I2, r, q2⟩ => ?_) hpl hst
  refine thn (hkw.run pos pins s2 σ H2 _ I2 q2) fun ws s3 ⟨zs, H3, I3, rz, q3⟩ => ⟨I3.kIn, ?_⟩
  rw [hks]
  exact run_fnk (us := .ref a :: us) (vs := .ref a :: vs) F hr hb hx I3 (.cons rfl r) rz q3
/-- len(o) by an own __len__ -/
theorem call_lenO (hm : Meth X.K C "__len__" f) (F : FnOk X.prog X.w X.K X.mg X.base CX k f fd ps sp) (hr : Room (k + 1) X.A) (hb : Binds X.K fd ps []) (hx : Passes CX X E) :
    CallR X (.builtin "len") (fun xs H Q => ∃ a dx fs, xs = [V.ref a] ∧ H a = some (.ins C dx fs) ∧ sp [.ref a] H (fun v H2 => ∃ n : Int, v = .int n ∧ 0 ≤ n ∧ n < 2 ^ 63 ∧ Q (.int n) H2) E) := by
  intro pins s σ H xs us Q I r h
  obtain ⟨a, dx, fs, rfl, ea, q⟩ := h
  obtain ⟨u, rfl, ru⟩ := vals1 r
  cases ru
  obtain ⟨m', hF⟩ := I.fr
  obtain ⟨mA, O, _, _, _, _⟩ := ins_get I.hok ea
  obtain ⟨od, J, _⟩ := O.look
  have hl : ([Value.ref a] ++ ([] : List Value)).length = ps.length := by
    have := F.len _ _ _ _ q
    simpa using this
  refine PySem.W.len_K hF I.ok.mod.kin J hm.at_ hm.fn (wpAny_call (codeAny_mono (F.run X.A.in1 X.stack s H ⟨[.ref a], []⟩ [.ref a] [.ref a] _ E hr.in1 I.env0.in1 (hb s [.ref a] I.kIn hl) (.cons rfl .nil) q) fun r s' hq => ?_))
  cases r with
  | error e => exact hx pins σ H s e s' I hq
  | ok fl =>
    cases fl with
    | ret u =>
      obtain ⟨v, H', I', rv, n, rfl, h0, h1, q'⟩ := I.after hq
      obtain ⟨t, rfl⟩ := rv
      exact ⟨⟨h0, h1⟩, .int n, H', I'.tok _, ⟨_, rfl⟩, q'⟩
    | next => exact False.elim hq
    | brk => exact False.elim hq
    | cont => exact False.elim hq
end
section
variable {X : Cx}
/-- the keys that were gathered are these ints -/
theorem gathered {P : Program} {w : World} {vs : List (Key × Value)} {acc : Array Value} {ks : List Int} (hk : vs.map (·.1) = ks.map Sum.inl) (hn : acc.size = vs.length)
    (ha : ∀ (j : Nat) (v : Value), acc[j]? = some v → ∃ k x, vs[j]? = some (k, x) ∧ (mixKind P w).is k v = true) : IntsAre acc.toList ks := by
  have hlk : vs.length = ks.length := by simpa using congrArg List.length hk
  refine ints_each (by rw [Array.length_toList, hn, hlk]) fun j v ev => ?_
  obtain ⟨k, x, hv, hi⟩ := ha j v (by rw [← Array.getElem?_toList]; exact ev)
  have hj : (ks.map (Sum.inl : Int → Key))[j]? = some k := by rw [← hk, List.getElem?_map, hv]; rfl
  rw [List.getElem?_map] at hj
  cases hz : ks[j]? with
  | none => rw [hz] at hj; cases hj
  | some n =>
    rw [hz] at hj
    cases hj
    rcases keyIs_shape (show keyIs (Sum.inl n) v = true from hi) with ⟨i, t, hl, hr⟩ | ⟨z, t, hl, _⟩
    · cases hl
      exact ⟨n, t, rfl, hr⟩
    · cases hl
/-- sorted(d) of a dict whose keys are ints, any number -/
def rSortD : List V → Hp → VK → Prop := fun xs H Q => ∃ (d : Addr) (kvs : List (Key × V)) (ks : List Int), xs = [.ref d] ∧ Rd H d (.dK kvs) ∧ kvs.map (·.1) = ks.map Sum.inl ∧
  ∀ (ys : List Int) (l : Addr), ys.Perm ks → ys.Pairwise (· ≤ ·) → H l = none → Q (.ref l) (upd H l (.lst (ys.map V.int)))
theorem call_sortedDX (hcalm : X.calm = true) : CallR X (.builtin "sorted") rSortD := by
  intro pins s σ H xs us Q I r h
  obtain ⟨d, kvs, ks, rfl, hd, hks, q⟩ := h
  obtain ⟨u, rfl, ru⟩ := vals1 r
  cases ru
  obtain ⟨hsz, hmod, vs, hkv, hD⟩ := dk_rd I.hok hd
  obtain ⟨ep, hat⟩ := hD.dictAt
  have hvk : vs.map (·.1) = ks.map Sum.inl := hkv.keys.symm.trans hks
  have hvl : vs.length = kvs.length := by
    have e1 : vs.length = ks.length := by simpa using congrArg List.length hvk
    have e2 : kvs.length = ks.length := by simpa using congrArg List.length hks
    omega
  have hvs : vs.length ≤ sizeLine := hvl ▸ hsz
  refine Calls.call_function_entry kind_sorted plain_sorted entry_sorted (args_sorted1 _) ?_
  unfold Builtin.«sorted»
  refine wpAny_bind (m := checkCount "sorted" 1 1 _) (wpAny_pure (wpAny_bind ?_))
  refine PySem.W.kdu_collect (A := X.A.in1) (PySem.W.kdl_dict (knd := mixKind X.prog X.w) (kvs := vs) (ep := ep) hmod) (I.ok.hd hcalm) hat hvs fun hp tk acc hold hacc => ?_
  have J : Inv X pins σ H { s with heap := hp, toks := tk } := I.kept hold
  have hint : IntsAre acc.toList ks := gathered hvk hacc.1 hacc.2
  have hal : acc.toList.length ≤ sizeLine := by rw [Array.length_toList, hacc.1]; exact hvs
  refine wpAny_bind (wpAny_newList ?_ hal)
  have hnew : (hp.push (seqObj "list" acc.toList.toArray 0)).get? hp.objs.size = some (seqObj "list" acc.toList.toArray 0) := Heap.get?_push_size _ rfl
  show wpAny _ _ _ _ _ (Shared.mk (hp.push (seqObj "list" acc.toList.toArray 0)) s.gens s.drawn tk s.os)
  refine wpAny_bind (wpAny_holding (wpAny_call_entry slot_list_sort ⟨_, hnew, rfl⟩ entry_list_sort ?_ (args_list_sort _)))
  refine SrtO.list_sort_ord (s := Shared.mk (hp.push (seqObj "list" acc.toList.toArray 0)) s.gens s.drawn tk s.os) SrtO.swo_int hnew hal (fun h2 => SrtO.ints_sortable hint h2) fun out h1 h2 => ⟨_, rfl, ?_⟩
  obtain ⟨k1, k2, k3⟩ := SrtO.ints_out hint h1 h2
  obtain ⟨e', he'⟩ := sortedHeap_at (vs := acc.toList) (out := out.toArray) hnew
  have hol : ((out.map SrtO.iv).map V.int).length ≤ sizeLine := by
    have : ks.length = vs.length := by simpa using (congrArg List.length hvk).symm
    rw [List.length_map, k2.length_eq, this]
    exact hvs
  refine wpAny_pure ⟨_, rfl, .ref hp.objs.size, upd H hp.objs.size (.lst ((out.map SrtO.iv).map V.int)), ?_, rfl, q _ _ k2 k3 (J.hok.fresh (Nat.le_refl _))⟩
  refine J.laid (t' := tk) (fun b u e => ?_) (Nat.le_refl _) (show ObjOk X.prog X.w _ _ _ (.lst ((out.map SrtO.iv).map V.int)) from ⟨hol, out, e', vals_of_ints k1, he'⟩)
  have hb : b < hp.objs.size := Heap.lt_size e
  rw [sortedHeap_old (Nat.ne_of_lt hb) (by rw [size_push']; exact Nat.lt_succ_of_lt hb)]
  exact Heap.get?_push_of_some _ e
end
section
variable {X : Cx}
/-- a statement, then the rest, with a word between them -/
@[irreducible] def tMid (t u : TS) : TS := fun D σ H => ∃ Mid : St → Hp → Prop, t { D with nx := Mid } σ H ∧ ∀ σ' H', Mid σ' H' → u D σ' H'
theorem pss_mid {st : Stmt} {rest : List Stmt} {t u : TS} (h1 : PS X st t) (h2 : PSs X rest u) : PSs X (st :: rest) (tMid t u) := by
  refine ⟨fun pins s σ H D I h => ?_⟩
  unfold tMid at h
  obtain ⟨Mid, hm, hu⟩ := h
  refine wpAny_execs_cons (thn (h1.run pins s σ H { D with nx := Mid } I hm) fun f s1 q => ?_)
  cases f with
  | next =>
    obtain ⟨σ', H', I', q⟩ := q
    exact h2.run pins s1 σ' H' D I' (hu σ' H' q)
  | ret v => exact q
  | brk => exact q
  | cont => exact q
end
/-- what the walk doesn't look into -/
@[irreducible] def Wait (p : Prop) : Prop := p
theorem wait {p : Prop} (h : p) : Wait p := by
  unfold Wait
  exact h
theorem Wait.out {p : Prop} (h : Wait p) : p := by
  unfold Wait at h
  exact h
theorem mid_of {t u : TS} {D : Ends} {σ : St} {H : Hp} (Mid : St → Hp → Prop) (h1 : t { D with nx := fun σ H => Wait (Mid σ H) } σ H) (h2 : ∀ σ' H', Mid σ' H' → u D σ' H') : tMid t u D σ H := by
  unfold tMid
  exact ⟨fun σ H => Wait (Mid σ H), h1, fun σ' H' h => h2 σ' H' h.out⟩
/-- a loop: the walk stops ahead of it -/
@[irreducible] def tStop (t : TS) : TS := t
theorem ps_stop {X : Cx} {st : Stmt} {t : TS} (h : PS X st t) : PS X st (tStop t) := by
  unfold tStop
  exact h
theorem stop_in {t : TS} {D : Ends} {σ : St} {H : Hp} (h : t D σ H) : tStop t D σ H := by
  unfold tStop
  exact h
theorem sq_seq {t u : TS} {D : Ends} {σ : St} {H : Hp} (h : t { D with nx := u D } σ H) : tSeq t u D σ H := h
theorem ifT {c : Bool} {A B : Prop} (hc : c = true) (h : A) : if c = true then A else B := by rw [if_pos hc]; exact h
theorem ifF {c : Bool} {A B : Prop} (hc : c = false) (h : B) : if c = true then A else B := by rw [hc, if_neg Bool.false_ne_true]; exact h
theorem ifD {p : Prop} [Decidable p] {A B : Prop} (h1 : p → A) (h2 : ¬ p → B) : if decide p = true then A else B := by
  by_cases h : p
  · rw [if_pos (decide_eq_true h)]; exact h1 h
  · rw [if_neg (by rw [decide_eq_false h]; exact Bool.false_ne_true)]; exact h2 h
theorem ifN {p : Prop} [Decidable p] {A B : Prop} (h1 : ¬ p → A) (h2 : p → B) : if (!decide p) = true then A else B := by
  by_cases h : p
  · rw [decide_eq_true h, if_neg (by decide)]; exact h2 h
  · rw [decide_eq_false h, if_pos (by decide)]; exact h1 h
theorem ifB {c : Bool} {A B : Prop} (h1 : c = true → A) (h2 : c = false → B) : if c = true then A else B := by
  cases c with
  | true => rw [if_pos rfl]; exact h1 rfl
  | false => rw [if_neg Bool.false_ne_true]; exact h2 rfl
theorem upd_get {H : Hp} {a b : Addr} {o : HO} {u : Option HO} (h : b ≠ a) (e : H b = u) : upd H a o b = u := (upd_ne h).trans e
theorem fmod_pos {i j : Int} (h : 0 < j) : 0 ≤ i.fmod j ∧ i.fmod j < j := ⟨Int.fmod_nonneg_of_pos _ h, Int.fmod_lt_of_pos _ h⟩
theorem atI_in {α : Type} {xs : List α} {i : Int} (h0 : 0 ≤ i) (h1 : i < (xs.length : Int)) : ∃ v, atI xs i = some v ∧ xs[i.toNat]? = some v := by
  obtain ⟨j, rfl⟩ : ∃ j : Nat, i = (j : Int) := ⟨i.toNat, by omega⟩
  have hj : j < xs.length := by omega
  have e : xs[j]? = some xs[j] := List.getElem?_eq_getElem hj
  exact ⟨_, atI_nat e, by rw [Int.toNat_natCast]; exact e⟩
theorem atI_ints {ns : List Int} {i : Int} (h0 : 0 ≤ i) (h1 : i < (ns.length : Int)) : ∃ z, atI (ns.map V.int) i = some (.int z) ∧ ns[i.toNat]? = some z := by
  obtain ⟨v, e1, e2⟩ := atI_in (xs := ns.map V.int) h0 (by rw [List.length_map]; exact h1)
  rw [List.getElem?_map] at e2
  cases e : ns[i.toNat]? with
  | none => rw [e] at e2; cases e2
  | some z =>
    rw [e] at e2
    cases e2
    exact ⟨z, e1, rfl⟩
/-- a while by a word that bears its own measure -/
theorem while_W {c : TT} {tb : TS} {D : Ends} {σ : St} {H : Hp} (W : Nat → St → Hp → Prop) (m : Nat) (h0 : W m σ H)
    (hs : ∀ m σ H, W m σ H → c σ H fun b H1 => if b = true then ∃ N : St → Hp → Prop, (∀ σ' H', N σ' H' → ∃ m', m' < m ∧ W m' σ' H') ∧ tb { D with nx := N, ct := N, bk := D.nx } σ H1 else D.nx σ H1) : tStop (tWhile c tb) D σ H :=
  stop_in ⟨W, ⟨m, h0⟩, hs⟩
theorem next_W {tb : TS} {D : Ends} {σ : St} {H : Hp} {W : Nat → St → Hp → Prop} {m : Nat}
    (h : tb { D with nx := fun σ' H' => Wait (∃ m', m' < m ∧ W m' σ' H'), ct := fun σ' H' => Wait (∃ m', m' < m ∧ W m' σ' H'), bk := D.nx } σ H) :
    ∃ N : St → Hp → Prop, (∀ σ' H', N σ' H' → ∃ m', m' < m ∧ W m' σ' H') ∧ tb { D with nx := N, ct := N, bk := D.nx } σ H := ⟨_, fun _ _ h => h.out, h⟩
theorem forL {K : PySem.W.Frag} {a : Addr} {xs : List V} {g : TG} {tb : TS} {D : Ends} {σ : St} {H : Hp} (Pv : Nat → St → Hp → Prop) (h0 : Pv 0 σ H) (hl : ∀ i σ H, i ≤ xs.length → Pv i σ H → SqL K H a xs)
    (hs : ∀ i x σ H, xs[i]? = some x → Pv i σ H → g x σ H fun σ2 H2 => tb { D with nx := fun σ H => Wait (Pv (i + 1) σ H), ct := fun σ H => Wait (Pv (i + 1) σ H), bk := D.nx } σ2 H2) (hd : ∀ σ H, Pv xs.length σ H → D.nx σ H) :
    ∃ W : Nat → Nat → St → Hp → Prop, (∃ m, W 0 m σ H) ∧ ∀ i m σ H, W i m σ H →
      ((Itl K a).stop i H ∧ D.nx σ H) ∨ ((Itl K a).go i H ∧ ∃ N : St → Hp → Prop, (∀ σ' H', N σ' H' → ∃ m', m' < m ∧ W (i + 1) m' σ' H') ∧ ∀ x H', (Itl K a).yld i H x H' → g x σ H' fun σ2 H2 => tb { D with nx := N, ct := N, bk := D.nx } σ2 H2) :=
  for_list (fun i σ H => Wait (Pv i σ H)) (wait h0) (fun i σ H hi p => hl i σ H hi p.out) (fun i x σ H hx p => hs i x σ H hx p.out) fun σ H p => hd σ H p.out
theorem forT {K : PySem.W.Frag} {a : Addr} {xs : List V} {g : TG} {tb : TS} {D : Ends} {σ : St} {H : Hp} (Pv : Nat → St → Hp → Prop) (h0 : Pv 0 σ H) (hl : ∀ i σ H, i ≤ xs.length → Pv i σ H → SqT K H a xs)
    (hs : ∀ i x σ H, xs[i]? = some x → Pv i σ H → g x σ H fun σ2 H2 => tb { D with nx := fun σ H => Wait (Pv (i + 1) σ H), ct := fun σ H => Wait (Pv (i + 1) σ H), bk := D.nx } σ2 H2) (hd : ∀ σ H, Pv xs.length σ H → D.nx σ H) :
    ∃ W : Nat → Nat → St → Hp → Prop, (∃ m, W 0 m σ H) ∧ ∀ i m σ H, W i m σ H →
      ((Itt K a).stop i H ∧ D.nx σ H) ∨ ((Itt K a).go i H ∧ ∃ N : St → Hp → Prop, (∀ σ' H', N σ' H' → ∃ m', m' < m ∧ W (i + 1) m' σ' H') ∧ ∀ x H', (Itt K a).yld i H x H' → g x σ H' fun σ2 H2 => tb { D with nx := N, ct := N, bk := D.nx } σ2 H2) :=
  for_tup (fun i σ H => Wait (Pv i σ H)) (wait h0) (fun i σ H hi p => hl i σ H hi p.out) (fun i x σ H hx p => hs i x σ H hx p.out) fun σ H p => hd σ H p.out
theorem forR {lo : Int} {n : Nat} {g : TG} {tb : TS} {D : Ends} {σ : St} {H : Hp} (Pv : Nat → St → Hp → Prop) (h0 : Pv 0 σ H)
    (hs : ∀ i σ H, i < n → Pv i σ H → g (.int (lo + i)) σ H fun σ2 H2 => tb { D with nx := fun σ H => Wait (Pv (i + 1) σ H), ct := fun σ H => Wait (Pv (i + 1) σ H), bk := D.nx } σ2 H2) (hd : ∀ σ H, Pv n σ H → D.nx σ H) :
    ∃ W : Nat → Nat → St → Hp → Prop, (∃ m, W 0 m σ H) ∧ ∀ i m σ H, W i m σ H →
      ((Itr lo n).stop i H ∧ D.nx σ H) ∨ ((Itr lo n).go i H ∧ ∃ N : St → Hp → Prop, (∀ σ' H', N σ' H' → ∃ m', m' < m ∧ W (i + 1) m' σ' H') ∧ ∀ x H', (Itr lo n).yld i H x H' → g x σ H' fun σ2 H2 => tb { D with nx := N, ct := N, bk := D.nx } σ2 H2) :=
  for_range (fun i σ H => Wait (Pv i σ H)) (wait h0) (fun i σ H hi p => hs i σ H hi p.out) fun σ H p => hd σ H p.out
theorem lcL {K : PySem.W.Frag} {a : Addr} {xs : List V} {g : TG} {tt : TT} {te : TE} {vs : List Nat} {σ : St} {H1 : Hp} {D : Addr} {Qd : Hp → Prop} (Pv : Nat → Hp → Prop) (h0 : Pv 0 (upd H1 D (.lst []))) (hl : ∀ i H, i ≤ xs.length → Pv i H → SqL K H a xs)
    (hs : ∀ i x H, xs[i]? = some x → Pv i H → g x (wipe σ vs) H fun σ2 H2 => wipe σ2 vs = wipe σ vs ∧ tt σ2 H2 fun b H3 =>
      if b = true then te σ2 H3 fun y H4 => ∃ acc, H4 D = some (.lst acc) ∧ acc.length < sizeLine ∧ Wait (Pv (i + 1) (upd H4 D (.lst (acc ++ [y])))) else Wait (Pv (i + 1) H3)) (hd : ∀ H, Pv xs.length H → Qd H) :
    ∃ W : Nat → Nat → Hp → Prop, (∃ m, W 0 m (upd H1 D (.lst []))) ∧ ∀ i m H, W i m H →
      ((Itl K a).stop i H ∧ Qd H) ∨ ((Itl K a).go i H ∧ ∃ Nx : Hp → Prop, (∀ H', Nx H' → ∃ m', m' < m ∧ W (i + 1) m' H') ∧ ∀ x H', (Itl K a).yld i H x H' → g x (wipe σ vs) H' fun σ2 H2 => wipe σ2 vs = wipe σ vs ∧ tt σ2 H2 fun b H3 =>
        if b = true then te σ2 H3 fun y H4 => ∃ acc, H4 D = some (.lst acc) ∧ acc.length < sizeLine ∧ Nx (upd H4 D (.lst (acc ++ [y]))) else Nx H3) :=
  lc_list (fun i H => Wait (Pv i H)) (wait h0) (fun i H hi p => hl i H hi p.out) (fun i x H hx p => hs i x H hx p.out) fun H p => hd H p.out
theorem lcT {K : PySem.W.Frag} {a : Addr} {xs : List V} {g : TG} {tt : TT} {te : TE} {vs : List Nat} {σ : St} {H1 : Hp} {D : Addr} {Qd : Hp → Prop} (Pv : Nat → Hp → Prop) (h0 : Pv 0 (upd H1 D (.lst []))) (hl : ∀ i H, i ≤ xs.length → Pv i H → SqT K H a xs)
    (hs : ∀ i x H, xs[i]? = some x → Pv i H → g x (wipe σ vs) H fun σ2 H2 => wipe σ2 vs = wipe σ vs ∧ tt σ2 H2 fun b H3 =>
      if b = true then te σ2 H3 fun y H4 => ∃ acc, H4 D = some (.lst acc) ∧ acc.length < sizeLine ∧ Wait (Pv (i + 1) (upd H4 D (.lst (acc ++ [y])))) else Wait (Pv (i + 1) H3)) (hd : ∀ H, Pv xs.length H → Qd H) :
    ∃ W : Nat → Nat → Hp → Prop, (∃ m, W 0 m (upd H1 D (.lst []))) ∧ ∀ i m H, W i m H →
      ((Itt K a).stop i H ∧ Qd H) ∨ ((Itt K a).go i H ∧ ∃ Nx : Hp → Prop, (∀ H', Nx H' → ∃ m', m' < m ∧ W (i + 1) m' H') ∧ ∀ x H', (Itt K a).yld i H x H' → g x (wipe σ vs) H' fun σ2 H2 => wipe σ2 vs = wipe σ vs ∧ tt σ2 H2 fun b H3 =>
        if b = true then te σ2 H3 fun y H4 => ∃ acc, H4 D = some (.lst acc) ∧ acc.length < sizeLine ∧ Nx (upd H4 D (.lst (acc ++ [y]))) else Nx H3) :=
  lc_tup (fun i H => Wait (Pv i H)) (wait h0) (fun i H hi p => hl i H hi p.out) (fun i x H hx p => hs i x H hx p.out) fun H p => hd H p.out
theorem lcR {lo : Int} {n : Nat} {g : TG} {tt : TT} {te : TE} {vs : List Nat} {σ : St} {H1 : Hp} {D : Addr} {Qd : Hp → Prop} (Pv : Nat → Hp → Prop) (h0 : Pv 0 (upd H1 D (.lst [])))
    (hs : ∀ i H, i < n → Pv i H → g (.int (lo + i)) (wipe σ vs) H fun σ2 H2 => wipe σ2 vs = wipe σ vs ∧ tt σ2 H2 fun b H3 =>
      if b = true then te σ2 H3 fun y H4 => ∃ acc, H4 D = some (.lst acc) ∧ acc.length < sizeLine ∧ Wait (Pv (i + 1) (upd H4 D (.lst (acc ++ [y])))) else Wait (Pv (i + 1) H3)) (hd : ∀ H, Pv n H → Qd H) :
    ∃ W : Nat → Nat → Hp → Prop, (∃ m, W 0 m (upd H1 D (.lst []))) ∧ ∀ i m H, W i m H →
      ((Itr lo n).stop i H ∧ Qd H) ∨ ((Itr lo n).go i H ∧ ∃ Nx : Hp → Prop, (∀ H', Nx H' → ∃ m', m' < m ∧ W (i + 1) m' H') ∧ ∀ x H', (Itr lo n).yld i H x H' → g x (wipe σ vs) H' fun σ2 H2 => wipe σ2 vs = wipe σ vs ∧ tt σ2 H2 fun b H3 =>
        if b = true then te σ2 H3 fun y H4 => ∃ acc, H4 D = some (.lst acc) ∧ acc.length < sizeLine ∧ Nx (upd H4 D (.lst (acc ++ [y]))) else Nx H3) :=
  lc_range (fun i H => Wait (Pv i H)) (wait h0) (fun i H hi p => hs i H hi p.out) fun H p => hd H p.out
theorem ints_at {ns : List Int} {i : Nat} {y : V} (h : (ns.map V.int)[i]? = some y) : ∃ u, y = V.int u ∧ ns[i]? = some u ∧ i < ns.length := by
  rw [List.getElem?_map] at h
  cases e : ns[i]? with
  | none => rw [e] at h; cases h
  | some u =>
    rw [e] at h
    exact ⟨u, (Option.some.inj h).symm, rfl, (List.getElem?_eq_some_iff.mp e).1⟩
theorem filt_len {α : Type} (p : α → Bool) (xs : List α) (i : Nat) : ((xs.take i).filter p).length ≤ xs.length := Nat.le_trans (List.length_filter_le _ _) (by rw [List.length_take]; omega)
theorem take_filt_yes {α : Type} {p : α → Bool} {xs : List α} {i : Nat} {x : α} (h : xs[i]? = some x) (hp : p x = true) : (xs.take (i + 1)).filter p = (xs.take i).filter p ++ [x] := by
  rw [List.take_add_one, h, Option.toList_some, List.filter_append, List.filter_cons, if_pos hp] <;> rfl
theorem take_filt_no {α : Type} {p : α → Bool} {xs : List α} {i : Nat} {x : α} (h : xs[i]? = some x) (hp : p x = false) : (xs.take (i + 1)).filter p = (xs.take i).filter p := by
  rw [List.take_add_one, h, Option.toList_some, List.filter_append, List.filter_cons, if_neg (by rw [hp]; decide), List.filter_nil, List.append_nil]
theorem small_lt {n : Nat} (h : n ≤ 100000) : n < sizeLine := Nat.lt_of_le_of_lt h (by decide)
theorem small_le {n : Nat} (h : n ≤ 100000) : n ≤ sizeLine := Nat.le_of_lt (small_lt h)
theorem isi_b {K : PySem.W.Frag} {H : Hp} {Q : VK} {x : V} {t c : String} {b : Bool} (ty : TyX K H x (.type t)) (h : kitB t c = some b) (q : Q (.bl b) H) : rIsi K [x, .ty c] H Q :=
  ⟨x, .ty c, .type t, .type c, b, rfl, .ty c, ty, kit_ty h, q⟩
theorem Same.seqT {K : PySem.W.Frag} {H H' : Hp} {a : Addr} {xs : List V} (e : Same H H') (h : SqT K H a xs) : SqT K H' a xs := by
  rcases h with (h | ⟨o, h⟩) | h
  · exact .inl (.inl (e _ _ h))
  · exact .inl (.inr ⟨o, e _ _ h⟩)
  · exact .inr h
theorem Same.upd_new {H : Hp} {p : Addr} {o : HO} (h : H p = none) : Same H (upd H p o) := fun b u e => by rw [upd_ne (ne_of_none e h)]; exact e
mutual
theorem Dp.same {K : PySem.W.Frag} {H H' : Hp} (e : Same H H') : ∀ {v : V} {d : PyData}, Dp K H v d → Dp K H' v d
  | _, _, .non => .non
  | _, _, .bl b => .bl b
  | _, _, .int i => .int i
  | _, _, .str x => .str x
  | _, _, .lst h r => .lst (e.seq h) (DpAll.same e r)
  | _, _, .tup h r => .tup (e.seqT h) (DpAll.same e r)
theorem DpAll.same {K : PySem.W.Frag} {H H' : Hp} (e : Same H H') : ∀ {vs : List V} {ds : List PyData}, DpAll K H vs ds → DpAll K H' vs ds
  | _, _, .nil => .nil
  | _, _, .cons h r => .cons (Dp.same e h) (DpAll.same e r)
end
theorem DpAll.snoc {K : PySem.W.Frag} {H : Hp} : ∀ {vs : List V} {ds : List PyData} {v : V} {d : PyData}, DpAll K H vs ds → Dp K H v d → DpAll K H (vs ++ [v]) (ds ++ [d])
  | _, _, _, _, .nil, h => .cons h .nil
  | _, _, _, _, .cons a r, h => .cons a (DpAll.snoc r h)
theorem DpAll.len {K : PySem.W.Frag} {H : Hp} : ∀ {vs : List V} {ds : List PyData}, DpAll K H vs ds → vs.length = ds.length
  | _, _, .nil => rfl
  | _, _, .cons _ r => by rw [List.length_cons, List.length_cons, DpAll.len r]
/-- two whole numbers -/
def pairD (p : Int × Int) : PyData := .tuple [.int p.1, .int p.2]
theorem pairD_of {K : PySem.W.Frag} {H : Hp} {t : Addr} {p : Int × Int} (h : H t = some (.tup [.int p.1, .int p.2])) : Dp K H (.ref t) (pairD p) := .tup (SqT.of h) (.cons (.int _) (.cons (.int _) .nil))
theorem lay_pairs : ∀ l : List (Int × Int), PyData.canLayAll0 (l.map pairD) = true
  | [] => rfl
  | p :: r => by
    show (PyData.canLay0 (pairD p) && PyData.canLayAll0 (r.map pairD)) = true
    rw [lay_pairs r] <;> rfl
theorem depth_pairs : ∀ l : List (Int × Int), PyData.depthAll (l.map pairD) ≤ 1
  | [] => Nat.zero_le _
  | p :: r => by
    show max (PyData.depth (pairD p)) (PyData.depthAll (r.map pairD)) ≤ 1
    have := depth_pairs r
    have e : PyData.depth (pairD p) = 1 := rfl
    omega
theorem shaped_pairs (l : List (Int × Int)) : SeqAt.shaped (.list (l.map pairD)) = true := by
  unfold SeqAt.shaped
  rw [Bool.and_eq_true]
  refine ⟨lay_pairs l, decide_eq_true ?_⟩
  show PyData.depthAll (l.map pairD) + 1 ≤ 64
  have := depth_pairs l
  omega
theorem shaped_pair (p : Int × Int) : SeqAt.shaped (pairD p) = true := rfl
theorem eqv_self {d : PyData} (h : SeqAt.shaped d = true) : PyData.eqv d d = true := SeqAt.eqv_refl d (SeqAt.canLay_of_shaped h)
theorem ifYes {p : Prop} [Decidable p] {A B : Prop} (h : p) (hA : A) : if decide p = true then A else B := ifT (decide_eq_true h) hA
theorem ifNo {p : Prop} [Decidable p] {A B : Prop} (h : ¬ p) (hB : B) : if decide p = true then A else B := ifF (decide_eq_false h) hB
theorem ifNY {p : Prop} [Decidable p] {A B : Prop} (h : ¬ p) (hA : A) : if (!decide p) = true then A else B := ifT (by rw [decide_eq_false h]; rfl) hA
theorem ifNN {p : Prop} [Decidable p] {A B : Prop} (h : p) (hB : B) : if (!decide p) = true then A else B := ifF (by rw [decide_eq_true h]; rfl) hB
/-- for k in d, d locked -/
theorem forK {d : Addr} {o : Obj} {kvs : List (Key × V)} {g : TG} {tb : TS} {D : Ends} {σ : St} {H : Hp} (Pv : Nat → St → Hp → Prop) (h0 : Pv 0 σ H) (hl : ∀ i σ H, i ≤ kvs.length → Pv i σ H → H d = some (.frz o (.dK kvs)))
    (hs : ∀ (i : Nat) (k : Key) (v : V) (σ : St) (H : Hp), kvs[i]? = some (k, v) → Pv i σ H → g (kV k) σ H fun σ2 H2 => tb { D with nx := fun σ H => Wait (Pv (i + 1) σ H), ct := fun σ H => Wait (Pv (i + 1) σ H), bk := D.nx } σ2 H2) (hd : ∀ σ H, Pv kvs.length σ H → D.nx σ H) :
    ∃ W : Nat → Nat → St → Hp → Prop, (∃ m, W 0 m σ H) ∧ ∀ i m σ H, W i m σ H →
      ((Itk d o kvs).stop i H ∧ D.nx σ H) ∨ ((Itk d o kvs).go i H ∧ ∃ N : St → Hp → Prop, (∀ σ' H', N σ' H' → ∃ m', m' < m ∧ W (i + 1) m' σ' H') ∧ ∀ x H', (Itk d o kvs).yld i H x H' → g x σ H' fun σ2 H2 => tb { D with nx := N, ct := N, bk := D.nx } σ2 H2) := by
  refine ⟨fun i m σ H => m = kvs.length - i ∧ i ≤ kvs.length ∧ Wait (Pv i σ H), ⟨kvs.length, by simp, Nat.zero_le _, wait h0⟩, ?_⟩
  rintro i m σ H ⟨rfl, hi, p⟩
  have q := hl i σ H hi p.out
  by_cases hlt : i < kvs.length
  · refine .inr ⟨⟨q, hlt⟩, fun σ H => Wait (Pv (i + 1) σ H), fun σ' H' p' => ⟨kvs.length - (i + 1), by omega, rfl, hlt, p'⟩, fun x H' y => ?_⟩
    obtain ⟨rfl, k, v, e, rfl⟩ := y
    exact hs i k v σ _ e p.out
  · have e : i = kvs.length := by omega
    subst e
    exact .inl ⟨⟨q, Nat.le_refl _⟩, hd σ H p.out⟩
/-- tuples of two whole numbers at these addresses -/
def Tups (H : Hp) (ts : List Addr) (ps : List (Int × Int)) : Prop := Paired (fun (t : Addr) (p : Int × Int) => H t = some (.tup [.int p.1, .int p.2])) ts ps
theorem Tups.keep {H H' : Hp} {ts : List Addr} {ps : List (Int × Int)} (h : Tups H ts ps) (k : ∀ t xs, H t = some (.tup xs) → H' t = some (.tup xs)) : Tups H' ts ps := Paired.mapP h fun _ _ e => k _ _ e
theorem Tups.dp {K : PySem.W.Frag} {H : Hp} {ts : List Addr} {ps : List (Int × Int)} (h : Tups H ts ps) : DpAll K H (ts.map V.ref) (ps.map pairD) := by
  unfold Tups at h
  induction h with
  | nil => exact .nil
  | cons e _ ih => exact .cons (pairD_of e) ih
theorem Tups.snoc {H : Hp} {ts : List Addr} {ps : List (Int × Int)} {t : Addr} {p : Int × Int} (h : Tups H ts ps) (e : H t = some (.tup [.int p.1, .int p.2])) : Tups H (ts ++ [t]) (ps ++ [p]) := Paired.snoc h e
theorem Tups.len {H : Hp} {ts : List Addr} {ps : List (Int × Int)} (h : Tups H ts ps) : ts.length = ps.length := Paired.length h
theorem keepT_upd {H : Hp} {D : Addr} {o : HO} {xs : List V} (h : H D = some (.lst xs)) : ∀ t ys, H t = some (.tup ys) → upd H D o t = some (.tup ys) := fun t ys e => by
  rw [upd_ne (ne_of e h (by intro z; cases z))]
  exact e
theorem kV_int (i : Int) : V.int i = kV (Sum.inl i) := rfl
theorem kV_str (x : Str) : V.str x = kV (Sum.inr x) := rfl
def rLenK (K : PySem.W.Frag) : List V → Hp → VK → Prop := fun xs H Q => ∃ p ys, xs = [V.ref p] ∧ (SqL K H p ys ∨ SqT K H p ys) ∧ Q (.int ys.length) H
theorem call_lenK {X : Cx} : CallR X (.builtin "len") (rLenK X.K) := call_len_seq
theorem sorted_same {a b : List Int} (hp : a.Perm b) (ha : a.Pairwise (· ≤ ·)) (hb : b.Pairwise (· ≤ ·)) : a = b := hp.eq_of_pairwise (fun _ _ _ _ h1 h2 => Int.le_antisymm h1 h2) ha hb
/-- a test whose ways are joined -/
@[irreducible] def tMidT (t : TT) : TT := fun σ H Q => ∃ M : Bool → Hp → Prop, t σ H M ∧ ∀ b H', M b H' → Q b H'
theorem pt_mid {X : Cx} {e : Expr} {t : TT} (h : PT X e t) : PT X e (tMidT t) := by
  refine ⟨fun pins s σ H Q I q => ?_⟩
  unfold tMidT at q
  obtain ⟨M, h1, h2⟩ := q
  exact thn (h.run pins s σ H M I h1) fun b s' ⟨H', I', m⟩ => ⟨H', I', h2 b H' m⟩
theorem midT_of {t : TT} {σ : St} {H : Hp} {Q : Bool → Hp → Prop} (M : Bool → Hp → Prop) (h1 : t σ H fun b H' => Wait (M b H')) (h2 : ∀ b H', M b H' → Q b H') : tMidT t σ H Q := by
  unfold tMidT
  exact ⟨fun b H' => Wait (M b H'), h1, fun b H' m => h2 b H' m.out⟩
/-- an expression whose ways are joined -/
@[irreducible] def tMidE (t : TE) : TE := fun σ H Q => ∃ M : V → Hp → Prop, t σ H M ∧ ∀ b H', M b H' → Q b H'
theorem pe_mid {X : Cx} {e : Expr} {t : TE} (h : PE X e t) : PE X e (tMidE t) := by
  refine ⟨fun pins s σ H Q I q => ?_⟩
  unfold tMidE at q
  obtain ⟨M, h1, h2⟩ := q
  exact thn (h.run pins s σ H M I h1) fun b s' ⟨v, H', I', r, m⟩ => ⟨v, H', I', r, h2 v H' m⟩
theorem midE_of {t : TE} {σ : St} {H : Hp} {Q : VK} (M : V → Hp → Prop) (h1 : t σ H fun b H' => Wait (M b H')) (h2 : ∀ b H', M b H' → Q b H') : tMidE t σ H Q := by
  unfold tMidE
  exact ⟨fun b H' => Wait (M b H'), h1, fun b H' m => h2 b H' m.out⟩
/-- for a, b in zip(xs, ys), lists of one length -/
theorem forZ {K : PySem.W.Frag} {a b : Addr} {xs ys : List V} {g : TG} {tb : TS} {D : Ends} {σ : St} {H : Hp} (hl : xs.length = ys.length) (Pv : Nat → St → Hp → Prop) (h0 : Pv 0 σ H) (hq : ∀ i σ H, Pv i σ H → SqL K H a xs ∧ SqL K H b ys)
    (hs : ∀ (i : Nat) (x y : V) (t : Addr) (σ : St) (H : Hp), xs[i]? = some x → ys[i]? = some y → Pv i σ H → H t = none →
      g (.ref t) σ (upd H t (.tup [x, y])) fun σ2 H2 => tb { D with nx := fun σ H => Wait (Pv (i + 1) σ H), ct := fun σ H => Wait (Pv (i + 1) σ H), bk := D.nx } σ2 H2) (hd : ∀ σ H, Pv xs.length σ H → D.nx σ H) :
    ∃ W : Nat → Nat → St → Hp → Prop, (∃ m, W 0 m σ H) ∧ ∀ i m σ H, W i m σ H →
      ((Itz K a b).stop i H ∧ D.nx σ H) ∨ ((Itz K a b).go i H ∧ ∃ N : St → Hp → Prop, (∀ σ' H', N σ' H' → ∃ m', m' < m ∧ W (i + 1) m' σ' H') ∧ ∀ v H', (Itz K a b).yld i H v H' → g v σ H' fun σ2 H2 => tb { D with nx := N, ct := N, bk := D.nx } σ2 H2) := by
  refine ⟨fun i m σ H => m = xs.length - i ∧ i ≤ xs.length ∧ Wait (Pv i σ H), ⟨xs.length, by simp, Nat.zero_le _, wait h0⟩, ?_⟩
  rintro i m σ H ⟨rfl, hi, p⟩
  obtain ⟨q1, q2⟩ := hq i σ H p.out
  by_cases hlt : i < xs.length
  · have e1 : xs[i]? = some xs[i] := List.getElem?_eq_getElem hlt
    have e2 : ys[i]? = some ys[i] := List.getElem?_eq_getElem (by omega)
    refine .inr ⟨⟨xs, ys, _, _, q1, q2, e1, e2⟩, fun σ H => Wait (Pv (i + 1) σ H), fun σ' H' p' => ⟨xs.length - (i + 1), by omega, rfl, hlt, p'⟩, fun v H' y => ?_⟩
    obtain ⟨t, x, z, rfl, ht, rfl, f1, f2⟩ := y
    exact hs i x z t σ H (f1 xs q1) (f2 ys q2) p.out ht
  · have e : i = xs.length := by omega
    subst e
    exact .inl ⟨⟨xs, ys, q1, q2, .inl (Nat.le_refl _)⟩, hd σ H p.out⟩
end L2
set_option Elab.async false
set_option linter.all false
set_option maxRecDepth 100000
set_option maxHeartbeats 4000000
/-! Rules for own errors: methods that may raise within a try, several clauses with names, isinstance of an error that has fields. -/
namespace PySem.W
open PySem PySem.Spec PySem.Calls PyProof.Rows
section
variable {prog : Program} {w : World} {A : Around} {E : Value → Shared → Prop} {s : Shared} {K : Frag} {x D : Addr} {ox od : Obj}
/-- e.__class__ of an error with a dict of its own -/
theorem pf_class {Q : Option Value → Shared → Prop} (C : L2.ExcC K D) (X : K.In s.heap) (I : InstAt s.heap x ox D (some od)) (h : Q (some (.ref D)) { s with toks := s.toks + 1 }) :
    wpAny (model prog w) A (getAttr? (.ref x) "__class__") Q E s := by
  obtain ⟨cd, hcd, _⟩ := any_some C.hd
  have hfo : findObj K D (some od) "__class__" = some (.bind (.builtin "getset_descriptor.__get__") (.builtin "object.__class__")) := findObj_data (by rw [hcd]; rfl) C.ha C.hn C.ht
  obtain ⟨hp, g, dr, t, os⟩ := s
  have lt := I.type (M := model prog w)
  have lg := looks_findIn (M := model prog w) X C.hg
  have lh := looks_findIn (M := model prog w) X C.hk
  have lf := looks_find (M := model prog w) X I hfo
  have lb : Looks (model prog w) hp (isInstance (.ref x) (.type "BaseException")) true := lt.andThen (looks_subIn X C.hs)
  have b2 : (Value.builtin "BaseException.__getattribute__" == Value.builtin "object.__getattribute__") = false := by decide +kernel
  unfold getAttr? getAttrBy? getAttrBy
  refine wpAny_bind (wpAny_mkText (wpAny_bind (wpAny_attempt (wpAny_holding (wpAny_bind (lt.at (wpAny_bind (lg.at ?_))))))))
  show wpAny _ _ (if (onTheHeap (Value.ref D) && Value.builtin "BaseException.__getattribute__" == Value.builtin "object.__getattribute__") = true then _ else _) _ _ _
  rw [b2, Bool.and_false, if_neg Bool.false_ne_true]
  unfold getAttrByItsOwn hookBefore
  refine wpAny_bind ?_
  rw [if_pos (show onTheHeap (Value.ref D) = true from rfl)]
  refine lh.at (wpAny_bind (wpAny_attempt (wpAny_holding ?_)))
  unfold callGetattribute
  rw [if_neg (show ¬ (false && onTheHeap (Value.builtin "BaseException.__getattribute__")) = true from Bool.false_ne_true)]
  unfold boundAndCalled
  rw [PySem.F.excAttr_ValueError.ga.bind (.ref x)]
  refine wpAny_bind (wpAny_pure ?_)
  show wpAny _ _ (call (.builtin "BaseException.__getattribute__") [.ref x, .str "__class__" t]) _ _ _
  refine wpAny_call (codeAny_call_builtin PySem.F.excAttr_ValueError.ga.plain PySem.F.entry_bexc_ga ?_)
  refine @check_slot (model prog w) _ _ ⟨hp, g, dr, t + 1, os⟩ "BaseException.__getattribute__" "BaseException" "__getattribute__" (.ref x) [.str "__class__" t] [] _ (by decide +kernel) (by decide +kernel) lb (PySem.F.args_bexc_ga (.ref x) (.str "__class__" t)) ?_
  unfold Builtin.«object.__getattribute__»
  refine wpAny_bind (wpAny_of_eq (a := ((Value.ref x : Value), [Value.str "__class__" t])) (by first | rfl | (simp only [slotArgs]; rfl)) ?_)
  refine wpAny_bind (wpAny_pure (wpAny_bind (lt.at (wpAny_bind (lf.at ?_)))))
  show wpAny _ _ (holding [Value.builtin "object.__class__"] (call (.builtin "getset_descriptor.__get__") [.builtin "object.__class__", .ref x, .ref D]) >>= ret) _ _ _
  refine wpAny_bind (wpAny_holding (wpAny_call (class_get (s := ⟨hp, g, dr, t + 1, os⟩) (ox := ox) (od := some od) X I C.hm ?_)))
  refine wpAny_pure ?_
  show wpAny _ _ (handedOut (.ref D)) _ _ _
  rw [handedOut_of (v := .ref D) rfl]
  first
    | exact wpAny_pure (wpAny_pure h)
    | exact wpAny_pure h
    | exact wpAny_pure (wpAny_bind (wpAny_pure (wpAny_pure h)))
theorem pf_kitx (C : L2.ExcC K D) : KitX K (.ref x) (.ref D) (fun h => InstAt h x ox D (some od)) := by
  obtain ⟨cd, hcd, _⟩ := any_some C.hd
  have hob : ∃ o sl c dd, K.lookup D = some ⟨c, dd, .cls o, sl⟩ := by
    unfold clsIn at hcd
    split at hcd
    · rename_i c' d' cd' sl' ho
      exact ⟨_, _, _, _, ho⟩
    · cases hcd
  obtain ⟨cl, sl, c, dd, hl⟩ := hob
  refine ⟨fun _ _ _ I => I.type, fun _ _ X _ => ?_, fun h tp d' its n sl' X htp => ?_, fun X I k => pf_class C X I k⟩
  · intro A' Q' E' s' k q
    unfold isType loadHead
    exact wpAny_bind (wpAny_loadPart (k _ _ (X _ _ hl)) (wpAny_pure q))
  · refine Bool.eq_false_iff.mpr fun q => ?_
    have e : D = tp := Value.ref.inj (beq_iff_eq.mp q)
    subst e
    have z := (X _ _ hl).symm.trans htp
    cases z
end
end PySem.W
namespace L2
open PySem PySem.Spec PyProof.Rows
section
variable {X : Cx} {CX : CXT} {k : Nat} {f C : Addr} {fd : FuncData} {ps : List Str} {sp : Sp} {E : St → XK} {x m : Str} {p pos apos : Pos} {e o : Expr} {es : List Expr} {ta : TE} {t : TA}
/-- o.m(e, ..), what is raised is wished for at the slots -/
def tMethW (C : Addr) (m : Str) (sp : Sp) (E : St → XK) (ta : TE) (t : TA) : TE := fun σ H Q => ta σ H fun x H1 => ∃ a dx fs, x = .ref a ∧ H1 a = some (.ins C dx fs) ∧ fs.lookup m = none ∧ t σ H1 fun vs H2 => sp (x :: vs) H2 Q (E σ)
theorem pe_methW {pl : Sem Bool} (he : PE X o ta) (c : Cls X.K C) (hm : Meth X.K C m f) (F : FnOk X.prog X.w X.K X.mg X.base CX k f fd ps sp) (hr : Room k X.A) (hb : Binds X.K fd ps []) (hx : ∀ σ, PassesAt CX X σ (E σ)) (ha : PA X (e :: es) t)
    (hst : starEach (e :: es) X.env = (false, eval e X.env) :: starEach es X.env := by rfl) (hpl : (backTo pos (starEach es X.env)).any (·.1) = false := by rfl)
    (ht : eval (.Call (.Attribute o m apos) (e :: es) [] pos) X.env = (do
      let ov ← eval o X.env
      standAt apos.atName
      let (f, first) ← holding [ov] (getMethod ov m pl)
      callWith pos f first (backTo pos (starEach (e :: es) X.env)) (backToKw pos (keywordEach [] X.env))) := by rfl) :
    PE X (.Call (.Attribute o m apos) (e :: es) [] pos) (tMethW C m sp E ta t) := by
  refine ⟨fun pins s σ H Q I h => ?_⟩
  refine PySem.W.methodCall_KW (pl := pl) (thn (he.run pins s σ H _ I h) fun u s1 ⟨x, H1, I1, rx, a, dx, fs, ex, ea, l, q⟩ => ?_) ht
  subst ex
  obtain rfl : u = Value.ref a := rx
  refine getmeth_ok I1 ea c hm l ?_
  refine PySem.W.callWith_K (first := [.ref a]) (h₀ := X.base) I.ok.mod.kin hm.kp (thn (ha.run pos pins s1 σ H1 _ I1 q) fun us s2 ⟨vs, H2, I2, r, q2⟩ => ⟨I2.kIn, ?_⟩) hst hpl
  exact run_fnS (us := .ref a :: us) (vs := .ref a :: vs) F hr hb (hx σ) I2 (.cons rfl r) q2
end
/-! ### walks of any kind, with Wait -/
theorem forW {J : It} {n : Nat} {G : Hp → Prop} {Y : Nat → Hp → V → Hp → Prop} (w : Walk J n G Y) {g : TG} {tb : TS} {D : Ends} {σ : St} {H : Hp} (Pv : Nat → St → Hp → Prop) (h0 : Pv 0 σ H) (hG : ∀ i σ H, i ≤ n → Pv i σ H → G H)
    (hs : ∀ i x σ H H', i < n → Pv i σ H → Y i H x H' → g x σ H' fun σ2 H2 => tb { D with nx := fun σ H => Wait (Pv (i + 1) σ H), ct := fun σ H => Wait (Pv (i + 1) σ H), bk := D.nx } σ2 H2) (hd : ∀ σ H, Pv n σ H → D.nx σ H) :
    ∃ W : Nat → Nat → St → Hp → Prop, (∃ m, W 0 m σ H) ∧ ∀ i m σ H, W i m σ H →
      (J.stop i H ∧ D.nx σ H) ∨ (J.go i H ∧ ∃ N : St → Hp → Prop, (∀ σ' H', N σ' H' → ∃ m', m' < m ∧ W (i + 1) m' σ' H') ∧ ∀ x H', J.yld i H x H' → g x σ H' fun σ2 H2 => tb { D with nx := N, ct := N, bk := D.nx } σ2 H2) :=
  for_it w (fun i σ H => Wait (Pv i σ H)) (wait h0) (fun i σ H hi p => hG i σ H hi p.out) (fun i x σ H H' hi p y => hs i x σ H H' hi p.out y) fun σ H p => hd σ H p.out
theorem lcW {J : It} {n : Nat} {G : Hp → Prop} {Y : Nat → Hp → V → Hp → Prop} (w : Walk J n G Y) {g : TG} {tt : TT} {te : TE} {vs : List Nat} {σ : St} {H1 : Hp} {D : Addr} {Qd : Hp → Prop} (Pv : Nat → Hp → Prop) (h0 : Pv 0 (upd H1 D (.lst []))) (hG : ∀ i H, i ≤ n → Pv i H → G H)
    (hs : ∀ i x H H', i < n → Pv i H → Y i H x H' → g x (wipe σ vs) H' fun σ2 H2 => wipe σ2 vs = wipe σ vs ∧ tt σ2 H2 fun b H3 =>
      if b = true then te σ2 H3 fun y H4 => ∃ acc, H4 D = some (.lst acc) ∧ acc.length < sizeLine ∧ Wait (Pv (i + 1) (upd H4 D (.lst (acc ++ [y])))) else Wait (Pv (i + 1) H3)) (hd : ∀ H, Pv n H → Qd H) :
    ∃ W : Nat → Nat → Hp → Prop, (∃ m, W 0 m (upd H1 D (.lst []))) ∧ ∀ i m H, W i m H →
      (J.stop i H ∧ Qd H) ∨ (J.go i H ∧ ∃ Nx : Hp → Prop, (∀ H', Nx H' → ∃ m', m' < m ∧ W (i + 1) m' H') ∧ ∀ x H', J.yld i H x H' → g x (wipe σ vs) H' fun σ2 H2 => wipe σ2 vs = wipe σ vs ∧ tt σ2 H2 fun b H3 =>
        if b = true then te σ2 H3 fun y H4 => ∃ acc, H4 D = some (.lst acc) ∧ acc.length < sizeLine ∧ Nx (upd H4 D (.lst (acc ++ [y]))) else Nx H3) :=
  lc_it w (fun i H => Wait (Pv i H)) (wait h0) (fun i H hi p => hG i H hi p.out) (fun i x H H' hi p y => hs i x H H' hi p.out y) fun H p => hd H p.out
/-! ### keywords -/
def kbGn (n : Nat) (us ws : List Value) : List Value := if us.length = n then us ++ ws else []
def kbVn (n : Nat) (us ws : List V) : List V := if us.length = n then us ++ ws else []
theorem kb_ofn {K : PySem.W.Frag} {x qual : Str} {st : Stmt} {f : Addr} {fd : FuncData} {ps ks : List Str} {n m : Nat} (F : Fun K x qual st f fd) (hp : ps.length = n + m) (h0 : 0 < n + m)
    (h : ∀ (kV doc pm : Value) (an : Option Addr) (cdv ct : Value) (us ws : List Value), us.length = n → ws.length = m → bindArgs (PySem.W.fnOf x qual (defArgs st) (defBody st) (defScope st) .none kV doc pm an cdv ct) ⟨us, ks.zip ws⟩ = pure (ps.zip (us ++ ws))) : KBinds K fd ps ks (kbGn n) (kbVn n) := by
  obtain ⟨oc, od, kV, doc, pm, an, cdv, ct, osl, rfl, lk, hcd⟩ := F.ex
  constructor
  · intro s us ws _ hl
    by_cases e : us.length = n
    · have hg : kbGn n us ws = us ++ ws := if_pos e
      rw [hg] at hl ⊢
      rw [List.length_append, e, hp] at hl
      exact .of_eq (h kV doc pm an cdv ct us ws e (by omega))
    · have hg : kbGn n us ws = [] := if_neg e
      rw [hg, hp] at hl
      have : 0 = n + m := hl
      omega
  · intro vs us zs ws r1 r2
    have hl := r1.length
    by_cases e : us.length = n
    · rw [show kbGn n us ws = us ++ ws from if_pos e, show kbVn n vs zs = vs ++ zs from if_pos (hl.trans e)]
      exact r1.append r2
    · rw [show kbGn n us ws = [] from if_neg e, show kbVn n vs zs = [] from if_neg (fun z => e (hl.symm.trans z))]
      exact .nil
section
variable {X : Cx} {CX : CXT} {k : Nat} {f C : Addr} {fd : FuncData} {ps ks : List Str} {sp : Sp} {E : St → XK} {x m : Str} {p pos apos kpos : Pos} {e o : Expr} {es : List Expr} {kws : List Keyword} {te ta : TE} {t tk : TA} {nm : Option Str}
variable {g : List Value → List Value → List Value} {gV : List V → List V → List V}
theorem run_fnkS {pins : List (Addr × Obj)} {σ : St} {H : Hp} {s : Shared} {Q : VK} {us ws : List Value} {vs zs : List V} (F : FnOk X.prog X.w X.K X.mg X.base CX k f fd ps sp) (hr : Room k X.A) (hb : KBinds X.K fd ps ks g gV) (hx : PassesAt CX X σ (E σ))
    (I : Inv X pins σ H s) (r : Vals vs us) (rz : Vals zs ws) (h : sp (gV vs zs) H Q (E σ)) : wpAny (model X.prog X.w) X.A (call (.ref f) us (ks.zip ws)) (EP X pins σ Q) X.xe s := by
  have r2 := hb.rel r rz
  have hl : (g us ws).length = ps.length := by rw [← r2.length]; exact F.len _ _ _ _ h
  refine wpAny_call (codeAny_mono (F.run X.A X.stack s H ⟨us, ks.zip ws⟩ (g us ws) (gV vs zs) Q (E σ) hr I.env0 (hb.to s us ws I.kIn hl) r2 h) fun r s' hq => ?_)
  cases r with
  | error e => exact hx pins H s e s' I hq
  | ok fl =>
    cases fl with
    | ret u => exact I.after hq
    | next => exact False.elim hq
    | brk => exact False.elim hq
    | cont => exact False.elim hq
/-- o.m(e, .., k = v), what is raised is wished for at the slots -/
def tMethKW (C : Addr) (m : Str) (sp : Sp) (gV : List V → List V → List V) (E : St → XK) (ta : TE) (t tk : TA) : TE := fun σ H Q => ta σ H fun x H1 => ∃ a dx fs, x = .ref a ∧ H1 a = some (.ins C dx fs) ∧ fs.lookup m = none ∧
  t σ H1 fun vs H2 => tk σ H2 fun zs H3 => sp (gV (x :: vs) zs) H3 Q (E σ)
theorem pe_methKW {pl : Sem Bool} (he : PE X o ta) (c : Cls X.K C) (hm : Meth X.K C m f) (F : FnOk X.prog X.w X.K X.mg X.base CX k f fd ps sp) (hr : Room k X.A) (hb : KBinds X.K fd ps ks g gV) (hx : ∀ σ, PassesAt CX X σ (E σ)) (ha : PA X (e :: es) t) (hkw : PK X kws tk)
    (hall : (backToKw pos (keywordEach kws X.env)).all (·.1.isSome) = true := by rfl) (hks : (backToKw pos (keywordEach kws X.env)).filterMap (·.1) = ks := by rfl)
    (hst : starEach (e :: es) X.env = (false, eval e X.env) :: starEach es X.env := by rfl)
    (hpl : ((backTo pos (starEach (e :: es) X.env)).any (·.1) || (backToKw pos (keywordEach kws X.env)).any (·.1.isNone)) = false := by rfl)
    (ht : eval (.Call (.Attribute o m apos) (e :: es) kws pos) X.env = (do
      let ov ← eval o X.env
      standAt apos.atName
      let (f, first) ← holding [ov] (getMethod ov m pl)
      callWith pos f first (backTo pos (starEach (e :: es) X.env)) (backToKw pos (keywordEach kws X.env))) := by rfl) :
    PE X (.Call (.Attribute o m apos) (e :: es) kws pos) (tMethKW C m sp gV E ta t tk) := by
  refine ⟨fun pins s σ H Q I h => ?_⟩
  refine PySem.W.methodCall_KW (pl := pl) (thn (he.run pins s σ H _ I h) fun u s1 ⟨x, H1, I1, rx, a, dx, fs, ex, ea, l, q⟩ => ?_) ht
  subst ex
  obtain rfl : u = Value.ref a := rx
  refine getmeth_ok I1 ea c hm l ?_
  refine PySem.W.callWith_KW (first := [.ref a]) (h₀ := X.base) I.ok.mod.kin hm.kp hall (thn (ha.run pos pins s1 σ H1 _ I1 q) fun us s2 ⟨vs, H2, I2, r, q2⟩ => ?_) hpl hst
  refine thn (hkw.run pos pins s2 σ H2 _ I2 q2) fun ws s3 ⟨zs, H3, I3, rz, q3⟩ => ⟨I3.kIn, ?_⟩
  rw [hks]
  exact run_fnkS (us := .ref a :: us) (vs := .ref a :: vs) F hr hb (hx σ) I3 (.cons rfl r) rz q3
end
/-- isinstance(e, c), e the error that the suite holds, of the class at D, its fields at dd -/
def rIsX (K : PySem.W.Frag) (D a dd : Addr) : List V → Hp → VK → Prop := fun xs H Q => ∃ (c : V) (cv : Value) (b : Bool) (fs : List (Str × V)), xs = [.ref a, c] ∧ (∀ u, RelV c u → u = cv) ∧ H dd = some (.xd fs) ∧ PySem.W.kitOne K (.ref D) cv = some b ∧ Q (.bl b) H
theorem call_isX {X : Cx} {a D dd : Addr} {oe : Obj} {pn : List (Addr × Obj)} (C : ExcC X.K D) (hz : Zc (.ref D) (some dd) oe) (hf : ∃ vs, oe.data = .fields vs) : CallR (X.suite a ((a, oe) :: pn)) (.builtin "isinstance") (rIsX X.K D a dd) := by
  intro pins s σ H xs us Q I r h
  obtain ⟨c, cv, b, fs, rfl, hcv, hx, e, q⟩ := h
  obtain ⟨u1, u2, rfl, r1, r2⟩ := vals2 r
  cases r1
  have ec := hcv _ r2
  subst ec
  obtain ⟨hget, _⟩ := I.pin (a, oe) (List.mem_append.mpr (.inl List.mem_cons_self))
  obtain ⟨vs, hv⟩ := hf
  obtain ⟨mA, ⟨od, es, ep, ho, _⟩, _⟩ := (show ObjOk X.prog X.w H s.heap dd (.xd fs) from I.hok dd _ hx)
  have J : PySem.W.InstAt s.heap a oe D (some od) := ⟨hget, hz.1, by unfold PySem.W.notCls; rw [hv] <;> rfl, by rw [hz.2]; exact ho⟩
  exact PySem.W.kia_one (PySem.W.pf_kitx C) I.kIn J e (fun z => nomatch z) fun tk => ⟨.bl b, H, I.kept (t' := tk) fun _ _ z => z, rfl, q⟩
/-- .. whatever class it has -/
def rIsW (K : PySem.W.Frag) (a : Addr) (cls : Value) (d : Option Addr) : List V → Hp → VK → Prop := fun xs H Q => ∃ D dd : Addr, cls = .ref D ∧ d = some dd ∧ ExcC K D ∧ rIsX K D a dd xs H Q
theorem call_isW {X : Cx} {a : Addr} {oe : Obj} {cls : Value} {d : Option Addr} {pn : List (Addr × Obj)} (hz : Zc cls d oe) (hf : ∃ vs, oe.data = .fields vs) : CallR (X.suite a ((a, oe) :: pn)) (.builtin "isinstance") (rIsW X.K a cls d) := by
  intro pins s σ H xs us Q I r h
  obtain ⟨D, dd, rfl, rfl, C, h⟩ := h
  exact call_isX C hz hf pins s σ H xs us Q I r h
theorem kit_exm {K : PySem.W.Frag} {A B : Addr} {b : Bool} (h1 : PySem.W.exmOne K (.ref A) (.ref A) = some true) (h2 : PySem.W.exmOne K (.ref A) (.ref B) = some b) : PySem.W.kitOne K (.ref A) (.ref B) = some b := by
  unfold PySem.W.kitOne
  by_cases e : A = B
  · subst e
    rw [h1] at h2
    rw [if_pos (by simp)]
    exact h2
  · rw [if_neg (by simpa using e)]
    unfold PySem.W.exmOne at h2
    split at h2
    · exact h2
    · cases h2
theorem kit_bl {K : PySem.W.Frag} {A : Addr} {T : String} {b : Bool} (h1 : PySem.W.subIn K (.ref A) (.type T) = some b) (h2 : PySem.W.kitMeta T = true) : PySem.W.kitOne K (.ref A) (.type T) = some b := by
  unfold PySem.W.kitOne
  rw [if_neg (by simp)]
  show (if PySem.W.kitMeta T = true then PySem.W.subIn K (.ref A) (.type T) else none) = some b
  rw [if_pos h2]
  exact h1
/-! ### several clauses, each with a name or without one -/
structure Cl where
  c : Value
  i : Option Nat
  ts : Addr → Value → Option Addr → TS
def Cl.at (cl : Cl) (a : Addr) (cls : Value) (d : Option Addr) (D : Ends) (σ : St) (H : Hp) : Prop := match cl.i with
  | none => cl.ts a cls d D σ H
  | some i => cl.ts a cls d { nx := fun σ' H' => D.nx (σ'.set i none) H', rt := D.rt, bk := fun σ' H' => D.bk (σ'.set i none) H', ct := fun σ' H' => D.ct (σ'.set i none) H' } (σ.set i (some (.ref a))) H
def wCls (K : PySem.W.Frag) (Wout : WX) (D : Ends) : List Cl → WX
  | [] => Wout
  | cl :: r => fun cls d σ H => ∃ b, PySem.W.exmOne K cls cl.c = some b ∧ (b = true → ∀ a, H a = none → cl.at a cls d D σ H) ∧ (b = false → wCls K Wout D r cls d σ H)
inductive ClsOk (X : Cx) : List ExceptHandler → List Cl → Prop
  | nil : ClsOk X [] []
  | plain {x : Str} {c : Value} {ts : Addr → Value → Option Addr → TS} {b₀ : Stmt} {suite : List Stmt} {np pos' : Pos} {hds : List ExceptHandler} {l : List Cl} (hc : Names X x c)
      (hsu : ∀ (a : Addr) (oe : Obj) (cls : Value) (d : Option Addr) (pn : List (Addr × Obj)), Zc cls d oe → (∃ vs, oe.data = .fields vs) → PSs (X.suite a ((a, oe) :: pn)) (b₀ :: suite) (ts a cls d)) (r : ClsOk X hds l) :
      ClsOk X (.ExceptHandler (some (.Name x np)) none (b₀ :: suite) pos' :: hds) (⟨c, none, ts⟩ :: l)
  | named {x n : Str} {i : Nat} {c : Value} {ts : Addr → Value → Option Addr → TS} {b₀ : Stmt} {suite : List Stmt} {np pos' : Pos} {hds : List ExceptHandler} {l : List Cl} (hN : X.N.Nodup) (hi : X.N[i]? = some n) (hln : X.env.kindOf n = some .local) (hc : Names X x c)
      (hsu : ∀ (a : Addr) (oe : Obj) (cls : Value) (d : Option Addr) (pn : List (Addr × Obj)), Zc cls d oe → (∃ vs, oe.data = .fields vs) → PSs (X.suite a ((a, oe) :: pn)) (b₀ :: suite) (ts a cls d)) (r : ClsOk X hds l) :
      ClsOk X (.ExceptHandler (some (.Name x np)) (some n) (b₀ :: suite) pos' :: hds) (⟨c, some i, ts⟩ :: l)
section
variable {X : Cx} {body : List Stmt} {h₀ : ExceptHandler} {hds : List ExceptHandler} {l : List Cl} {pos : Pos} {tb : WX → TS} {Wout : WX}
/-- the error stands on the ground ahead of the clauses -/
structure Ground (X : Cx) (pins : List (Addr × Obj)) (a : Addr) (B : Heap) (sI s' : Shared) (h3 : Heap) (σ : St) (H : Hp) (cls : Value) (d : Option Addr) : Prop where
  J : Inv X pins σ H sI
  nb : ∀ b o, sI.heap.get? b = some o → b ∉ frs X.stack → B.get? b = some o
  up : sI.heap.UpToSlots h3
  fl : HandSPX.FlyingZ B (X.env :: X.outer) a (Zc cls d) h3
  na : H a = none
  os : s'.os = sI.os
  ag : AllBare s'.gens
theorem Ground.inv {pins : List (Addr × Obj)} {a : Addr} {B : Heap} {sI s' : Shared} {h3 : Heap} {σ : St} {H : Hp} {cls : Value} {d : Option Addr} (G : Ground X pins a B sI s' h3 σ H cls d) : Inv X pins σ H { s' with heap := h3 } :=
  G.J.landed G.nb G.fl.1 G.up G.os G.ag
theorem Ground.off {pins : List (Addr × Obj)} {a : Addr} {B : Heap} {sI s' : Shared} {h3 : Heap} {σ : St} {H : Hp} {cls : Value} {d : Option Addr} (G : Ground X pins a B sI s' h3 σ H cls d) (hf : X.env.frame = some X.env.locals) : a ≠ X.env.locals ∧ a ∉ X.fs := by
  obtain ⟨oe, vs, he, _, hd⟩ := G.fl.there
  have nfr : a ∉ frs (X.env :: X.outer) := fun hm => by
    obtain ⟨_, o', e', hnf⟩ := G.fl.2.2.1.mem hm
    rw [he] at e'
    cases e'
    exact hnf _ hd
  refine ⟨fun z => nfr (List.mem_filterMap.mpr ⟨X.env, List.mem_cons_self, by rw [hf, z]⟩), fun hm => ?_⟩
  obtain ⟨ev, hev, q⟩ := List.mem_filterMap.mp hm
  exact nfr (List.mem_filterMap.mpr ⟨ev, List.mem_cons_of_mem _ hev, q⟩)
theorem clauses (hs : X.stack = X.env :: X.outer) (hf : X.env.frame = some X.env.locals) (tk : Takes X Wout) {pins : List (Addr × Obj)} {a : Addr} {B : Heap} {sI s' : Shared} {h3 : Heap} {σ : St} {H : Hp} {cls : Value} {d : Option Addr} {D : Ends}
    (G : Ground X pins a B sI s' h3 σ H cls d) (ok : X.Ok) {hds : List ExceptHandler} {l : List Cl} (hk : ClsOk X hds l) (w : wCls X.K Wout D l cls d σ H) :
    wpAny (model X.prog X.w) X.A (handleBy (.ref a) X.env hds) (SP X pins D) X.xe { s' with heap := h3 } := by
  obtain ⟨nL, nF⟩ := G.off hf
  have J3 := G.inv
  obtain ⟨oe3, vs3, he3, hz3, hd3⟩ := G.fl.there
  have S3 := J3.suite he3 hd3 G.na nL nF
  have LT : PySem.W.Looks (model X.prog X.w) h3 (typeOf (.ref a)) cls := fun A Q E s k q => wpAny_typeOf_ref (k _ _ he3) (by rw [hz3.1]; exact q)
  have name : ∀ {x : Str} {c : Value} {np : Pos} {Q : Value → Shared → Prop} {E : Value → Shared → Prop}, Names X x c → Q c { s' with heap := h3 } → wpAny (model X.prog X.w) (X.A.mark (some (.ref a))) (eval (.Name x np) X.env) Q E { s' with heap := h3 } := fun {x c np Q E} hc q => by
    obtain ⟨hg, hdbg, hm | ⟨hm, hv, hnn⟩⟩ := hc
    · exact ld_glob (X := X.suite a ((a, oe3) :: (X.pn ++ pins))) S3 hg hm q hdbg
    · exact ld_blt (X := X.suite a ((a, oe3) :: (X.pn ++ pins))) S3 hg hm hv q hnn hdbg
  have again : ∀ {h4 : Heap}, HandSPX.FlyingZ B (X.env :: X.outer) a (Zc cls d) h4 → Heap.UpToSlots h3 h4 → ∃ oe4 vs4, Zc cls d oe4 ∧ oe4.data = .fields vs4 ∧ Inv (X.suite a ((a, oe4) :: (X.pn ++ pins))) [] σ H { s' with heap := h4 } := fun {h4} fl4 up4 => by
    have J4 : Inv X pins σ H { s' with heap := h4 } := G.J.landed G.nb fl4.1 (G.up.trans up4) G.os G.ag
    obtain ⟨oe4, vs4, he4, hz4, hd4⟩ := fl4.there
    exact ⟨oe4, vs4, hz4, hd4, J4.suite he4 hd4 G.na nL nF⟩
  induction hk with
  | nil =>
    refine wpAny_handleBy_nil ?_
    obtain ⟨k1, k2, k3, oe, vs, T, oT, ts', he, hz, hd, h1, hr⟩ := id G.fl
    unfold PySem.passOn
    refine wpAny_bind (wpAny_field he hd h1 ?_)
    rw [if_neg (show ¬ ((Value.ref T == Value.none) = true) from by simp)]
    have fin : wpAny (model X.prog X.w) X.A (setFlight (.ref a) X.env.frame) (fun _ s4 => wpAny (model X.prog X.w) X.A (throw (.ref a) : Sem Flow) (SP X pins D) X.xe s4) X.xe { s' with heap := h3 } := by
      rw [hf]
      refine HandSPX.setFlight_upZ G.fl fun h4 hh4 up4 => wpAny_throw (tk _ _ ?_)
      exact ⟨a, B, sI, pins, σ, H, cls, d, rfl, G.J, G.nb, G.up.trans up4, .inr (.inr (by rw [hs]; exact hh4)), G.na, G.os, G.ag, w⟩
    first
      | exact wpAny_bind (wpAny_pure (wpAny_bind fin))
      | exact wpAny_bind fin
  | @plain x c ts b₀ suite np pos' hds2 l2 hc hsu r ih =>
    obtain ⟨b, hb1, hyes, hno⟩ := w
    refine wpAny_handleBy_cons (codeAny_handlers_test ?_) (by intro q; cases q)
    refine name hc ((PySem.W.exm_one (M := model X.prog X.w) J3.kIn LT hb1).here ?_)
    cases b with
    | true =>
      refine codeAny_handlers_suite (HandSPX.lands_againZ G.fl fun h4 fl4 up4 => ?_)
      obtain ⟨oe4, vs4, hz4, hd4, S4⟩ := again fl4 up4
      refine wpAny_mono ((hsu a oe4 cls d (X.pn ++ pins) hz4 ⟨_, hd4⟩).run [] _ _ H _ S4 (hyes rfl a G.na)) (fun f s6 hsp => ?_) (fun _ _ z => False.elim z)
      cases f with
      | next => obtain ⟨σ6, H6, S6, q6⟩ := hsp; exact ⟨_, _, S6.unsuite ok, q6⟩
      | brk => obtain ⟨σ6, H6, S6, q6⟩ := hsp; exact ⟨_, _, S6.unsuite ok, q6⟩
      | cont => obtain ⟨σ6, H6, S6, q6⟩ := hsp; exact ⟨_, _, S6.unsuite ok, q6⟩
      | ret u => obtain ⟨v6, σ6, H6, S6, r6, q6⟩ := hsp; exact ⟨_, _, _, S6.unsuite ok, r6, q6⟩
    | false =>
      show wpAny _ X.A (handleBy (.ref a) X.env hds2) _ _ _
      exact ih (hno rfl)
  | @named x n i c ts b₀ suite np pos' hds2 l2 hN hi hln hc hsu r ih =>
    obtain ⟨b, hb1, hyes, hno⟩ := w
    refine wpAny_handleBy_cons (codeAny_handlers_test ?_) (by intro q; cases q)
    refine name hc ((PySem.W.exm_one (M := model X.prog X.w) J3.kIn LT hb1).here ?_)
    cases b with
    | true =>
      refine codeAny_handlers_suite_as (HandSPX.lands_againZ G.fl fun h4 fl4 up4 => ?_)
      obtain ⟨oe4, vs4, hz4, hd4, S4⟩ := again fl4 up4
      refine store_ok (X := X.suite a ((a, oe4) :: (X.pn ++ pins))) (v := .ref a) S4 hN hi (.inl hln) rfl (fun s5 S5 => ?_) (.inr hln)
      refine wpAny_mono ((hsu a oe4 cls d (X.pn ++ pins) hz4 ⟨_, hd4⟩).run [] s5 _ H _ S5 (hyes rfl a G.na)) (fun f s6 hsp => ?_) (fun _ _ z => False.elim z)
      have fin : ∀ {σ6 : St} {H6 : Hp} {Q : Shared → Prop}, Inv (X.suite a ((a, oe4) :: (X.pn ++ pins))) [] σ6 H6 s6 → (∀ s7, Inv X pins (σ6.set i none) H6 s7 → Q s7) →
          wpAny (model X.prog X.w) X.A (do bindName X.env n .none; unbindBehindTheSuite X.env n pos') (fun _ s7 => Q s7) X.xe s6 := fun {σ6 H6 Q} S6 hq => gone_ok (S6.unsuite ok) hN hi hln hq
      cases f with
      | next => obtain ⟨σ6, H6, S6, q6⟩ := hsp; exact fin S6 fun s7 J7 => ⟨_, _, J7, q6⟩
      | brk => obtain ⟨σ6, H6, S6, q6⟩ := hsp; exact fin S6 fun s7 J7 => ⟨_, _, J7, q6⟩
      | cont => obtain ⟨σ6, H6, S6, q6⟩ := hsp; exact fin S6 fun s7 J7 => ⟨_, _, J7, q6⟩
      | ret u => obtain ⟨v6, σ6, H6, S6, r6, q6⟩ := hsp; exact fin S6 fun s7 J7 => ⟨_, _, _, J7, r6, q6⟩
    | false =>
      show wpAny _ X.A (handleBy (.ref a) X.env hds2) _ _ _
      exact ih (hno rfl)
theorem ps_try_cls (hs : X.stack = X.env :: X.outer) (hf : X.env.frame = some X.env.locals) (tk : Takes X Wout)
    (hb : ∀ (W : WX) (pn : List (Addr × Obj)) (xe : Value → Shared → Prop), Takes (X.tr pn xe) W → PassesOwn (model X.prog X.w) X.A X.env xe → PSs (X.tr pn xe) body (tb W))
    (hh : ClsOk X (h₀ :: hds) l) : PS X (.Try body (h₀ :: hds) [] [] pos) (fun D σ H => tb (wCls X.K Wout D l) D σ H) := by
  refine ⟨fun pins s σ H D I h => ?_⟩
  have ok := I.ok
  have hfr : X.A.frames = some (X.env :: X.outer) := by rw [ok.frames, hs]
  refine wpAny_Try_except ?_
  refine wpAny_mono ((hb (wCls X.K Wout D l) (X.pn ++ pins) (fun e s₁ => wpAny (model X.prog X.w) X.A (noteFrame e X.env) (fun _ s₂ => wpAny (model X.prog X.w) X.A (setFlight e none) (fun _ s₃ =>
    wpAny (model X.prog X.w) X.A (handleBy e X.env (h₀ :: hds)) (SP X pins D) X.xe s₃) X.xe s₂) X.xe s₁) (fun u s' xx => ?_) PassesOwn.looking).run [] s σ H D (I.toTry _) h) (fun f s1 hsp => ?_) (fun e s1 he => he)
  · obtain ⟨a, B, sI, pins', σ', H', cls, d, rfl, J', nb, up, sky, na, os, ag, w⟩ := xx
    have sky' : Sky B (X.env :: X.outer) a (Zc cls d) X.env.locals s'.heap := by rw [← hs]; exact sky
    show wpAny (model X.prog X.w) X.A (noteFrame (.ref a) X.env) _ _ _
    refine Sky.land Zc.steady hfr hf sky' fun h3 fl3 up3 => ?_
    exact clauses hs hf tk ⟨J'.ofTry ok, nb, up.trans up3, fl3, na, os, ag⟩ ok hh w
  · cases f with
    | next => obtain ⟨σ', H', J', q⟩ := hsp; exact wpAny_execs_nil ⟨σ', H', J'.ofTry ok, q⟩
    | brk => obtain ⟨σ', H', J', q⟩ := hsp; exact ⟨σ', H', J'.ofTry ok, q⟩
    | cont => obtain ⟨σ', H', J', q⟩ := hsp; exact ⟨σ', H', J'.ofTry ok, q⟩
    | ret u => obtain ⟨v, σ', H', J', r, q⟩ := hsp; exact ⟨v, σ', H', J'.ofTry ok, r, q⟩
end
/-- an own error's __init__(self, x): self.f = x -/
def spErr (C : Addr) (f : Str) : Sp := fun vs H Q _ => ∃ (e : Addr) (v : V), vs = [.ref e, v] ∧ H e = some (exo e C none) ∧ ∀ d, H d = none → d ≠ e → Q .non (upd (upd H d (exd d [(f, v)])) e (exo e C (some d)))
/-- what a raise C(v) of such a class leaves: its dict is new -/
theorem raise_err {C : Addr} {f : Str} {v : V} {H : Hp} {W : Value → Option Addr → Hp → Prop} (h : ∀ d H', H d = none → H' d = some (.xd [(f, v)]) → Same H H' → W (.ref C) (some d) H') :
    [v].length ≤ 1000 ∧ ∀ a, H a = none → spErr C f (.ref a :: ([v] ++ [])) (upd H a (exo a C none))
      (fun u H2 => u = .non ∧ ∃ (d : Addr) (fs : List (Str × V)), H2 a = some (exo a C (some d)) ∧ H2 d = some (exd d fs) ∧ H d = none ∧ W (.ref C) (some d) (upd (del H2 a) d (.xd fs))) (fun _ _ _ => False) := by
  refine ⟨by show 1 ≤ 1000; decide, fun a ha => ⟨a, v, rfl, upd_same, fun d hd nd => ⟨rfl, d, [(f, v)], upd_same, ?_, ?_, ?_⟩⟩⟩
  · rw [upd_ne nd, upd_same]
  · rw [upd_ne nd] at hd
    exact hd
  · rw [upd_ne nd] at hd
    refine h d _ hd upd_same fun b o e => ?_
    have nb : b ≠ d := ne_of_none e hd
    have na : b ≠ a := ne_of_none e ha
    rw [upd_ne nb, del_ne na, upd_ne na, upd_ne nb, upd_ne na]
    exact e
section
variable {X : Cx}
/-- a module's constant -/
theorem pe_globI {x : Str} {n : Int} {pos : Pos} (hg : Gl X x) (hm : ∃ t, X.mg x = some (.int n t)) (hd : (x == ("__debug__" : Str)) = false := by decide) : PE X (.Name x pos) (tC (.int n)) := by
  obtain ⟨t, h⟩ := hm
  exact pe_glob hg h ⟨t, rfl⟩ hd
theorem pe_globS {x z : Str} {pos : Pos} (hg : Gl X x) (hm : ∃ t, X.mg x = some (.str z t)) (hd : (x == ("__debug__" : Str)) = false := by decide) : PE X (.Name x pos) (tC (.str z)) := by
  obtain ⟨t, h⟩ := hm
  exact pe_glob hg h ⟨t, rfl⟩ hd
/-- the walk stops ahead of a loop's turns -/
def iWait (w : TI) : TI := fun σ H R => w σ H fun J H1 => Wait (R J H1)
theorem pi_wait {tg iter : Expr} {w : TI} (h : PI X tg iter w) : PI X tg iter (iWait w) :=
  ⟨fun pins s σ H R I q => thn (h.run pins s σ H _ I q) fun v s1 h1 => thn h1 fun itv s2 ⟨it, fp, tn, J, H2, e, I2, T, st2, f2, r⟩ => ⟨it, fp, tn, J, H2, e, I2, T, st2, f2, r.out⟩⟩
end
end L2
set_option Elab.async false
set_option linter.all false
set_option maxRecDepth 100000
set_option maxHeartbeats 4000000
namespace Pf
open PySem L2
def top (i : Nat) : Stmt := PySem.Challenge.pw_pactford_k01_words_cross.main.body.getD i (.Pass ⟨0, 0, 0, 0⟩)
abbrev s_NoWord___init__ : Stmt := inClass (top 2) 0
abbrev n_NoWord___init__ : List Str := ["self", "word"]
theorem sc_NoWord___init__ : FnScope n_NoWord___init__ ["self", "word"] (defScope s_NoWord___init__) := ⟨rfl, rfl, rfl, by decide +kernel, rfl, by decide +kernel, by decide +kernel⟩
abbrev s_is_name : Stmt := top 8
abbrev n_is_name : List Str := ["word", "sign"]
theorem sc_is_name : FnScope n_is_name ["word"] (defScope s_is_name) := ⟨rfl, rfl, rfl, by decide +kernel, rfl, by decide +kernel, by decide +kernel⟩
abbrev s_Pacts___init__ : Stmt := inClass (top 15) 0
abbrev n_Pacts___init__ : List Str := ["self", "pairs", "helpers", "at", "pair", "helper"]
theorem sc_Pacts___init__ : FnScope n_Pacts___init__ ["self", "pairs", "helpers"] (defScope s_Pacts___init__) := ⟨rfl, rfl, rfl, by decide +kernel, rfl, by decide +kernel, by decide +kernel⟩
abbrev s_Pacts_fits_pair : Stmt := inClass (top 15) 1
abbrev n_Pacts_fits_pair : List Str := ["self", "pair", "near", "far", "laden"]
theorem sc_Pacts_fits_pair : FnScope n_Pacts_fits_pair ["self", "pair"] (defScope s_Pacts_fits_pair) := ⟨rfl, rfl, rfl, by decide +kernel, rfl, by decide +kernel, by decide +kernel⟩
abbrev s_Pacts_fits_helper : Stmt := inClass (top 15) 2
abbrev n_Pacts_fits_helper : List Str := ["self", "helper", "name", "side", "takes", "gives", "throws", "how", "word"]
theorem sc_Pacts_fits_helper : FnScope n_Pacts_fits_helper ["self", "helper"] (defScope s_Pacts_fits_helper) := ⟨rfl, rfl, rfl, by decide +kernel, rfl, by decide +kernel, by decide +kernel⟩
abbrev s_Pacts_words_called : Stmt := inClass (top 15) 3
abbrev n_Pacts_words_called : List Str := ["self", "side", "pair"]
theorem sc_Pacts_words_called : FnScope n_Pacts_words_called ["self", "side"] (defScope s_Pacts_words_called) := ⟨rfl, rfl, rfl, by decide +kernel, rfl, by decide +kernel, by decide +kernel⟩
abbrev s_Pacts_pair_of : Stmt := inClass (top 15) 4
abbrev n_Pacts_pair_of : List Str := ["self", "word", "side", "pair"]
theorem sc_Pacts_pair_of : FnScope n_Pacts_pair_of ["self", "word", "side"] (defScope s_Pacts_pair_of) := ⟨rfl, rfl, rfl, by decide +kernel, rfl, by decide +kernel, by decide +kernel⟩
abbrev s_Pacts_pairs : Stmt := inClass (top 15) 5
abbrev n_Pacts_pairs : List Str := ["self"]
theorem sc_Pacts_pairs : FnScope n_Pacts_pairs ["self"] (defScope s_Pacts_pairs) := ⟨rfl, rfl, rfl, by decide +kernel, rfl, by decide +kernel, by decide +kernel⟩
abbrev s_Pacts_laden : Stmt := inClass (top 15) 8
abbrev n_Pacts_laden : List Str := ["self", "word", "side", "near", "far", "laden"]
theorem sc_Pacts_laden : FnScope n_Pacts_laden ["self", "word", "side"] (defScope s_Pacts_laden) := ⟨rfl, rfl, rfl, by decide +kernel, rfl, by decide +kernel, by decide +kernel⟩
abbrev s_Pacts_over : Stmt := inClass (top 15) 9
abbrev n_Pacts_over : List Str := ["self", "word", "side"]
theorem sc_Pacts_over : FnScope n_Pacts_over ["self", "word", "side"] (defScope s_Pacts_over) := ⟨rfl, rfl, rfl, by decide +kernel, rfl, by decide +kernel, by decide +kernel⟩
abbrev s_Pacts___len__ : Stmt := inClass (top 15) 11
abbrev n_Pacts___len__ : List Str := ["self"]
theorem sc_Pacts___len__ : FnScope n_Pacts___len__ ["self"] (defScope s_Pacts___len__) := ⟨rfl, rfl, rfl, by decide +kernel, rfl, by decide +kernel, by decide +kernel⟩
abbrev s__law_box : Stmt := top 19
abbrev n__law_box : List Str := ["_law_script", "_law_great", "_law_cell"]
theorem sc__law_box : FnScope n__law_box ["_law_script"] (defScope s__law_box) := ⟨rfl, rfl, rfl, by decide +kernel, rfl, by decide +kernel, by decide +kernel⟩
abbrev s__law_mixed : Stmt := top 20
abbrev n__law_mixed : List Str := ["_law_cell", "_law_k", "_law_whole"]
theorem sc__law_mixed : FnScope n__law_mixed ["_law_cell", "_law_k"] (defScope s__law_mixed) := ⟨rfl, rfl, rfl, by decide +kernel, rfl, by decide +kernel, by decide +kernel⟩
abbrev s__law_take : Stmt := top 21
abbrev n__law_take : List Str := ["_law_box_here", "_law_size", "_law_found", "_law_cell", "_law_reach"]
theorem sc__law_take : FnScope n__law_take ["_law_box_here", "_law_size"] (defScope s__law_take) := ⟨rfl, rfl, rfl, by decide +kernel, rfl, by decide +kernel, by decide +kernel⟩
abbrev s__law_name : Stmt := top 22
abbrev n__law_name : List Str := ["_law_box_here", "_law_many", "_law_k"]
theorem sc__law_name : FnScope n__law_name ["_law_box_here"] (defScope s__law_name) := ⟨rfl, rfl, rfl, by decide +kernel, rfl, by decide +kernel, by decide +kernel⟩
abbrev s__law_names : Stmt := top 23
abbrev n__law_names : List Str := ["_law_box_here", "_law_many", "_law_found", "_law_k", "_law_name_here", "_law_spare"]
theorem sc__law_names : FnScope n__law_names ["_law_box_here", "_law_many"] (defScope s__law_names) := ⟨rfl, rfl, rfl, by decide +kernel, rfl, by decide +kernel, by decide +kernel⟩
abbrev s__law_pairs : Stmt := top 24
abbrev n__law_pairs : List Str := ["_law_box_here", "_law_most", "_law_nears", "_law_fars", "_law_near", "_law_far"]
theorem sc__law_pairs : FnScope n__law_pairs ["_law_box_here", "_law_most"] (defScope s__law_pairs) := ⟨rfl, rfl, rfl, by decide +kernel, rfl, by decide +kernel, by decide +kernel⟩
abbrev s__law_refused : Stmt := top 25
abbrev n__law_refused : List Str := ["_law_pacts", "_law_term", "_law_team", "_law_seen", "e", "_law_right"]
theorem sc__law_refused : FnScope n__law_refused ["_law_pacts", "_law_term", "_law_team"] (defScope s__law_refused) := ⟨rfl, rfl, rfl, by decide +kernel, rfl, by decide +kernel, by decide +kernel⟩
abbrev s__law_told : Stmt := top 26
abbrev n__law_told : List Str := ["_law_pacts", "_law_pairs_here", "_law_near", "_law_far", "_law_laden", "_law_truths", "_law_truth"]
theorem sc__law_told : FnScope n__law_told ["_law_pacts", "_law_pairs_here"] (defScope s__law_told) := ⟨rfl, rfl, rfl, by decide +kernel, rfl, by decide +kernel, by decide +kernel⟩
abbrev s_law : Stmt := top 27
abbrev n_law : List Str := ["_law_script", "_law_box_here", "_law_pairs_here", "_law_others", "_law_mine", "_law_pacts", "_law_told_here", "_law_team", "_law_words", "_law_term", "_law_pair"]
theorem sc_law : FnScope n_law ["_law_script"] (defScope s_law) := ⟨rfl, rfl, rfl, by decide +kernel, rfl, by decide +kernel, by decide +kernel⟩
structure Ad where
  c_Pacts : Addr
  c_PactError : Addr
  c_NoWord : Addr
  c_NoHelper : Addr
  f_NoWord___init__ : Addr
  d_NoWord___init__ : FuncData
  f_is_name : Addr
  d_is_name : FuncData
  f_Pacts___init__ : Addr
  d_Pacts___init__ : FuncData
  f_Pacts_fits_pair : Addr
  d_Pacts_fits_pair : FuncData
  f_Pacts_fits_helper : Addr
  d_Pacts_fits_helper : FuncData
  f_Pacts_words_called : Addr
  d_Pacts_words_called : FuncData
  f_Pacts_pair_of : Addr
  d_Pacts_pair_of : FuncData
  f_Pacts_pairs : Addr
  d_Pacts_pairs : FuncData
  f_Pacts_laden : Addr
  d_Pacts_laden : FuncData
  f_Pacts_over : Addr
  d_Pacts_over : FuncData
  f_Pacts___len__ : Addr
  d_Pacts___len__ : FuncData
  f__law_box : Addr
  d__law_box : FuncData
  f__law_mixed : Addr
  d__law_mixed : FuncData
  f__law_take : Addr
  d__law_take : FuncData
  f__law_name : Addr
  d__law_name : FuncData
  f__law_names : Addr
  d__law_names : FuncData
  f__law_pairs : Addr
  d__law_pairs : FuncData
  f__law_refused : Addr
  d__law_refused : FuncData
  f__law_told : Addr
  d__law_told : FuncData
  f_law : Addr
  d_law : FuncData
structure Txt (K : PySem.W.Frag) (mg : Str → Option Value) (a : Ad) : Prop where
  m_Pacts : mg "Pacts" = some (.ref a.c_Pacts)
  cl_Pacts : Cls K a.c_Pacts
  mk_Pacts : Mk K a.c_Pacts a.f_Pacts___init__
  na_Pacts_kept_pairs : NoAttr K a.c_Pacts "kept_pairs"
  na_Pacts_kept_pacts : NoAttr K a.c_Pacts "kept_pacts"
  m_PactError : mg "PactError" = some (.ref a.c_PactError)
  m_NoWord : mg "NoWord" = some (.ref a.c_NoWord)
  ox_NoWord : OexC K a.c_NoWord
  xf_NoWord : XfC K a.c_NoWord
  ec_NoWord : ExcC K a.c_NoWord
  ini_NoWord : PySem.W.findIn K (.ref a.c_NoWord) "__init__" = some (some (.ref a.f_NoWord___init__))
  ti_NoWord : PySem.W.typeIn K (.ref a.f_NoWord___init__) = some (.type "function")
  na_NoWord_word : PySem.W.findIn K (.ref a.c_NoWord) "word" = some none
  m_NoHelper : mg "NoHelper" = some (.ref a.c_NoHelper)
  ex_NoWord_NoWord : PySem.W.exmOne K (.ref a.c_NoWord) (.ref a.c_NoWord) = some true
  ex_NoWord_PactError : PySem.W.exmOne K (.ref a.c_NoWord) (.ref a.c_PactError) = some true
  ex_NoWord_NoHelper : PySem.W.exmOne K (.ref a.c_NoWord) (.ref a.c_NoHelper) = some false
  ex_NoWord_ValueError : PySem.W.subIn K (.ref a.c_NoWord) (.type "ValueError") = some true
  F_NoWord___init__ : Fun K "__init__" "NoWord.__init__" s_NoWord___init__ a.f_NoWord___init__ a.d_NoWord___init__
  b_NoWord___init__ : Binds K a.d_NoWord___init__ ["self", "word"] []
  F_is_name : Fun K "is_name" "is_name" s_is_name a.f_is_name a.d_is_name
  b_is_name : Binds K a.d_is_name ["word"] []
  m_is_name : mg "is_name" = some (.ref a.f_is_name)
  F_Pacts___init__ : Fun K "__init__" "Pacts.__init__" s_Pacts___init__ a.f_Pacts___init__ a.d_Pacts___init__
  b_Pacts___init__ : Binds K a.d_Pacts___init__ ["self", "pairs", "helpers"] []
  F_Pacts_fits_pair : Fun K "fits_pair" "Pacts.fits_pair" s_Pacts_fits_pair a.f_Pacts_fits_pair a.d_Pacts_fits_pair
  b_Pacts_fits_pair : Binds K a.d_Pacts_fits_pair ["self", "pair"] []
  mt_Pacts_fits_pair : Meth K a.c_Pacts "fits_pair" a.f_Pacts_fits_pair
  F_Pacts_fits_helper : Fun K "fits_helper" "Pacts.fits_helper" s_Pacts_fits_helper a.f_Pacts_fits_helper a.d_Pacts_fits_helper
  b_Pacts_fits_helper : Binds K a.d_Pacts_fits_helper ["self", "helper"] []
  mt_Pacts_fits_helper : Meth K a.c_Pacts "fits_helper" a.f_Pacts_fits_helper
  F_Pacts_words_called : Fun K "words_called" "Pacts.words_called" s_Pacts_words_called a.f_Pacts_words_called a.d_Pacts_words_called
  b_Pacts_words_called : Binds K a.d_Pacts_words_called ["self", "side"] []
  mt_Pacts_words_called : Meth K a.c_Pacts "words_called" a.f_Pacts_words_called
  F_Pacts_pair_of : Fun K "pair_of" "Pacts.pair_of" s_Pacts_pair_of a.f_Pacts_pair_of a.d_Pacts_pair_of
  b_Pacts_pair_of : Binds K a.d_Pacts_pair_of ["self", "word", "side"] []
  mt_Pacts_pair_of : Meth K a.c_Pacts "pair_of" a.f_Pacts_pair_of
  F_Pacts_pairs : Fun K "pairs" "Pacts.pairs" s_Pacts_pairs a.f_Pacts_pairs a.d_Pacts_pairs
  b_Pacts_pairs : Binds K a.d_Pacts_pairs ["self"] []
  mt_Pacts_pairs : Meth K a.c_Pacts "pairs" a.f_Pacts_pairs
  F_Pacts_laden : Fun K "laden" "Pacts.laden" s_Pacts_laden a.f_Pacts_laden a.d_Pacts_laden
  mt_Pacts_laden : Meth K a.c_Pacts "laden" a.f_Pacts_laden
  F_Pacts_over : Fun K "over" "Pacts.over" s_Pacts_over a.f_Pacts_over a.d_Pacts_over
  mt_Pacts_over : Meth K a.c_Pacts "over" a.f_Pacts_over
  F_Pacts___len__ : Fun K "__len__" "Pacts.__len__" s_Pacts___len__ a.f_Pacts___len__ a.d_Pacts___len__
  b_Pacts___len__ : Binds K a.d_Pacts___len__ ["self"] []
  mt_Pacts___len__ : Meth K a.c_Pacts "__len__" a.f_Pacts___len__
  F__law_box : Fun K "_law_box" "_law_box" s__law_box a.f__law_box a.d__law_box
  b__law_box : Binds K a.d__law_box ["_law_script"] []
  m__law_box : mg "_law_box" = some (.ref a.f__law_box)
  F__law_mixed : Fun K "_law_mixed" "_law_mixed" s__law_mixed a.f__law_mixed a.d__law_mixed
  b__law_mixed : Binds K a.d__law_mixed ["_law_cell", "_law_k"] []
  m__law_mixed : mg "_law_mixed" = some (.ref a.f__law_mixed)
  F__law_take : Fun K "_law_take" "_law_take" s__law_take a.f__law_take a.d__law_take
  b__law_take : Binds K a.d__law_take ["_law_box_here", "_law_size"] []
  m__law_take : mg "_law_take" = some (.ref a.f__law_take)
  F__law_name : Fun K "_law_name" "_law_name" s__law_name a.f__law_name a.d__law_name
  b__law_name : Binds K a.d__law_name ["_law_box_here"] []
  m__law_name : mg "_law_name" = some (.ref a.f__law_name)
  F__law_names : Fun K "_law_names" "_law_names" s__law_names a.f__law_names a.d__law_names
  b__law_names : Binds K a.d__law_names ["_law_box_here", "_law_many"] []
  m__law_names : mg "_law_names" = some (.ref a.f__law_names)
  F__law_pairs : Fun K "_law_pairs" "_law_pairs" s__law_pairs a.f__law_pairs a.d__law_pairs
  b__law_pairs : Binds K a.d__law_pairs ["_law_box_here", "_law_most"] []
  m__law_pairs : mg "_law_pairs" = some (.ref a.f__law_pairs)
  F__law_refused : Fun K "_law_refused" "_law_refused" s__law_refused a.f__law_refused a.d__law_refused
  b__law_refused : Binds K a.d__law_refused ["_law_pacts", "_law_term", "_law_team"] []
  m__law_refused : mg "_law_refused" = some (.ref a.f__law_refused)
  F__law_told : Fun K "_law_told" "_law_told" s__law_told a.f__law_told a.d__law_told
  b__law_told : Binds K a.d__law_told ["_law_pacts", "_law_pairs_here"] []
  m__law_told : mg "_law_told" = some (.ref a.f__law_told)
  F_law : Fun K "law" "law" s_law a.f_law a.d_law
  b_law : Binds K a.d_law ["_law_script"] []
  m_law : mg "law" = some (.ref a.f_law)
  kb_Pacts_laden_side : KBinds K a.d_Pacts_laden ["self", "word", "side"] ["side"] (kbGn 2) (kbVn 2)
  kb_Pacts_over_side : KBinds K a.d_Pacts_over ["self", "word", "side"] ["side"] (kbGn 2) (kbVn 2)
  kb_Pacts_over_word_side : KBinds K a.d_Pacts_over ["self", "word", "side"] ["word", "side"] (kbGn 1) (kbVn 1)
  g_LETTERS : ∃ t, mg "LETTERS" = some (.str "abcdefghijklmnopqrstuvwxyz" t)
  g_MOST : ∃ t, mg "MOST" = some (.int 8 t)
  g_MOST_PAIRS : ∃ t, mg "MOST_PAIRS" = some (.int 6 t)
  z_all : mg "all" = none
  z_len : mg "len" = none
  z_enumerate : mg "enumerate" = none
  z_any : mg "any" = none
  z_set : mg "set" = none
  z_list : mg "list" = none
  z_range : mg "range" = none
  z_zip : mg "zip" = none
  z_isinstance : mg "isinstance" = none
  z_ValueError : mg "ValueError" = none
  z_bool : mg "bool" = none
/-! ### what all laws share: the box of draws -/
/-- all but the two objects of the box stand as they were -/
def Keep2 (b g : Addr) (H H' : Hp) : Prop := ∀ a o, a ≠ b → a ≠ g → H a = some o → H' a = some o
theorem Keep2.refl (b g : Addr) (H : Hp) : Keep2 b g H H := fun _ _ _ _ h => h
theorem Keep2.trans {b g : Addr} {H H1 H2 : Hp} (x : Keep2 b g H H1) (y : Keep2 b g H1 H2) : Keep2 b g H H2 := fun a o h1 h2 h => y a o h1 h2 (x a o h1 h2 h)
/-- all but one object stand as they were -/
def Keep1 (b : Addr) (H H' : Hp) : Prop := ∀ a o, a ≠ b → H a = some o → H' a = some o
/-- a box at b, its list of great cells at g, of lesser ones at l; n draws were made -/
structure BoxAt (H : Hp) (b g l : Addr) (n : Int) : Prop where
  ex : ∃ (gs ls : List Int) (d : Int), H b = some (.lst [.ref g, .int d, .ref l, .int n]) ∧ H g = some (.lst (gs.map V.int)) ∧ H l = some (.lst (ls.map V.int)) ∧
    0 ≤ d ∧ (∀ z ∈ gs, 0 ≤ z) ∧ gs.length ≤ 63 ∧ ls.length ≤ 63 ∧ b ≠ g ∧ b ≠ l ∧ g ≠ l
  pos : 0 ≤ n
theorem BoxAt.keep {H H' : Hp} {b g l : Addr} {n : Int} (B : BoxAt H b g l n) (k : ∀ a o, H a = some o → a = b ∨ a = g ∨ a = l → H' a = some o) : BoxAt H' b g l n := by
  obtain ⟨gs, ls, d, h1, h2, h3, h⟩ := B.ex
  exact ⟨⟨gs, ls, d, k _ _ h1 (.inl rfl), k _ _ h2 (.inr (.inl rfl)), k _ _ h3 (.inr (.inr rfl)), h⟩, B.pos⟩
theorem BoxAt.same {H H' : Hp} {b g l : Addr} {n : Int} (B : BoxAt H b g l n) (k : ∀ a o, H a = some o → H' a = some o) : BoxAt H' b g l n := B.keep fun a o h _ => k a o h
/-- the three are lists -/
theorem BoxAt.lists {H : Hp} {b g l : Addr} {n : Int} (B : BoxAt H b g l n) : (∃ xs, H b = some (.lst xs)) ∧ (∃ xs, H g = some (.lst xs)) ∧ ∃ xs, H l = some (.lst xs) := by
  obtain ⟨gs, ls, d, h1, h2, h3, _⟩ := B.ex
  exact ⟨⟨_, h1⟩, ⟨_, h2⟩, ⟨_, h3⟩⟩
theorem BoxAt.fresh {H : Hp} {b g l D : Addr} {n : Int} (B : BoxAt H b g l n) (hD : H D = none) : D ≠ b ∧ D ≠ g ∧ D ≠ l := by
  obtain ⟨⟨_, h1⟩, ⟨_, h2⟩, ⟨_, h3⟩⟩ := B.lists
  exact ⟨(ne_of_none h1 hD).symm, (ne_of_none h2 hD).symm, (ne_of_none h3 hD).symm⟩
theorem BoxAt.upd {H : Hp} {b g l D : Addr} {n : Int} {o : HO} (B : BoxAt H b g l n) (h : D ≠ b ∧ D ≠ g ∧ D ≠ l) : BoxAt (upd H D o) b g l n := by
  refine B.keep fun x o e z => ?_
  have hx : x ≠ D := by
    rcases z with z | z | z
    · rw [z]; exact h.1.symm
    · rw [z]; exact h.2.1.symm
    · rw [z]; exact h.2.2.symm
  exact upd_get hx e
/-- _law_mixed: some number -/
def spMixed : Sp := fun vs H Q _ => ∃ (c k : Int), vs = [.int c, .int k] ∧ 0 ≤ k ∧ k ≤ 10000000 ∧ ∀ r : Int, Q (.int r) H
/-- _law_take: a number below the size -/
def spTake : Sp := fun vs H Q _ => ∃ (b g l : Addr) (n sz : Int), vs = [.ref b, .int sz] ∧ BoxAt H b g l n ∧ n ≤ 1000000 ∧ 0 < sz ∧ sz < 2 ^ 200 ∧
  ∀ (r : Int) (H' : Hp), 0 ≤ r → r < sz → BoxAt H' b g l (n + 1) → Keep2 b g H H' → Q (.int r) H'
/-- _law_box: a new box -/
def spBox (K : PySem.W.Frag) : Sp := fun vs H Q _ => ∃ (a : Addr) (ns : List Int), vs = [.ref a] ∧ SqL K H a (ns.map V.int) ∧ ns.length ≤ 63 ∧
  ∀ (b g l : Addr) (H' : Hp), H b = none → H g = none → H l = none → BoxAt H' b g l 0 → Same H H' → Q (.ref b) H'
local macro_rules | `(tactic| walk_at "nz") => `(tactic| (show (_ : Int) ≠ 0; omega))
local macro_rules | `(tactic| walk_at "ne") => `(tactic| first | assumption | (apply Ne.symm; assumption))
local macro_rules | `(tactic| walk_at "hp") => `(tactic| first | assumption | exact upd_same | (refine upd_get ?_ ?_; walk_at "ne"; walk_at "hp"))
local macro_rules | `(tactic| walk_at "sd") => `(tactic| first
  | rfl
  | assumption
  | (with_reducible show (_ : Int) < _; omega)
  | (with_reducible show (_ : Int) ≤ _; omega)
  | (with_reducible show (_ : Nat) < _; omega)
  | (with_reducible show (_ : Nat) ≤ _; omega)
  | exact kV_int _
  | exact kV_str _
  | (show (_ : Int) ≠ 0; omega)
  | exact SqL.of (by walk_at "hp")
  | exact ⟨_, SqL.of (by walk_at "hp")⟩
  | exact ⟨_, SqT.of (by walk_at "hp")⟩
  | exact ⟨_, (by assumption)⟩
  | exact SqT.of (by walk_at "hp")
  | exact Rd.of (by walk_at "hp")
  | exact Or.inl (SqL.of (by walk_at "hp"))
  | exact Or.inr (SqT.of (by walk_at "hp"))
  | (walk_at "hp")
  | (exact Or.inl ⟨rfl, _, SqL.of (by walk_at "hp")⟩)
  | (exact Or.inl ⟨by omega, by omega⟩)
  | (exact Or.inr ⟨by omega, by omega⟩)
  | (refine ⟨?_, ?_, ?_⟩ <;> omega)
  | omega
  | (exact small_le (by first | omega | (simp only [List.length_cons, List.length_nil]; omega)))
  | (exact small_lt (by first | omega | (simp only [List.length_cons, List.length_nil]; omega)))
  | exact Nat.le_of_ble_eq_true rfl
  | exact ⟨_, rfl⟩
  | decide)
local macro_rules | `(tactic| walk_at "st") => `(tactic| first
  | with_reducible refine sq_seq ?_
  | apply Exists.intro
  | (refine And.intro ?_ ?_; (walk_at "sd")))
local macro_rules | `(tactic| walk_at "go") => `(tactic| repeat (walk_at "st"))
section
variable {P : Program} {w : World} {K : PySem.W.Frag} {mg : Str → Option Value} {base : Heap} {a : Ad}
theorem ok__law_mixed (T : Txt K mg a) : FnOk P w K mg base CX0 1 a.f__law_mixed a.d__law_mixed ["_law_cell", "_law_k"] spMixed := by
  refine T.F__law_mixed.ok sc__law_mixed (fun vs H Q E h => ?_) (fun cdv A outer s H vs Q E hr h => ?_)
  · obtain ⟨c, k, rfl, _⟩ := h
    rfl
  · obtain ⟨c, k, rfl, h0, h1, q⟩ := h
    refine ⟨_, (pss_cons (ps_set (i := 2) sc__law_mixed.nd rfl (Or.inl rfl) (pe_op op_modN (pe_op op_pow (pe_op op_add (pe_op op_add (pe_op op_add (pe_op op_modN (pv 0) pe_int) (pe_op op_mul (pe_op op_mul pe_int (pv 1)) (pv 1))) (pe_op op_mul pe_int (pv 1))) pe_int) pe_int) pe_int))
      (pss_one (ps_ret (pe_op op_modN (pe_op op_add (pe_op op_mul (pv 2) pe_int) (pe_op op_mul pe_int (pv 1))) pe_int)))), ?_⟩
    have m1 := fmod_pos (i := c) (j := 2147483647) (by decide)
    have e1 : 1009 * k ≤ 10090000000 := by omega
    have e2 : 0 ≤ 1009 * k * k := Int.mul_nonneg (by omega) h0
    have e3 : 1009 * k * k ≤ 10090000000 * 10000000 := Int.mul_le_mul e1 h1 h0 (by decide)
    walk_at "go"
    exact q _
theorem ok__law_take (T : Txt K mg a) : FnOk P w K mg base CX0 2 a.f__law_take a.d__law_take ["_law_box_here", "_law_size"] spTake := by
  have G__law_mixed := ok__law_mixed (P := P) (w := w) (base := base) T
  refine T.F__law_take.ok sc__law_take (fun vs H Q E h => ?_) (fun cdv A outer s H vs Q E hr h => ?_)
  · obtain ⟨b, g, l, n, sz, rfl, _⟩ := h
    rfl
  · obtain ⟨b, g, l, n, sz, rfl, B, hn, s0, s1, q⟩ := h
    obtain ⟨gs, ls, d, hb, hg, hl, d0, g0, lg, ll, nbg, nbl, ngl⟩ := B.ex
    have n0 := B.pos
    refine ⟨_, (pss_cons (ps_asg (pe_op op_add (pe_ix ix_list (pv 0) pe_int (fun _ _ => rfl)) pe_int) (pg_sub (pv 0) pe_int set_list))
      (pss_mid (ps_if (PW.pt (pw_and (pt_cmpR op_eq (pe_ix ix_list (pv 0) pe_int (fun _ _ => rfl)) pe_int (nomark _)) (pw_and1 (pt_cmpR op_gt (pe_callB call_lenK (by rfl) T.z_len PySem.boot_len (pa_cons (pe_ix ix_list (pv 0) pe_int (fun _ _ => rfl)) pa_nil)) pe_int (nomark _))))) (pss_one (ps_asg (pe_bm PySem.F.plainAttrs_list PySem.F.slot_list_pop PySem.F.type_list_pop mt_popAt (pe_ix ix_list (pv 0) pe_int (fun _ _ => rfl)) (pa_cons pe_int pa_nil)) (pg_sub (pv 0) pe_int set_list))) pss_nil)
      (pss_cons (ps_if (pt_cmpR op_gt (pe_ix ix_list (pv 0) pe_int (fun _ _ => rfl)) pe_int (nomark _)) (pss_cons (ps_set (i := 2) sc__law_take.nd rfl (Or.inl rfl) (pe_op op_modN (pe_ix ix_list (pv 0) pe_int (fun _ _ => rfl)) (pv 1)))
      (pss_cons (ps_asg (pe_op op_fdivW (pe_ix ix_list (pv 0) pe_int (fun _ _ => rfl)) (pv 1)) (pg_sub (pv 0) pe_int set_list))
      (pss_one (ps_ret (pv 2))))) pss_nil)
      (pss_cons (ps_set (i := 3) sc__law_take.nd rfl (Or.inl rfl) (pe_op op_mul pe_int (pe_ix ix_list (pv 0) pe_int (fun _ _ => rfl))))
      (pss_mid (ps_if (pt_cmpR op_gt (pe_callB call_lenK (by rfl) T.z_len PySem.boot_len (pa_cons (pe_ix ix_list (pv 0) pe_int (fun _ _ => rfl)) pa_nil)) pe_int (nomark _)) (pss_one (ps_set (i := 3) sc__law_take.nd rfl (Or.inl rfl) (pe_ix ix_list (pe_ix ix_list (pv 0) pe_int (fun _ _ => rfl)) (pe_op op_modN (pe_ix ix_list (pv 0) pe_int (fun _ _ => rfl)) (pe_callB call_lenK (by rfl) T.z_len PySem.boot_len (pa_cons (pe_ix ix_list (pv 0) pe_int (fun _ _ => rfl)) pa_nil))) (fun _ _ => rfl)))) pss_nil)
      (pss_cons (ps_set (i := 2) sc__law_take.nd rfl (Or.inl rfl) pe_int)
      (pss_cons (ps_set (i := 4) sc__law_take.nd rfl (Or.inl rfl) pe_int)
      (pss_cons (ps_stop (ps_while PassesOwn.never (pt_cmpR op_lt (pv 4) (pv 1) (nomark _)) (pss_cons (ps_set (i := 2) sc__law_take.nd rfl (Or.inl rfl) (pe_op op_add (pe_op op_mul (pv 2) pe_int) (pe_call G__law_mixed (hr.mono (by decide)) rfl T.m__law_mixed T.F__law_mixed.kp T.b__law_mixed .nil pass0 (pa_cons (pv 3) (pa_cons (pe_op op_add (pe_ix ix_list (pv 0) pe_int (fun _ _ => rfl)) (pe_op op_mul pe_int (pe_op op_modN (pv 2) pe_int))) pa_nil)))))
      (pss_one (ps_set (i := 4) sc__law_take.nd rfl (Or.inl rfl) (pe_op op_mul (pv 4) pe_int))))))
      (pss_one (ps_ret (pe_op op_modN (pv 2) (pv 1)))))))))))), ?_⟩
    walk_at "go"
    -- if box[1] == 0 and len(box[0]) > 0
    refine mid_of (fun σ H1 => ∃ (gs1 : List Int) (d1 : Int), σ = [some (.ref b), some (.int sz), none, none, none] ∧ H1 b = some (.lst [.ref g, .int d1, .ref l, .int (n + 1)]) ∧ H1 g = some (.lst (gs1.map V.int)) ∧ H1 l = some (.lst (ls.map V.int)) ∧
      0 ≤ d1 ∧ (∀ z ∈ gs1, 0 ≤ z) ∧ gs1.length ≤ 63 ∧ Keep2 b g H H1) ?_ ?_
    · have k1 : Keep2 b g H (upd H b (.lst [.ref g, .int d, .ref l, .int (n + 1)])) := fun x o n1 n2 e => by rw [upd_ne n1]; exact e
      walk_at "go"
      refine ifD (fun e => ?_) (fun _ => ?_)
      · walk_at "go"
        refine ifD (fun e2 => ?_) (fun _ => ?_)
        · cases gs with
          | nil => exact absurd e2 (by decide)
          | cons z r =>
            walk_at "go"
            refine ⟨(seqIndex_of (by decide) e2 : seqIndex? 0 _ = some 0), rfl, ?_⟩
            walk_at "go"
            refine wait ⟨r, z, rfl, upd_same, upd_get nbg.symm upd_same, upd_get nbl.symm (upd_get ngl.symm (upd_get nbl.symm hl)), g0 _ List.mem_cons_self, fun y hy => g0 y (List.mem_cons_of_mem _ hy), ?_, ?_⟩
            · rw [List.length_cons] at lg
              omega
            · intro x o n1 n2 e
              rw [upd_ne n1, upd_ne n2, upd_ne n1]
              exact e
        · exact wait ⟨gs, d, rfl, upd_same, upd_get nbg.symm hg, upd_get nbl.symm hl, d0, g0, lg, k1⟩
      · refine ifF rfl ?_
        exact wait ⟨gs, d, rfl, upd_same, upd_get nbg.symm hg, upd_get nbl.symm hl, d0, g0, lg, k1⟩
    · rintro σ H1 ⟨gs1, d1, rfl, hb1, hg1, hl1, d10, g10, lg1, k1⟩
      walk_at "go"
      refine ifD (fun e => ?_) (fun e => ?_)
      · have m := fmod_pos (i := d1) (j := sz) s0
        have hd : CDivW d1 sz := wide_div (b := 200) s0 (by omega) (by decide) (by decide)
        walk_at "go"
        refine q _ _ m.1 m.2 ⟨⟨gs1, ls, d1 / sz, upd_same, upd_get nbg.symm hg1, upd_get nbl.symm hl1, Int.ediv_nonneg d10 (by omega), g10, lg1, ll, nbg, nbl, ngl⟩, by omega⟩ ?_
        intro x o n1 n2 e
        rw [upd_ne n1]
        exact k1 x o n1 n2 e
      · walk_at "go"
        refine mid_of (fun σ H2 => H2 = H1 ∧ ∃ c : Int, σ = [some (.ref b), some (.int sz), none, some (.int c), none]) ?_ ?_
        · walk_at "go"
          refine ifD (fun e2 => ?_) (fun _ => ?_)
          · have e3 : (0 : Int) < (ls.length : Int) := by rw [List.length_map] at e2; exact e2
            have m := fmod_pos (i := n + 1) (j := (ls.length : Int)) e3
            obtain ⟨z, hz, _⟩ := atI_ints m.1 m.2
            have hz2 : atI (ls.map V.int) ((n + 1).fmod ((ls.map V.int).length : Int)) = some (.int z) := by rw [List.length_map]; exact hz
            walk_at "go"
            exact wait ⟨rfl, _, rfl⟩
          · exact wait ⟨rfl, _, rfl⟩
        · rintro σ H2 ⟨rfl, c, rfl⟩
          walk_at "go"
          refine while_W (fun m σ H3 => H3 = H2 ∧ ∃ f r : Int, σ = [some (.ref b), some (.int sz), some (.int f), some (.int c), some (.int r)] ∧ 0 < r ∧ m = (sz - r).toNat) (sz - 1).toNat ?_ ?_
          · exact ⟨rfl, 0, 1, rfl, by decide, rfl⟩
          · rintro m σ H3 ⟨rfl, f, r, rfl, r0, rfl⟩
            walk_at "go"
            refine ifD (fun e2 => ?_) (fun _ => ?_)
            · have m := fmod_pos (i := f) (j := 89) (by decide)
              refine next_W ?_
              walk_at "go"
              intro x
              walk_at "go"
              exact wait ⟨_, (show (sz - r * 1000000007).toNat < (sz - r).toNat by omega), rfl, _, _, rfl, by omega, rfl⟩
            · have m := fmod_pos (i := f) (j := sz) s0
              walk_at "go"
              exact q _ _ m.1 m.2 ⟨⟨gs1, ls, d1, hb1, hg1, hl1, d10, g10, lg1, ll, nbg, nbl, ngl⟩, by omega⟩ k1
theorem ok__law_box (T : Txt K mg a) : FnOk P w K mg base CX0 1 a.f__law_box a.d__law_box ["_law_script"] (spBox K) := by
  refine T.F__law_box.ok sc__law_box (fun vs H Q E h => ?_) (fun cdv A outer s H vs Q E hr h => ?_)
  · obtain ⟨c, ns, rfl, _⟩ := h
    rfl
  · obtain ⟨c, ns, rfl, hS, hl, q⟩ := h
    refine ⟨_, (pss_cons (ps_setLc (i := 1) (own := [("_law_cell", 2)]) (g := gName 2) rfl sc__law_box.nd rfl rfl (sw_true rfl rfl rfl (by decide +kernel)) (pi_list (pv 0)) (blkOk_by (own := [("_law_cell", 2)]) (N := n__law_box) (sc := defScope s__law_box) (by decide +kernel)) (fun _ _ _ _ _ => (pg_name (i := 2) sc__law_box.nd rfl (Or.inl rfl))) (fun _ _ _ _ _ => (pts_one (pt_cmpR op_ge (pv 2) (pe_op op_pow pe_int pe_int) (nomark _)))) (fun _ _ _ _ _ => (pv 2)))
      (pss_one (ps_ret (pe_lst (pa_cons (pv 1) (pa_cons pe_int (pa_cons (pe_lc (own := [("_law_cell", 2)]) (g := gName 2) rfl sc__law_box.nd (pi_list (pv 0)) (blkOk_by (own := [("_law_cell", 2)]) (N := n__law_box) (sc := defScope s__law_box) (by decide +kernel)) (fun _ _ _ _ _ => (pg_name (i := 2) sc__law_box.nd rfl (Or.inl rfl))) (fun _ _ _ _ _ => (pts_one (pt_cmpR op_lt (pv 2) (pe_op op_pow pe_int pe_int) (nomark _)))) (fun _ _ _ _ _ => (pv 2))) (pa_cons pe_int pa_nil)))))))), ?_⟩
    walk_at "go"
    intro D hD
    refine lcL (K := K) (a := c) (xs := ns.map V.int) (fun i H' => H' D = some (.lst (((ns.take i).filter fun z => decide ((10 : Int) ^ 18 ≤ z)).map V.int)) ∧ Same H H') ?_ ?_ ?_ ?_
    · exact ⟨upd_same, fun x o e => by rw [upd_ne (ne_of_none e hD)]; exact e⟩
    · exact fun i H' _ h => h.2.seq hS
    · rintro i y H' hi ⟨h1, h2⟩
      obtain ⟨u, rfl, hu, _⟩ := ints_at hi
      have hlen := filt_len (fun z => decide ((10 : Int) ^ 18 ≤ z)) ns i
      refine ⟨rfl, ?_⟩
      walk_at "go"
      refine ifD (fun p => ?_) (fun p => ?_)
      · walk_at "go"
        refine ⟨small_lt (by rw [List.length_map]; omega), wait ⟨?_, fun x o e => ?_⟩⟩
        · rw [upd_same, take_filt_yes hu (decide_eq_true p), List.map_append] <;> rfl
        · rw [upd_ne (ne_of_none e hD)]
          exact h2 x o e
      · refine wait ⟨?_, h2⟩
        rw [take_filt_no hu (decide_eq_false p)]
        exact h1
    · rintro H1 ⟨h1, s1⟩
      rw [List.length_map, List.take_length] at h1
      have hS1 := s1.seq hS
      walk_at "go"
      intro L hL
      refine lcL (K := K) (a := c) (xs := ns.map V.int) (fun i H' => H' L = some (.lst (((ns.take i).filter fun z => decide (z < (10 : Int) ^ 18)).map V.int)) ∧ Same H1 H') ?_ ?_ ?_ ?_
      · exact ⟨upd_same, fun x o e => by rw [upd_ne (ne_of_none e hL)]; exact e⟩
      · exact fun i H' _ h => h.2.seq hS1
      · rintro i y H' hi ⟨g1, g2⟩
        obtain ⟨u, rfl, hu, _⟩ := ints_at hi
        have hlen := filt_len (fun z => decide (z < (10 : Int) ^ 18)) ns i
        refine ⟨rfl, ?_⟩
        walk_at "go"
        refine ifD (fun p => ?_) (fun p => ?_)
        · walk_at "go"
          refine ⟨small_lt (by rw [List.length_map]; omega), wait ⟨?_, fun x o e => ?_⟩⟩
          · rw [upd_same, take_filt_yes hu (decide_eq_true p), List.map_append] <;> rfl
          · rw [upd_ne (ne_of_none e hL)]
            exact g2 x o e
        · refine wait ⟨?_, g2⟩
          rw [take_filt_no hu (decide_eq_false p)]
          exact g1
      · rintro H2 ⟨g1, s2⟩
        rw [List.length_map, List.take_length] at g1
        refine ⟨(by show 4 ≤ sizeLine; decide), fun b hb => ?_⟩
        have hD2 := s2 _ _ h1
        have nbD : b ≠ D := fun z => by rw [z, hD2] at hb; cases hb
        have nbL : b ≠ L := fun z => by rw [z, g1] at hb; cases hb
        have nDL : D ≠ L := ne_of_none h1 hL
        have s12 : Same H (upd H2 b (.lst [.ref D, .int 0, .ref L, .int 0])) := fun x o e => by
          have e2 := s2 _ _ (s1 _ _ e)
          rw [upd_ne (ne_of_none e2 hb)]
          exact e2
        refine q b D L _ ((s1.trans s2).free hb) hD (s1.free hL) ⟨⟨_, _, 0, upd_same, upd_get nbD.symm hD2, upd_get nbL.symm g1, by decide, fun z hz => ?_, ?_, ?_, nbD, nbL, nDL⟩, by decide⟩ s12
        · have := (List.mem_filter.mp hz).2
          have p : (10 : Int) ^ 18 ≤ z := of_decide_eq_true this
          omega
        · exact Nat.le_trans (List.length_filter_le _ _) hl
        · exact Nat.le_trans (List.length_filter_le _ _) hl
/-! ### names -/
structure IsName (w : Str) : Prop where
  lo : 1 ≤ w.length
  hi : w.length ≤ 8
  cs : ∀ c ∈ w.cps.toList, 97 ≤ c ∧ c ≤ 122
theorem abc_cps : (Str.ofString "abcdefghijklmnopqrstuvwxyz").cps.toList = (List.range 26).map (97 + ·) := by decide +kernel
theorem abc_at {r : Int} (h0 : 0 ≤ r) (h1 : r < 26) : ∃ c, atI (Str.ofString "abcdefghijklmnopqrstuvwxyz").cps.toList r = some c ∧ 97 ≤ c ∧ c ≤ 122 := by
  obtain ⟨v, e1, e2⟩ := atI_in (xs := (Str.ofString "abcdefghijklmnopqrstuvwxyz").cps.toList) (i := r) h0 (by rw [abc_cps]; exact h1)
  refine ⟨v, e1, ?_⟩
  have := List.mem_of_getElem? e2
  rw [abc_cps] at this
  obtain ⟨k, hk, rfl⟩ := List.mem_map.mp this
  have := List.mem_range.mp hk
  omega
theorem abc_len : (Str.ofString "abcdefghijklmnopqrstuvwxyz").length ≤ sizeLine := by decide +kernel
theorem joinL_one : ∀ cs : List Nat, TL.joinL [] (cs.map fun c => [c]) = cs
  | [] => rfl
  | [_] => rfl
  | c :: d :: r => by
    show [c] ++ ([] ++ TL.joinL [] ((d :: r).map fun c => [c])) = _
    rw [joinL_one (d :: r)] <;> rfl
theorem joined_one (cs : List Nat) : (Txt.join (Str.ofString "") (cs.map fun c => (⟨#[c]⟩ : Str))).cps.toList = cs := by
  rw [TL.join_eq]
  have := TL.tl_join (Str.ofString "") (cs.map fun c => (⟨#[c]⟩ : Str))
  rw [List.map_map] at this
  refine Eq.trans (Eq.trans this ?_) (joinL_one cs)
  rfl
def spName : Sp := fun vs H Q _ => ∃ (b g l : Addr) (n : Int), vs = [.ref b] ∧ BoxAt H b g l n ∧ n ≤ 900000 ∧
  ∀ (w : Str) (n' : Int) (H' : Hp), IsName w → BoxAt H' b g l n' → n' ≤ n + 10 → Keep2 b g H H' → Q (.str w) H'
theorem ok__law_name (T : Txt K mg a) : FnOk P w K mg base CX0 3 a.f__law_name a.d__law_name ["_law_box_here"] spName := by
  have G__law_take := ok__law_take (P := P) (w := w) (base := base) T
  refine T.F__law_name.ok sc__law_name (fun vs H Q E h => ?_) (fun cdv A outer s H vs Q E hr h => ?_)
  · obtain ⟨b, g, l, n, rfl, _⟩ := h
    rfl
  · obtain ⟨b, g, l, n, rfl, B, hn, q⟩ := h
    refine ⟨_, (pss_cons (ps_set (i := 1) sc__law_name.nd rfl (Or.inl rfl) (pe_op op_add pe_int (pe_call G__law_take (hr.mono (by decide)) rfl T.m__law_take T.F__law_take.kp T.b__law_take .nil pass0 (pa_cons (pv 0) (pa_cons (pe_ix ix_list (pe_lst (pa_cons pe_int (pa_cons pe_int (pa_cons pe_int pa_nil)))) (pe_call G__law_take (hr.mono (by decide)) rfl T.m__law_take T.F__law_take.kp T.b__law_take .nil pass0 (pa_cons (pv 0) (pa_cons pe_int pa_nil))) (fun _ _ => rfl)) pa_nil)))))
      (pss_one (ps_ret (pe_join pe_str (pe_lc (own := [("_law_k", 2)]) (g := gName 2) (tt := tYes) rfl sc__law_name.nd (pi_range1 rfl T.z_range (pa_cons (pv 1) pa_nil)) (blkOk_by (own := [("_law_k", 2)]) (N := n__law_name) (sc := defScope s__law_name) (by decide +kernel)) (fun _ _ _ _ _ => (pg_name (i := 2) sc__law_name.nd rfl (Or.inl rfl))) (fun _ _ _ _ _ => pts_nil) (fun _ _ _ _ _ => (pe_ix ix_str pe_str (pe_call G__law_take (hr.mono (by decide)) rfl T.m__law_take T.F__law_take.kp T.b__law_take .nil pass0 (pa_cons (pv 0) (pa_cons pe_int pa_nil))) (fun _ _ => rfl)))))))), ?_⟩
    walk_at "go"
    intro p1 hp1
    have s1 : Same H (upd H p1 (.lst [.int 1, .int 2, .int 8])) := Same.upd_new hp1
    have B1 := B.same s1
    obtain ⟨⟨xb, hb⟩, ⟨xg, hg⟩, _⟩ := B.lists
    refine ⟨_, rfl, b, g, l, n, 3, rfl, B1, by omega, by decide, by decide, fun r1 H2 r10 r11 B2 k2 => ?_⟩
    have hp2 := k2 _ _ (ne_of_none hb hp1).symm (ne_of_none hg hp1).symm upd_same
    obtain ⟨v, e1, e2⟩ := atI_in (xs := [V.int 1, .int 2, .int 8]) (i := r1) r10 r11
    have hm := List.mem_of_getElem? e2
    obtain ⟨sz, rfl, z0, z1⟩ : ∃ sz : Int, v = .int sz ∧ 0 < sz ∧ sz ≤ 8 := by
      simp only [List.mem_cons, List.not_mem_nil, or_false] at hm
      rcases hm with rfl | rfl | rfl
      · exact ⟨_, rfl, by decide, by decide⟩
      · exact ⟨_, rfl, by decide, by decide⟩
      · exact ⟨_, rfl, by decide, by decide⟩
    walk_at "go"
    intro r2 H3 r20 r21 B3 k3
    walk_at "go"
    intro D hD
    refine lcR (lo := 0) (n := (1 + r2).toNat) (fun i H' => ∃ cs : List Nat, cs.length = i ∧ (∀ c ∈ cs, 97 ≤ c ∧ c ≤ 122) ∧ H' D = some (.lst (cs.map fun c => V.str ⟨#[c]⟩)) ∧ BoxAt H' b g l (n + 1 + 1 + i) ∧ (∀ x o, x ≠ b → x ≠ g → x ≠ D → H3 x = some o → H' x = some o)) ?_ ?_ ?_
    · refine ⟨[], rfl, (fun _ h => nomatch h), upd_same, ?_, fun x o _ _ h3 e => upd_get h3 e⟩
      have := B3.same (Same.upd_new (o := .lst []) hD)
      rw [show n + 1 + 1 + ((0 : Nat) : Int) = n + 1 + 1 by omega]
      exact this
    · rintro i H' hi ⟨cs, hl, hc, h1, B', k'⟩
      have nD := B3.fresh hD
      have al := abc_len
      refine ⟨rfl, ?_⟩
      walk_at "go"
      intro r4 H4 r40 r41 B4 k4
      obtain ⟨c, e4, c0, c1⟩ := abc_at r40 r41
      have h4 := k4 _ _ nD.1 nD.2.1 h1
      walk_at "go"
      refine ⟨small_lt (by rw [List.length_map]; omega), wait ⟨cs ++ [c], by rw [List.length_append, hl] <;> rfl, fun d hd => ?_, ?_, ?_, fun x o n1 n2 n3 e => upd_get n3 (k4 x o n1 n2 (k' x o n1 n2 n3 e))⟩⟩
      · rcases List.mem_append.mp hd with z | z
        · exact hc d z
        · rw [List.mem_singleton.mp z]; exact ⟨c0, c1⟩
      · rw [upd_same, List.map_append] <;> rfl
      · rw [show n + 1 + 1 + ((i + 1 : Nat) : Int) = n + 1 + 1 + (i : Int) + 1 by omega]
        exact B4.upd nD
    · rintro H' ⟨cs, hl, hc, h1, B', k'⟩
      have nD := B3.fresh hD
      have hlen : cs.length ≤ 8 := by omega
      have hsum : ((cs.map fun c => (⟨#[c]⟩ : Str)).map (·.length)).sum + (cs.map fun c => (⟨#[c]⟩ : Str)).length * (Str.ofString "").length ≤ 16777216 := by
        rw [List.map_map, show ((·.length) ∘ fun c => (⟨#[c]⟩ : Str)) = fun _ => 1 from rfl, List.map_const', List.sum_replicate_nat, List.length_map]
        show cs.length * 1 + cs.length * 0 ≤ _
        omega
      refine ⟨_, D, cs.map fun c => (⟨#[c]⟩ : Str), rfl, rfl, .inl (SqL.of ?_), hsum, ?_⟩
      · rw [List.map_map]; exact h1
      · refine q _ _ _ ⟨?_, ?_, ?_⟩ B' (by omega) ?_
        · rw [TL.len_tl, TL.tl, joined_one]; omega
        · rw [TL.len_tl, TL.tl, joined_one]; omega
        · rw [joined_one]; exact hc
        · intro x o n1 n2 e
          have e3 := k3 x o n1 n2 (k2 x o n1 n2 (s1 x o e))
          exact k' x o n1 n2 (ne_of_none e3 hD) e3
end
end Pf
set_option Elab.async false
set_option linter.all false
set_option maxRecDepth 100000
set_option maxHeartbeats 4000000
namespace Pf
open PySem L2
local macro_rules | `(tactic| walk_at "nz") => `(tactic| (show (_ : Int) ≠ 0; omega))
local macro_rules | `(tactic| walk_at "ne") => `(tactic| first | assumption | (apply Ne.symm; assumption))
local macro_rules | `(tactic| walk_at "hp") => `(tactic| first | assumption | exact upd_same | (refine upd_get ?_ ?_; walk_at "ne"; walk_at "hp"))
local macro_rules | `(tactic| walk_at "sd") => `(tactic| first
  | rfl
  | assumption
  | (with_reducible show (_ : Int) < _; omega)
  | (with_reducible show (_ : Int) ≤ _; omega)
  | (with_reducible show (_ : Nat) < _; omega)
  | (with_reducible show (_ : Nat) ≤ _; omega)
  | exact kV_int _
  | exact kV_str _
  | (show (_ : Int) ≠ 0; omega)
  | exact SqL.of (by walk_at "hp")
  | exact ⟨_, SqL.of (by walk_at "hp")⟩
  | exact ⟨_, SqT.of (by walk_at "hp")⟩
  | exact ⟨_, (by assumption)⟩
  | exact SqT.of (by walk_at "hp")
  | exact Rd.of (by walk_at "hp")
  | exact Or.inl (SqL.of (by walk_at "hp"))
  | exact Or.inr (SqT.of (by walk_at "hp"))
  | (walk_at "hp")
  | (exact Or.inl ⟨rfl, _, SqL.of (by walk_at "hp")⟩)
  | (exact Or.inl ⟨by omega, by omega⟩)
  | (exact Or.inr ⟨by omega, by omega⟩)
  | (refine ⟨?_, ?_, ?_⟩ <;> omega)
  | omega
  | (exact small_le (by first | omega | (simp only [List.length_cons, List.length_nil]; omega)))
  | (exact small_lt (by first | omega | (simp only [List.length_cons, List.length_nil]; omega)))
  | exact Nat.le_of_ble_eq_true rfl
  | exact ⟨_, rfl⟩
  | decide)
local macro_rules | `(tactic| walk_at "st") => `(tactic| first
  | with_reducible refine sq_seq ?_
  | apply Exists.intro
  | (refine And.intro ?_ ?_; (walk_at "sd")))
local macro_rules | `(tactic| walk_at "go") => `(tactic| repeat (walk_at "st"))
section
variable {P : Program} {w : World} {K : PySem.W.Frag} {mg : Str → Option Value} {base : Heap} {a : Ad}
theorem nodup_sub_len {α : Type} [DecidableEq α] : ∀ {l m : List α}, l.Nodup → (∀ x ∈ l, x ∈ m) → l.length ≤ m.length
  | [], _, _, _ => Nat.zero_le _
  | a :: r, m, hn, hs => by
    rw [List.nodup_cons] at hn
    have ha := hs a List.mem_cons_self
    have h1 := nodup_sub_len (l := r) (m := m.erase a) hn.2 fun x hx => by
      have hne : x ≠ a := fun z => hn.1 (z ▸ hx)
      exact (List.mem_erase_of_ne hne).mpr (hs x (List.mem_cons_of_mem _ hx))
    rw [List.length_erase_of_mem ha] at h1
    have := List.length_pos_of_mem ha
    rw [List.length_cons]
    omega
theorem flat_strs1 (ys : List Str) : (ys.map V.str).all flatV = true := by
  rw [List.all_map]
  exact List.all_eq_true.mpr fun _ _ => rfl
theorem nodup_snoc {α : Type} {l : List α} {x : α} (h : l.Nodup) (hx : x ∉ l) : (l ++ [x]).Nodup := by
  rw [List.nodup_append]
  refine ⟨h, List.nodup_cons.mpr ⟨(fun z => nomatch z), List.nodup_nil⟩, fun y hy z hz => ?_⟩
  rw [List.mem_singleton.mp hz]
  exact fun e => hx (e ▸ hy)
theorem in_strs (x : Str) (ws : List Str) : inV (.str x) (ws.map V.str) = decide (x ∈ ws) := by
  unfold inV
  rw [List.any_map]
  induction ws with
  | nil => rfl
  | cons y r ih =>
    rw [List.any_cons, ih]
    show ((y == x) || _) = _
    by_cases h : y = x
    · subst h; simp
    · have h2 : ¬ x = y := fun z => h z.symm
      simp [h, h2]
theorem name_app {u : Str} {c : Nat} (h : IsName u) (h1 : 97 ≤ c) (h2 : c ≤ 122) : IsName (cutS u none (some 7) ++ (⟨#[c]⟩ : Str)) := by
  have e : TL.tl (cutS u none (some 7) ++ (⟨#[c]⟩ : Str)) = (TL.tl u).take (min 7 u.length) ++ [c] := by
    rw [TL.tl_append]
    rfl
  have hl := TL.len_tl (cutS u none (some 7) ++ (⟨#[c]⟩ : Str))
  rw [e, List.length_append, List.length_take] at hl
  have h8 := h.hi
  have hu := TL.len_tl u
  refine ⟨by rw [hl]; exact Nat.le_add_left _ _, ?_, fun d hd => ?_⟩
  · rw [hl]
    show _ + 1 ≤ 8
    omega
  · have hd2 : d ∈ (TL.tl u).take (min 7 u.length) ++ [c] := by rw [← e]; exact hd
    rcases List.mem_append.mp hd2 with z | z
    · exact h.cs d (List.mem_of_mem_take z)
    · rw [List.mem_singleton.mp z]; exact ⟨h1, h2⟩
abbrev spares : List Str := ["q", "qa", "qb", "qc", "qd", "qe", "qf", "qg", "qh", "qi", "qj", "qk", "ql", "qm", "qn", "qo"]
theorem spares_nd : spares.Nodup := by decide +kernel
theorem isName_dec {w : Str} (h : (decide (1 ≤ w.length) && decide (w.length ≤ 8) && w.cps.toList.all fun c => decide (97 ≤ c) && decide (c ≤ 122)) = true) : IsName w := by
  rw [Bool.and_eq_true, Bool.and_eq_true, List.all_eq_true] at h
  refine ⟨of_decide_eq_true h.1.1, of_decide_eq_true h.1.2, fun c hc => ?_⟩
  have := h.2 c hc
  rw [Bool.and_eq_true] at this
  exact ⟨of_decide_eq_true this.1, of_decide_eq_true this.2⟩
theorem spares_ok : ∀ w ∈ spares, IsName w := by
  have h : (spares.all fun w => (decide (1 ≤ w.length) && decide (w.length ≤ 8) && w.cps.toList.all fun c => decide (97 ≤ c) && decide (c ≤ 122))) = true := by decide +kernel
  intro w hw
  exact isName_dec (List.all_eq_true.mp h w hw)
def spNames : Sp := fun vs H Q _ => ∃ (b g l : Addr) (n m : Int), vs = [.ref b, .int m] ∧ BoxAt H b g l n ∧ n ≤ 800000 ∧ 0 ≤ m ∧ m ≤ 16 ∧
  ∀ (D : Addr) (ws : List Str) (n' : Int) (H' : Hp), (ws.length : Int) = m → ws.Nodup → (∀ w ∈ ws, IsName w) → H D = none → H' D = some (.lst (ws.map V.str)) → BoxAt H' b g l n' → n' ≤ n + 12 * m → Keep2 b g H H' → Q (.ref D) H'
theorem ok__law_names (T : Txt K mg a) : FnOk P w K mg base CX0 4 a.f__law_names a.d__law_names ["_law_box_here", "_law_many"] spNames := by
  have G__law_take := ok__law_take (P := P) (w := w) (base := base) T
  have G__law_name := ok__law_name (P := P) (w := w) (base := base) T
  refine T.F__law_names.ok sc__law_names (fun vs H Q E h => ?_) (fun cdv A outer s H vs Q E hr h => ?_)
  · obtain ⟨b, g, l, n, m, rfl, _⟩ := h
    rfl
  · obtain ⟨b, g, l, n, m, rfl, B, hn, m0, m1, q⟩ := h
    refine ⟨_, (pss_cons (ps_set (i := 2) sc__law_names.nd rfl (Or.inl rfl) (pe_lst pa_nil))
      (pss_cons (ps_stop (ps_for PassesOwn.never rfl (pi_wait (pi_range1 rfl T.z_range (pa_cons (pv 1) pa_nil))) (pg_name (i := 3) sc__law_names.nd rfl (Or.inl rfl)) (pss_cons (ps_set (i := 4) sc__law_names.nd rfl (Or.inl rfl) (pe_call G__law_name (hr.mono (by decide)) rfl T.m__law_name T.F__law_name.kp T.b__law_name .nil pass0 (pa_cons (pv 0) pa_nil)))
      (pss_mid (ps_if (PW.pt (pw_and (pt_cmpR op_gt (pe_callB call_lenK (by rfl) T.z_len PySem.boot_len (pa_cons (pv 2) pa_nil)) pe_int (nomark _)) (pw_and1 (pt_cmpR op_eq (pe_call G__law_take (hr.mono (by decide)) rfl T.m__law_take T.F__law_take.kp T.b__law_take .nil pass0 (pa_cons (pv 0) (pa_cons pe_int pa_nil))) pe_int (nomark _))))) (pss_one (ps_set (i := 4) sc__law_names.nd rfl (Or.inl rfl) (pe_op op_add_str (pe_slice sl_str (pe_ix ix_list (pv 2) (pe_un un_neg pe_int) (fun _ _ => rfl)) po_none (po_some pe_int)) (pe_ix ix_str pe_str (pe_call G__law_take (hr.mono (by decide)) rfl T.m__law_take T.F__law_take.kp T.b__law_take .nil pass0 (pa_cons (pv 0) (pa_cons pe_int pa_nil))) (fun _ _ => rfl))))) pss_nil)
      (pss_cons (ps_stop (ps_for PassesOwn.never rfl (pi_wait (pi_list (by exact (pe_lst (pa_cons pe_str (pa_cons pe_str (pa_cons pe_str (pa_cons pe_str (pa_cons pe_str (pa_cons pe_str (pa_cons pe_str (pa_cons pe_str (pa_cons pe_str (pa_cons pe_str (pa_cons pe_str (pa_cons pe_str (pa_cons pe_str (pa_cons pe_str (pa_cons pe_str (pa_cons pe_str pa_nil)))))))))))))))))))) (pg_name (i := 5) sc__law_names.nd rfl (Or.inl rfl)) (pss_one (ps_if (pt_cmpR op_in_seq (pv 4) (pv 2) (by rfl)) (pss_one (ps_set (i := 4) sc__law_names.nd rfl (Or.inl rfl) (pv 5))) pss_nil))))
      (pss_one (ps_expr (pe_bm PySem.F.plainAttrs_list PySem.F.slot_list_append PySem.F.type_list_append mt_append (pv 2) (pa_cons (pv 4) pa_nil)))))))))
      (pss_one (ps_ret (pv 2))))), ?_⟩
    refine ⟨Nat.zero_le _, fun D hD => ?_⟩
    have nD := B.fresh hD
    refine stop_in ⟨_, rfl, m, rfl, by omega, by omega, ?_⟩
    refine wait ?_
    refine forR (lo := 0) (n := m.toNat) (fun i σ H' => ∃ (u3 u4 u5 : Option V) (ws : List Str) (n' : Int), σ = [some (.ref b), some (.int m), some (.ref D), u3, u4, u5] ∧ ws.length = i ∧ ws.Nodup ∧ (∀ w ∈ ws, IsName w) ∧ H' D = some (.lst (ws.map V.str)) ∧
      BoxAt H' b g l n' ∧ n' ≤ n + 12 * i ∧ (∀ x o, x ≠ b → x ≠ g → x ≠ D → H x = some o → H' x = some o)) ?_ ?_ ?_
    · exact ⟨_, _, _, [], n, rfl, rfl, .nil, (fun _ h => nomatch h), upd_same, B.upd nD, by omega, fun x o _ _ h3 e => upd_get h3 e⟩
    · rintro i σ H1 hi ⟨u3, u4, u5, ws, n1, rfl, hl, hd, hw, h1, B1, hn1, k1⟩
      walk_at "go"
      intro w2 n2 H2 hw2 B2 hn2 k2
      have h2 := k2 _ _ nD.1 nD.2.1 h1
      refine mid_of (fun σ H3 => ∃ (w3 : Str) (n3 : Int), σ = [some (.ref b), some (.int m), some (.ref D), some (.int (0 + i)), some (.str w3), u5] ∧ IsName w3 ∧ BoxAt H3 b g l n3 ∧ n3 ≤ n2 + 2 ∧ Keep2 b g H2 H3) ?_ ?_
      · walk_at "go"
        refine ifD (fun e => ?_) (fun _ => ?_)
        · walk_at "go"
          intro r3 H3 r30 r31 B3 k3
          have h3 := k3 _ _ nD.1 nD.2.1 h2
          walk_at "go"
          refine ifD (fun _ => ?_) (fun _ => ?_)
          · have e2 : 0 < ws.length := by rw [List.length_map] at e; omega
            obtain ⟨u, hu⟩ : ∃ u, ws[ws.length - 1]? = some u := ⟨_, List.getElem?_eq_getElem (by omega)⟩
            have hix : atI (ws.map V.str) (-1) = some (.str u) := by
              unfold atI ixN
              rw [List.length_map, if_neg (by decide), if_pos (by omega), Option.bind_some, List.getElem?_map, show ((-1 : Int) + (ws.length : Int)).toNat = ws.length - 1 by omega, hu] <;> rfl
            have hun := hw u (List.mem_of_getElem? hu)
            have hul : u.length ≤ sizeLine := small_le (by have := hun.hi; omega)
            have al := abc_len
            walk_at "go"
            intro r4 H4 r40 r41 B4 k4
            obtain ⟨c, e4, c0, c1⟩ := abc_at r40 r41
            have hnn := name_app hun c0 c1
            have hln : (cutS u none (some 7)).length + (⟨#[c]⟩ : Str).length ≤ sizeLine := small_le (by
              have := cutS_length u none (some 7)
              have := hun.hi
              show _ + 1 ≤ _
              omega)
            walk_at "go"
            exact wait ⟨_, _, rfl, hnn, B4, by omega, k3.trans k4⟩
          · exact wait ⟨_, _, rfl, hw2, B3, by omega, k3⟩
        · refine ifF rfl ?_
          exact wait ⟨_, _, rfl, hw2, B2, by omega, Keep2.refl _ _ _⟩
      · rintro σ H3 ⟨w3, n3, rfl, hw3, B3, hn3, k3⟩
        have h3 := k3 _ _ nD.1 nD.2.1 h2
        refine sq_seq (stop_in ⟨by decide, fun L hL => ⟨L, rfl, ⟨_, SqL.of upd_same⟩, ?_⟩⟩)
        have nLD : D ≠ L := ne_of_none h3 hL
        refine wait ?_
        refine forL (K := K) (a := L) (xs := spares.map V.str) (fun j σ H4 => H4 = upd H3 L (.lst (spares.map V.str)) ∧ ∃ (w4 : Str) (u5 : Option V), σ = [some (.ref b), some (.int m), some (.ref D), some (.int (0 + i)), some (.str w4), u5] ∧ IsName w4 ∧ (w4 ∉ ws ∨ ∀ v ∈ spares.take j, v ∈ ws)) ?_ ?_ ?_ ?_
        · exact ⟨rfl, w3, u5, rfl, hw3, .inr fun v hv => nomatch hv⟩
        · rintro j σ H4 _ ⟨rfl, _⟩
          exact SqL.of upd_same
        · rintro j x σ H4 hj ⟨rfl, w4, u5', rfl, hw4, hor⟩
          rw [List.getElem?_map] at hj
          obtain ⟨v, hv, rfl⟩ := Option.map_eq_some_iff.mp hj
          have fl := flat_strs1 ws
          have h4 : upd H3 L (.lst (spares.map V.str)) D = some (.lst (ws.map V.str)) := upd_get nLD h3
          refine ⟨_, rfl, _, rfl, D, _, rfl, .inl (SqL.of h4), rfl, fl, ?_⟩
          rw [if_neg (by decide), in_strs]
          refine ⟨_, rfl, ifD (fun e => ?_) (fun e => ?_)⟩
          · walk_at "go"
            refine wait ⟨rfl, v, _, rfl, spares_ok v (List.mem_of_getElem? hv), ?_⟩
            rcases hor with z | z
            · exact absurd e z
            · by_cases y : v ∈ ws
              · refine .inr fun u hu => ?_
                rw [List.take_add_one, hv, Option.toList_some] at hu
                rcases List.mem_append.mp hu with t | t
                · exact z u t
                · rw [List.mem_singleton.mp t]; exact y
              · exact .inl y
          · exact wait ⟨rfl, w4, _, rfl, hw4, .inl e⟩
        · rintro σ H4 ⟨rfl, w4, u5', rfl, hw4, hor⟩
          have h4 : upd H3 L (.lst (spares.map V.str)) D = some (.lst (ws.map V.str)) := upd_get nLD h3
          have hno : w4 ∉ ws := by
            rcases hor with z | z
            · exact z
            · exfalso
              have := nodup_sub_len spares_nd fun v hv => z v (by rw [List.length_map, List.take_length]; exact hv)
              have e16 : spares.length = 16 := rfl
              omega
          have nL := B3.fresh hL
          walk_at "go"
          refine ⟨small_lt (by rw [List.length_map]; omega), wait ⟨_, _, _, ws ++ [w4], n3, rfl, by rw [List.length_append, hl] <;> rfl, ?_, ?_, ?_, (B3.upd nL).upd nD, by omega, ?_⟩⟩
          · exact nodup_snoc hd hno
          · intro x hx
            rcases List.mem_append.mp hx with z | z
            · exact hw x z
            · rw [List.mem_singleton.mp z]; exact hw4
          · rw [upd_same, List.map_append] <;> rfl
          · intro x o a1 a2 a3 e
            have e3 := k3 x o a1 a2 (k2 x o a1 a2 (k1 x o a1 a2 a3 e))
            rw [upd_ne a3, upd_ne (ne_of_none e3 hL)]
            exact e3
    · rintro σ H' ⟨u3, u4, u5, ws, n1, rfl, hl, hd, hw, h1, B1, hn1, k1⟩
      walk_at "go"
      exact q D ws n1 _ (by omega) hd hw hD h1 B1 (by omega) fun x o a1 a2 e => k1 x o a1 a2 (ne_of_none e hD) e
end
end Pf
set_option Elab.async false
set_option linter.all false
set_option maxRecDepth 100000
set_option maxHeartbeats 4000000
namespace Pf
open PySem L2
local macro_rules | `(tactic| walk_at "nz") => `(tactic| (show (_ : Int) ≠ 0; omega))
local macro_rules | `(tactic| walk_at "ne") => `(tactic| first | assumption | (apply Ne.symm; assumption))
local macro_rules | `(tactic| walk_at "hp") => `(tactic| first | assumption | exact upd_same | (refine upd_get ?_ ?_; walk_at "ne"; walk_at "hp"))
local macro_rules | `(tactic| walk_at "sd") => `(tactic| first
  | rfl
  | assumption
  | (with_reducible show (_ : Int) < _; omega)
  | (with_reducible show (_ : Int) ≤ _; omega)
  | (with_reducible show (_ : Nat) < _; omega)
  | (with_reducible show (_ : Nat) ≤ _; omega)
  | exact kV_int _
  | exact kV_str _
  | (show (_ : Int) ≠ 0; omega)
  | exact SqL.of (by walk_at "hp")
  | exact ⟨_, SqL.of (by walk_at "hp")⟩
  | exact ⟨_, SqT.of (by walk_at "hp")⟩
  | exact ⟨_, (by assumption)⟩
  | exact SqT.of (by walk_at "hp")
  | exact Rd.of (by walk_at "hp")
  | exact Or.inl (SqL.of (by walk_at "hp"))
  | exact Or.inr (SqT.of (by walk_at "hp"))
  | (walk_at "hp")
  | (exact Or.inl ⟨rfl, _, SqL.of (by walk_at "hp")⟩)
  | (exact Or.inl ⟨by omega, by omega⟩)
  | (exact Or.inr ⟨by omega, by omega⟩)
  | (refine ⟨?_, ?_, ?_⟩ <;> omega)
  | omega
  | (exact small_le (by first | omega | (simp only [List.length_cons, List.length_nil]; omega)))
  | (exact small_lt (by first | omega | (simp only [List.length_cons, List.length_nil]; omega)))
  | exact Nat.le_of_ble_eq_true rfl
  | exact ⟨_, rfl⟩
  | decide)
local macro_rules | `(tactic| walk_at "st") => `(tactic| first
  | with_reducible refine sq_seq ?_
  | apply Exists.intro
  | (refine And.intro ?_ ?_; (walk_at "sd")))
local macro_rules | `(tactic| walk_at "go") => `(tactic| repeat (walk_at "st"))
section
variable {P : Program} {w : World} {K : PySem.W.Frag} {mg : Str → Option Value} {base : Heap} {a : Ad}
theorem BoxAt.tups {H H' : Hp} {b g l : Addr} {n : Int} (B : BoxAt H b g l n) (k : Keep2 b g H H') : ∀ t ys, H t = some (.tup ys) → H' t = some (.tup ys) := fun t ys e => by
  obtain ⟨⟨_, h1⟩, ⟨_, h2⟩, _⟩ := B.lists
  exact k _ _ (ne_of e h1 (by intro z; cases z)) (ne_of e h2 (by intro z; cases z)) e
theorem cutV_from (xs : List V) (k : Nat) : cutV xs (some (k : Int)) none = xs.drop k := by
  unfold cutV
  rw [HT.sIx_nat, HT.sIx_none]
  by_cases h : k ≤ xs.length
  · rw [Nat.min_eq_left h, List.take_of_length_le (by rw [List.length_drop] <;> omega)]
  · rw [Nat.min_eq_right (by omega), List.drop_eq_nil_of_le (by omega), List.drop_eq_nil_of_le (by omega), List.take_nil]
theorem cutV_to (xs : List V) (k : Nat) : cutV xs none (some (k : Int)) = xs.take k := by
  unfold cutV
  rw [HT.sIx_nat, HT.sIx_none, List.drop_zero, Nat.sub_zero]
  by_cases h : k ≤ xs.length
  · rw [Nat.min_eq_left h]
  · rw [Nat.min_eq_right (by omega), List.take_of_length_le (by omega), List.take_of_length_le (by omega)]
theorem cutV_f1 (xs : List V) : cutV xs (some 1) none = xs.drop 1 := cutV_from xs 1
theorem cutV_t1 (xs : List V) : cutV xs none (some 1) = xs.take 1 := cutV_to xs 1
theorem drop_take_perm {α : Type} (l : List α) (k : Nat) : (l.drop k ++ l.take k).Perm l := (List.perm_append_comm).trans (by rw [List.take_append_drop])
/-! ### pairs -/
structure Pr where
  near : Str
  far : Str
  laden : Bool
def PrAt (H : Hp) (e : Addr × Pr) : Prop := H e.1 = some (.tup [.str e.2.near, .str e.2.far, .bl e.2.laden])
structure PairsAt (H : Hp) (D : Addr) (L : List (Addr × Pr)) : Prop where
  ls : H D = some (.lst (L.map fun e => V.ref e.1))
  at_ : ∀ e ∈ L, PrAt H e
theorem PairsAt.keep {H H' : Hp} {D : Addr} {L : List (Addr × Pr)} (h : PairsAt H D L) (k : ∀ o, H D = some o → H' D = some o) (kt : ∀ t ys, H t = some (.tup ys) → H' t = some (.tup ys)) : PairsAt H' D L :=
  ⟨k _ h.ls, fun e he => kt _ _ (h.at_ e he)⟩
theorem PairsAt.same {H H' : Hp} {D : Addr} {L : List (Addr × Pr)} (h : PairsAt H D L) (k : Same H H') : PairsAt H' D L := h.keep (fun o e => k _ _ e) fun t ys e => k _ _ e
structure Good (ps : List Pr) : Prop where
  len : ps.length ≤ 6
  nn : (ps.map (·.near)).Nodup
  nf : (ps.map (·.far)).Nodup
  kn : ∀ p ∈ ps, IsName p.near
  kf : ∀ p ∈ ps, IsName p.far
def spPairs : Sp := fun vs H Q _ => ∃ (b g l : Addr) (n m : Int), vs = [.ref b, .int m] ∧ BoxAt H b g l n ∧ n ≤ 700000 ∧ 0 ≤ m ∧ m ≤ 6 ∧
  ∀ (D : Addr) (L : List (Addr × Pr)) (n' : Int) (H' : Hp), Good (L.map (·.2)) → H D = none → PairsAt H' D L → (∀ e ∈ L, H e.1 = none) → BoxAt H' b g l n' → n' ≤ n + 200 → Keep2 b g H H' → Q (.ref D) H'
theorem keep_none {b g : Addr} {H H' : Hp} {x : Addr} (k : Keep2 b g H H') (n1 : x ≠ b) (n2 : x ≠ g) (h : H' x = none) : H x = none := by
  cases z : H x with
  | none => rfl
  | some o => rw [k x o n1 n2 z] at h; cases h
theorem ok__law_pairs (T : Txt K mg a) : FnOk P w K mg base CX0 5 a.f__law_pairs a.d__law_pairs ["_law_box_here", "_law_most"] spPairs := by
  have G__law_take := ok__law_take (P := P) (w := w) (base := base) T
  have G__law_names := ok__law_names (P := P) (w := w) (base := base) T
  refine T.F__law_pairs.ok sc__law_pairs (fun vs H Q E h => ?_) (fun cdv A outer s H vs Q E hr h => ?_)
  · obtain ⟨b, g, l, n, m, rfl, _⟩ := h
    rfl
  · obtain ⟨b, g, l, n, m, rfl, B, hn, m0, m1, q⟩ := h
    refine ⟨_, (pss_cons (ps_set (i := 2) sc__law_pairs.nd rfl (Or.inl rfl) (pe_call G__law_names (hr.mono (by decide)) rfl T.m__law_names T.F__law_names.kp T.b__law_names .nil pass0 (pa_cons (pv 0) (pa_cons (pe_call G__law_take (hr.mono (by decide)) rfl T.m__law_take T.F__law_take.kp T.b__law_take .nil pass0 (pa_cons (pv 0) (pa_cons (pe_op op_add (pv 1) pe_int) pa_nil))) pa_nil))))
      (pss_cons (ps_set (i := 3) sc__law_pairs.nd rfl (Or.inl rfl) (pe_call G__law_names (hr.mono (by decide)) rfl T.m__law_names T.F__law_names.kp T.b__law_names .nil pass0 (pa_cons (pv 0) (pa_cons (pe_callB call_lenK (by rfl) T.z_len PySem.boot_len (pa_cons (pv 2) pa_nil)) pa_nil))))
      (pss_mid (ps_if (pt_cmpR op_eq (pe_call G__law_take (hr.mono (by decide)) rfl T.m__law_take T.F__law_take.kp T.b__law_take .nil pass0 (pa_cons (pv 0) (pa_cons pe_int pa_nil))) pe_int (nomark _)) (pss_one (ps_set (i := 3) sc__law_pairs.nd rfl (Or.inl rfl) (pe_op op_cat (pe_slice sl_list (pv 2) (po_some pe_int) po_none) (pe_slice sl_list (pv 2) po_none (po_some pe_int))))) pss_nil)
      (pss_one (ps_ret (pe_lc (own := [("_law_near", 4), ("_law_far", 5)]) (g := gTup K 2 (gCons (gName 4) (gCons (gName 5) gNil))) (tt := tYes) rfl sc__law_pairs.nd (pi_zip rfl T.z_zip (pa_cons (pv 2) (pa_cons (pv 3) pa_nil))) (blkOk_by (own := [("_law_near", 4), ("_law_far", 5)]) (N := n__law_pairs) (sc := defScope s__law_pairs) (by decide +kernel)) (fun _ _ _ _ _ => (pg_tup rfl (pgs_cons (pg_name (i := 4) sc__law_pairs.nd rfl (Or.inl rfl)) (pgs_cons (pg_name (i := 5) sc__law_pairs.nd rfl (Or.inl rfl)) pgs_nil)))) (fun _ _ _ _ _ => pts_nil) (fun _ _ _ _ _ => (pe_tup (pa_cons (pv 4) (pa_cons (pv 5) (pa_cons (pe_cmpR op_eq (pe_call G__law_take (hr.mono (by decide)) rfl T.m__law_take T.F__law_take.kp T.b__law_take .nil pass0 (pa_cons (pv 0) (pa_cons pe_int pa_nil))) pe_int (nomark _)) pa_nil))))))))))), ?_⟩
    walk_at "go"
    intro r1 H1 r10 r11 B1 k1
    walk_at "go"
    intro N ns n2 H2 hl2 nd2 hn2 hN h2 B2 hb2 k2
    have nN := B1.fresh hN
    have lm : (ns.map V.str).length = ns.length := List.length_map _
    walk_at "go"
    intro F fs n3 H3 hl3 nd3 hn3 hF h3 B3 hb3 k3
    have nF := B2.fresh hF
    have h3N := k3 _ _ nN.1 nN.2.1 h2
    refine mid_of (fun σ H4 => ∃ (F' : Addr) (fs' : List Str) (n4 : Int), σ = [some (.ref b), some (.int m), some (.ref N), some (.ref F'), none, none] ∧ H4 N = some (.lst (ns.map V.str)) ∧ H4 F' = some (.lst (fs'.map V.str)) ∧ fs'.length = ns.length ∧ fs'.Nodup ∧ (∀ w ∈ fs', IsName w) ∧ BoxAt H4 b g l n4 ∧ n4 ≤ n3 + 1 ∧ F' ≠ b ∧ F' ≠ g ∧ Keep2 b g H3 H4) ?_ ?_
    · walk_at "go"
      intro r4 H4 r40 r41 B4 k4
      have h4N := k4 _ _ nN.1 nN.2.1 h3N
      have h4F := k4 _ _ nF.1 nF.2.1 h3
      walk_at "go"
      refine ifD (fun _ => ?_) (fun _ => ?_)
      · walk_at "go"
        intro p5 hp5
        rw [cutV_f1]
        have h5N := Same.upd_new (o := .lst ((ns.map V.str).drop 1)) hp5 _ _ h4N
        have B5 := B4.same (Same.upd_new (o := .lst ((ns.map V.str).drop 1)) hp5)
        walk_at "go"
        intro p6 hp6
        rw [cutV_t1]
        have n56 : p5 ≠ p6 := fun z => by rw [← z, upd_same] at hp6; cases hp6
        have h6N := Same.upd_new (o := .lst ((ns.map V.str).take 1)) hp6 _ _ h5N
        have B6 := B5.same (Same.upd_new (o := .lst ((ns.map V.str).take 1)) hp6)
        have hsz : ((ns.map V.str).drop 1).length + ((ns.map V.str).take 1).length ≤ sizeLine := small_le (by rw [List.length_drop, List.length_take]; omega)
        walk_at "go"
        intro p7 hp7
        have h7N := Same.upd_new (o := .lst ((ns.map V.str).drop 1 ++ (ns.map V.str).take 1)) hp7 _ _ h6N
        have B7 := B6.same (Same.upd_new (o := .lst ((ns.map V.str).drop 1 ++ (ns.map V.str).take 1)) hp7)
        have f7 := B6.fresh hp7
        have pp := drop_take_perm ns 1
        refine wait ⟨p7, ns.drop 1 ++ ns.take 1, _, rfl, h7N, ?_, ?_, ?_, fun x hx => hn2 x (pp.mem_iff.mp hx), B7, by omega, f7.1, f7.2.1, ?_⟩
        · rw [upd_same, List.map_append, List.map_drop, List.map_take]
        · exact pp.length_eq
        · exact pp.nodup_iff.mpr nd2
        · exact k4.trans fun x o _ _ e => Same.upd_new hp7 _ _ (Same.upd_new hp6 _ _ (Same.upd_new hp5 _ _ e))
      · refine wait ⟨F, fs, _, rfl, h4N, h4F, ?_, nd3, hn3, B4, by omega, nF.1, nF.2.1, k4⟩
        rw [List.length_map] at hl3
        omega
    · rintro σ H4 ⟨F', fs', n4, rfl, h4N, h4F, hl4, nd4, hn4, B4, hb4, nF1, nF2, k4⟩
      have lmf : (fs'.map V.str).length = fs'.length := List.length_map _
      have back : ∀ x, H4 x = none → H x = none := fun x hx => by
        have nx := B4.fresh hx
        exact keep_none k1 nx.1 nx.2.1 (keep_none k2 nx.1 nx.2.1 (keep_none k3 nx.1 nx.2.1 (keep_none k4 nx.1 nx.2.1 hx)))
      walk_at "go"
      intro D hD
      have nD := B4.fresh hD
      refine lcW (walk_zip (K := K) (xs := ns.map V.str) (ys := fs'.map V.str) (n := ns.length) (by omega)) (fun i H' => ∃ (L : List (Addr × Pr)) , L.length = i ∧ L.map (·.2.near) = ns.take i ∧ L.map (·.2.far) = fs'.take i ∧ PairsAt H' D L ∧ (∀ e ∈ L, H4 e.1 = none ∧ e.1 ≠ D) ∧ BoxAt H' b g l (n4 + i) ∧ (∀ x o, x ≠ b → x ≠ g → x ≠ D → H4 x = some o → H' x = some o)) ?_ ?_ ?_ ?_
      · exact ⟨[], rfl, rfl, rfl, ⟨upd_same, fun _ h => nomatch h⟩, (fun _ h => nomatch h), by rw [show n4 + ((0 : Nat) : Int) = n4 by omega]; exact B4.upd nD, fun x o _ _ a3 e => upd_get a3 e⟩
      · rintro i H' _ ⟨L, _, _, _, _, _, _, k5⟩
        exact ⟨SqL.of (k5 _ _ nN.1 nN.2.1 (ne_of_none h4N hD) h4N), SqL.of (k5 _ _ nF1 nF2 (ne_of_none h4F hD) h4F)⟩
      · rintro i x H5 H6 hi ⟨L, hL, e1, e2, PA, fr, B5, k5⟩ ⟨t, x1, x2, rfl, ht, rfl, hx1, hx2⟩
        have s6 : Same H5 (upd H5 t (.tup [x1, x2])) := Same.upd_new ht
        have hx1 : (ns.map V.str)[i]? = some x1 := hx1
        have hx2 : (fs'.map V.str)[i]? = some x2 := hx2
        rw [List.getElem?_map] at hx1 hx2
        obtain ⟨u1, hu1, rfl⟩ := Option.map_eq_some_iff.mp hx1
        obtain ⟨u2, hu2, rfl⟩ := Option.map_eq_some_iff.mp hx2
        have B6 := B5.same s6
        walk_at "go"
        intro r7 H7 r70 r71 B7 k7
        walk_at "go"
        intro p8 hp8
        have h7D := k7 _ _ nD.1 nD.2.1 (s6 _ _ PA.ls)
        have s8 : Same H7 (upd H7 p8 (.tup [.str u1, .str u2, .bl (decide (V.int r7 = V.int 1))])) := Same.upd_new hp8
        have n8D : p8 ≠ D := (ne_of_none h7D hp8).symm
        have B8 := B7.same s8
        have PA8 : PairsAt (upd H7 p8 (.tup [.str u1, .str u2, .bl (decide (V.int r7 = V.int 1))])) D L := PA.keep (fun o e => s8 _ _ (k7 _ _ nD.1 nD.2.1 (s6 _ _ e))) fun t ys e => s8 _ _ (B6.tups k7 _ _ (s6 _ _ e))
        have n8 := B7.fresh hp8
        refine ⟨_, s8 _ _ h7D, small_lt (by rw [List.length_map]; omega), wait ⟨L ++ [(p8, ⟨u1, u2, decide (V.int r7 = V.int 1)⟩)], by rw [List.length_append, hL] <;> rfl, ?_, ?_, ⟨?_, ?_⟩, ?_, ?_, ?_⟩⟩
        · rw [List.map_append, e1, List.take_add_one, hu1] <;> rfl
        · rw [List.map_append, e2, List.take_add_one, hu2] <;> rfl
        · rw [upd_same, List.map_append] <;> rfl
        · intro e he
          rcases List.mem_append.mp he with z | z
          · exact upd_get (fr e z).2 (PA8.at_ e z)
          · rw [List.mem_singleton.mp z]
            exact upd_get n8D upd_same
        · intro e he
          rcases List.mem_append.mp he with z | z
          · exact fr e z
          · rw [List.mem_singleton.mp z]
            refine ⟨?_, n8D⟩
            cases y : H4 p8 with
            | none => rfl
            | some o => rw [k7 _ _ n8.1 n8.2.1 (s6 _ _ (k5 _ _ n8.1 n8.2.1 n8D y))] at hp8; cases hp8
        · rw [show n4 + ((i + 1 : Nat) : Int) = n4 + (i : Int) + 1 by omega]
          exact B8.upd nD
        · exact fun x o a1 a2 a3 e => upd_get a3 (s8 _ _ (k7 x o a1 a2 (s6 _ _ (k5 x o a1 a2 a3 e))))
      · rintro H5 ⟨L, hL, e1, e2, PA, fr, B5, k5⟩
        have ef : L.map (fun e => e.2.far) = fs' := by rw [e2, ← hl4, List.take_length]
        rw [List.take_length] at e1
        refine q D L _ _ ⟨?_, ?_, ?_, ?_, ?_⟩ ?_ PA ?_ B5 ?_ ?_
        · rw [List.length_map]; omega
        · rw [List.map_map]; exact e1 ▸ nd2
        · rw [List.map_map]; exact ef ▸ nd4
        · intro p hp
          obtain ⟨e, he, rfl⟩ := List.mem_map.mp hp
          exact hn2 _ (by rw [← e1]; exact List.mem_map.mpr ⟨e, he, rfl⟩)
        · intro p hp
          obtain ⟨e, he, rfl⟩ := List.mem_map.mp hp
          exact hn4 _ (by rw [← ef]; exact List.mem_map.mpr ⟨e, he, rfl⟩)
        · exact back _ hD
        · exact fun e he => back _ (fr e he).1
        · omega
        · intro x o a1 a2 e
          have e4 := k4 x o a1 a2 (k3 x o a1 a2 (k2 x o a1 a2 (k1 x o a1 a2 e)))
          exact k5 x o a1 a2 (ne_of_none e4 hD) e4
end
end Pf
set_option Elab.async false
set_option linter.all false
set_option maxRecDepth 100000
set_option maxHeartbeats 4000000
namespace Pf
open PySem L2
local macro_rules | `(tactic| walk_at "nz") => `(tactic| (show (_ : Int) ≠ 0; omega))
local macro_rules | `(tactic| walk_at "ne") => `(tactic| first | assumption | (apply Ne.symm; assumption))
local macro_rules | `(tactic| walk_at "hp") => `(tactic| first | assumption | exact upd_same | (refine upd_get ?_ ?_; walk_at "ne"; walk_at "hp"))
local macro_rules | `(tactic| walk_at "sd") => `(tactic| first
  | rfl
  | assumption
  | (with_reducible show (_ : Int) < _; omega)
  | (with_reducible show (_ : Int) ≤ _; omega)
  | (with_reducible show (_ : Nat) < _; omega)
  | (with_reducible show (_ : Nat) ≤ _; omega)
  | exact kV_int _
  | exact kV_str _
  | (show (_ : Int) ≠ 0; omega)
  | exact SqL.of (by walk_at "hp")
  | exact ⟨_, SqL.of (by walk_at "hp")⟩
  | exact ⟨_, SqT.of (by walk_at "hp")⟩
  | exact ⟨_, (by assumption)⟩
  | exact SqT.of (by walk_at "hp")
  | exact Rd.of (by walk_at "hp")
  | exact Or.inl (SqL.of (by walk_at "hp"))
  | exact Or.inr (SqT.of (by walk_at "hp"))
  | (walk_at "hp")
  | (exact Or.inl ⟨rfl, _, SqL.of (by walk_at "hp")⟩)
  | (exact Or.inl ⟨by omega, by omega⟩)
  | (exact Or.inr ⟨by omega, by omega⟩)
  | (refine ⟨?_, ?_, ?_⟩ <;> omega)
  | omega
  | (exact small_le (by first | omega | (simp only [List.length_cons, List.length_nil]; omega)))
  | (exact small_lt (by first | omega | (simp only [List.length_cons, List.length_nil]; omega)))
  | exact Nat.le_of_ble_eq_true rfl
  | exact ⟨_, rfl⟩
  | decide)
local macro_rules | `(tactic| walk_at "st") => `(tactic| first
  | with_reducible refine sq_seq ?_
  | apply Exists.intro
  | (refine And.intro ?_ ?_; (walk_at "sd")))
local macro_rules | `(tactic| walk_at "go") => `(tactic| repeat (walk_at "st"))
section
variable {P : Program} {w : World} {K : PySem.W.Frag} {mg : Str → Option Value} {base : Heap} {a : Ad}
/-! ### Pacts -/
def nameB (w : Str) : Bool := (decide (1 ≤ w.length) && decide (w.length ≤ 8)) && w.cps.toList.all fun c => decide (c ∈ (Str.ofString "abcdefghijklmnopqrstuvwxyz").cps.toList)
theorem mem_abc {c : Nat} : c ∈ (Str.ofString "abcdefghijklmnopqrstuvwxyz").cps.toList ↔ 97 ≤ c ∧ c ≤ 122 := by
  rw [abc_cps, List.mem_map]
  constructor
  · rintro ⟨k, hk, rfl⟩
    have := List.mem_range.mp hk
    omega
  · intro h
    exact ⟨c - 97, List.mem_range.mpr (by omega), by omega⟩
theorem nameB_iff {w : Str} : nameB w = true ↔ IsName w := by
  unfold nameB
  rw [Bool.and_eq_true, Bool.and_eq_true, List.all_eq_true]
  constructor
  · intro h
    exact ⟨of_decide_eq_true h.1.1, of_decide_eq_true h.1.2, fun c hc => mem_abc.mp (of_decide_eq_true (h.2 c hc))⟩
  · intro h
    exact ⟨⟨decide_eq_true h.lo, decide_eq_true h.hi⟩, fun c hc => decide_eq_true (mem_abc.mpr (h.cs c hc))⟩
def spIsName : Sp := fun vs H Q _ => ∃ w : Str, vs = [.str w] ∧ w.length ≤ 100000 ∧ ∀ H', Same H H' → Q (.bl (nameB w)) H'
theorem ok_is_name (T : Txt K mg a) : FnOk P w K mg base CX0 1 a.f_is_name a.d_is_name ["word"] spIsName := by
  refine T.F_is_name.ok sc_is_name (fun vs H Q E h => ?_) (fun cdv A outer s H vs Q E hr h => ?_)
  · obtain ⟨w, rfl, _⟩ := h
    rfl
  · obtain ⟨w, rfl, hl, q⟩ := h
    have hsz : w.length ≤ sizeLine := small_le hl
    refine ⟨_, (pss_one (ps_ret (pe_and (pe_chain op_le op_le pe_int (pe_callB call_len_str (by rfl) T.z_len PySem.boot_len (pa_cons (pv 0) pa_nil)) (pe_globI rfl T.g_MOST)) (pe_one (pe_callB (cr_all rfl) (by rfl) T.z_all (by decide +kernel) (pa_cons (pe_lc (own := [("sign", 1)]) (g := gName 1) (tt := tYes) rfl sc_is_name.nd (pi_str (pv 0)) (blkOk_by (own := [("sign", 1)]) (N := n_is_name) (sc := defScope s_is_name) (by decide +kernel)) (fun _ _ _ _ _ => (pg_name (i := 1) sc_is_name.nd rfl (Or.inl rfl))) (fun _ _ _ _ _ => pts_nil) (fun _ _ _ _ _ => (pe_cmpR op_in_str (pv 1) (pe_globS rfl T.g_LETTERS) rfl))) pa_nil)))))), ?_⟩
    walk_at "go"
    refine ifD (fun h1 => ?_) (fun h1 => ?_)
    · walk_at "go"
      refine ifD (fun h2 => ?_) (fun h2 => ?_)
      · walk_at "go"
        intro D hD
        refine lcW (walk_str (z := w)) (fun i H' => H' D = some (.lst ((((w.cps.toList.take i).map fun c => decide (c ∈ (Str.ofString "abcdefghijklmnopqrstuvwxyz").cps.toList))).map V.bl)) ∧ Same H H') ?_ ?_ ?_ ?_
        · exact ⟨upd_same, Same.upd_new hD⟩
        · exact fun _ _ _ _ => trivial
        · rintro i x H1 _ hi ⟨g1, g2⟩ ⟨rfl, c, hc, rfl⟩
          have hc2 : w.cps.toList[i]? = some c := by rw [Array.getElem?_toList]; exact hc
          have hlt : (w.cps.toList.take i).length ≤ 8 := by
            rw [List.length_take, Array.length_toList]
            have : w.length = w.cps.size := rfl
            omega
          refine ⟨rfl, ?_⟩
          walk_at "go"
          refine ⟨small_lt (by rw [List.length_map, List.length_map]; omega), wait ⟨?_, fun x o e => upd_get (ne_of_none e hD) (g2 x o e)⟩⟩
          rw [upd_same, StrLaws.found_one, List.take_add_one, hc2, List.map_append, List.map_append] <;> rfl
        · rintro H1 ⟨g1, g2⟩
          walk_at "go"
          have e1 : nameB w = ((w.cps.toList.take w.cps.size).map fun c => decide (c ∈ (Str.ofString "abcdefghijklmnopqrstuvwxyz").cps.toList)).all id := by
            rw [List.take_of_length_le (by rw [Array.length_toList] <;> omega), List.all_map]
            unfold nameB
            rw [decide_eq_true (show 1 ≤ w.length by omega), decide_eq_true (show w.length ≤ 8 by omega)] <;> rfl
          rw [← e1]
          exact q _ g2
      · have e1 : nameB w = false := by
          unfold nameB
          rw [decide_eq_false (show ¬ w.length ≤ 8 by omega), Bool.and_false, Bool.false_and]
        rw [← e1]
        exact q _ (fun _ _ e => e)
    · have e1 : nameB w = false := by
        unfold nameB
        rw [decide_eq_false (show ¬ 1 ≤ w.length by omega), Bool.false_and, Bool.false_and]
      refine ⟨_, rfl, ifF rfl ?_⟩
      rw [← e1]
      exact q _ (fun _ _ e => e)
abbrev pf (kp kd : Addr) : List (Str × V) := [(("kept_pairs" : Str), V.ref kp), (("kept_pacts" : Str), V.ref kd)]
structure PactsAt (C : Addr) (H : Hp) (x kp kd : Addr) (L : List (Addr × Pr)) (kvs : List (Key × V)) : Prop where
  ob : ∃ dx, H x = some (.ins C dx (pf kp kd))
  pr : PairsAt H kp L
  pc : H kd = some (.dK kvs)
theorem PactsAt.same {C : Addr} {H H' : Hp} {x kp kd : Addr} {L : List (Addr × Pr)} {kvs : List (Key × V)} (h : PactsAt C H x kp kd L kvs) (k : Same H H') : PactsAt C H' x kp kd L kvs := by
  obtain ⟨dx, ho⟩ := h.ob
  exact ⟨⟨dx, k _ _ ho⟩, h.pr.same k, k _ _ h.pc⟩
def Pr.word (p : Pr) (s : Int) : Str := if s = 0 then p.near else p.far
theorem pr_at (p : Pr) {s : Int} (hs : s = 0 ∨ s = 1) : atI [V.str p.near, .str p.far, .bl p.laden] s = some (.str (p.word s)) := by
  rcases hs with rfl | rfl <;> rfl
theorem pr_at1 (p : Pr) {s : Int} (hs : s = 0 ∨ s = 1) : atI [V.str p.near, .str p.far, .bl p.laden] (1 - s) = some (.str (p.word (1 - s))) := by
  rcases hs with rfl | rfl <;> rfl
def spWords (C : Addr) : Sp := fun vs H Q _ => ∃ (x kp kd : Addr) (L : List (Addr × Pr)) (kvs : List (Key × V)) (s : Int), vs = [.ref x, .int s] ∧ PactsAt C H x kp kd L kvs ∧ (s = 0 ∨ s = 1) ∧ L.length ≤ 10000 ∧
  ∀ D H', H D = none → H' D = some (.lst ((L.map fun e => e.2.word s).map V.str)) → Same H H' → Q (.ref D) H'
theorem ok_Pacts_words_called (T : Txt K mg a) : FnOk P w K mg base CX0 1 a.f_Pacts_words_called a.d_Pacts_words_called ["self", "side"] (spWords a.c_Pacts) := by
  have cl := T.cl_Pacts
  have n1 := T.na_Pacts_kept_pairs
  refine T.F_Pacts_words_called.ok sc_Pacts_words_called (fun vs H Q E h => ?_) (fun cdv A outer s H vs Q E hr h => ?_)
  · obtain ⟨x, kp, kd, L, kvs, s, rfl, _⟩ := h
    rfl
  · obtain ⟨x, kp, kd, L, kvs, s, rfl, PA, hs, hl, q⟩ := h
    obtain ⟨dx, ho⟩ := PA.ob
    have hls := PA.pr.ls
    refine ⟨_, (pss_one (ps_ret (pe_lc (own := [("pair", 2)]) (g := gName 2) (tt := tYes) (te := (tOp (rIxT K) _ _)) rfl sc_Pacts_words_called.nd (pi_list (by exact (pe_fld (pv 0) rfl))) (blkOk_by (own := [("pair", 2)]) (N := n_Pacts_words_called) (sc := defScope s_Pacts_words_called) (by decide +kernel)) (fun _ _ _ _ _ => (pg_name (i := 2) sc_Pacts_words_called.nd rfl (Or.inl rfl))) (fun _ _ _ _ _ => pts_nil) (fun _ _ _ _ _ => (pe_ix ix_tup (pv 2) (pv 1) (fun _ _ => rfl)))))), ?_⟩
    walk_at "go"
    intro D hD
    refine lcL (K := K) (a := kp) (xs := L.map fun e => V.ref e.1) (fun i H' => H' D = some (.lst (((L.take i).map fun e => e.2.word s).map V.str)) ∧ Same H H') ?_ ?_ ?_ ?_
    · exact ⟨upd_same, Same.upd_new hD⟩
    · exact fun i H' _ h => SqL.of (h.2 _ _ hls)
    · rintro i y H' hi ⟨g1, g2⟩
      rw [List.getElem?_map] at hi
      obtain ⟨e, he, rfl⟩ := Option.map_eq_some_iff.mp hi
      have hp : H' e.1 = _ := g2 _ _ (PA.pr.at_ e (List.mem_of_getElem? he))
      have hlt := (List.getElem?_eq_some_iff.mp he).1
      have hat := pr_at e.2 hs
      refine ⟨rfl, ?_⟩
      walk_at "go"
      refine ⟨small_lt (by rw [List.length_map, List.length_map, List.length_take]; omega), wait ⟨?_, fun x o e => upd_get (ne_of_none e hD) (g2 x o e)⟩⟩
      rw [upd_same, List.take_add_one, he, List.map_append, List.map_append] <;> rfl
    · rintro H' ⟨g1, g2⟩
      rw [List.length_map, List.take_length] at g1
      walk_at "go"
      exact q D _ hD g1 g2
end
end Pf
set_option Elab.async false
set_option linter.all false
set_option maxRecDepth 100000
set_option maxHeartbeats 4000000
namespace Pf
open PySem L2
local macro_rules | `(tactic| walk_at "nz") => `(tactic| (show (_ : Int) ≠ 0; omega))
local macro_rules | `(tactic| walk_at "ne") => `(tactic| first | assumption | (apply Ne.symm; assumption))
local macro_rules | `(tactic| walk_at "hp") => `(tactic| first | assumption | exact upd_same | (refine upd_get ?_ ?_; walk_at "ne"; walk_at "hp"))
local macro_rules | `(tactic| walk_at "sd") => `(tactic| first
  | rfl
  | assumption
  | (with_reducible show (_ : Int) < _; omega)
  | (with_reducible show (_ : Int) ≤ _; omega)
  | (with_reducible show (_ : Nat) < _; omega)
  | (with_reducible show (_ : Nat) ≤ _; omega)
  | exact kV_int _
  | exact kV_str _
  | (show (_ : Int) ≠ 0; omega)
  | exact SqL.of (by walk_at "hp")
  | exact ⟨_, SqL.of (by walk_at "hp")⟩
  | exact ⟨_, SqT.of (by walk_at "hp")⟩
  | exact ⟨_, (by assumption)⟩
  | exact SqT.of (by walk_at "hp")
  | exact Rd.of (by walk_at "hp")
  | exact Or.inl (SqL.of (by walk_at "hp"))
  | exact Or.inr (SqT.of (by walk_at "hp"))
  | (walk_at "hp")
  | (exact Or.inl ⟨rfl, _, SqL.of (by walk_at "hp")⟩)
  | (exact Or.inl ⟨by omega, by omega⟩)
  | (exact Or.inr ⟨by omega, by omega⟩)
  | (refine ⟨?_, ?_, ?_⟩ <;> omega)
  | omega
  | (exact small_le (by first | omega | (simp only [List.length_cons, List.length_nil]; omega)))
  | (exact small_lt (by first | omega | (simp only [List.length_cons, List.length_nil]; omega)))
  | exact Nat.le_of_ble_eq_true rfl
  | exact ⟨_, rfl⟩
  | decide)
local macro_rules | `(tactic| walk_at "st") => `(tactic| first
  | with_reducible refine sq_seq ?_
  | apply Exists.intro
  | (refine And.intro ?_ ?_; (walk_at "sd")))
local macro_rules | `(tactic| walk_at "go") => `(tactic| repeat (walk_at "st"))
section
variable {P : Program} {w : World} {K : PySem.W.Frag} {mg : Str → Option Value} {base : Heap} {a : Ad}
theorem ok_NoWord___init__ (T : Txt K mg a) : FnOk P w K mg base CX0 1 a.f_NoWord___init__ a.d_NoWord___init__ ["self", "word"] (spErr a.c_NoWord "word") := by
  refine T.F_NoWord___init__.ok sc_NoWord___init__ (fun vs H Q E h => ?_) (fun cdv A outer s H vs Q E hr h => ?_)
  · obtain ⟨e, v, rfl, _⟩ := h
    rfl
  · obtain ⟨e, v, rfl, he, q⟩ := h
    refine ⟨_, pss_one (ps_ost (pv 0) (pv 1)), ?_⟩
    exact ⟨_, rfl, _, rfl, e, a.c_NoWord, rfl, T.ox_NoWord, T.na_NoWord_word, .inl ⟨he, q⟩⟩
/-- pair_of: the first pair with the word, or NoWord -/
def FirstW (L : List (Addr × Pr)) (w : Str) (s : Int) (e : Addr × Pr) : Prop := e ∈ L ∧ e.2.word s = w ∧ ∃ j : Nat, L[j]? = some e ∧ ∀ i < j, ∀ d, L[i]? = some d → d.2.word s ≠ w
def spPairOf (C N : Addr) : Sp := fun vs H Q E => ∃ (x kp kd : Addr) (L : List (Addr × Pr)) (kvs : List (Key × V)) (w : Str) (s : Int), vs = [.ref x, .str w, .int s] ∧ PactsAt C H x kp kd L kvs ∧ (s = 0 ∨ s = 1) ∧ 
  (∀ e, FirstW L w s e → Q (.ref e.1) H) ∧ ((∀ e ∈ L, e.2.word s ≠ w) → ∀ d H', H d = none → H' d = some (.xd [("word", .str w)]) → Same H H' → E (.ref N) (some d) H')
theorem ok_Pacts_pair_of (T : Txt K mg a) : FnOk P w K mg base (L2.CX P w) 3 a.f_Pacts_pair_of a.d_Pacts_pair_of ["self", "word", "side"] (spPairOf a.c_Pacts a.c_NoWord) := by
  have G_NoWord___init__ := ok_NoWord___init__ (P := P) (w := w) (base := base) T
  have cl_Pacts := T.cl_Pacts
  have na_Pacts_kept_pairs := T.na_Pacts_kept_pairs
  have na_Pacts_kept_pacts := T.na_Pacts_kept_pacts
  refine T.F_Pacts_pair_of.okX sc_Pacts_pair_of (fun vs H Q E h => ?_) (fun cdv A outer s H vs Q E hr h => ?_)
  · obtain ⟨x, kp, kd, L, kvs, w, s, rfl, _⟩ := h
    rfl
  · obtain ⟨x, kp, kd, L, kvs, w, s, rfl, PA, hs, q1, q2⟩ := h
    obtain ⟨dx, ho⟩ := PA.ob
    have hls := PA.pr.ls
    refine ⟨_, (pss_cons (ps_stop (ps_for (passes_of rfl) rfl (pi_wait (pi_list (by exact (pe_fld (pv 0) rfl)))) (pg_name (i := 3) sc_Pacts_pair_of.nd rfl (Or.inl rfl)) (pss_one (ps_if (pt_cmpR op_eq (pe_ix ix_tup (pv 3) (pv 2) (fun _ _ => rfl)) (pv 1) (nomark _)) (pss_one (ps_ret (pv 3))) pss_nil))))
      (pss_one (ps_raise rfl (takes_of rfl rfl rfl rfl) (pmk_oex T.ox_NoWord T.ini_NoWord T.ti_NoWord G_NoWord___init__ (hr.mono (by decide)) T.b_NoWord___init__ .nil pass0 rfl T.m_NoWord (by exact (pa_cons (pv 1) pa_nil)))))), ?_⟩
    refine sq_seq (stop_in ?_)
    walk_at "go"
    refine wait ?_
    refine forL (K := K) (a := kp) (xs := L.map fun e => V.ref e.1) (fun i σ H' => H' = H ∧ (∃ u, σ = [some (.ref x), some (.str w), some (.int s), u]) ∧ ∀ j < i, ∀ d, L[j]? = some d → d.2.word s ≠ w) ?_ ?_ ?_ ?_
    · exact ⟨rfl, ⟨_, rfl⟩, fun j hj => absurd hj (Nat.not_lt_zero _)⟩
    · rintro i σ H' _ ⟨rfl, _⟩
      exact SqL.of hls
    · rintro i y σ H' hi ⟨rfl, ⟨u, rfl⟩, hno⟩
      rw [List.getElem?_map] at hi
      obtain ⟨e, he, rfl⟩ := Option.map_eq_some_iff.mp hi
      have hp : H' e.1 = _ := PA.pr.at_ e (List.mem_of_getElem? he)
      have hat := pr_at e.2 hs
      walk_at "go"
      refine ifD (fun b => ?_) (fun b => ?_)
      · walk_at "go"
        exact q1 e ⟨List.mem_of_getElem? he, V.str.inj b, i, he, hno⟩
      · refine wait ⟨rfl, ⟨_, rfl⟩, fun j hj d hd => ?_⟩
        by_cases z : j = i
        · subst z
          rw [he] at hd
          cases hd
          exact fun z => b (congrArg V.str z)
        · exact hno j (by omega) d hd
    · rintro σ H' ⟨rfl, ⟨u, rfl⟩, hno⟩
      rw [List.length_map] at hno
      refine ⟨_, rfl, raise_err (q2 fun e he => ?_)⟩
      obtain ⟨j, hj⟩ := List.getElem?_of_mem he
      exact hno j (List.getElem?_eq_some_iff.mp hj).1 e hj
def spPairsM (C : Addr) : Sp := fun vs H Q _ => ∃ (x kp kd : Addr) (L : List (Addr × Pr)) (kvs : List (Key × V)), vs = [.ref x] ∧ PactsAt C H x kp kd L kvs ∧
  ∀ D, H D = none → Q (.ref D) (upd H D (.lst (L.map fun e => V.ref e.1)))
theorem ok_Pacts_pairs (T : Txt K mg a) : FnOk P w K mg base CX0 1 a.f_Pacts_pairs a.d_Pacts_pairs ["self"] (spPairsM a.c_Pacts) := by
  have cl_Pacts := T.cl_Pacts
  have na_Pacts_kept_pairs := T.na_Pacts_kept_pairs
  have na_Pacts_kept_pacts := T.na_Pacts_kept_pacts
  refine T.F_Pacts_pairs.ok sc_Pacts_pairs (fun vs H Q E h => ?_) (fun cdv A outer s H vs Q E hr h => ?_)
  · obtain ⟨x, kp, kd, L, kvs, rfl, _⟩ := h
    rfl
  · obtain ⟨x, kp, kd, L, kvs, rfl, PA, q⟩ := h
    obtain ⟨dx, ho⟩ := PA.ob
    have hls := PA.pr.ls
    refine ⟨_, (pss_one (ps_ret (pe_callTy call_list_of (by rfl) T.z_list (by decide +kernel) (pa_cons (pe_fld (pv 0) rfl) pa_nil)))), ?_⟩
    walk_at "go"
    exact q
def spLaden (C N : Addr) : Sp := fun vs H Q E => ∃ (x kp kd : Addr) (L : List (Addr × Pr)) (kvs : List (Key × V)) (w : Str) (s : Int), vs = [.ref x, .str w, .int s] ∧ PactsAt C H x kp kd L kvs ∧ (s = 0 ∨ s = 1) ∧ 
  (∀ e, FirstW L w s e → Q (.bl e.2.laden) H) ∧ ((∀ e ∈ L, e.2.word s ≠ w) → ∀ d H', H d = none → H' d = some (.xd [("word", .str w)]) → Same H H' → E (.ref N) (some d) H')
theorem ok_Pacts_laden (T : Txt K mg a) : FnOk P w K mg base (L2.CX P w) 4 a.f_Pacts_laden a.d_Pacts_laden ["self", "word", "side"] (spLaden a.c_Pacts a.c_NoWord) := by
  have G_Pacts_pair_of := ok_Pacts_pair_of (P := P) (w := w) (base := base) T
  have cl_Pacts := T.cl_Pacts
  have na_Pacts_kept_pairs := T.na_Pacts_kept_pairs
  have na_Pacts_kept_pacts := T.na_Pacts_kept_pacts
  refine T.F_Pacts_laden.okX sc_Pacts_laden (fun vs H Q E h => ?_) (fun cdv A outer s H vs Q E hr h => ?_)
  · obtain ⟨x, kp, kd, L, kvs, w, s, rfl, _⟩ := h
    rfl
  · obtain ⟨x, kp, kd, L, kvs, w, s, rfl, PA, hs, q1, q2⟩ := h
    obtain ⟨dx, ho⟩ := PA.ob
    refine ⟨_, (pss_cons (ps_asg (pe_meth (pv 0) T.cl_Pacts T.mt_Pacts_pair_of G_Pacts_pair_of (hr.mono (by decide)) T.b_Pacts_pair_of .nil (passes_call (takes_of rfl rfl rfl rfl) (fun _ _ _ _ h => h)) (pa_cons (pv 1) (pa_cons (pv 2) pa_nil))) (pg_tup rfl (pgs_cons (pg_name (i := 3) sc_Pacts_laden.nd rfl (Or.inl rfl)) (pgs_cons (pg_name (i := 4) sc_Pacts_laden.nd rfl (Or.inl rfl)) (pgs_cons (pg_name (i := 5) sc_Pacts_laden.nd rfl (Or.inl rfl)) pgs_nil)))))
      (pss_one (ps_ret (pv 5)))), ?_⟩
    refine ⟨_, rfl, x, dx, _, rfl, ho, rfl, _, rfl, _, rfl, x, kp, kd, L, kvs, w, s, rfl, PA, hs, fun e he => ?_, q2⟩
    have hp : H e.1 = _ := PA.pr.at_ e he.1
    walk_at "go"
    exact q1 e he
def spOver (C N : Addr) : Sp := fun vs H Q E => ∃ (x kp kd : Addr) (L : List (Addr × Pr)) (kvs : List (Key × V)) (w : Str) (s : Int), vs = [.ref x, .str w, .int s] ∧ PactsAt C H x kp kd L kvs ∧ (s = 0 ∨ s = 1) ∧ 
  (∀ e, FirstW L w s e → Q (.str (e.2.word (1 - s))) H) ∧ ((∀ e ∈ L, e.2.word s ≠ w) → ∀ d H', H d = none → H' d = some (.xd [("word", .str w)]) → Same H H' → E (.ref N) (some d) H')
theorem ok_Pacts_over (T : Txt K mg a) : FnOk P w K mg base (L2.CX P w) 4 a.f_Pacts_over a.d_Pacts_over ["self", "word", "side"] (spOver a.c_Pacts a.c_NoWord) := by
  have G_Pacts_pair_of := ok_Pacts_pair_of (P := P) (w := w) (base := base) T
  have cl_Pacts := T.cl_Pacts
  have na_Pacts_kept_pairs := T.na_Pacts_kept_pairs
  have na_Pacts_kept_pacts := T.na_Pacts_kept_pacts
  refine T.F_Pacts_over.okX sc_Pacts_over (fun vs H Q E h => ?_) (fun cdv A outer s H vs Q E hr h => ?_)
  · obtain ⟨x, kp, kd, L, kvs, w, s, rfl, _⟩ := h
    rfl
  · obtain ⟨x, kp, kd, L, kvs, w, s, rfl, PA, hs, q1, q2⟩ := h
    obtain ⟨dx, ho⟩ := PA.ob
    refine ⟨_, (pss_one (ps_ret (pe_ix ix_tup (pe_meth (pv 0) T.cl_Pacts T.mt_Pacts_pair_of G_Pacts_pair_of (hr.mono (by decide)) T.b_Pacts_pair_of .nil (passes_call (takes_of rfl rfl rfl rfl) (fun _ _ _ _ h => h)) (pa_cons (pv 1) (pa_cons (pv 2) pa_nil))) (pe_op op_sub pe_int (pv 2)) (fun _ _ => rfl)))), ?_⟩
    refine ⟨_, rfl, x, dx, _, rfl, ho, rfl, _, rfl, _, rfl, x, kp, kd, L, kvs, w, s, rfl, PA, hs, fun e he => ?_, q2⟩
    have hp : H e.1 = _ := PA.pr.at_ e he.1
    have hat := pr_at1 e.2 hs
    walk_at "go"
    exact q1 e he
def spLenP (C : Addr) : Sp := fun vs H Q _ => ∃ (x kp kd : Addr) (L : List (Addr × Pr)) (kvs : List (Key × V)), vs = [.ref x] ∧ PactsAt C H x kp kd L kvs ∧ Q (.int kvs.length) H
theorem ok_Pacts___len__ (T : Txt K mg a) : FnOk P w K mg base CX0 1 a.f_Pacts___len__ a.d_Pacts___len__ ["self"] (spLenP a.c_Pacts) := by
  have cl_Pacts := T.cl_Pacts
  have na_Pacts_kept_pairs := T.na_Pacts_kept_pairs
  have na_Pacts_kept_pacts := T.na_Pacts_kept_pacts
  refine T.F_Pacts___len__.ok sc_Pacts___len__ (fun vs H Q E h => ?_) (fun cdv A outer s H vs Q E hr h => ?_)
  · obtain ⟨x, kp, kd, L, kvs, rfl, _⟩ := h
    rfl
  · obtain ⟨x, kp, kd, L, kvs, rfl, PA, q⟩ := h
    obtain ⟨dx, ho⟩ := PA.ob
    have hc := PA.pc
    refine ⟨_, (pss_one (ps_ret (pe_callB call_lenD (by rfl) T.z_len PySem.boot_len (pa_cons (pe_fld (pv 0) rfl) pa_nil)))), ?_⟩
    walk_at "go"
    exact q
def fitsP (ps : List Pr) (p : Pr) : Bool := decide (ps.length ≠ 6) && nameB p.near && nameB p.far && decide (p.near ∉ ps.map (·.near)) && decide (p.far ∉ ps.map (·.far))
def spFitsPair (C : Addr) : Sp := fun vs H Q _ => ∃ (x kp kd t : Addr) (L : List (Addr × Pr)) (kvs : List (Key × V)) (p : Pr), vs = [.ref x, .ref t] ∧ PactsAt C H x kp kd L kvs ∧ PrAt H (t, p) ∧ L.length ≤ 10000 ∧ p.near.length ≤ 100000 ∧ p.far.length ≤ 100000 ∧
  ∀ H', Same H H' → Q (.bl (fitsP (L.map (·.2)) p)) H'
theorem ok_Pacts_fits_pair (T : Txt K mg a) : FnOk P w K mg base CX0 2 a.f_Pacts_fits_pair a.d_Pacts_fits_pair ["self", "pair"] (spFitsPair a.c_Pacts) := by
  have G_is_name := ok_is_name (P := P) (w := w) (base := base) T
  have G_Pacts_words_called := ok_Pacts_words_called (P := P) (w := w) (base := base) T
  have cl_Pacts := T.cl_Pacts
  have na_Pacts_kept_pairs := T.na_Pacts_kept_pairs
  have na_Pacts_kept_pacts := T.na_Pacts_kept_pacts
  refine T.F_Pacts_fits_pair.ok sc_Pacts_fits_pair (fun vs H Q E h => ?_) (fun cdv A outer s H vs Q E hr h => ?_)
  · obtain ⟨x, kp, kd, t, L, kvs, p, rfl, _⟩ := h
    rfl
  · obtain ⟨x, kp, kd, t, L, kvs, p, rfl, PA, hp, hl, l1, l2, q⟩ := h
    obtain ⟨dx, ho⟩ := PA.ob
    have hls := PA.pr.ls
    have hp1 : H t = some (.tup [.str p.near, .str p.far, .bl p.laden]) := hp
    have lm : (L.map fun e => V.ref e.1).length = L.length := List.length_map _
    refine ⟨_, (pss_cons (ps_asg (pv 1) (pg_tup rfl (pgs_cons (pg_name (i := 2) sc_Pacts_fits_pair.nd rfl (Or.inl rfl)) (pgs_cons (pg_name (i := 3) sc_Pacts_fits_pair.nd rfl (Or.inl rfl)) (pgs_cons (pg_name (i := 4) sc_Pacts_fits_pair.nd rfl (Or.inl rfl)) pgs_nil)))))
      (pss_cons (ps_if (PW.pt (pw_or (pt_cmpR op_eq (pe_callB call_lenK (by rfl) T.z_len PySem.boot_len (pa_cons (pe_fld (pv 0) rfl) pa_nil)) (pe_globI rfl T.g_MOST_PAIRS) (nomark _)) (pw_or (pt_not (pt_val (pe_call G_is_name (hr.mono (by decide)) rfl T.m_is_name T.F_is_name.kp T.b_is_name .nil pass0 (pa_cons (pv 2) pa_nil)))) (pw_or1 (pt_not (pt_val (pe_call G_is_name (hr.mono (by decide)) rfl T.m_is_name T.F_is_name.kp T.b_is_name .nil pass0 (pa_cons (pv 3) pa_nil)))))))) (pss_one (ps_ret pe_bl)) pss_nil)
      (pss_one (ps_ret (pe_and (pe_cmpR op_notIn_seq (pv 2) (pe_meth (pv 0) T.cl_Pacts T.mt_Pacts_words_called G_Pacts_words_called (hr.mono (by decide)) T.b_Pacts_words_called .nil pass0 (pa_cons pe_int pa_nil)) (by rfl)) (pe_one (pe_cmpR op_notIn_seq (pv 3) (pe_meth (pv 0) T.cl_Pacts T.mt_Pacts_words_called G_Pacts_words_called (hr.mono (by decide)) T.b_Pacts_words_called .nil pass0 (pa_cons pe_int pa_nil)) (by rfl)))))))), ?_⟩
    walk_at "go"
    refine ifD (fun b => ?_) (fun b => ?_)
    · have e6 : L.length = 6 := by have := V.int.inj b; omega
      have ef : fitsP (L.map (·.2)) p = false := by
        unfold fitsP
        rw [decide_eq_false (show ¬ (L.map (·.2)).length ≠ 6 by rw [List.length_map]; exact fun z => z e6)]
        simp
      refine ifT rfl ?_
      walk_at "go"
      rw [← ef]
      exact q _ (fun _ _ e => e)
    · have e6 : (L.map (·.2)).length ≠ 6 := fun z => b (by rw [lm]; rw [List.length_map] at z; rw [z] <;> rfl)
      walk_at "go"
      intro H1 s1
      walk_at "go"
      cases en : nameB p.near with
      | false =>
        have ef : fitsP (L.map (·.2)) p = false := by unfold fitsP; rw [en]; simp
        have qq := q _ s1
        rw [ef] at qq
        walk_at "go"
        exact qq
      | true =>
        walk_at "go"
        intro H2 s2
        walk_at "go"
        cases ef0 : nameB p.far with
        | false =>
          have ef : fitsP (L.map (·.2)) p = false := by unfold fitsP; rw [ef0]; simp
          have qq := q _ (s1.trans s2)
          rw [ef] at qq
          walk_at "go"
          exact qq
        | true =>
          have PA2 := PA.same (s1.trans s2)
          obtain ⟨dx2, ho2⟩ := PA2.ob
          have hs0 : (0 : Int) = 0 ∨ (0 : Int) = 1 := .inl rfl
          have hs1 : (1 : Int) = 0 ∨ (1 : Int) = 1 := .inr rfl
          walk_at "go"
          intro D3 H3 hD3 h3 s3
          refine ⟨D3, _, rfl, .inl (SqL.of h3), rfl, flat_strs1 _, ?_⟩
          rw [if_pos rfl, in_strs]
          have PA3 := PA2.same s3
          obtain ⟨dx3, ho3⟩ := PA3.ob
          by_cases i1 : p.near ∈ L.map fun e => e.2.word 0
          · have ef : fitsP (L.map (·.2)) p = false := by
              unfold fitsP
              rw [decide_eq_false (show ¬ p.near ∉ (L.map (·.2)).map (·.near) by rw [List.map_map]; exact fun z => z i1)]
              simp
            rw [decide_eq_true i1]
            refine ⟨_, rfl, ifF rfl ?_⟩
            rw [← ef]
            exact q _ ((s1.trans s2).trans s3)
          · rw [decide_eq_false i1]
            refine ⟨_, rfl, ifT rfl ?_⟩
            walk_at "go"
            intro D4 H4 hD4 h4 s4
            refine ⟨D4, _, rfl, .inl (SqL.of h4), rfl, flat_strs1 _, ?_⟩
            rw [if_pos rfl, in_strs]
            have ef : fitsP (L.map (·.2)) p = !decide (p.far ∈ L.map fun e => e.2.word 1) := by
              unfold fitsP
              rw [decide_eq_true e6, en, ef0, decide_eq_true (show p.near ∉ (L.map (·.2)).map (·.near) by rw [List.map_map]; exact i1), List.map_map]
              show (true && true && true && true && decide (p.far ∉ L.map fun e => e.2.word 1)) = _
              simp
            rw [← ef]
            exact q _ (((s1.trans s2).trans s3).trans s4)
theorem good_fits {ps : List Pr} {i : Nat} {p : Pr} (G : Good ps) (h : ps[i]? = some p) : fitsP (ps.take i) p = true := by
  have hm := List.mem_of_getElem? h
  have hi := (List.getElem?_eq_some_iff.mp h).1
  have hsplit : ps = ps.take i ++ p :: ps.drop (i + 1) := by
    have := List.take_append_drop i ps
    rw [List.drop_eq_getElem_cons hi] at this
    rw [(List.getElem?_eq_some_iff.mp h).2] at this
    exact this.symm
  have nn := G.nn
  have nf := G.nf
  rw [hsplit, List.map_append, List.nodup_append] at nn nf
  have hl := G.len
  unfold fitsP
  rw [decide_eq_true (show (ps.take i).length ≠ 6 by rw [List.length_take]; omega), nameB_iff.mpr (G.kn p hm), nameB_iff.mpr (G.kf p hm),
    decide_eq_true (show p.near ∉ (ps.take i).map (·.near) from fun z => nn.2.2 _ z _ List.mem_cons_self rfl), decide_eq_true (show p.far ∉ (ps.take i).map (·.far) from fun z => nf.2.2 _ z _ List.mem_cons_self rfl)] <;> rfl
end
end Pf
set_option Elab.async false
set_option linter.all false
set_option maxRecDepth 100000
set_option maxHeartbeats 4000000
namespace Pf
open PySem L2
local macro_rules | `(tactic| walk_at "nz") => `(tactic| (show (_ : Int) ≠ 0; omega))
local macro_rules | `(tactic| walk_at "ne") => `(tactic| first | assumption | (apply Ne.symm; assumption))
local macro_rules | `(tactic| walk_at "hp") => `(tactic| first | assumption | exact upd_same | (refine upd_get ?_ ?_; walk_at "ne"; walk_at "hp"))
local macro_rules | `(tactic| walk_at "sd") => `(tactic| first
  | rfl
  | assumption
  | (with_reducible show (_ : Int) < _; omega)
  | (with_reducible show (_ : Int) ≤ _; omega)
  | (with_reducible show (_ : Nat) < _; omega)
  | (with_reducible show (_ : Nat) ≤ _; omega)
  | exact kV_int _
  | exact kV_str _
  | (show (_ : Int) ≠ 0; omega)
  | exact SqL.of (by walk_at "hp")
  | exact ⟨_, SqL.of (by walk_at "hp")⟩
  | exact ⟨_, SqT.of (by walk_at "hp")⟩
  | exact ⟨_, (by assumption)⟩
  | exact SqT.of (by walk_at "hp")
  | exact Rd.of (by walk_at "hp")
  | exact Or.inl (SqL.of (by walk_at "hp"))
  | exact Or.inr (SqT.of (by walk_at "hp"))
  | (walk_at "hp")
  | (exact Or.inl ⟨rfl, _, SqL.of (by walk_at "hp")⟩)
  | (exact Or.inl ⟨by omega, by omega⟩)
  | (exact Or.inr ⟨by omega, by omega⟩)
  | (refine ⟨?_, ?_, ?_⟩ <;> omega)
  | omega
  | (exact small_le (by first | omega | (simp only [List.length_cons, List.length_nil]; omega)))
  | (exact small_lt (by first | omega | (simp only [List.length_cons, List.length_nil]; omega)))
  | exact Nat.le_of_ble_eq_true rfl
  | exact ⟨_, rfl⟩
  | decide)
local macro_rules | `(tactic| walk_at "st") => `(tactic| first
  | with_reducible refine sq_seq ?_
  | apply Exists.intro
  | (refine And.intro ?_ ?_; (walk_at "sd")))
local macro_rules | `(tactic| walk_at "go") => `(tactic| repeat (walk_at "st"))
section
variable {P : Program} {w : World} {K : PySem.W.Frag} {mg : Str → Option Value} {base : Heap} {a : Ad}
/-- no helper is asked of in this law -/
def spNever : Sp := fun _ _ _ _ => False
theorem ok_Pacts_fits_helper (T : Txt K mg a) : FnOk P w K mg base CX0 1 a.f_Pacts_fits_helper a.d_Pacts_fits_helper ["self", "helper"] spNever := by
  refine T.F_Pacts_fits_helper.ok sc_Pacts_fits_helper (fun vs H Q E h => False.elim h) (fun cdv A outer s H vs Q E hr h => False.elim h)
def spPactsInit (C : Addr) : Sp := fun vs H Q _ => ∃ (x dx pl hl : Addr) (L : List (Addr × Pr)), vs = [.ref x, .ref pl, .ref hl] ∧ H x = some (.ins C dx []) ∧ PairsAt H pl L ∧ Good (L.map (·.2)) ∧ H hl = some (.lst []) ∧
  ∀ (kp kd : Addr) (H' : Hp), H kp = none → H kd = none → PactsAt C H' x kp kd L [] → (∀ y o, y ≠ x → H y = some o → H' y = some o) → Q .non H'
theorem ok_Pacts___init__ (T : Txt K mg a) : FnOk P w K mg base CX0 3 a.f_Pacts___init__ a.d_Pacts___init__ ["self", "pairs", "helpers"] (spPactsInit a.c_Pacts) := by
  have G_Pacts_fits_pair := ok_Pacts_fits_pair (P := P) (w := w) (base := base) T
  have G_Pacts_fits_helper := ok_Pacts_fits_helper (P := P) (w := w) (base := base) T
  have cl_Pacts := T.cl_Pacts
  have na_Pacts_kept_pairs := T.na_Pacts_kept_pairs
  have na_Pacts_kept_pacts := T.na_Pacts_kept_pacts
  refine T.F_Pacts___init__.ok sc_Pacts___init__ (fun vs H Q E h => ?_) (fun cdv A outer s H vs Q E hr h => ?_)
  · obtain ⟨x, dx, pl, hl, L, rfl, _⟩ := h
    rfl
  · obtain ⟨x, dx, pl, hl, L, rfl, hx, PP, G, hh, q⟩ := h
    refine ⟨_, (pss_cons (ps_fld (pv 0) (pe_lst pa_nil) rfl)
      (pss_cons (ps_fld (pv 0) pe_dnewK rfl)
      (pss_cons (ps_stop (ps_for PassesOwn.never rfl (pi_wait (pi_enum rfl T.z_enumerate (pa_cons (pv 1) pa_nil))) (pg_tup rfl (pgs_cons (pg_name (i := 3) sc_Pacts___init__.nd rfl (Or.inl rfl)) (pgs_cons (pg_name (i := 4) sc_Pacts___init__.nd rfl (Or.inl rfl)) pgs_nil))) (pss_cons (ps_if (pt_not (pt_val (pe_meth (pv 0) T.cl_Pacts T.mt_Pacts_fits_pair G_Pacts_fits_pair (hr.mono (by decide)) T.b_Pacts_fits_pair .nil pass0 (pa_cons (pv 4) pa_nil)))) (pss_one ps_never) pss_nil)
      (pss_one (ps_expr (pe_bm PySem.F.plainAttrs_list PySem.F.slot_list_append PySem.F.type_list_append mt_append (pe_fld (pv 0) rfl) (pa_cons (pv 4) pa_nil)))))))
      (pss_one (ps_stop (ps_for PassesOwn.never rfl (pi_wait (pi_enum rfl T.z_enumerate (pa_cons (pv 2) pa_nil))) (pg_tup rfl (pgs_cons (pg_name (i := 3) sc_Pacts___init__.nd rfl (Or.inl rfl)) (pgs_cons (pg_name (i := 5) sc_Pacts___init__.nd rfl (Or.inl rfl)) pgs_nil))) (pss_cons (ps_if (pt_not (pt_val (pe_meth (pv 0) T.cl_Pacts T.mt_Pacts_fits_helper G_Pacts_fits_helper (hr.mono (by decide)) T.b_Pacts_fits_helper .nil pass0 (pa_cons (pv 5) pa_nil)))) (pss_one ps_never) pss_nil)
      (pss_one (ps_dput (hu_of hr) (pe_fld (pv 0) rfl) (pe_ix ix_tup (pv 5) pe_int (fun _ _ => rfl)) (pv 5) rfl))))))))), ?_⟩
    refine ⟨Nat.zero_le _, fun kp hkp => ?_⟩
    have nxp : x ≠ kp := ne_of_none hx hkp
    walk_at "go"
    intro kd hkd
    have nxd : x ≠ kd := fun z => by rw [← z, upd_same] at hkd; cases hkd
    have hkd1 : upd H kp (.lst []) kd = none := by rw [upd_ne nxd.symm] at hkd; exact hkd
    have npd : kp ≠ kd := fun z => by rw [← z, upd_same] at hkd1; cases hkd1
    have hkd2 : H kd = none := by rw [upd_ne npd.symm] at hkd1; exact hkd1
    walk_at "go"
    obtain ⟨H0, e0⟩ : ∃ H0, H0 = upd (upd (upd (upd H kp (.lst [])) x (.ins a.c_Pacts dx [(("kept_pairs" : Str), V.ref kp)])) kd (.dK [])) x (.ins a.c_Pacts dx (pf kp kd)) := ⟨_, rfl⟩
    have hx0 : H0 x = some (.ins a.c_Pacts dx (pf kp kd)) := by rw [e0, upd_same]
    have hp0 : H0 kp = some (.lst []) := by rw [e0, upd_ne nxp.symm, upd_ne npd, upd_ne nxp.symm, upd_same]
    have hd0 : H0 kd = some (.dK []) := by rw [e0, upd_ne nxd.symm, upd_same]
    have k0 : ∀ y o, y ≠ x → H y = some o → H0 y = some o := fun y o n e => by
      rw [e0, upd_ne n, upd_ne (ne_of_none e hkd2), upd_ne n, upd_ne (ne_of_none e hkp)]
      exact e
    show tStop _ _ _ (upd (upd (upd (upd H kp (.lst [])) x (.ins a.c_Pacts dx [(("kept_pairs" : Str), V.ref kp)])) kd (.dK [])) x (.ins a.c_Pacts dx (pf kp kd)))
    rw [← e0]
    have nlx : pl ≠ x := ne_of PP.ls hx (by intro z; cases z)
    have nhx : hl ≠ x := ne_of hh hx (by intro z; cases z)
    have hls0 := k0 _ _ nlx PP.ls
    refine stop_in ?_
    walk_at "go"
    refine wait ?_
    refine forW (walk_enum (K := K) (xs := L.map fun e => V.ref e.1)) (fun i σ H' => (∃ u3 u4, σ = [some (.ref x), some (.ref pl), some (.ref hl), u3, u4, none]) ∧ PactsAt a.c_Pacts H' x kp kd (L.take i) [] ∧ ∀ y o, y ≠ x → H y = some o → H' y = some o) ?_ ?_ ?_ ?_
    · exact ⟨⟨_, _, rfl⟩, ⟨⟨dx, hx0⟩, ⟨hp0, fun _ h => nomatch h⟩, hd0⟩, k0⟩
    · rintro i σ H' _ ⟨_, _, k⟩
      exact SqL.of (k _ _ nlx PP.ls)
    · rintro i v σ H1 H2 hi ⟨⟨u3, u4, rfl⟩, PA, k1⟩ ⟨t, y1, y2, rfl, ht, rfl, hy1, hy2⟩
      have hy2 : (L.map fun e => V.ref e.1)[i]? = some y2 := hy2
      rw [List.getElem?_map] at hy2
      obtain ⟨e, he, rfl⟩ := Option.map_eq_some_iff.mp hy2
      have hem := List.mem_of_getElem? he
      have s2 : Same H1 (upd H1 t (.tup [y1, .ref e.1])) := Same.upd_new ht
      have PA2 := PA.same s2
      obtain ⟨dx2, ho2⟩ := PA2.ob
      have hpe : H e.1 = _ := PP.at_ e hem
      have hpe2 : PrAt (upd H1 t (.tup [y1, .ref e.1])) (e.1, e.2) := s2 _ _ (k1 _ _ (ne_of hpe hx (by intro z; cases z)) hpe)
      have hgl := G.len
      rw [List.length_map] at hgl
      have l1 : (L.take i).length ≤ 10000 := by rw [List.length_take]; omega
      have hgm : e.2 ∈ L.map (·.2) := List.mem_map.mpr ⟨e, hem, rfl⟩
      have l2 : e.2.near.length ≤ 100000 := Nat.le_trans (G.kn _ hgm).hi (by decide)
      have l3 : e.2.far.length ≤ 100000 := Nat.le_trans (G.kf _ hgm).hi (by decide)
      cases hy1
      walk_at "go"
      intro H3 s3
      have hfit : fitsP ((L.take i).map (·.2)) e.2 = true := by
        rw [List.map_take]
        exact good_fits G (by rw [List.getElem?_map, he] <;> rfl)
      rw [hfit]
      have PA3 := PA2.same s3
      obtain ⟨dx3, ho3⟩ := PA3.ob
      have hp3 := PA3.pr.ls
      walk_at "go"
      refine ⟨small_lt (by rw [List.length_map, List.length_take]; omega), wait ⟨⟨_, _, rfl⟩, ?_, ?_⟩⟩
      · have npx : kp ≠ x := nxp.symm
        refine ⟨⟨dx3, upd_get nxp ho3⟩, ⟨?_, fun d hd => ?_⟩, upd_get npd.symm PA3.pc⟩
        · rw [upd_same, List.take_add_one, he, List.map_append] <;> rfl
        · rw [List.take_add_one, he, Option.toList_some] at hd
          rcases List.mem_append.mp hd with z | z
          · have := PA3.pr.at_ d z
            exact upd_get (ne_of this hp3 (by intro z; cases z)) this
          · rw [List.mem_singleton.mp z]
            have h3 : PrAt H3 e := s3 _ _ hpe2
            exact upd_get (ne_of h3 hp3 (by intro z; cases z)) h3
      · intro y o n e
        exact upd_get (ne_of_none e hkp) (s3 _ _ (s2 _ _ (k1 y o n e)))
    · rintro σ H1 ⟨⟨u3, u4, rfl⟩, PA, k1⟩
      rw [List.length_map, List.take_length] at PA
      have hh1 := k1 _ _ nhx hh
      refine stop_in ?_
      walk_at "go"
      refine wait ?_
      refine forW (walk_enum (K := K) (xs := [])) (fun i σ H' => H' = H1) ?_ ?_ ?_ ?_
      · rfl
      · rintro i σ H' _ rfl
        exact SqL.of hh1
      · intro i x σ H H' hi
        exact absurd hi (Nat.not_lt_zero _)
      · rintro σ H' rfl
        exact q kp kd _ hkp hkd2 PA k1
end
end Pf
set_option Elab.async false
set_option linter.all false
set_option maxRecDepth 100000
set_option maxHeartbeats 4000000
namespace Pf
open PySem L2
local macro_rules | `(tactic| walk_at "nz") => `(tactic| (show (_ : Int) ≠ 0; omega))
local macro_rules | `(tactic| walk_at "ne") => `(tactic| first | assumption | (apply Ne.symm; assumption))
local macro_rules | `(tactic| walk_at "hp") => `(tactic| first | assumption | exact upd_same | (refine upd_get ?_ ?_; walk_at "ne"; walk_at "hp"))
local macro_rules | `(tactic| walk_at "sd") => `(tactic| first
  | rfl
  | assumption
  | (with_reducible show (_ : Int) < _; omega)
  | (with_reducible show (_ : Int) ≤ _; omega)
  | (with_reducible show (_ : Nat) < _; omega)
  | (with_reducible show (_ : Nat) ≤ _; omega)
  | exact kV_int _
  | exact kV_str _
  | (show (_ : Int) ≠ 0; omega)
  | exact SqL.of (by walk_at "hp")
  | exact ⟨_, SqL.of (by walk_at "hp")⟩
  | exact ⟨_, SqT.of (by walk_at "hp")⟩
  | exact ⟨_, (by assumption)⟩
  | exact SqT.of (by walk_at "hp")
  | exact Rd.of (by walk_at "hp")
  | exact Or.inl (SqL.of (by walk_at "hp"))
  | exact Or.inr (SqT.of (by walk_at "hp"))
  | (walk_at "hp")
  | (exact Or.inl ⟨rfl, _, SqL.of (by walk_at "hp")⟩)
  | (exact Or.inl ⟨by omega, by omega⟩)
  | (exact Or.inr ⟨by omega, by omega⟩)
  | (refine ⟨?_, ?_, ?_⟩ <;> omega)
  | omega
  | (exact small_le (by first | omega | (simp only [List.length_cons, List.length_nil]; omega)))
  | (exact small_lt (by first | omega | (simp only [List.length_cons, List.length_nil]; omega)))
  | exact Nat.le_of_ble_eq_true rfl
  | exact ⟨_, rfl⟩
  | decide)
local macro_rules | `(tactic| walk_at "st") => `(tactic| first
  | with_reducible refine sq_seq ?_
  | apply Exists.intro
  | (refine And.intro ?_ ?_; (walk_at "sd")))
local macro_rules | `(tactic| walk_at "go") => `(tactic| repeat (walk_at "st"))
section
variable {P : Program} {w : World} {K : PySem.W.Frag} {mg : Str → Option Value} {base : Heap} {a : Ad}
theorem first_of {L : List (Addr × Pr)} {e : Addr × Pr} {s : Int} (nd : (L.map fun d => d.2.word s).Nodup) (he : e ∈ L) : FirstW L (e.2.word s) s e := by
  obtain ⟨j, hj⟩ := List.getElem?_of_mem he
  refine ⟨he, rfl, j, hj, fun i hi d hd z => ?_⟩
  have hjl := (List.getElem?_eq_some_iff.mp hj).1
  have h1 : (L.map fun d => d.2.word s)[i]? = some (e.2.word s) := by rw [List.getElem?_map, hd, ← z] <;> rfl
  have h2 : (L.map fun d => d.2.word s)[j]? = some (e.2.word s) := by rw [List.getElem?_map, hj] <;> rfl
  have := (List.getElem?_inj (by rw [List.length_map]; omega) nd).mp (h1.trans h2.symm)
  omega
theorem Good.word {L : List (Addr × Pr)} (G : Good (L.map (·.2))) {s : Int} (hs : s = 0 ∨ s = 1) : (L.map fun d => d.2.word s).Nodup := by
  rcases hs with rfl | rfl
  · have := G.nn
    rw [List.map_map] at this
    exact this
  · have := G.nf
    rw [List.map_map] at this
    exact this
def spRefused (C : Addr) : Sp := fun vs H Q _ => ∃ (x kp kd : Addr) (L : List (Addr × Pr)) (kvs : List (Key × V)) (w : Str) (s : Int), vs = [.ref x, .str w, .int s] ∧ PactsAt C H x kp kd L kvs ∧ (s = 0 ∨ s = 1) ∧ (∀ e ∈ L, e.2.word s ≠ w) ∧
  ∀ H', Same H H' → Q (.bl true) H'
local macro_rules | `(tactic| walk_at "sd") => `(tactic| exact fun _ h => h)
theorem ok__law_refused (T : Txt K mg a) : FnOk P w K mg base CX0 5 a.f__law_refused a.d__law_refused ["_law_pacts", "_law_term", "_law_team"] (spRefused a.c_Pacts) := by
  have G_Pacts_laden := ok_Pacts_laden (P := P) (w := w) (base := base) T
  have G_Pacts_over := ok_Pacts_over (P := P) (w := w) (base := base) T
  have cl_Pacts := T.cl_Pacts
  have na_Pacts_kept_pairs := T.na_Pacts_kept_pairs
  have na_Pacts_kept_pacts := T.na_Pacts_kept_pacts
  refine T.F__law_refused.ok sc__law_refused (fun vs H Q E h => ?_) (fun cdv A outer s H vs Q E hr h => ?_)
  · obtain ⟨x, kp, kd, L, kvs, w, s, rfl, _⟩ := h
    rfl
  · obtain ⟨x, kp, kd, L, kvs, w, s, rfl, PA, hs, hno, q⟩ := h
    have ec := T.ec_NoWord
    have k1 := kit_exm T.ex_NoWord_NoWord T.ex_NoWord_NoWord
    have k2 := kit_exm T.ex_NoWord_NoWord T.ex_NoWord_NoHelper
    have k3 := kit_bl T.ex_NoWord_ValueError (by decide +kernel)
    refine ⟨_, (pss_cons (ps_set (i := 3) sc__law_refused.nd rfl (Or.inl rfl) (pe_lst pa_nil))
      (pss_mid (ps_try_cls (tb := fun W => (tDrop (tMethKW _ _ _ _ (WE W) _ _ _))) (l := [⟨.ref a.c_PactError, some 4, fun ea cls dd => (tSeq (tAsg (tAndV (tCB (rIsW K ea cls dd) _) (tAndV (tCB (rIsW K ea cls dd) _) (tNotV (tCB (rIsW K ea cls dd) _)))) (gName 5)) (tDrop (tBM K "list" _ _ (tCons (tAndV _ (tOp _ (tXf ea cls dd a.c_NoWord "word" (tVar 4)) _)) tNil))))⟩]) (Wout := fun _ _ _ _ => False) rfl rfl takes0 (fun W pn xe tk po => (pss_one (ps_expr (pe_methKW (pv 0) T.cl_Pacts T.mt_Pacts_laden G_Pacts_laden (hr.mono (by decide)) T.kb_Pacts_laden_side (fun σ => passAt tk σ) (by exact (pa_cons (pv 1) pa_nil) ) (by exact (pk_cons (pv 2) pk_nil)))))) (ClsOk.named (i := 4) sc__law_refused.nd rfl rfl ⟨rfl, by decide, Or.inl T.m_PactError⟩ (fun ea oe cls dd pn hz hf => (pss_cons (ps_set (i := 5) sc__law_refused.nd rfl (Or.inl rfl) (pe_and (pe_callB (call_isW hz hf) (by rfl) T.z_isinstance (by decide +kernel) (by exact (pa_cons (pv 4) (pa_cons (pe_glob (v := .ref a.c_NoWord) rfl T.m_NoWord rfl) pa_nil)))) (pe_and (pe_callB (call_isW hz hf) (by rfl) T.z_isinstance (by decide +kernel) (by exact (pa_cons (pv 4) (pa_cons (pe_bltn (v := .ty "ValueError") (by rfl) T.z_ValueError (by decide +kernel) rfl) pa_nil)))) (pe_one (pe_not (pe_callB (call_isW hz hf) (by rfl) T.z_isinstance (by decide +kernel) (by exact (pa_cons (pv 4) (pa_cons (pe_glob (v := .ref a.c_NoHelper) rfl T.m_NoHelper rfl) pa_nil)))))))))
      (pss_one (ps_expr (pe_bm PySem.F.plainAttrs_list PySem.F.slot_list_append PySem.F.type_list_append mt_append (pv 3) (pa_cons (pe_and (pv 5) (pe_one (pe_cmpR op_eq (pe_xf T.xf_NoWord T.na_NoWord_word hz hf (pv 4)) (pv 1) (nomark _)))) pa_nil)))))) ClsOk.nil))
      (pss_mid (ps_try_cls (tb := fun W => (tDrop (tMethKW _ _ _ _ (WE W) _ _ _))) (l := [⟨.ref a.c_PactError, some 4, fun ea cls dd => (tDrop (tBM K "list" _ _ (tCons (tAndV (tCB (rIsW K ea cls dd) _) (tOp _ (tXf ea cls dd a.c_NoWord "word" (tVar 4)) _)) tNil)))⟩]) (Wout := fun _ _ _ _ => False) rfl rfl takes0 (fun W pn xe tk po => (pss_one (ps_expr (pe_methKW (pv 0) T.cl_Pacts T.mt_Pacts_over G_Pacts_over (hr.mono (by decide)) T.kb_Pacts_over_side (fun σ => passAt tk σ) (by exact (pa_cons (pv 1) pa_nil) ) (by exact (pk_cons (pv 2) pk_nil)))))) (ClsOk.named (i := 4) sc__law_refused.nd rfl rfl ⟨rfl, by decide, Or.inl T.m_PactError⟩ (fun ea oe cls dd pn hz hf => (pss_one (ps_expr (pe_bm PySem.F.plainAttrs_list PySem.F.slot_list_append PySem.F.type_list_append mt_append (pv 3) (pa_cons (pe_and (pe_callB (call_isW hz hf) (by rfl) T.z_isinstance (by decide +kernel) (by exact (pa_cons (pv 4) (pa_cons (pe_glob (v := .ref a.c_NoWord) rfl T.m_NoWord rfl) pa_nil)))) (pe_one (pe_cmpR op_eq (pe_xf T.xf_NoWord T.na_NoWord_word hz hf (pv 4)) (pv 1) (nomark _)))) pa_nil))))) ClsOk.nil))
      (pss_one (ps_ret (pe_cmpR (op_eqD (hr.units)) (pv 3) (pe_lst (pa_cons pe_bl (pa_cons pe_bl pa_nil))) (nomark _))))))), ?_⟩
    refine ⟨Nat.zero_le _, fun D hD => ?_⟩
    have s1 : Same H (upd H D (.lst [])) := Same.upd_new hD
    have PA1 := PA.same s1
    obtain ⟨dx, ho⟩ := PA1.ob
    refine mid_of (fun σ H' => (∃ u, σ = [some (.ref x), some (.str w), some (.int s), some (.ref D), none, u]) ∧ H' D = some (.lst [.bl true]) ∧ ∀ y o, y ≠ D → H y = some o → H' y = some o) ?_ ?_
    · refine ⟨_, rfl, x, dx, _, rfl, ho, rfl, _, rfl, _, rfl, x, kp, kd, L, kvs, w, s, rfl, PA1, hs, fun e he => absurd he.2.1 (hno e he.1), fun _ d H2 hd0 hd1 s2 => ?_⟩
      have hD2 : H2 D = some (.lst []) := s2 _ _ upd_same
      refine ⟨true, T.ex_NoWord_PactError, fun _ ea hea => ?_, fun z => nomatch z⟩
      walk_at "go"
      refine wait ⟨⟨_, rfl⟩, ?_, fun y o n e => upd_get n (s2 _ _ (s1 _ _ e))⟩
      rw [upd_same, decide_eq_true rfl] <;> rfl
    · rintro σ H1 ⟨⟨u, rfl⟩, hD1, k1⟩
      have sH : Same H H1 := fun y o e => k1 y o (ne_of_none e hD) e
      have PA2 := PA.same sH
      obtain ⟨dx2, ho2⟩ := PA2.ob
      refine mid_of (fun σ H' => (∃ u, σ = [some (.ref x), some (.str w), some (.int s), some (.ref D), none, u]) ∧ H' D = some (.lst [.bl true, .bl true]) ∧ ∀ y o, y ≠ D → H y = some o → H' y = some o) ?_ ?_
      · refine ⟨_, rfl, x, dx2, _, rfl, ho2, rfl, _, rfl, _, rfl, x, kp, kd, L, kvs, w, s, rfl, PA2, hs, fun e he => absurd he.2.1 (hno e he.1), fun _ d H2 hd0 hd1 s2 => ?_⟩
        have hD2 : H2 D = some (.lst [.bl true]) := s2 _ _ hD1
        refine ⟨true, T.ex_NoWord_PactError, fun _ ea hea => ?_, fun z => nomatch z⟩
        walk_at "go"
        refine wait ⟨⟨_, rfl⟩, ?_, fun y o n e => upd_get n (s2 _ _ (k1 y o n e))⟩
        rw [upd_same, decide_eq_true rfl] <;> rfl
      · rintro σ H2 ⟨⟨u, rfl⟩, hD2, k2⟩
        walk_at "go"
        intro p hp
        have dD : Dp K (upd H2 p (.lst [.bl true, .bl true])) (.ref D) (.list [.bool true, .bool true]) := .lst (SqL.of (Same.upd_new hp _ _ hD2)) (.cons (.bl _) (.cons (.bl _) .nil))
        have dp : Dp K (upd H2 p (.lst [.bl true, .bl true])) (.ref p) (.list [.bool true, .bool true]) := .lst (SqL.of upd_same) (.cons (.bl _) (.cons (.bl _) .nil))
        refine ⟨_, _, dD, dp, rfl, rfl, ?_⟩
        rw [eqv_self rfl]
        exact q _ fun y o e => Same.upd_new hp _ _ (k2 y o (ne_of_none e hD) e)
/-! ### data of pairs -/
def prD (p : Pr) : PyData := .tuple [.str p.near, .str p.far, .bool p.laden]
theorem IsName.ok {w : Str} (h : IsName w) : PyData.strOk w = true := by
  unfold PyData.strOk
  rw [← Array.all_toList, List.all_eq_true]
  intro c hc
  have := h.cs c hc
  exact decide_eq_true (by omega)
theorem lay_prs : ∀ {ps : List Pr}, (∀ p ∈ ps, IsName p.near ∧ IsName p.far) → PyData.canLayAll0 (ps.map prD) = true
  | [], _ => rfl
  | p :: r, h => by
    show ((PyData.strOk p.near && (PyData.strOk p.far && (true && true))) && PyData.canLayAll0 (r.map prD)) = true
    rw [(h p List.mem_cons_self).1.ok, (h p List.mem_cons_self).2.ok, lay_prs fun q hq => h q (List.mem_cons_of_mem _ hq)] <;> rfl
theorem depth_prs : ∀ ps : List Pr, PyData.depthAll (ps.map prD) ≤ 1
  | [] => Nat.zero_le _
  | p :: r => by
    show max (PyData.depth (prD p)) (PyData.depthAll (r.map prD)) ≤ 1
    have := depth_prs r
    have e : PyData.depth (prD p) = 1 := rfl
    omega
theorem shaped_prs {ps : List Pr} (G : Good ps) : SeqAt.shaped (.list (ps.map prD)) = true := by
  unfold SeqAt.shaped
  rw [Bool.and_eq_true]
  refine ⟨lay_prs fun p hp => ⟨G.kn p hp, G.kf p hp⟩, decide_eq_true ?_⟩
  show PyData.depthAll (ps.map prD) + 1 ≤ 64
  have := depth_prs ps
  omega
theorem dp_prs {K : PySem.W.Frag} {H : Hp} : ∀ {L : List (Addr × Pr)}, (∀ e ∈ L, PrAt H e) → DpAll K H (L.map fun e => V.ref e.1) ((L.map (·.2)).map prD)
  | [], _ => .nil
  | e :: r, h => .cons (.tup (SqT.of (h e List.mem_cons_self)) (.cons (.str _) (.cons (.str _) (.cons (.bl _) .nil)))) (dp_prs fun d hd => h d (List.mem_cons_of_mem _ hd))
theorem PairsAt.dp {K : PySem.W.Frag} {H : Hp} {D : Addr} {L : List (Addr × Pr)} (h : PairsAt H D L) : Dp K H (.ref D) (.list ((L.map (·.2)).map prD)) := .lst (SqL.of h.ls) (dp_prs h.at_)
def spTold (C : Addr) : Sp := fun vs H Q _ => ∃ (x kp kd pl : Addr) (L : List (Addr × Pr)) (kvs : List (Key × V)), vs = [.ref x, .ref pl] ∧ PactsAt C H x kp kd L kvs ∧ PairsAt H pl L ∧ Good (L.map (·.2)) ∧
  ∀ H', Same H H' → Q (.bl true) H'
theorem ok__law_told (T : Txt K mg a) : FnOk P w K mg base CX0 5 a.f__law_told a.d__law_told ["_law_pacts", "_law_pairs_here"] (spTold a.c_Pacts) := by
  have G_Pacts_laden := ok_Pacts_laden (P := P) (w := w) (base := base) T
  have G_Pacts_over := ok_Pacts_over (P := P) (w := w) (base := base) T
  have cl_Pacts := T.cl_Pacts
  have na_Pacts_kept_pairs := T.na_Pacts_kept_pairs
  have na_Pacts_kept_pacts := T.na_Pacts_kept_pacts
  refine T.F__law_told.ok sc__law_told (fun vs H Q E h => ?_) (fun cdv A outer s H vs Q E hr h => ?_)
  · obtain ⟨x, kp, kd, pl, L, kvs, rfl, _⟩ := h
    rfl
  · obtain ⟨x, kp, kd, pl, L, kvs, rfl, PA, PP, G, q⟩ := h
    refine ⟨_, (pss_cons (ps_stop (ps_for PassesOwn.never rfl (pi_wait (pi_list (pv 1))) (pg_tup rfl (pgs_cons (pg_name (i := 2) sc__law_told.nd rfl (Or.inl rfl)) (pgs_cons (pg_name (i := 3) sc__law_told.nd rfl (Or.inl rfl)) (pgs_cons (pg_name (i := 4) sc__law_told.nd rfl (Or.inl rfl)) pgs_nil)))) (pss_cons (ps_if (PW.pt (pw_or (pt_cmpR op_ne (pe_methK (pv 0) T.cl_Pacts T.mt_Pacts_over G_Pacts_over (hr.mono (by decide)) T.kb_Pacts_over_side passL (pa_cons (pv 2) pa_nil) (pk_cons pe_int pk_nil)) (pv 3) (nomark _)) (pw_or1 (pt_cmpR op_ne (pe_methK (pv 0) T.cl_Pacts T.mt_Pacts_over G_Pacts_over (hr.mono (by decide)) T.kb_Pacts_over_side passL (pa_cons (pv 3) pa_nil) (pk_cons pe_int pk_nil)) (pv 2) (nomark _))))) (pss_one (ps_ret pe_bl)) pss_nil)
      (pss_cons (ps_set (i := 5) sc__law_told.nd rfl (Or.inl rfl) (pe_lst (pa_cons (pe_methK (pv 0) T.cl_Pacts T.mt_Pacts_laden G_Pacts_laden (hr.mono (by decide)) T.kb_Pacts_laden_side passL (pa_cons (pv 2) pa_nil) (pk_cons pe_int pk_nil)) (pa_cons (pe_methK (pv 0) T.cl_Pacts T.mt_Pacts_laden G_Pacts_laden (hr.mono (by decide)) T.kb_Pacts_laden_side passL (pa_cons (pv 3) pa_nil) (pk_cons pe_int pk_nil)) pa_nil))))
      (pss_cons (ps_if (PW.pt (pw_or (pt_cmpR (op_neD (hr.units)) (pv 5) (pe_lst (pa_cons (pv 4) (pa_cons (pv 4) pa_nil))) (nomark _)) (pw_or1 (pt_not (pt_val (pe_callB (cr_all rfl) (by rfl) T.z_all (by decide +kernel) (pa_cons (pe_lc (own := [("_law_truth", 6)]) (g := gName 6) (tt := tYes) (te := (tCB (rIsi K) _)) rfl sc__law_told.nd (pi_list (pv 5)) (blkOk_by (own := [("_law_truth", 6)]) (N := n__law_told) (sc := defScope s__law_told) (by decide +kernel)) (fun _ _ _ _ _ => (pg_name (i := 6) sc__law_told.nd rfl (Or.inl rfl))) (fun _ _ _ _ _ => pts_nil) (fun _ _ _ _ _ => (pe_callB call_isi (by rfl) T.z_isinstance (by decide +kernel) (pa_cons (pv 6) (pa_cons (pe_bltn (v := .ty "bool") (by rfl) T.z_bool (by decide +kernel) rfl) pa_nil))))) pa_nil))))))) (pss_one (ps_ret pe_bl)) pss_nil)
      (pss_one (ps_if (PW.pt (pw_or (pt_cmpR op_ne (pe_methK (pv 0) T.cl_Pacts T.mt_Pacts_over G_Pacts_over (hr.mono (by decide)) T.kb_Pacts_over_side passL (pa_cons (pe_methK (pv 0) T.cl_Pacts T.mt_Pacts_over G_Pacts_over (hr.mono (by decide)) T.kb_Pacts_over_side passL (pa_cons (pv 2) pa_nil) (pk_cons pe_int pk_nil)) pa_nil) (pk_cons pe_int pk_nil)) (pv 2) (nomark _)) (pw_or1 (pt_cmpR op_ne (pe_methK0 (pv 0) T.cl_Pacts T.mt_Pacts_over G_Pacts_over (hr.mono (by decide)) T.kb_Pacts_over_word_side passL (pk_cons (pv 3) (pk_cons pe_int pk_nil))) (pv 2) (nomark _))))) (pss_one (ps_ret pe_bl)) pss_nil)))))))
      (pss_one (ps_ret pe_bl))), ?_⟩
    have hls := PP.ls
    refine sq_seq (stop_in ?_)
    walk_at "go"
    refine wait ?_
    refine forL (K := K) (a := pl) (xs := L.map fun e => V.ref e.1) (fun i σ H' => (∃ u1 u2 u3 u4, σ = [some (.ref x), some (.ref pl), u1, u2, u3, u4, none]) ∧ Same H H') ?_ ?_ ?_ ?_
    · exact ⟨⟨_, _, _, _, rfl⟩, fun _ _ e => e⟩
    · rintro i σ H' _ ⟨_, s1⟩
      exact SqL.of (s1 _ _ hls)
    · rintro i y σ H1 hi ⟨⟨u1, u2, u3, u4, rfl⟩, s1⟩
      rw [List.getElem?_map] at hi
      obtain ⟨e, he, rfl⟩ := Option.map_eq_some_iff.mp hi
      have hem := List.mem_of_getElem? he
      have hp : H1 e.1 = _ := s1 _ _ (PP.at_ e hem)
      have PA1 := PA.same s1
      obtain ⟨dx1, ho1⟩ := PA1.ob
      have f0 : FirstW L e.2.near 0 e := first_of (s := 0) (G.word (.inl rfl)) hem
      have f1 : FirstW L e.2.far 1 e := first_of (s := 1) (G.word (.inr rfl)) hem
      have un : ∀ {w : Str} {s : Int} {d : Addr × Pr}, FirstW L w s e → FirstW L w s d → d = e := fun {w s d} ⟨_, h1, j, hj, h2⟩ ⟨_, h3, j', hj', h4⟩ => by
        by_cases z : j < j'
        · exact absurd h1 (h4 j z e hj)
        · by_cases y : j' < j
          · exact absurd h3 (h2 j' y d hj')
          · have : j = j' := by omega
            subst this
            rw [hj] at hj'
            exact (Option.some.inj hj').symm
      have hs0 : (0 : Int) = 0 ∨ (0 : Int) = 1 := .inl rfl
      have hs1 : (1 : Int) = 0 ∨ (1 : Int) = 1 := .inr rfl
      have w0 : e.2.word (1 - 0) = e.2.far := rfl
      have w1 : e.2.word (1 - 1) = e.2.near := rfl
      walk_at "go"
      refine ⟨fun d hd => ?_, fun hno => absurd rfl (hno e hem)⟩
      rw [un f0 hd, w0]
      walk_at "go"
      refine ifNN rfl ?_
      walk_at "go"
      refine ⟨fun d hd => ?_, fun hno => absurd rfl (hno e hem)⟩
      rw [un f1 hd, w1]
      walk_at "go"
      refine ifNN rfl ?_
      walk_at "go"
      refine ⟨fun d hd => ?_, fun hno => absurd rfl (hno e hem)⟩
      rw [un f0 hd]
      walk_at "go"
      refine ⟨fun d hd => ?_, fun hno => absurd rfl (hno e hem)⟩
      rw [un f1 hd]
      walk_at "go"
      intro l1 hl1
      have s2 : Same H1 (upd H1 l1 (.lst [.bl e.2.laden, .bl e.2.laden])) := Same.upd_new hl1
      obtain ⟨H2, e2⟩ : ∃ H2, H2 = upd H1 l1 (.lst [.bl e.2.laden, .bl e.2.laden]) := ⟨_, rfl⟩
      rw [← e2] at s2 ⊢
      have h2 : H2 l1 = some (.lst [.bl e.2.laden, .bl e.2.laden]) := by rw [e2, upd_same]
      walk_at "go"
      intro l2 hl2
      have s3 : Same H2 (upd H2 l2 (.lst [.bl e.2.laden, .bl e.2.laden])) := Same.upd_new hl2
      have d1 : Dp K (upd H2 l2 (.lst [.bl e.2.laden, .bl e.2.laden])) (.ref l1) (.list [.bool e.2.laden, .bool e.2.laden]) := .lst (SqL.of (s3 _ _ h2)) (.cons (.bl _) (.cons (.bl _) .nil))
      have d2 : Dp K (upd H2 l2 (.lst [.bl e.2.laden, .bl e.2.laden])) (.ref l2) (.list [.bool e.2.laden, .bool e.2.laden]) := .lst (SqL.of upd_same) (.cons (.bl _) (.cons (.bl _) .nil))
      refine ⟨_, _, d1, d2, rfl, rfl, ?_⟩
      rw [eqv_self rfl]
      obtain ⟨H3, e3⟩ : ∃ H3, H3 = upd H2 l2 (.lst [.bl e.2.laden, .bl e.2.laden]) := ⟨_, rfl⟩
      rw [← e3] at s3 ⊢
      have h3 := s3 _ _ h2
      walk_at "go"
      intro D hD
      refine lcL (K := K) (a := l1) (xs := [.bl e.2.laden, .bl e.2.laden]) (fun i H' => H' D = some (.lst ((List.replicate i true).map V.bl)) ∧ Same H3 H') ?_ ?_ ?_ ?_
      · exact ⟨upd_same, Same.upd_new hD⟩
      · exact fun i H' _ h => SqL.of (h.2 _ _ h3)
      · rintro i y H' hi ⟨g1, g2⟩
        have hy : y = .bl e.2.laden := by
          have := List.mem_of_getElem? hi
          simpa using this
        have hi2 : i < 2 := (List.getElem?_eq_some_iff.mp hi).1
        subst hy
        refine ⟨rfl, ?_⟩
        refine ⟨_, rfl, _, _, .type "bool", .type "bool", true, rfl, .ty _, .base (.bl _), kit_ty (by decide +kernel), ?_⟩
        refine ⟨_, g1, small_lt (by rw [List.length_map, List.length_replicate]; omega), wait ⟨?_, fun x o e => upd_get (ne_of_none e hD) (g2 x o e)⟩⟩
        rw [upd_same, List.replicate_succ', List.map_append] <;> rfl
      · rintro H4 ⟨g1, g2⟩
        have g3 : H4 D = some (.lst ([true, true].map V.bl)) := g1
        have PA4 := PA1.same (s2.trans (s3.trans g2))
        obtain ⟨dx4, ho4⟩ := PA4.ob
        walk_at "go"
        refine ⟨fun d hd => ?_, fun hno => absurd rfl (hno e hem)⟩
        rw [un f0 hd, w0]
        walk_at "go"
        refine ⟨fun d hd => ?_, fun hno => absurd rfl (hno e hem)⟩
        rw [un f1 hd, w1]
        walk_at "go"
        refine ifNN rfl ?_
        walk_at "go"
        refine ⟨fun d hd => ?_, fun hno => absurd rfl (hno e hem)⟩
        rw [un f1 hd, w1]
        walk_at "go"
        refine ifNN rfl ?_
        refine wait ⟨⟨_, _, _, _, rfl⟩, s1.trans (s2.trans (s3.trans g2))⟩
    · rintro σ H' ⟨⟨u1, u2, u3, u4, rfl⟩, s1⟩
      walk_at "go"
      exact q _ s1
end
end Pf
set_option Elab.async false
set_option linter.all false
set_option maxRecDepth 100000
set_option maxHeartbeats 4000000
namespace Pf
open PySem L2
local macro_rules | `(tactic| walk_at "nz") => `(tactic| (show (_ : Int) ≠ 0; omega))
local macro_rules | `(tactic| walk_at "ne") => `(tactic| first | assumption | (apply Ne.symm; assumption))
local macro_rules | `(tactic| walk_at "hp") => `(tactic| first | assumption | exact upd_same | (refine upd_get ?_ ?_; walk_at "ne"; walk_at "hp"))
local macro_rules | `(tactic| walk_at "sd") => `(tactic| first
  | rfl
  | assumption
  | (with_reducible show (_ : Int) < _; omega)
  | (with_reducible show (_ : Int) ≤ _; omega)
  | (with_reducible show (_ : Nat) < _; omega)
  | (with_reducible show (_ : Nat) ≤ _; omega)
  | exact kV_int _
  | exact kV_str _
  | (show (_ : Int) ≠ 0; omega)
  | exact SqL.of (by walk_at "hp")
  | exact ⟨_, SqL.of (by walk_at "hp")⟩
  | exact ⟨_, SqT.of (by walk_at "hp")⟩
  | exact ⟨_, (by assumption)⟩
  | exact SqT.of (by walk_at "hp")
  | exact Rd.of (by walk_at "hp")
  | exact Or.inl (SqL.of (by walk_at "hp"))
  | exact Or.inr (SqT.of (by walk_at "hp"))
  | (walk_at "hp")
  | (exact Or.inl ⟨rfl, _, SqL.of (by walk_at "hp")⟩)
  | (exact Or.inl ⟨by omega, by omega⟩)
  | (exact Or.inr ⟨by omega, by omega⟩)
  | (refine ⟨?_, ?_, ?_⟩ <;> omega)
  | omega
  | (exact small_le (by first | omega | (simp only [List.length_cons, List.length_nil]; omega)))
  | (exact small_lt (by first | omega | (simp only [List.length_cons, List.length_nil]; omega)))
  | exact Nat.le_of_ble_eq_true rfl
  | exact ⟨_, rfl⟩
  | decide)
local macro_rules | `(tactic| walk_at "st") => `(tactic| first
  | with_reducible refine sq_seq ?_
  | apply Exists.intro
  | (refine And.intro ?_ ?_; (walk_at "sd")))
local macro_rules | `(tactic| walk_at "go") => `(tactic| repeat (walk_at "st"))
section
variable {P : Program} {w : World} {K : PySem.W.Frag} {mg : Str → Option Value} {base : Heap} {a : Ad}
def spLaw (K : PySem.W.Frag) : Sp := fun vs H Q _ => ∃ (c : Addr) (ns : List Int), vs = [.ref c] ∧ SqL K H c (ns.map V.int) ∧ ns.length ≤ 63 ∧ ∀ H', Q (.bl true) H'
theorem ok_law (T : Txt K mg a) : FnOk P w K mg base CX0 6 a.f_law a.d_law ["_law_script"] (spLaw K) := by
  have G__law_box := ok__law_box (P := P) (w := w) (base := base) T
  have G__law_pairs := ok__law_pairs (P := P) (w := w) (base := base) T
  have G_Pacts___init__ := ok_Pacts___init__ (P := P) (w := w) (base := base) T
  have G_Pacts_pairs := ok_Pacts_pairs (P := P) (w := w) (base := base) T
  have G__law_names := ok__law_names (P := P) (w := w) (base := base) T
  have G__law_told := ok__law_told (P := P) (w := w) (base := base) T
  have G_Pacts___len__ := ok_Pacts___len__ (P := P) (w := w) (base := base) T
  have G__law_refused := ok__law_refused (P := P) (w := w) (base := base) T
  have cl_Pacts := T.cl_Pacts
  have na_Pacts_kept_pairs := T.na_Pacts_kept_pairs
  have na_Pacts_kept_pacts := T.na_Pacts_kept_pacts
  refine T.F_law.ok sc_law (fun vs H Q E h => ?_) (fun cdv A outer s H vs Q E hr h => ?_)
  · obtain ⟨c, ns, rfl, _⟩ := h
    rfl
  · obtain ⟨c, ns, rfl, hS, hl, q⟩ := h
    refine ⟨_, (pss_cons (ps_set (i := 1) sc_law.nd rfl (Or.inl rfl) (pe_call G__law_box (hr.mono (by decide)) rfl T.m__law_box T.F__law_box.kp T.b__law_box .nil pass0 (pa_cons (pv 0) pa_nil)))
      (pss_cons (ps_set (i := 2) sc_law.nd rfl (Or.inl rfl) (pe_call G__law_pairs (hr.mono (by decide)) rfl T.m__law_pairs T.F__law_pairs.kp T.b__law_pairs .nil pass0 (pa_cons (pv 1) (pa_cons pe_int pa_nil))))
      (pss_cons (ps_set (i := 3) sc_law.nd rfl (Or.inl rfl) (pe_op op_cat (pe_call G__law_names (hr.mono (by decide)) rfl T.m__law_names T.F__law_names.kp T.b__law_names .nil pass0 (pa_cons (pv 1) (pa_cons pe_int pa_nil))) (pe_lst (pa_cons pe_str (pa_cons pe_str (pa_cons pe_str pa_nil))))))
      (pss_cons (ps_set (i := 4) sc_law.nd rfl (Or.inl rfl) (pe_callTy call_list_of (by rfl) T.z_list (by decide +kernel) (pa_cons (pv 2) pa_nil)))
      (pss_cons (ps_set (i := 5) sc_law.nd rfl (Or.inl rfl) (pe_make T.mk_Pacts G_Pacts___init__ (hr.mono (by decide)) rfl T.m_Pacts T.b_Pacts___init__ .nil pass0 (pa_cons (pv 4) (pa_cons (pe_lst pa_nil) pa_nil))))
      (pss_cons (ps_expr (pe_bm0 PySem.F.plainAttrs_list PySem.F.slot_list_clear PySem.F.type_list_clear mt_clear (pv 4)))
      (pss_cons (ps_set (i := 6) sc_law.nd rfl (Or.inl rfl) (pe_meth0 (pv 5) T.cl_Pacts T.mt_Pacts_pairs G_Pacts_pairs (hr.mono (by decide)) T.b_Pacts_pairs .nil pass0))
      (pss_cons (ps_if (PW.pt (pw_or (pt_cmpR (op_neD (hr.units)) (pv 6) (pv 2) (nomark _)) (pw_or (pt_not (pt_val (pe_call G__law_told (hr.mono (by decide)) rfl T.m__law_told T.F__law_told.kp T.b__law_told .nil pass0 (pa_cons (pv 5) (pa_cons (pv 2) pa_nil))))) (pw_or1 (pt_cmpR op_ne (pe_callB (call_lenO T.mt_Pacts___len__ G_Pacts___len__ (hr.mono (by decide)) T.b_Pacts___len__ pass0) (by rfl) T.z_len PySem.boot_len (pa_cons (pv 5) pa_nil)) pe_int (nomark _)))))) (pss_one (ps_ret pe_bl)) pss_nil)
      (pss_cons (ps_expr (pe_bm PySem.F.plainAttrs_list PySem.F.slot_list_append PySem.F.type_list_append mt_append (pv 6) (pa_cons (pe_tup (pa_cons pe_str (pa_cons pe_str (pa_cons pe_bl pa_nil)))) pa_nil)))
      (pss_cons (ps_stop (ps_for PassesOwn.never rfl (pi_wait (pi_range1 rfl T.z_range (pa_cons pe_int pa_nil))) (pg_name (i := 7) sc_law.nd rfl (Or.inr rfl)) (pss_cons (ps_setLc (i := 8) (own := [("_law_pair", 10)]) (g := gName 10) (tt := tYes) (te := (tOp (rIxT K) _ _)) rfl sc_law.nd rfl rfl (sw_true rfl rfl rfl (by decide +kernel)) (pi_list (pv 2)) (blkOk_by (own := [("_law_pair", 10)]) (N := n_law) (sc := defScope s_law) (by decide +kernel)) (fun _ _ _ _ _ => (pg_name (i := 10) sc_law.nd rfl (Or.inl rfl))) (fun _ _ _ _ _ => pts_nil) (fun _ _ _ _ _ => (pe_ix ix_tup (pv 10) (pv 7) (fun _ _ => rfl))))
      (pss_one (ps_stop (ps_for PassesOwn.never rfl (pi_wait (pi_list (by exact (pe_op op_cat (pv 3) (pe_lc (own := [("_law_pair", 10)]) (g := gName 10) (tt := tYes) (te := (tOp (rIxT K) _ _)) rfl sc_law.nd (pi_list (pv 2)) (blkOk_by (own := [("_law_pair", 10)]) (N := n_law) (sc := defScope s_law) (by decide +kernel)) (fun _ _ _ _ _ => (pg_name (i := 10) sc_law.nd rfl (Or.inl rfl))) (fun _ _ _ _ _ => pts_nil) (fun _ _ _ _ _ => (pe_ix ix_tup (pv 10) (pe_op op_sub pe_int (pv 7)) (fun _ _ => rfl)))))))) (pg_name (i := 9) sc_law.nd rfl (Or.inl rfl)) (pss_one (ps_if (PW.pt (pw_and (pt_cmpR op_notIn_seq (pv 9) (pv 8) (by rfl)) (pw_and1 (pt_not (pt_val (pe_call G__law_refused (hr.mono (by decide)) rfl T.m__law_refused T.F__law_refused.kp T.b__law_refused .nil pass0 (pa_cons (pv 5) (pa_cons (pv 9) (pa_cons (pv 7) pa_nil))))))))) (pss_one (ps_ret pe_bl)) pss_nil))))))))
      (pss_one (ps_ret (pe_and (pe_cmpR (op_eqD (hr.units)) (pe_meth0 (pv 5) T.cl_Pacts T.mt_Pacts_pairs G_Pacts_pairs (hr.mono (by decide)) T.b_Pacts_pairs .nil pass0) (pv 2) (nomark _)) (pe_one (pe_call G__law_told (hr.mono (by decide)) rfl T.m__law_told T.F__law_told.kp T.b__law_told .nil pass0 (pa_cons (pv 5) (pa_cons (pv 2) pa_nil))))))))))))))))), ?_⟩
    walk_at "go"
    intro b g l H1 hb hg hl1 B1 s1
    walk_at "go"
    intro D L n2 H2 G hD PP fr B2 hn2 k2
    have nD := B1.fresh hD
    walk_at "go"
    intro N ws n3 H3 hw3 ndw hwn hN hN3 B3 hn3 k3
    have nN := B2.fresh hN
    have PP3 : PairsAt H3 D L := PP.keep (fun o e => k3 _ _ nD.1 nD.2.1 e) (B2.tups k3)
    walk_at "go"
    intro p4 hp4
    have s4 : Same H3 (upd H3 p4 (.lst [.str "", .str "A", .str "abcdefghi"])) := Same.upd_new hp4
    have hN4 := s4 _ _ hN3
    have l4 : (ws.map V.str).length + [V.str "", .str "A", .str "abcdefghi"].length ≤ sizeLine := small_le (by rw [List.length_map]; show _ + 3 ≤ _; omega)
    walk_at "go"
    intro O hO
    obtain ⟨H5, e5⟩ : ∃ H5, H5 = upd (upd H3 p4 (.lst [.str "", .str "A", .str "abcdefghi"])) O (.lst (ws.map V.str ++ [.str "", .str "A", .str "abcdefghi"])) := ⟨_, rfl⟩
    rw [← e5]
    have s5 : Same H3 H5 := by rw [e5]; exact s4.trans (Same.upd_new hO)
    have hO5 : H5 O = some (.lst ((ws ++ (["", "A", "abcdefghi"] : List Str)).map V.str)) := by rw [e5, upd_same, List.map_append] <;> rfl
    have PP5 := PP3.same s5
    have ls5 := PP5.ls
    walk_at "go"
    intro M hM
    obtain ⟨H6, e6⟩ : ∃ H6, H6 = upd H5 M (.lst (L.map fun e => V.ref e.1)) := ⟨_, rfl⟩
    rw [← e6]
    have s6 : Same H5 H6 := by rw [e6]; exact Same.upd_new hM
    have PM6 : PairsAt H6 M L := ⟨by rw [e6, upd_same], (PP5.same s6).at_⟩
    walk_at "go"
    intro p7 hp7
    walk_at "go"
    intro x dx nx ndx nex
    have s7 : Same H6 (upd H6 p7 (.lst [])) := Same.upd_new hp7
    obtain ⟨H7, e7⟩ : ∃ H7, H7 = upd H6 p7 (.lst []) := ⟨_, rfl⟩
    rw [← e7] at s7 nx ndx ⊢
    have hp77 : H7 p7 = some (.lst []) := by rw [e7, upd_same]
    have s8 : Same H7 (upd (upd H7 dx (.own x)) x (.ins a.c_Pacts dx [])) := fun y o e => upd_get (ne_of_none e nx) (upd_get (ne_of_none e ndx) e)
    refine ⟨x, dx, M, p7, L, rfl, upd_same, (PM6.same s7).same s8, G, s8 _ _ hp77, fun kp kd H9 hkp hkd PA9 k9 => ⟨rfl, ?_⟩⟩
    have s9 : Same H7 H9 := fun y o e => k9 y o (ne_of_none e nx) (s8 _ _ e)
    have PM9 := (PM6.same s7).same s9
    have lM9 := PM9.ls
    have PP9 := ((PP5.same s6).same s7).same s9
    have nMD : D ≠ M := ne_of_none PP5.ls hM
    have nMO : O ≠ M := ne_of_none hO5 hM
    have nMp : M ≠ kp := fun z => by rw [← z] at hkp; rw [s8 _ _ (s7 _ _ PM6.ls)] at hkp; cases hkp
    have k10 : ∀ y o, y ≠ M → H9 y = some o → upd H9 M (.lst []) y = some o := fun y o n e => upd_get n e
    have kt10 : ∀ t ys, H9 t = some (.tup ys) → upd H9 M (.lst []) t = some (.tup ys) := fun t ys e => k10 _ _ (ne_of e lM9 (by intro z; cases z)) e
    have PP10 : PairsAt (upd H9 M (.lst [])) D L := PP9.keep (fun o e => k10 _ _ nMD e) kt10
    have PA10 : PactsAt a.c_Pacts (upd H9 M (.lst [])) x kp kd L [] := by
      obtain ⟨dx9, ho9⟩ := PA9.ob
      exact ⟨⟨dx9, k10 _ _ (ne_of ho9 lM9 (by intro z; cases z)) ho9⟩, PA9.pr.keep (fun o e => k10 _ _ nMp.symm e) kt10, k10 _ _ (ne_of PA9.pc lM9 (by intro z; cases z)) PA9.pc⟩
    have hO10 := k10 _ _ nMO (s9 _ _ (s7 _ _ (s6 _ _ hO5)))
    obtain ⟨dx10, ho10⟩ := PA10.ob
    walk_at "go"
    intro R hR
    obtain ⟨H10, e10⟩ : ∃ H10, H10 = upd H9 M (.lst []) := ⟨_, rfl⟩
    rw [← e10] at PP10 PA10 hO10 hR ⊢
    clear e10 k10 kt10 ho10
    obtain ⟨H11, e11⟩ : ∃ H11, H11 = upd H10 R (.lst (L.map fun e => V.ref e.1)) := ⟨_, rfl⟩
    rw [← e11]
    have s11 : Same H10 H11 := by rw [e11]; exact Same.upd_new hR
    have PR11 : PairsAt H11 R L := ⟨by rw [e11, upd_same], (PP10.same s11).at_⟩
    have PP11 := PP10.same s11
    have PA11 := PA10.same s11
    obtain ⟨dx11, ho11⟩ := PA11.ob
    have sh := shaped_prs G
    have dR := PR11.dp (K := K)
    have dD := PP11.dp (K := K)
    walk_at "go"
    rw [eqv_self sh]
    refine ifF rfl ?_
    walk_at "go"
    intro H12 s12
    have PA12 := PA11.same s12
    obtain ⟨dx12, ho12⟩ := PA12.ob
    have lR12 := s12 _ _ PR11.ls
    have gl := G.len
    rw [List.length_map] at gl
    walk_at "go"
    intro t hht
    have lR13 := Same.upd_new (o := .tup [.str "x", .str "y", .bl true]) hht _ _ lR12
    walk_at "go"
    refine ⟨small_lt (by rw [List.length_map]; omega), ?_⟩
    obtain ⟨Hb, eb⟩ : ∃ Hb, Hb = upd (upd H12 t (.tup [.str "x", .str "y", .bl true])) R (.lst ((L.map fun e => V.ref e.1) ++ [.ref t])) := ⟨_, rfl⟩
    rw [← eb]
    have sb : Same H10 Hb := fun y o e => by
      rw [eb]
      exact upd_get (ne_of_none e hR) (Same.upd_new hht _ _ (s12 _ _ (s11 _ _ e)))
    have PPb := PP10.same sb
    have PAb := PA10.same sb
    have hOb := sb _ _ hO10
    refine sq_seq (stop_in ?_)
    walk_at "go"
    refine wait ?_
    refine forR (lo := 0) (n := 2) (fun i σ H' => (∃ u7 u8 u9, σ = [some (.ref c), some (.ref b), some (.ref D), some (.ref O), some (.ref M), some (.ref x), some (.ref R), u7, u8, u9, none]) ∧ Same Hb H') ?_ ?_ ?_
    · exact ⟨⟨_, _, _, rfl⟩, fun _ _ e => e⟩
    · rintro i σ Hc hi ⟨⟨u7, u8, u9, rfl⟩, sc⟩
      have PPc := PPb.same sc
      have lsc := PPc.ls
      have hti : (0 + (i : Int)) = 0 ∨ (0 + (i : Int)) = 1 := by omega
      obtain ⟨ti, eti⟩ : ∃ ti : Int, ti = 0 + (i : Int) := ⟨_, rfl⟩
      rw [← eti] at hti ⊢
      walk_at "go"
      intro W hW
      refine lcL (K := K) (a := D) (xs := L.map fun e => V.ref e.1) (fun j H' => H' W = some (.lst (((L.take j).map fun e => e.2.word ti).map V.str)) ∧ Same Hc H') ?_ ?_ ?_ ?_
      · exact ⟨upd_same, Same.upd_new hW⟩
      · exact fun i H' _ h => SqL.of (h.2 _ _ lsc)
      · rintro j y H' hj ⟨g1, g2⟩
        rw [List.getElem?_map] at hj
        obtain ⟨e, he, rfl⟩ := Option.map_eq_some_iff.mp hj
        have hp : H' e.1 = _ := g2 _ _ (PPc.at_ e (List.mem_of_getElem? he))
        have hlt := (List.getElem?_eq_some_iff.mp he).1
        have hat := pr_at e.2 hti
        refine ⟨rfl, ?_⟩
        walk_at "go"
        refine ⟨small_lt (by rw [List.length_map, List.length_map, List.length_take]; omega), wait ⟨?_, fun x o e => upd_get (ne_of_none e hW) (g2 x o e)⟩⟩
        rw [upd_same, List.take_add_one, he, List.map_append, List.map_append] <;> rfl
      · rintro Hd ⟨g1, g2⟩
        rw [List.length_map, List.take_length] at g1
        have sd := sc.trans g2
        have hOd := sd _ _ hOb
        have PPd := PPb.same sd
        have lsd := PPd.ls
        refine stop_in ?_
        walk_at "go"
        intro Z hZ
        refine lcL (K := K) (a := D) (xs := L.map fun e => V.ref e.1) (fun j H' => H' Z = some (.lst (((L.take j).map fun e => e.2.word (1 - ti)).map V.str)) ∧ Same Hd H') ?_ ?_ ?_ ?_
        · exact ⟨upd_same, Same.upd_new hZ⟩
        · exact fun i H' _ h => SqL.of (h.2 _ _ lsd)
        · rintro j y H' hj ⟨f1, f2⟩
          rw [List.getElem?_map] at hj
          obtain ⟨e, he, rfl⟩ := Option.map_eq_some_iff.mp hj
          have hp : H' e.1 = _ := f2 _ _ (PPd.at_ e (List.mem_of_getElem? he))
          have hlt := (List.getElem?_eq_some_iff.mp he).1
          have hat := pr_at1 e.2 hti
          refine ⟨rfl, ?_⟩
          walk_at "go"
          refine ⟨small_lt (by rw [List.length_map, List.length_map, List.length_take]; omega), wait ⟨?_, fun x o e => upd_get (ne_of_none e hZ) (f2 x o e)⟩⟩
          rw [upd_same, List.take_add_one, he, List.map_append, List.map_append] <;> rfl
        · rintro He ⟨f1, f2⟩
          rw [List.length_map, List.take_length] at f1
          have hOe := f2 _ _ hOd
          have lsz : (((ws ++ (["", "A", "abcdefghi"] : List Str)).map V.str).length + ((L.map fun e => e.2.word (1 - ti)).map V.str).length) ≤ sizeLine := small_le (by rw [List.length_map, List.length_append, List.length_map, List.length_map]; show _ + 3 + _ ≤ _; omega)
          walk_at "go"
          intro Y hY
          obtain ⟨Hf, ef⟩ : ∃ Hf, Hf = upd He Y (.lst ((ws ++ (["", "A", "abcdefghi"] : List Str)).map V.str ++ (L.map fun e => e.2.word (1 - ti)).map V.str)) := ⟨_, rfl⟩
          have sf : Same He Hf := by rw [ef]; exact Same.upd_new hY
          obtain ⟨zs, ez⟩ : ∃ zs : List Str, zs = (ws ++ (["", "A", "abcdefghi"] : List Str)) ++ L.map fun e => e.2.word (1 - ti) := ⟨_, rfl⟩
          have hYf : Hf Y = some (.lst (zs.map V.str)) := by rw [ef, upd_same, ez, ← List.map_append]
          rw [← ef]
          have hWf := sf _ _ (f2 _ _ g1)
          have PAf := PAb.same (sd.trans (f2.trans sf))
          walk_at "go"
          refine wait ?_
          refine forL (K := K) (a := Y) (xs := zs.map V.str) (fun j σ H' => (∃ u9, σ = [some (.ref c), some (.ref b), some (.ref D), some (.ref O), some (.ref M), some (.ref x), some (.ref R), some (.int ti), some (.ref W), u9, none]) ∧ Same Hf H') ?_ ?_ ?_ ?_
          · exact ⟨⟨_, rfl⟩, fun _ _ e => e⟩
          · exact fun j σ H' _ h => SqL.of (h.2 _ _ hYf)
          · rintro j y σ Hg hj ⟨⟨u9, rfl⟩, sg⟩
            rw [List.getElem?_map] at hj
            obtain ⟨z, hz, rfl⟩ := Option.map_eq_some_iff.mp hj
            have hWg := sg _ _ hWf
            have PAg := PAf.same sg
            have fl := flat_strs1 (L.map fun e => e.2.word ti)
            refine ⟨_, rfl, _, rfl, W, _, rfl, .inl (SqL.of hWg), rfl, fl, ?_⟩
            rw [if_pos rfl, in_strs]
            by_cases hin : z ∈ L.map fun e => e.2.word ti
            · rw [decide_eq_true hin]
              walk_at "go"
              exact wait ⟨⟨_, rfl⟩, sg⟩
            · rw [decide_eq_false hin]
              have hno : ∀ e ∈ L, e.2.word ti ≠ z := fun e he y => hin (List.mem_map.mpr ⟨e, he, y⟩)
              walk_at "go"
              intro Hh sh2
              walk_at "go"
              exact wait ⟨⟨_, rfl⟩, sg.trans sh2⟩
          · rintro σ Hg ⟨⟨u9, rfl⟩, sg⟩
            exact wait ⟨⟨_, _, _, by rw [eti]⟩, sd.trans (f2.trans (sf.trans sg))⟩
    · rintro σ Hc ⟨⟨u7, u8, u9, rfl⟩, sc⟩
      have PAc := PAb.same sc
      obtain ⟨dxc, hoc⟩ := PAc.ob
      walk_at "go"
      intro Z hZ
      obtain ⟨Hd, ed⟩ : ∃ Hd, Hd = upd Hc Z (.lst (L.map fun e => V.ref e.1)) := ⟨_, rfl⟩
      rw [← ed]
      have sd : Same Hc Hd := by rw [ed]; exact Same.upd_new hZ
      have PPd := (PPb.same sc).same sd
      have PZd : PairsAt Hd Z L := ⟨by rw [ed, upd_same], PPd.at_⟩
      have PAd := PAc.same sd
      have dZ := PZd.dp (K := K)
      have dP := PPd.dp (K := K)
      walk_at "go"
      rw [eqv_self sh]
      walk_at "go"
      intro He se
      exact q _
end
end Pf
set_option Elab.async false
set_option linter.all false
set_option maxRecDepth 100000
set_option maxHeartbeats 4000000
namespace Pf
open PySem L2
theorem all_mk {K : PySem.W.Frag} {h : Heap} {mg : Str → Option Value} (X : K.In h) (G : h.Ns mainGlobals mg)
    {cc_Pacts : Addr}
    {cc_PactError : Addr}
    {cc_NoWord : Addr}
    {nm_NoWord qq_NoWord : Str} {NN_NoWord : Addr} {bs_NoWord : List Value} {sn_NoWord : List Str} {su_NoWord : List Value} {ab_NoWord : Bool} {co_NoWord : Option Bool} {ddd_NoWord : Option Addr} {m0_NoWord m1_NoWord m2_NoWord m3_NoWord m5_NoWord : Option Value}
    {cc_NoHelper : Addr}
    {ff_NoWord___init__ : Addr} {od_NoWord___init__ an_NoWord___init__ : Option Addr} {sl_NoWord___init__ : Array (Option Value)} {oc_NoWord___init__ kV_NoWord___init__ dc_NoWord___init__ pm_NoWord___init__ cd_NoWord___init__ ct_NoWord___init__ : Value}
    {ff_is_name : Addr} {od_is_name an_is_name : Option Addr} {sl_is_name : Array (Option Value)} {oc_is_name kV_is_name dc_is_name pm_is_name cd_is_name ct_is_name : Value}
    {ff_Pacts___init__ : Addr} {od_Pacts___init__ an_Pacts___init__ : Option Addr} {sl_Pacts___init__ : Array (Option Value)} {oc_Pacts___init__ kV_Pacts___init__ dc_Pacts___init__ pm_Pacts___init__ cd_Pacts___init__ ct_Pacts___init__ : Value}
    {ff_Pacts_fits_pair : Addr} {od_Pacts_fits_pair an_Pacts_fits_pair : Option Addr} {sl_Pacts_fits_pair : Array (Option Value)} {oc_Pacts_fits_pair kV_Pacts_fits_pair dc_Pacts_fits_pair pm_Pacts_fits_pair cd_Pacts_fits_pair ct_Pacts_fits_pair : Value}
    {ff_Pacts_fits_helper : Addr} {od_Pacts_fits_helper an_Pacts_fits_helper : Option Addr} {sl_Pacts_fits_helper : Array (Option Value)} {oc_Pacts_fits_helper kV_Pacts_fits_helper dc_Pacts_fits_helper pm_Pacts_fits_helper cd_Pacts_fits_helper ct_Pacts_fits_helper : Value}
    {ff_Pacts_words_called : Addr} {od_Pacts_words_called an_Pacts_words_called : Option Addr} {sl_Pacts_words_called : Array (Option Value)} {oc_Pacts_words_called kV_Pacts_words_called dc_Pacts_words_called pm_Pacts_words_called cd_Pacts_words_called ct_Pacts_words_called : Value}
    {ff_Pacts_pair_of : Addr} {od_Pacts_pair_of an_Pacts_pair_of : Option Addr} {sl_Pacts_pair_of : Array (Option Value)} {oc_Pacts_pair_of kV_Pacts_pair_of dc_Pacts_pair_of pm_Pacts_pair_of cd_Pacts_pair_of ct_Pacts_pair_of : Value}
    {ff_Pacts_pairs : Addr} {od_Pacts_pairs an_Pacts_pairs : Option Addr} {sl_Pacts_pairs : Array (Option Value)} {oc_Pacts_pairs kV_Pacts_pairs dc_Pacts_pairs pm_Pacts_pairs cd_Pacts_pairs ct_Pacts_pairs : Value}
    {ff_Pacts_laden : Addr} {od_Pacts_laden an_Pacts_laden : Option Addr} {sl_Pacts_laden : Array (Option Value)} {oc_Pacts_laden kV_Pacts_laden dc_Pacts_laden pm_Pacts_laden cd_Pacts_laden ct_Pacts_laden : Value}
    {ff_Pacts_over : Addr} {od_Pacts_over an_Pacts_over : Option Addr} {sl_Pacts_over : Array (Option Value)} {oc_Pacts_over kV_Pacts_over dc_Pacts_over pm_Pacts_over cd_Pacts_over ct_Pacts_over : Value}
    {ff_Pacts___len__ : Addr} {od_Pacts___len__ an_Pacts___len__ : Option Addr} {sl_Pacts___len__ : Array (Option Value)} {oc_Pacts___len__ kV_Pacts___len__ dc_Pacts___len__ pm_Pacts___len__ cd_Pacts___len__ ct_Pacts___len__ : Value}
    {ff__law_box : Addr} {od__law_box an__law_box : Option Addr} {sl__law_box : Array (Option Value)} {oc__law_box kV__law_box dc__law_box pm__law_box cd__law_box ct__law_box : Value}
    {ff__law_mixed : Addr} {od__law_mixed an__law_mixed : Option Addr} {sl__law_mixed : Array (Option Value)} {oc__law_mixed kV__law_mixed dc__law_mixed pm__law_mixed cd__law_mixed ct__law_mixed : Value}
    {ff__law_take : Addr} {od__law_take an__law_take : Option Addr} {sl__law_take : Array (Option Value)} {oc__law_take kV__law_take dc__law_take pm__law_take cd__law_take ct__law_take : Value}
    {ff__law_name : Addr} {od__law_name an__law_name : Option Addr} {sl__law_name : Array (Option Value)} {oc__law_name kV__law_name dc__law_name pm__law_name cd__law_name ct__law_name : Value}
    {ff__law_names : Addr} {od__law_names an__law_names : Option Addr} {sl__law_names : Array (Option Value)} {oc__law_names kV__law_names dc__law_names pm__law_names cd__law_names ct__law_names : Value}
    {ff__law_pairs : Addr} {od__law_pairs an__law_pairs : Option Addr} {sl__law_pairs : Array (Option Value)} {oc__law_pairs kV__law_pairs dc__law_pairs pm__law_pairs cd__law_pairs ct__law_pairs : Value}
    {ff__law_refused : Addr} {od__law_refused an__law_refused : Option Addr} {sl__law_refused : Array (Option Value)} {oc__law_refused kV__law_refused dc__law_refused pm__law_refused cd__law_refused ct__law_refused : Value}
    {ff__law_told : Addr} {od__law_told an__law_told : Option Addr} {sl__law_told : Array (Option Value)} {oc__law_told kV__law_told dc__law_told pm__law_told cd__law_told ct__law_told : Value}
    {ff_law : Addr} {od_law an_law : Option Addr} {sl_law : Array (Option Value)} {oc_law kV_law dc_law pm_law cd_law ct_law : Value}
    {tt_LETTERS : Tok}
    {tt_MOST : Tok}
    {tt_MOST_PAIRS : Tok}
    (aC_Pacts : PySem.W.nsIn K mainGlobals "Pacts" = some (some (.ref cc_Pacts)))
    (pg_Pacts : PySem.W.plainGet K cc_Pacts Str.empty = true)
    (hd_Pacts : PySem.W.hasDictIn K cc_Pacts = true)
    (po_Pacts : PySem.W.plainOver K cc_Pacts = true)
    (sa_Pacts : PySem.W.findIn K (.ref cc_Pacts) "__setattr__" = some (some (.builtin "object.__setattr__")))
    (mk_Pacts : PySem.W.makesIn K cc_Pacts = true)
    (kc_Pacts : PySem.W.keepIn K (.ref cc_Pacts) = true)
    (na_Pacts_kept_pairs : PySem.W.findIn K (.ref cc_Pacts) "kept_pairs" = some none)
    (na_Pacts_kept_pacts : PySem.W.findIn K (.ref cc_Pacts) "kept_pacts" = some none)
    (aC_PactError : PySem.W.nsIn K mainGlobals "PactError" = some (some (.ref cc_PactError)))
    (bE_PactError : PySem.W.subIn K (.ref cc_PactError) (.type "BaseException") = some true)
    (hd_PactError : PySem.W.hasDictIn K cc_PactError = true)
    (ty_PactError : PySem.W.typeIn K (.ref cc_PactError) = some (.type "type"))
    (aC_NoWord : PySem.W.nsIn K mainGlobals "NoWord" = some (some (.ref cc_NoWord)))
    (bE_NoWord : PySem.W.subIn K (.ref cc_NoWord) (.type "BaseException") = some true)
    (hd_NoWord : PySem.W.hasDictIn K cc_NoWord = true)
    (ty_NoWord : PySem.W.typeIn K (.ref cc_NoWord) = some (.type "type"))
    (xL_NoWord : K.lookup cc_NoWord = some (excClassObj nm_NoWord qq_NoWord cc_NoWord NN_NoWord bs_NoWord [.ref cc_PactError, .type "ValueError", .type "Exception", .type "BaseException", .type "object"] true sn_NoWord su_NoWord ab_NoWord co_NoWord ddd_NoWord m0_NoWord m1_NoWord m2_NoWord m3_NoWord m5_NoWord "ValueError.__new__"))
    (sa_NoWord : PySem.W.findIn K (.ref cc_NoWord) "__setattr__" = some (some (.builtin "object.__setattr__")))
    (ga_NoWord : PySem.W.findIn K (.ref cc_NoWord) "__getattribute__" = some (some (.builtin "BaseException.__getattribute__")))
    (gg_NoWord : PySem.W.findIn K (.ref cc_NoWord) "__getattr__" = some none)
    (kc_NoWord : PySem.W.keepIn K (.ref cc_NoWord) = true)
    (cc__NoWord : PySem.W.findIn K (.ref cc_NoWord) "__class__" = some (some (.builtin "object.__class__")))
    (mo_NoWord : PySem.W.mroIn K cc_NoWord (.type "object") = some true)
    (na_NoWord_word : PySem.W.findIn K (.ref cc_NoWord) "word" = some none)
    (aC_NoHelper : PySem.W.nsIn K mainGlobals "NoHelper" = some (some (.ref cc_NoHelper)))
    (bE_NoHelper : PySem.W.subIn K (.ref cc_NoHelper) (.type "BaseException") = some true)
    (hd_NoHelper : PySem.W.hasDictIn K cc_NoHelper = true)
    (ty_NoHelper : PySem.W.typeIn K (.ref cc_NoHelper) = some (.type "type"))
    (sGet : PySem.W.specialIn K (.builtin "object.__class__") "__get__" = some (some (.builtin "getset_descriptor.__get__")))
    (tGet : PySem.W.takesIn K (.builtin "object.__class__") = some true)
    (su_NoWord_NoWord : PySem.W.subIn K (.ref cc_NoWord) (.ref cc_NoWord) = some true)
    (su_NoWord_PactError : PySem.W.subIn K (.ref cc_NoWord) (.ref cc_PactError) = some true)
    (su_NoWord_NoHelper : PySem.W.subIn K (.ref cc_NoWord) (.ref cc_NoHelper) = some false)
    (su_NoWord_ValueError : PySem.W.subIn K (.ref cc_NoWord) (.type "ValueError") = some true)
    (a_NoWord___init__ : PySem.W.findIn K (.ref cc_NoWord) "__init__" = some (some (.ref ff_NoWord___init__)))
    (i_NoWord___init__ : PySem.W.isFn K (.ref ff_NoWord___init__) = true)
    (l_NoWord___init__ : K.lookup ff_NoWord___init__ = some ⟨oc_NoWord___init__, od_NoWord___init__, .func (PySem.W.fnOf "__init__" "NoWord.__init__" (defArgs s_NoWord___init__) (defBody s_NoWord___init__) (defScope s_NoWord___init__) .none kV_NoWord___init__ dc_NoWord___init__ pm_NoWord___init__ an_NoWord___init__ cd_NoWord___init__ ct_NoWord___init__), sl_NoWord___init__⟩)
    (c_NoWord___init__ : PySem.W.codeIn K cd_NoWord___init__ "NoWord.__init__" = true)
    (k_NoWord___init__ : PySem.W.keepIn K (.ref ff_NoWord___init__) = true)
    (a_is_name : PySem.W.nsIn K mainGlobals "is_name" = some (some (.ref ff_is_name)))
    (l_is_name : K.lookup ff_is_name = some ⟨oc_is_name, od_is_name, .func (PySem.W.fnOf "is_name" "is_name" (defArgs s_is_name) (defBody s_is_name) (defScope s_is_name) .none kV_is_name dc_is_name pm_is_name an_is_name cd_is_name ct_is_name), sl_is_name⟩)
    (c_is_name : PySem.W.codeIn K cd_is_name "is_name" = true)
    (k_is_name : PySem.W.keepIn K (.ref ff_is_name) = true)
    (a_Pacts___init__ : PySem.W.findIn K (.ref cc_Pacts) "__init__" = some (some (.ref ff_Pacts___init__)))
    (i_Pacts___init__ : PySem.W.isFn K (.ref ff_Pacts___init__) = true)
    (l_Pacts___init__ : K.lookup ff_Pacts___init__ = some ⟨oc_Pacts___init__, od_Pacts___init__, .func (PySem.W.fnOf "__init__" "Pacts.__init__" (defArgs s_Pacts___init__) (defBody s_Pacts___init__) (defScope s_Pacts___init__) .none kV_Pacts___init__ dc_Pacts___init__ pm_Pacts___init__ an_Pacts___init__ cd_Pacts___init__ ct_Pacts___init__), sl_Pacts___init__⟩)
    (c_Pacts___init__ : PySem.W.codeIn K cd_Pacts___init__ "Pacts.__init__" = true)
    (k_Pacts___init__ : PySem.W.keepIn K (.ref ff_Pacts___init__) = true)
    (a_Pacts_fits_pair : PySem.W.findIn K (.ref cc_Pacts) "fits_pair" = some (some (.ref ff_Pacts_fits_pair)))
    (i_Pacts_fits_pair : PySem.W.isFn K (.ref ff_Pacts_fits_pair) = true)
    (l_Pacts_fits_pair : K.lookup ff_Pacts_fits_pair = some ⟨oc_Pacts_fits_pair, od_Pacts_fits_pair, .func (PySem.W.fnOf "fits_pair" "Pacts.fits_pair" (defArgs s_Pacts_fits_pair) (defBody s_Pacts_fits_pair) (defScope s_Pacts_fits_pair) .none kV_Pacts_fits_pair dc_Pacts_fits_pair pm_Pacts_fits_pair an_Pacts_fits_pair cd_Pacts_fits_pair ct_Pacts_fits_pair), sl_Pacts_fits_pair⟩)
    (c_Pacts_fits_pair : PySem.W.codeIn K cd_Pacts_fits_pair "Pacts.fits_pair" = true)
    (k_Pacts_fits_pair : PySem.W.keepIn K (.ref ff_Pacts_fits_pair) = true)
    (a_Pacts_fits_helper : PySem.W.findIn K (.ref cc_Pacts) "fits_helper" = some (some (.ref ff_Pacts_fits_helper)))
    (i_Pacts_fits_helper : PySem.W.isFn K (.ref ff_Pacts_fits_helper) = true)
    (l_Pacts_fits_helper : K.lookup ff_Pacts_fits_helper = some ⟨oc_Pacts_fits_helper, od_Pacts_fits_helper, .func (PySem.W.fnOf "fits_helper" "Pacts.fits_helper" (defArgs s_Pacts_fits_helper) (defBody s_Pacts_fits_helper) (defScope s_Pacts_fits_helper) .none kV_Pacts_fits_helper dc_Pacts_fits_helper pm_Pacts_fits_helper an_Pacts_fits_helper cd_Pacts_fits_helper ct_Pacts_fits_helper), sl_Pacts_fits_helper⟩)
    (c_Pacts_fits_helper : PySem.W.codeIn K cd_Pacts_fits_helper "Pacts.fits_helper" = true)
    (k_Pacts_fits_helper : PySem.W.keepIn K (.ref ff_Pacts_fits_helper) = true)
    (a_Pacts_words_called : PySem.W.findIn K (.ref cc_Pacts) "words_called" = some (some (.ref ff_Pacts_words_called)))
    (i_Pacts_words_called : PySem.W.isFn K (.ref ff_Pacts_words_called) = true)
    (l_Pacts_words_called : K.lookup ff_Pacts_words_called = some ⟨oc_Pacts_words_called, od_Pacts_words_called, .func (PySem.W.fnOf "words_called" "Pacts.words_called" (defArgs s_Pacts_words_called) (defBody s_Pacts_words_called) (defScope s_Pacts_words_called) .none kV_Pacts_words_called dc_Pacts_words_called pm_Pacts_words_called an_Pacts_words_called cd_Pacts_words_called ct_Pacts_words_called), sl_Pacts_words_called⟩)
    (c_Pacts_words_called : PySem.W.codeIn K cd_Pacts_words_called "Pacts.words_called" = true)
    (k_Pacts_words_called : PySem.W.keepIn K (.ref ff_Pacts_words_called) = true)
    (a_Pacts_pair_of : PySem.W.findIn K (.ref cc_Pacts) "pair_of" = some (some (.ref ff_Pacts_pair_of)))
    (i_Pacts_pair_of : PySem.W.isFn K (.ref ff_Pacts_pair_of) = true)
    (l_Pacts_pair_of : K.lookup ff_Pacts_pair_of = some ⟨oc_Pacts_pair_of, od_Pacts_pair_of, .func (PySem.W.fnOf "pair_of" "Pacts.pair_of" (defArgs s_Pacts_pair_of) (defBody s_Pacts_pair_of) (defScope s_Pacts_pair_of) .none kV_Pacts_pair_of dc_Pacts_pair_of pm_Pacts_pair_of an_Pacts_pair_of cd_Pacts_pair_of ct_Pacts_pair_of), sl_Pacts_pair_of⟩)
    (c_Pacts_pair_of : PySem.W.codeIn K cd_Pacts_pair_of "Pacts.pair_of" = true)
    (k_Pacts_pair_of : PySem.W.keepIn K (.ref ff_Pacts_pair_of) = true)
    (a_Pacts_pairs : PySem.W.findIn K (.ref cc_Pacts) "pairs" = some (some (.ref ff_Pacts_pairs)))
    (i_Pacts_pairs : PySem.W.isFn K (.ref ff_Pacts_pairs) = true)
    (l_Pacts_pairs : K.lookup ff_Pacts_pairs = some ⟨oc_Pacts_pairs, od_Pacts_pairs, .func (PySem.W.fnOf "pairs" "Pacts.pairs" (defArgs s_Pacts_pairs) (defBody s_Pacts_pairs) (defScope s_Pacts_pairs) .none kV_Pacts_pairs dc_Pacts_pairs pm_Pacts_pairs an_Pacts_pairs cd_Pacts_pairs ct_Pacts_pairs), sl_Pacts_pairs⟩)
    (c_Pacts_pairs : PySem.W.codeIn K cd_Pacts_pairs "Pacts.pairs" = true)
    (k_Pacts_pairs : PySem.W.keepIn K (.ref ff_Pacts_pairs) = true)
    (a_Pacts_laden : PySem.W.findIn K (.ref cc_Pacts) "laden" = some (some (.ref ff_Pacts_laden)))
    (i_Pacts_laden : PySem.W.isFn K (.ref ff_Pacts_laden) = true)
    (l_Pacts_laden : K.lookup ff_Pacts_laden = some ⟨oc_Pacts_laden, od_Pacts_laden, .func (PySem.W.fnOf "laden" "Pacts.laden" (defArgs s_Pacts_laden) (defBody s_Pacts_laden) (defScope s_Pacts_laden) .none kV_Pacts_laden dc_Pacts_laden pm_Pacts_laden an_Pacts_laden cd_Pacts_laden ct_Pacts_laden), sl_Pacts_laden⟩)
    (c_Pacts_laden : PySem.W.codeIn K cd_Pacts_laden "Pacts.laden" = true)
    (k_Pacts_laden : PySem.W.keepIn K (.ref ff_Pacts_laden) = true)
    (a_Pacts_over : PySem.W.findIn K (.ref cc_Pacts) "over" = some (some (.ref ff_Pacts_over)))
    (i_Pacts_over : PySem.W.isFn K (.ref ff_Pacts_over) = true)
    (l_Pacts_over : K.lookup ff_Pacts_over = some ⟨oc_Pacts_over, od_Pacts_over, .func (PySem.W.fnOf "over" "Pacts.over" (defArgs s_Pacts_over) (defBody s_Pacts_over) (defScope s_Pacts_over) .none kV_Pacts_over dc_Pacts_over pm_Pacts_over an_Pacts_over cd_Pacts_over ct_Pacts_over), sl_Pacts_over⟩)
    (c_Pacts_over : PySem.W.codeIn K cd_Pacts_over "Pacts.over" = true)
    (k_Pacts_over : PySem.W.keepIn K (.ref ff_Pacts_over) = true)
    (a_Pacts___len__ : PySem.W.findIn K (.ref cc_Pacts) "__len__" = some (some (.ref ff_Pacts___len__)))
    (i_Pacts___len__ : PySem.W.isFn K (.ref ff_Pacts___len__) = true)
    (l_Pacts___len__ : K.lookup ff_Pacts___len__ = some ⟨oc_Pacts___len__, od_Pacts___len__, .func (PySem.W.fnOf "__len__" "Pacts.__len__" (defArgs s_Pacts___len__) (defBody s_Pacts___len__) (defScope s_Pacts___len__) .none kV_Pacts___len__ dc_Pacts___len__ pm_Pacts___len__ an_Pacts___len__ cd_Pacts___len__ ct_Pacts___len__), sl_Pacts___len__⟩)
    (c_Pacts___len__ : PySem.W.codeIn K cd_Pacts___len__ "Pacts.__len__" = true)
    (k_Pacts___len__ : PySem.W.keepIn K (.ref ff_Pacts___len__) = true)
    (a__law_box : PySem.W.nsIn K mainGlobals "_law_box" = some (some (.ref ff__law_box)))
    (l__law_box : K.lookup ff__law_box = some ⟨oc__law_box, od__law_box, .func (PySem.W.fnOf "_law_box" "_law_box" (defArgs s__law_box) (defBody s__law_box) (defScope s__law_box) .none kV__law_box dc__law_box pm__law_box an__law_box cd__law_box ct__law_box), sl__law_box⟩)
    (c__law_box : PySem.W.codeIn K cd__law_box "_law_box" = true)
    (k__law_box : PySem.W.keepIn K (.ref ff__law_box) = true)
    (a__law_mixed : PySem.W.nsIn K mainGlobals "_law_mixed" = some (some (.ref ff__law_mixed)))
    (l__law_mixed : K.lookup ff__law_mixed = some ⟨oc__law_mixed, od__law_mixed, .func (PySem.W.fnOf "_law_mixed" "_law_mixed" (defArgs s__law_mixed) (defBody s__law_mixed) (defScope s__law_mixed) .none kV__law_mixed dc__law_mixed pm__law_mixed an__law_mixed cd__law_mixed ct__law_mixed), sl__law_mixed⟩)
    (c__law_mixed : PySem.W.codeIn K cd__law_mixed "_law_mixed" = true)
    (k__law_mixed : PySem.W.keepIn K (.ref ff__law_mixed) = true)
    (a__law_take : PySem.W.nsIn K mainGlobals "_law_take" = some (some (.ref ff__law_take)))
    (l__law_take : K.lookup ff__law_take = some ⟨oc__law_take, od__law_take, .func (PySem.W.fnOf "_law_take" "_law_take" (defArgs s__law_take) (defBody s__law_take) (defScope s__law_take) .none kV__law_take dc__law_take pm__law_take an__law_take cd__law_take ct__law_take), sl__law_take⟩)
    (c__law_take : PySem.W.codeIn K cd__law_take "_law_take" = true)
    (k__law_take : PySem.W.keepIn K (.ref ff__law_take) = true)
    (a__law_name : PySem.W.nsIn K mainGlobals "_law_name" = some (some (.ref ff__law_name)))
    (l__law_name : K.lookup ff__law_name = some ⟨oc__law_name, od__law_name, .func (PySem.W.fnOf "_law_name" "_law_name" (defArgs s__law_name) (defBody s__law_name) (defScope s__law_name) .none kV__law_name dc__law_name pm__law_name an__law_name cd__law_name ct__law_name), sl__law_name⟩)
    (c__law_name : PySem.W.codeIn K cd__law_name "_law_name" = true)
    (k__law_name : PySem.W.keepIn K (.ref ff__law_name) = true)
    (a__law_names : PySem.W.nsIn K mainGlobals "_law_names" = some (some (.ref ff__law_names)))
    (l__law_names : K.lookup ff__law_names = some ⟨oc__law_names, od__law_names, .func (PySem.W.fnOf "_law_names" "_law_names" (defArgs s__law_names) (defBody s__law_names) (defScope s__law_names) .none kV__law_names dc__law_names pm__law_names an__law_names cd__law_names ct__law_names), sl__law_names⟩)
    (c__law_names : PySem.W.codeIn K cd__law_names "_law_names" = true)
    (k__law_names : PySem.W.keepIn K (.ref ff__law_names) = true)
    (a__law_pairs : PySem.W.nsIn K mainGlobals "_law_pairs" = some (some (.ref ff__law_pairs)))
    (l__law_pairs : K.lookup ff__law_pairs = some ⟨oc__law_pairs, od__law_pairs, .func (PySem.W.fnOf "_law_pairs" "_law_pairs" (defArgs s__law_pairs) (defBody s__law_pairs) (defScope s__law_pairs) .none kV__law_pairs dc__law_pairs pm__law_pairs an__law_pairs cd__law_pairs ct__law_pairs), sl__law_pairs⟩)
    (c__law_pairs : PySem.W.codeIn K cd__law_pairs "_law_pairs" = true)
    (k__law_pairs : PySem.W.keepIn K (.ref ff__law_pairs) = true)
    (a__law_refused : PySem.W.nsIn K mainGlobals "_law_refused" = some (some (.ref ff__law_refused)))
    (l__law_refused : K.lookup ff__law_refused = some ⟨oc__law_refused, od__law_refused, .func (PySem.W.fnOf "_law_refused" "_law_refused" (defArgs s__law_refused) (defBody s__law_refused) (defScope s__law_refused) .none kV__law_refused dc__law_refused pm__law_refused an__law_refused cd__law_refused ct__law_refused), sl__law_refused⟩)
    (c__law_refused : PySem.W.codeIn K cd__law_refused "_law_refused" = true)
    (k__law_refused : PySem.W.keepIn K (.ref ff__law_refused) = true)
    (a__law_told : PySem.W.nsIn K mainGlobals "_law_told" = some (some (.ref ff__law_told)))
    (l__law_told : K.lookup ff__law_told = some ⟨oc__law_told, od__law_told, .func (PySem.W.fnOf "_law_told" "_law_told" (defArgs s__law_told) (defBody s__law_told) (defScope s__law_told) .none kV__law_told dc__law_told pm__law_told an__law_told cd__law_told ct__law_told), sl__law_told⟩)
    (c__law_told : PySem.W.codeIn K cd__law_told "_law_told" = true)
    (k__law_told : PySem.W.keepIn K (.ref ff__law_told) = true)
    (a_law : PySem.W.nsIn K mainGlobals "law" = some (some (.ref ff_law)))
    (l_law : K.lookup ff_law = some ⟨oc_law, od_law, .func (PySem.W.fnOf "law" "law" (defArgs s_law) (defBody s_law) (defScope s_law) .none kV_law dc_law pm_law an_law cd_law ct_law), sl_law⟩)
    (c_law : PySem.W.codeIn K cd_law "law" = true)
    (k_law : PySem.W.keepIn K (.ref ff_law) = true)
    (ti_NoWord : PySem.W.typeIn K (.ref ff_NoWord___init__) = some (.type "function"))
    (z_all : PySem.W.nsIn K mainGlobals "all" = some none)
    (z_len : PySem.W.nsIn K mainGlobals "len" = some none)
    (z_enumerate : PySem.W.nsIn K mainGlobals "enumerate" = some none)
    (z_any : PySem.W.nsIn K mainGlobals "any" = some none)
    (z_set : PySem.W.nsIn K mainGlobals "set" = some none)
    (z_list : PySem.W.nsIn K mainGlobals "list" = some none)
    (z_range : PySem.W.nsIn K mainGlobals "range" = some none)
    (z_zip : PySem.W.nsIn K mainGlobals "zip" = some none)
    (z_isinstance : PySem.W.nsIn K mainGlobals "isinstance" = some none)
    (z_ValueError : PySem.W.nsIn K mainGlobals "ValueError" = some none)
    (z_bool : PySem.W.nsIn K mainGlobals "bool" = some none)
    (g_LETTERS : PySem.W.nsIn K mainGlobals "LETTERS" = some (some (.str "abcdefghijklmnopqrstuvwxyz" tt_LETTERS)))
    (g_MOST : PySem.W.nsIn K mainGlobals "MOST" = some (some (.int 8 tt_MOST)))
    (g_MOST_PAIRS : PySem.W.nsIn K mainGlobals "MOST_PAIRS" = some (some (.int 6 tt_MOST_PAIRS)))
    : ∃ a : Ad, Txt K mg a := by
  have F_NoWord___init__ := fun_mk (st := s_NoWord___init__) l_NoWord___init__ c_NoWord___init__ k_NoWord___init__
  have b_NoWord___init__ := F_NoWord___init__.binds (ps := ["self", "word"]) fun _ _ _ _ _ _ us hl => match us, hl with | [_, _], _ => rfl
  have F_is_name := fun_mk (st := s_is_name) l_is_name c_is_name k_is_name
  have b_is_name := F_is_name.binds (ps := ["word"]) fun _ _ _ _ _ _ us hl => match us, hl with | [_], _ => rfl
  have F_Pacts___init__ := fun_mk (st := s_Pacts___init__) l_Pacts___init__ c_Pacts___init__ k_Pacts___init__
  have b_Pacts___init__ := F_Pacts___init__.binds (ps := ["self", "pairs", "helpers"]) fun _ _ _ _ _ _ us hl => match us, hl with | [_, _, _], _ => rfl
  have F_Pacts_fits_pair := fun_mk (st := s_Pacts_fits_pair) l_Pacts_fits_pair c_Pacts_fits_pair k_Pacts_fits_pair
  have b_Pacts_fits_pair := F_Pacts_fits_pair.binds (ps := ["self", "pair"]) fun _ _ _ _ _ _ us hl => match us, hl with | [_, _], _ => rfl
  have F_Pacts_fits_helper := fun_mk (st := s_Pacts_fits_helper) l_Pacts_fits_helper c_Pacts_fits_helper k_Pacts_fits_helper
  have b_Pacts_fits_helper := F_Pacts_fits_helper.binds (ps := ["self", "helper"]) fun _ _ _ _ _ _ us hl => match us, hl with | [_, _], _ => rfl
  have F_Pacts_words_called := fun_mk (st := s_Pacts_words_called) l_Pacts_words_called c_Pacts_words_called k_Pacts_words_called
  have b_Pacts_words_called := F_Pacts_words_called.binds (ps := ["self", "side"]) fun _ _ _ _ _ _ us hl => match us, hl with | [_, _], _ => rfl
  have F_Pacts_pair_of := fun_mk (st := s_Pacts_pair_of) l_Pacts_pair_of c_Pacts_pair_of k_Pacts_pair_of
  have b_Pacts_pair_of := F_Pacts_pair_of.binds (ps := ["self", "word", "side"]) fun _ _ _ _ _ _ us hl => match us, hl with | [_, _, _], _ => rfl
  have F_Pacts_pairs := fun_mk (st := s_Pacts_pairs) l_Pacts_pairs c_Pacts_pairs k_Pacts_pairs
  have b_Pacts_pairs := F_Pacts_pairs.binds (ps := ["self"]) fun _ _ _ _ _ _ us hl => match us, hl with | [_], _ => rfl
  have F_Pacts_laden := fun_mk (st := s_Pacts_laden) l_Pacts_laden c_Pacts_laden k_Pacts_laden
  have F_Pacts_over := fun_mk (st := s_Pacts_over) l_Pacts_over c_Pacts_over k_Pacts_over
  have F_Pacts___len__ := fun_mk (st := s_Pacts___len__) l_Pacts___len__ c_Pacts___len__ k_Pacts___len__
  have b_Pacts___len__ := F_Pacts___len__.binds (ps := ["self"]) fun _ _ _ _ _ _ us hl => match us, hl with | [_], _ => rfl
  have F__law_box := fun_mk (st := s__law_box) l__law_box c__law_box k__law_box
  have b__law_box := F__law_box.binds (ps := ["_law_script"]) fun _ _ _ _ _ _ us hl => match us, hl with | [_], _ => rfl
  have F__law_mixed := fun_mk (st := s__law_mixed) l__law_mixed c__law_mixed k__law_mixed
  have b__law_mixed := F__law_mixed.binds (ps := ["_law_cell", "_law_k"]) fun _ _ _ _ _ _ us hl => match us, hl with | [_, _], _ => rfl
  have F__law_take := fun_mk (st := s__law_take) l__law_take c__law_take k__law_take
  have b__law_take := F__law_take.binds (ps := ["_law_box_here", "_law_size"]) fun _ _ _ _ _ _ us hl => match us, hl with | [_, _], _ => rfl
  have F__law_name := fun_mk (st := s__law_name) l__law_name c__law_name k__law_name
  have b__law_name := F__law_name.binds (ps := ["_law_box_here"]) fun _ _ _ _ _ _ us hl => match us, hl with | [_], _ => rfl
  have F__law_names := fun_mk (st := s__law_names) l__law_names c__law_names k__law_names
  have b__law_names := F__law_names.binds (ps := ["_law_box_here", "_law_many"]) fun _ _ _ _ _ _ us hl => match us, hl with | [_, _], _ => rfl
  have F__law_pairs := fun_mk (st := s__law_pairs) l__law_pairs c__law_pairs k__law_pairs
  have b__law_pairs := F__law_pairs.binds (ps := ["_law_box_here", "_law_most"]) fun _ _ _ _ _ _ us hl => match us, hl with | [_, _], _ => rfl
  have F__law_refused := fun_mk (st := s__law_refused) l__law_refused c__law_refused k__law_refused
  have b__law_refused := F__law_refused.binds (ps := ["_law_pacts", "_law_term", "_law_team"]) fun _ _ _ _ _ _ us hl => match us, hl with | [_, _, _], _ => rfl
  have F__law_told := fun_mk (st := s__law_told) l__law_told c__law_told k__law_told
  have b__law_told := F__law_told.binds (ps := ["_law_pacts", "_law_pairs_here"]) fun _ _ _ _ _ _ us hl => match us, hl with | [_, _], _ => rfl
  have F_law := fun_mk (st := s_law) l_law c_law k_law
  have b_law := F_law.binds (ps := ["_law_script"]) fun _ _ _ _ _ _ us hl => match us, hl with | [_], _ => rfl
  exact ⟨⟨cc_Pacts, cc_PactError, cc_NoWord, cc_NoHelper, ff_NoWord___init__, (PySem.W.fnOf "__init__" "NoWord.__init__" (defArgs s_NoWord___init__) (defBody s_NoWord___init__) (defScope s_NoWord___init__) .none kV_NoWord___init__ dc_NoWord___init__ pm_NoWord___init__ an_NoWord___init__ cd_NoWord___init__ ct_NoWord___init__), ff_is_name, (PySem.W.fnOf "is_name" "is_name" (defArgs s_is_name) (defBody s_is_name) (defScope s_is_name) .none kV_is_name dc_is_name pm_is_name an_is_name cd_is_name ct_is_name), ff_Pacts___init__, (PySem.W.fnOf "__init__" "Pacts.__init__" (defArgs s_Pacts___init__) (defBody s_Pacts___init__) (defScope s_Pacts___init__) .none kV_Pacts___init__ dc_Pacts___init__ pm_Pacts___init__ an_Pacts___init__ cd_Pacts___init__ ct_Pacts___init__), ff_Pacts_fits_pair, (PySem.W.fnOf "fits_pair" "Pacts.fits_pair" (defArgs s_Pacts_fits_pair) (defBody s_Pacts_fits_pair) (defScope s_Pacts_fits_pair) .none kV_Pacts_fits_pair dc_Pacts_fits_pair pm_Pacts_fits_pair an_Pacts_fits_pair cd_Pacts_fits_pair ct_Pacts_fits_pair), ff_Pacts_fits_helper, (PySem.W.fnOf "fits_helper" "Pacts.fits_helper" (defArgs s_Pacts_fits_helper) (defBody s_Pacts_fits_helper) (defScope s_Pacts_fits_helper) .none kV_Pacts_fits_helper dc_Pacts_fits_helper pm_Pacts_fits_helper an_Pacts_fits_helper cd_Pacts_fits_helper ct_Pacts_fits_helper), ff_Pacts_words_called, (PySem.W.fnOf "words_called" "Pacts.words_called" (defArgs s_Pacts_words_called) (defBody s_Pacts_words_called) (defScope s_Pacts_words_called) .none kV_Pacts_words_called dc_Pacts_words_called pm_Pacts_words_called an_Pacts_words_called cd_Pacts_words_called ct_Pacts_words_called), ff_Pacts_pair_of, (PySem.W.fnOf "pair_of" "Pacts.pair_of" (defArgs s_Pacts_pair_of) (defBody s_Pacts_pair_of) (defScope s_Pacts_pair_of) .none kV_Pacts_pair_of dc_Pacts_pair_of pm_Pacts_pair_of an_Pacts_pair_of cd_Pacts_pair_of ct_Pacts_pair_of), ff_Pacts_pairs, (PySem.W.fnOf "pairs" "Pacts.pairs" (defArgs s_Pacts_pairs) (defBody s_Pacts_pairs) (defScope s_Pacts_pairs) .none kV_Pacts_pairs dc_Pacts_pairs pm_Pacts_pairs an_Pacts_pairs cd_Pacts_pairs ct_Pacts_pairs), ff_Pacts_laden, (PySem.W.fnOf "laden" "Pacts.laden" (defArgs s_Pacts_laden) (defBody s_Pacts_laden) (defScope s_Pacts_laden) .none kV_Pacts_laden dc_Pacts_laden pm_Pacts_laden an_Pacts_laden cd_Pacts_laden ct_Pacts_laden), ff_Pacts_over, (PySem.W.fnOf "over" "Pacts.over" (defArgs s_Pacts_over) (defBody s_Pacts_over) (defScope s_Pacts_over) .none kV_Pacts_over dc_Pacts_over pm_Pacts_over an_Pacts_over cd_Pacts_over ct_Pacts_over), ff_Pacts___len__, (PySem.W.fnOf "__len__" "Pacts.__len__" (defArgs s_Pacts___len__) (defBody s_Pacts___len__) (defScope s_Pacts___len__) .none kV_Pacts___len__ dc_Pacts___len__ pm_Pacts___len__ an_Pacts___len__ cd_Pacts___len__ ct_Pacts___len__), ff__law_box, (PySem.W.fnOf "_law_box" "_law_box" (defArgs s__law_box) (defBody s__law_box) (defScope s__law_box) .none kV__law_box dc__law_box pm__law_box an__law_box cd__law_box ct__law_box), ff__law_mixed, (PySem.W.fnOf "_law_mixed" "_law_mixed" (defArgs s__law_mixed) (defBody s__law_mixed) (defScope s__law_mixed) .none kV__law_mixed dc__law_mixed pm__law_mixed an__law_mixed cd__law_mixed ct__law_mixed), ff__law_take, (PySem.W.fnOf "_law_take" "_law_take" (defArgs s__law_take) (defBody s__law_take) (defScope s__law_take) .none kV__law_take dc__law_take pm__law_take an__law_take cd__law_take ct__law_take), ff__law_name, (PySem.W.fnOf "_law_name" "_law_name" (defArgs s__law_name) (defBody s__law_name) (defScope s__law_name) .none kV__law_name dc__law_name pm__law_name an__law_name cd__law_name ct__law_name), ff__law_names, (PySem.W.fnOf "_law_names" "_law_names" (defArgs s__law_names) (defBody s__law_names) (defScope s__law_names) .none kV__law_names dc__law_names pm__law_names an__law_names cd__law_names ct__law_names), ff__law_pairs, (PySem.W.fnOf "_law_pairs" "_law_pairs" (defArgs s__law_pairs) (defBody s__law_pairs) (defScope s__law_pairs) .none kV__law_pairs dc__law_pairs pm__law_pairs an__law_pairs cd__law_pairs ct__law_pairs), ff__law_refused, (PySem.W.fnOf "_law_refused" "_law_refused" (defArgs s__law_refused) (defBody s__law_refused) (defScope s__law_refused) .none kV__law_refused dc__law_refused pm__law_refused an__law_refused cd__law_refused ct__law_refused), ff__law_told, (PySem.W.fnOf "_law_told" "_law_told" (defArgs s__law_told) (defBody s__law_told) (defScope s__law_told) .none kV__law_told dc__law_told pm__law_told an__law_told cd__law_told ct__law_told), ff_law, (PySem.W.fnOf "law" "law" (defArgs s_law) (defBody s_law) (defScope s_law) .none kV_law dc_law pm_law an_law cd_law ct_law)⟩, { m_Pacts := PySem.W.mg_of X G aC_Pacts, cl_Pacts := ⟨pg_Pacts, hd_Pacts, po_Pacts, sa_Pacts⟩, mk_Pacts := ⟨mk_Pacts, a_Pacts___init__, i_Pacts___init__, kc_Pacts⟩, na_Pacts_kept_pairs := na_Pacts_kept_pairs, na_Pacts_kept_pacts := na_Pacts_kept_pacts, m_PactError := PySem.W.mg_of X G aC_PactError, m_NoWord := PySem.W.mg_of X G aC_NoWord, ox_NoWord := ⟨⟨_, _, _, _, _, _, _, _, _, _, _, _, _, _, _, xL_NoWord, rfl⟩, sa_NoWord, bE_NoWord, ty_NoWord, kc_NoWord⟩, xf_NoWord := ⟨ga_NoWord, gg_NoWord, bE_NoWord, hd_NoWord⟩, ec_NoWord := ⟨ga_NoWord, gg_NoWord, bE_NoWord, hd_NoWord, cc__NoWord, sGet, tGet, mo_NoWord⟩, ini_NoWord := a_NoWord___init__, ti_NoWord := ti_NoWord, na_NoWord_word := na_NoWord_word, m_NoHelper := PySem.W.mg_of X G aC_NoHelper, ex_NoWord_NoWord := PySem.W.exm_ref bE_NoWord hd_NoWord ty_NoWord su_NoWord_NoWord, ex_NoWord_PactError := PySem.W.exm_ref bE_PactError hd_PactError ty_PactError su_NoWord_PactError, ex_NoWord_NoHelper := PySem.W.exm_ref bE_NoHelper hd_NoHelper ty_NoHelper su_NoWord_NoHelper, ex_NoWord_ValueError := su_NoWord_ValueError, F_NoWord___init__ := F_NoWord___init__, b_NoWord___init__ := b_NoWord___init__, m_is_name := PySem.W.mg_of X G a_is_name, F_is_name := F_is_name, b_is_name := b_is_name, F_Pacts___init__ := F_Pacts___init__, b_Pacts___init__ := b_Pacts___init__, mt_Pacts_fits_pair := ⟨a_Pacts_fits_pair, i_Pacts_fits_pair, k_Pacts_fits_pair⟩, F_Pacts_fits_pair := F_Pacts_fits_pair, b_Pacts_fits_pair := b_Pacts_fits_pair, mt_Pacts_fits_helper := ⟨a_Pacts_fits_helper, i_Pacts_fits_helper, k_Pacts_fits_helper⟩, F_Pacts_fits_helper := F_Pacts_fits_helper, b_Pacts_fits_helper := b_Pacts_fits_helper, mt_Pacts_words_called := ⟨a_Pacts_words_called, i_Pacts_words_called, k_Pacts_words_called⟩, F_Pacts_words_called := F_Pacts_words_called, b_Pacts_words_called := b_Pacts_words_called, mt_Pacts_pair_of := ⟨a_Pacts_pair_of, i_Pacts_pair_of, k_Pacts_pair_of⟩, F_Pacts_pair_of := F_Pacts_pair_of, b_Pacts_pair_of := b_Pacts_pair_of, mt_Pacts_pairs := ⟨a_Pacts_pairs, i_Pacts_pairs, k_Pacts_pairs⟩, F_Pacts_pairs := F_Pacts_pairs, b_Pacts_pairs := b_Pacts_pairs, mt_Pacts_laden := ⟨a_Pacts_laden, i_Pacts_laden, k_Pacts_laden⟩, F_Pacts_laden := F_Pacts_laden, mt_Pacts_over := ⟨a_Pacts_over, i_Pacts_over, k_Pacts_over⟩, F_Pacts_over := F_Pacts_over, mt_Pacts___len__ := ⟨a_Pacts___len__, i_Pacts___len__, k_Pacts___len__⟩, F_Pacts___len__ := F_Pacts___len__, b_Pacts___len__ := b_Pacts___len__, m__law_box := PySem.W.mg_of X G a__law_box, F__law_box := F__law_box, b__law_box := b__law_box, m__law_mixed := PySem.W.mg_of X G a__law_mixed, F__law_mixed := F__law_mixed, b__law_mixed := b__law_mixed, m__law_take := PySem.W.mg_of X G a__law_take, F__law_take := F__law_take, b__law_take := b__law_take, m__law_name := PySem.W.mg_of X G a__law_name, F__law_name := F__law_name, b__law_name := b__law_name, m__law_names := PySem.W.mg_of X G a__law_names, F__law_names := F__law_names, b__law_names := b__law_names, m__law_pairs := PySem.W.mg_of X G a__law_pairs, F__law_pairs := F__law_pairs, b__law_pairs := b__law_pairs, m__law_refused := PySem.W.mg_of X G a__law_refused, F__law_refused := F__law_refused, b__law_refused := b__law_refused, m__law_told := PySem.W.mg_of X G a__law_told, F__law_told := F__law_told, b__law_told := b__law_told, m_law := PySem.W.mg_of X G a_law, F_law := F_law, b_law := b_law, kb_Pacts_laden_side := kb_ofn (n := 2) (m := 1) F_Pacts_laden rfl (by decide) (fun _ _ _ _ _ _ us ws hu hw => match us, ws, hu, hw with | [_, _], [_], _, _ => rfl), kb_Pacts_over_side := kb_ofn (n := 2) (m := 1) F_Pacts_over rfl (by decide) (fun _ _ _ _ _ _ us ws hu hw => match us, ws, hu, hw with | [_, _], [_], _, _ => rfl), kb_Pacts_over_word_side := kb_ofn (n := 1) (m := 2) F_Pacts_over rfl (by decide) (fun _ _ _ _ _ _ us ws hu hw => match us, ws, hu, hw with | [_], [_, _], _, _ => rfl), z_all := PySem.W.mg_none_of X G z_all, z_len := PySem.W.mg_none_of X G z_len, z_enumerate := PySem.W.mg_none_of X G z_enumerate, z_any := PySem.W.mg_none_of X G z_any, z_set := PySem.W.mg_none_of X G z_set, z_list := PySem.W.mg_none_of X G z_list, z_range := PySem.W.mg_none_of X G z_range, z_zip := PySem.W.mg_none_of X G z_zip, z_isinstance := PySem.W.mg_none_of X G z_isinstance, z_ValueError := PySem.W.mg_none_of X G z_ValueError, z_bool := PySem.W.mg_none_of X G z_bool, g_LETTERS := ⟨_, PySem.W.mg_of X G g_LETTERS⟩, g_MOST := ⟨_, PySem.W.mg_of X G g_MOST⟩, g_MOST_PAIRS := ⟨_, PySem.W.mg_of X G g_MOST_PAIRS⟩ }⟩
theorem all_end {l : PySem.W.OpenLaw} {w : World} {K : PySem.W.Frag} {h : Heap} {mg : Str → Option Value} {fa : Addr} (X : K.In h) (G : h.Ns mainGlobals mg) (hfa : mg "law" = some (.ref fa)) (hT : ∃ a : Ad, Txt K mg a) :
    ∃ fd : FuncData, (∀ (s : Shared) (v : Value), BindsTo s fd ⟨[v], []⟩ [("_law_script", v)]) ∧ ∀ base : Heap, K.In base → base.Ns mainGlobals mg → FnOk l.prog w K mg base CX0 6 fa fd ["_law_script"] (spLaw K) := by
  obtain ⟨a, T⟩ := hT
  have e := hfa.symm.trans T.m_law
  cases e
  obtain ⟨oc, od, kV, doc, pm, an, cdv, ct, osl, e, lk, hcd⟩ := T.F_law.ex
  refine ⟨a.d_law, fun s v => ?_, fun base _ _ => ok_law T⟩
  rw [e]
  exact .of_eq rfl
theorem walk {l : PySem.W.OpenLaw} {q : Program} {loose : List Str} {XP : (Str → Option Value) → Heap → Prop} {YP : World → Heap → Prop} {d : DefRec} {K : Params → PySem.W.Frag} (hn : l.most = some 63) (hdf : d.params.defaults = [])
    (hY : ∀ (w : World) (h : Heap), YP w h → (K w.params).In h)
    (F : ∀ (w : World) (mg : Str → Option Value) (fa : Addr) (h : Heap), (K w.params).In h → h.Ns mainGlobals mg → mg d.name = some (.ref fa) →
      ∃ fd : FuncData, (∀ (s : Shared) (u : Value), BindsTo s fd ⟨[u], []⟩ [("_law_script", u)]) ∧ ∀ base : Heap, (K w.params).In base → base.Ns mainGlobals mg → FnOk l.prog w (K w.params) mg base CX0 6 fa fd ["_law_script"] (spLaw (K w.params))) :
    PySem.W.WalkO q loose XP YP l.row.toRowW d [] (fun f vs => PySem.call f vs) :=
  L2.walk_of (n := 63) (k := 6) (x := "_law_script") (CX := fun _ => CX0) (sp := fun w => spLaw (K w.params)) hn (by decide) hdf ⟨rfl, by decide, by decide⟩ hY F (fun _ _ a ns hl _ hS => ⟨a, ns, rfl, hS, hl, fun _ => rfl⟩) fun _ _ _ _ _ z => z
end Pf
open PySem PySem.W PyProof.Rows in
set_option maxRecDepth 100000 in
set_option maxHeartbeats 0 in
theorem PySem.Challenge.cw_pactford_k01_words_cross_holds : PySem.Challenge.rw_pactford_k01_words_cross.Holds := by
  w_on; o_law; k_head; (case hw => w_witness2)
  k_fill
  refine Pf.walk (l := PySem.Challenge.rw_pactford_k01_words_cross) rfl rfl (fun w h Y => PySem.W.kIn_of Y) ?F
  case F =>
    intro w mg fa h KX G hmg
    refine' Pf.all_end KX G hmg (Pf.all_mk KX G ?aC_Pacts ?pg_Pacts ?hd_Pacts ?po_Pacts ?sa_Pacts ?mk_Pacts ?kc_Pacts ?na_Pacts_kept_pairs ?na_Pacts_kept_pacts ?aC_PactError ?bE_PactError ?hd_PactError ?ty_PactError ?aC_NoWord ?bE_NoWord ?hd_NoWord ?ty_NoWord ?xL_NoWord ?sa_NoWord ?ga_NoWord ?gg_NoWord ?kc_NoWord ?cc__NoWord ?mo_NoWord ?na_NoWord_word ?aC_NoHelper ?bE_NoHelper ?hd_NoHelper ?ty_NoHelper ?sGet ?tGet ?su_NoWord_NoWord ?su_NoWord_PactError ?su_NoWord_NoHelper ?su_NoWord_ValueError ?a_NoWord___init__ ?i_NoWord___init__ ?l_NoWord___init__ ?c_NoWord___init__ ?k_NoWord___init__ ?a_is_name ?l_is_name ?c_is_name ?k_is_name ?a_Pacts___init__ ?i_Pacts___init__ ?l_Pacts___init__ ?c_Pacts___init__ ?k_Pacts___init__ ?a_Pacts_fits_pair ?i_Pacts_fits_pair ?l_Pacts_fits_pair ?c_Pacts_fits_pair ?k_Pacts_fits_pair ?a_Pacts_fits_helper ?i_Pacts_fits_helper ?l_Pacts_fits_helper ?c_Pacts_fits_helper ?k_Pacts_fits_helper ?a_Pacts_words_called ?i_Pacts_words_called ?l_Pacts_words_called ?c_Pacts_words_called ?k_Pacts_words_called ?a_Pacts_pair_of ?i_Pacts_pair_of ?l_Pacts_pair_of ?c_Pacts_pair_of ?k_Pacts_pair_of ?a_Pacts_pairs ?i_Pacts_pairs ?l_Pacts_pairs ?c_Pacts_pairs ?k_Pacts_pairs ?a_Pacts_laden ?i_Pacts_laden ?l_Pacts_laden ?c_Pacts_laden ?k_Pacts_laden ?a_Pacts_over ?i_Pacts_over ?l_Pacts_over ?c_Pacts_over ?k_Pacts_over ?a_Pacts___len__ ?i_Pacts___len__ ?l_Pacts___len__ ?c_Pacts___len__ ?k_Pacts___len__ ?a__law_box ?l__law_box ?c__law_box ?k__law_box ?a__law_mixed ?l__law_mixed ?c__law_mixed ?k__law_mixed ?a__law_take ?l__law_take ?c__law_take ?k__law_take ?a__law_name ?l__law_name ?c__law_name ?k__law_name ?a__law_names ?l__law_names ?c__law_names ?k__law_names ?a__law_pairs ?l__law_pairs ?c__law_pairs ?k__law_pairs ?a__law_refused ?l__law_refused ?c__law_refused ?k__law_refused ?a__law_told ?l__law_told ?c__law_told ?k__law_told ?a_law ?l_law ?c_law ?k_law ?ti_NoWord ?z_all ?z_len ?z_enumerate ?z_any ?z_set ?z_list ?z_range ?z_zip ?z_isinstance ?z_ValueError ?z_bool ?g_LETTERS ?g_MOST ?g_MOST_PAIRS)
    (case aC_Pacts => k_is)
    (case pg_Pacts => k_is)
    (case hd_Pacts => k_is)
    (case po_Pacts => k_is)
    (case sa_Pacts => k_is)
    (case mk_Pacts => k_is)
    (case kc_Pacts => k_is)
    (case na_Pacts_kept_pairs => k_is)
    (case na_Pacts_kept_pacts => k_is)
    (case aC_PactError => k_is)
    (case bE_PactError => k_is)
    (case hd_PactError => k_is)
    (case ty_PactError => k_is)
    (case aC_NoWord => k_is)
    (case bE_NoWord => k_is)
    (case hd_NoWord => k_is)
    (case ty_NoWord => k_is)
    (case xL_NoWord => k_is)
    (case sa_NoWord => k_is)
    (case ga_NoWord => k_is)
    (case gg_NoWord => k_is)
    (case kc_NoWord => k_is)
    (case cc__NoWord => k_is)
    (case mo_NoWord => k_is)
    (case na_NoWord_word => k_is)
    (case aC_NoHelper => k_is)
    (case bE_NoHelper => k_is)
    (case hd_NoHelper => k_is)
    (case ty_NoHelper => k_is)
    (case sGet => k_is)
    (case tGet => k_is)
    (case su_NoWord_NoWord => first | rfl | k_is)
    (case su_NoWord_PactError => first | rfl | k_is)
    (case su_NoWord_NoHelper => first | rfl | k_is)
    (case su_NoWord_ValueError => first | rfl | k_is)
    (case a_NoWord___init__ => k_is)
    (case i_NoWord___init__ => k_is)
    (case l_NoWord___init__ => k_is)
    (case c_NoWord___init__ => k_is)
    (case k_NoWord___init__ => k_is)
    (case a_is_name => k_is)
    (case l_is_name => k_is)
    (case c_is_name => k_is)
    (case k_is_name => k_is)
    (case a_Pacts___init__ => k_is)
    (case i_Pacts___init__ => k_is)
    (case l_Pacts___init__ => k_is)
    (case c_Pacts___init__ => k_is)
    (case k_Pacts___init__ => k_is)
    (case a_Pacts_fits_pair => k_is)
    (case i_Pacts_fits_pair => k_is)
    (case l_Pacts_fits_pair => k_is)
    (case c_Pacts_fits_pair => k_is)
    (case k_Pacts_fits_pair => k_is)
    (case a_Pacts_fits_helper => k_is)
    (case i_Pacts_fits_helper => k_is)
    (case l_Pacts_fits_helper => k_is)
    (case c_Pacts_fits_helper => k_is)
    (case k_Pacts_fits_helper => k_is)
    (case a_Pacts_words_called => k_is)
    (case i_Pacts_words_called => k_is)
    (case l_Pacts_words_called => k_is)
    (case c_Pacts_words_called => k_is)
    (case k_Pacts_words_called => k_is)
    (case a_Pacts_pair_of => k_is)
    (case i_Pacts_pair_of => k_is)
    (case l_Pacts_pair_of => k_is)
    (case c_Pacts_pair_of => k_is)
    (case k_Pacts_pair_of => k_is)
    (case a_Pacts_pairs => k_is)
    (case i_Pacts_pairs => k_is)
    (case l_Pacts_pairs => k_is)
    (case c_Pacts_pairs => k_is)
    (case k_Pacts_pairs => k_is)
    (case a_Pacts_laden => k_is)
    (case i_Pacts_laden => k_is)
    (case l_Pacts_laden => k_is)
    (case c_Pacts_laden => k_is)
    (case k_Pacts_laden => k_is)
    (case a_Pacts_over => k_is)
    (case i_Pacts_over => k_is)
    (case l_Pacts_over => k_is)
    (case c_Pacts_over => k_is)
    (case k_Pacts_over => k_is)
    (case a_Pacts___len__ => k_is)
    (case i_Pacts___len__ => k_is)
    (case l_Pacts___len__ => k_is)
    (case c_Pacts___len__ => k_is)
    (case k_Pacts___len__ => k_is)
    (case a__law_box => k_is)
    (case l__law_box => k_is)
    (case c__law_box => k_is)
    (case k__law_box => k_is)
    (case a__law_mixed => k_is)
    (case l__law_mixed => k_is)
    (case c__law_mixed => k_is)
    (case k__law_mixed => k_is)
    (case a__law_take => k_is)
    (case l__law_take => k_is)
    (case c__law_take => k_is)
    (case k__law_take => k_is)
    (case a__law_name => k_is)
    (case l__law_name => k_is)
    (case c__law_name => k_is)
    (case k__law_name => k_is)
    (case a__law_names => k_is)
    (case l__law_names => k_is)
    (case c__law_names => k_is)
    (case k__law_names => k_is)
    (case a__law_pairs => k_is)
    (case l__law_pairs => k_is)
    (case c__law_pairs => k_is)
    (case k__law_pairs => k_is)
    (case a__law_refused => k_is)
    (case l__law_refused => k_is)
    (case c__law_refused => k_is)
    (case k__law_refused => k_is)
    (case a__law_told => k_is)
    (case l__law_told => k_is)
    (case c__law_told => k_is)
    (case k__law_told => k_is)
    (case a_law => k_is)
    (case l_law => k_is)
    (case c_law => k_is)
    (case k_law => k_is)
    (case ti_NoWord => k_is)
    (case z_all => k_is)
    (case z_len => k_is)
    (case z_enumerate => k_is)
    (case z_any => k_is)
    (case z_set => k_is)
    (case z_list => k_is)
    (case z_range => k_is)
    (case z_zip => k_is)
    (case z_isinstance => k_is)
    (case z_ValueError => k_is)
    (case z_bool => k_is)
    (case g_LETTERS => k_is)
    (case g_MOST => k_is)
    (case g_MOST_PAIRS => k_is)
