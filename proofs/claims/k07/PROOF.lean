import PyProof.Rows.All
import Wide.All
import OpenK.AllK
import Wide.FinOn
import HandS.ForMost
import HandS.NoneIn
import HandS.More
import HandS.SortInts
import HandS.Wide
import HandS.IsInst
import HandS.EndBits
import HandS.TupAny
import HandS.Walk
import PySem.Challenge.RW_pactford_k07_twins_of_tables
set_option Elab.async false
set_option linter.all false
set_option maxRecDepth 100000
set_option maxHeartbeats 4000000
/-! Rules that the hand layer lacks, for these programs. -/
namespace L2
open PySem PySem.Spec PyProof.Rows
section
variable {X : Cx}
theorem get_list : PGet X (rIxL X.K) := by
  intro pins s σ H x y v u Q I rx ry h
  obtain ⟨p, xs, i, z, rfl, rfl, hq, he, q⟩ := h
  cases rx
  obtain ⟨t, rfl⟩ := ry
  obtain ⟨its, r, pl, hz⟩ := I.list hq
  obtain ⟨j, h1, h2, h3, h4, h5⟩ := atI_get he
  obtain ⟨w, ew, rw'⟩ := r.get h2
  have hl := r.length
  have hn := line63
  have fin : EP X pins σ Q w s := ⟨z, H, I, rw', q⟩
  by_cases h0 : 0 ≤ i
  · have hj : i.toNat = j := by
      rw [seqIndex_of h0 h5] at h1
      exact Option.some.inj h1
    exact wpAny_getItem_list pl.isList h0 (by omega) (by rw [hj]; simpa using ew) fin
  · have hj : (i + (its.toArray.size : Int)).toNat = j := by
      rw [seqIndex_neg (by omega) h4] at h1
      rw [List.size_toArray, ← hl]
      exact Option.some.inj h1
    exact wpAny_getItem_list_neg pl.isList (by omega) (by rw [List.size_toArray] <;> omega) (by omega) (by rw [hj]; simpa using ew) fin
end
section
variable {X : Cx} {CX : CXT} {k : Nat} {f C : Addr} {fd : FuncData} {ps ks : List Str} {sp : Sp} {E : XK} {x m : Str} {p pos apos kpos : Pos} {e o : Expr} {es : List Expr} {kws : List Keyword} {te ta : TE} {t tk : TA} {nm : Option Str}
variable {g : List Value → List Value → List Value} {gV : List V → List V → List V}
/-- o.m(.., k = v, ..) -/
def tMethK (C : Addr) (m : Str) (sp : Sp) (gV : List V → List V → List V) (E : XK) (ta : TE) (t tk : TA) : TE := fun σ H Q => ta σ H fun x H1 => ∃ a dx fs, x = .ref a ∧ H1 a = some (.ins C dx fs) ∧ fs.lookup m = none ∧
  t σ H1 fun vs H2 => tk σ H2 fun zs H3 => sp (gV (x :: vs) zs) H3 Q E
theorem pe_methK0 {pl : Sem Bool} (he : PE X o ta) (c : Cls X.K C) (hm : Meth X.K C m f) (F : FnOk X.prog X.w X.K X.mg X.base CX k f fd ps sp) (hr : Room k X.A) (hb : KBinds X.K fd ps ks g gV) (hx : Passes CX X E) (hkw : PK X kws tk)
    (hall : (backToKw pos (keywordEach kws X.env)).all (·.1.isSome) = true := by rfl) (hks : (backToKw pos (keywordEach kws X.env)).filterMap (·.1) = ks := by rfl)
    (hpl : ((backTo pos (starEach [] X.env)).any (·.1) || (backToKw pos (keywordEach kws X.env)).any (·.1.isNone)) = false := by rfl)
    (ht : eval (.Call (.Attribute o m apos) [] kws pos) X.env = (do
      let ov ← eval o X.env
      standAt apos.atName
      let (f, first) ← holding [ov] (getMethod ov m pl)
      callWith pos f first (backTo pos (starEach [] X.env)) (backToKw pos (keywordEach kws X.env))) := by rfl) :
    PE X (.Call (.Attribute o m apos) [] kws pos) (tMethK C m sp gV E ta tNil tk) := by
  refine ⟨fun pins s σ H Q I h => ?_⟩
  refine PySem.W.methodCall_KW (pl := pl) (thn (he.run pins s σ H _ I h) fun u s1 ⟨x, H1, I1, rx, a, dx, fs, ex, ea, l, q⟩ => ?_) ht
  subst ex
  obtain rfl : u = Value.ref a := rx
  refine getmeth_ok I1 ea c hm l ?_
  refine PySem.W.callWith_KW0 (first := [.ref a]) (h₀ := X.base) I.ok.mod.kin hm.kp hall (thn (hkw.run pos pins s1 σ H1 _ I1 q) fun ws s2 ⟨zs, H2, I2, rz, q2⟩ => ⟨I2.kIn, ?_⟩) hpl
  rw [hks]
  exact run_fnk (us := [.ref a]) (vs := [.ref a]) F hr hb hx I2 (.cons rfl .nil) rz q2
theorem pe_methK {pl : Sem Bool} (he : PE X o ta) (c : Cls X.K C) (hm : Meth X.K C m f) (F : FnOk X.prog X.w X.K X.mg X.base CX k f fd ps sp) (hr : Room k X.A) (hb : KBinds X.K fd ps ks g gV) (hx : Passes CX X E) (ha : PA X (e :: es) t) (hkw : PK X kws tk)
    (hall : (backToKw pos (keywordEach kws X.env)).all (·.1.isSome) = true := by rfl) (hks : (backToKw pos (keywordEach kws X.env)).filterMap (·.1) = ks := by rfl)
    (hst : starEach (e :: es) X.env = (false, eval e X.env) :: starEach es X.env := by rfl)
    (hpl : ((backTo pos (starEach (e :: es) X.env)).any (·.1) || (backToKw pos (keywordEach kws X.env)).any (·.1.isNone)) = false := by rfl)
    (ht : eval (.Call (.Attribute o m apos) (e :: es) kws pos) X.env = (do
      let ov ← eval o X.env
      standAt apos.atName
      let (f, first) ← holding [ov] (getMethod ov m pl)
      callWith pos f first (backTo pos (starEach (e :: es) X.env)) (backToKw pos (keywordEach kws X.env))) := by rfl) :
    PE X (.Call (.Attribute o m apos) (e :: es) kws pos) (tMethK C m sp gV E ta t tk) := by
  refine ⟨fun pins s σ H Q I h => ?_⟩
  refine PySem.W.methodCall_KW (pl := pl) (thn (he.run pins s σ H _ I h) fun u s1 ⟨x, H1, I1, rx, a, dx, fs, ex, ea, l, q⟩ => ?_) ht
  subst ex
  obtain rfl : u = Value.ref a := rx
  refine getmeth_ok I1 ea c hm l ?_
  refine PySem.W.callWith_KW (first := [.ref a]) (h₀ := X.base) I.ok.mod.kin hm.kp hall (thn (ha.run pos pins s1 σ H1 _ I1 q) fun us s2 ⟨vs, H2, I2, r, q2⟩ => ?_) hpl hst
  refine thn (hkw.run pos pins s2 σ H2 _ I2 q2) fun ws s3 ⟨zs, H3, I3, rz, q3⟩ => ⟨I3.kIn, ?_⟩
  rw [hks]
  exact run_fnk (us := .ref a :: us) (vs := .ref a :: vs) F hr hb hx I3 (.cons rfl r) rz q3
/-- len(o) by an own __len__ -/
theorem call_lenO (hm : Meth X.K C "__len__" f) (F : FnOk X.prog X.w X.K X.mg X.base CX k f fd ps sp) (hr : Room (k + 1) X.A) (hb : Binds X.K fd ps []) (hx : Passes CX X E) :
    CallR X (.builtin "len") (fun xs H Q => ∃ a dx fs, xs = [V.ref a] ∧ H a = some (.ins C dx fs) ∧ sp [.ref a] H (fun v H2 => ∃ n : Int, v = .int n ∧ 0 ≤ n ∧ n < 2 ^ 63 ∧ Q (.int n) H2) E) := by
  intro pins s σ H xs us Q I r h
  obtain ⟨a, dx, fs, rfl, ea, q⟩ := h
  obtain ⟨u, rfl, ru⟩ := vals1 r
  cases ru
  obtain ⟨m', hF⟩ := I.fr
  obtain ⟨mA, O, _, _, _, _⟩ := ins_get I.hok ea
  obtain ⟨od, J, _⟩ := O.look
  have hl : ([Value.ref a] ++ ([] : List Value)).length = ps.length := by
    have := F.len _ _ _ _ q
    simpa using this
  refine PySem.W.len_K hF I.ok.mod.kin J hm.at_ hm.fn (wpAny_call (codeAny_mono (F.run X.A.in1 X.stack s H ⟨[.ref a], []⟩ [.ref a] [.ref a] _ E hr.in1 I.env0.in1 (hb s [.ref a] I.kIn hl) (.cons rfl .nil) q) fun r s' hq => ?_))
  cases r with
  | error e => exact hx pins σ H s e s' I hq
  | ok fl =>
    cases fl with
    | ret u =>
      obtain ⟨v, H', I', rv, n, rfl, h0, h1, q'⟩ := I.after hq
      obtain ⟨t, rfl⟩ := rv
      exact ⟨⟨h0, h1⟩, .int n, H', I'.tok _, ⟨_, rfl⟩, q'⟩
    | next => exact False.elim hq
    | brk => exact False.elim hq
    | cont => exact False.elim hq
end
section
variable {X : Cx}
/-- the keys that were gathered are these ints -/
theorem gathered {P : Program} {w : World} {vs : List (Key × Value)} {acc : Array Value} {ks : List Int} (hk : vs.map (·.1) = ks.map Sum.inl) (hn : acc.size = vs.length)
    (ha : ∀ (j : Nat) (v : Value), acc[j]? = some v → ∃ k x, vs[j]? = some (k, x) ∧ (mixKind P w).is k v = true) : IntsAre acc.toList ks := by
  have hlk : vs.length = ks.length := by simpa using congrArg List.length hk
  refine ints_each (by rw [Array.length_toList, hn, hlk]) fun j v ev => ?_
  obtain ⟨k, x, hv, hi⟩ := ha j v (by rw [← Array.getElem?_toList]; exact ev)
  have hj : (ks.map (Sum.inl : Int → Key))[j]? = some k := by rw [← hk, List.getElem?_map, hv]; rfl
  rw [List.getElem?_map] at hj
  cases hz : ks[j]? with
  | none => rw [hz] at hj; cases hj
  | some n =>
    rw [hz] at hj
    cases hj
    rcases keyIs_shape (show keyIs (Sum.inl n) v = true from hi) with ⟨i, t, hl, hr⟩ | ⟨z, t, hl, _⟩
    · cases hl
      exact ⟨n, t, rfl, hr⟩
    · cases hl
/-- sorted(d) of a dict whose keys are ints, any number -/
def rSortD : List V → Hp → VK → Prop := fun xs H Q => ∃ (d : Addr) (kvs : List (Key × V)) (ks : List Int), xs = [.ref d] ∧ Rd H d (.dK kvs) ∧ kvs.map (·.1) = ks.map Sum.inl ∧
  ∀ (ys : List Int) (l : Addr), ys.Perm ks → ys.Pairwise (· ≤ ·) → H l = none → Q (.ref l) (upd H l (.lst (ys.map V.int)))
theorem call_sortedDX (hcalm : X.calm = true) : CallR X (.builtin "sorted") rSortD := by
  intro pins s σ H xs us Q I r h
  obtain ⟨d, kvs, ks, rfl, hd, hks, q⟩ := h
  obtain ⟨u, rfl, ru⟩ := vals1 r
  cases ru
  obtain ⟨hsz, hmod, vs, hkv, hD⟩ := dk_rd I.hok hd
  obtain ⟨ep, hat⟩ := hD.dictAt
  have hvk : vs.map (·.1) = ks.map Sum.inl := hkv.keys.symm.trans hks
  have hvl : vs.length = kvs.length := by
    have e1 : vs.length = ks.length := by simpa using congrArg List.length hvk
    have e2 : kvs.length = ks.length := by simpa using congrArg List.length hks
    omega
  have hvs : vs.length ≤ sizeLine := hvl ▸ hsz
  refine Calls.call_function_entry kind_sorted plain_sorted entry_sorted (args_sorted1 _) ?_
  unfold Builtin.«sorted»
  refine wpAny_bind (m := checkCount "sorted" 1 1 _) (wpAny_pure (wpAny_bind ?_))
  refine PySem.W.kdu_collect (A := X.A.in1) (PySem.W.kdl_dict (knd := mixKind X.prog X.w) (kvs := vs) (ep := ep) hmod) (I.ok.hd hcalm) hat hvs fun hp tk acc hold hacc => ?_
  have J : Inv X pins σ H { s with heap := hp, toks := tk } := I.kept hold
  have hint : IntsAre acc.toList ks := gathered hvk hacc.1 hacc.2
  have hal : acc.toList.length ≤ sizeLine := by rw [Array.length_toList, hacc.1]; exact hvs
  refine wpAny_bind (wpAny_newList ?_ hal)
  have hnew : (hp.push (seqObj "list" acc.toList.toArray 0)).get? hp.objs.size = some (seqObj "list" acc.toList.toArray 0) := Heap.get?_push_size _ rfl
  show wpAny _ _ _ _ _ (Shared.mk (hp.push (seqObj "list" acc.toList.toArray 0)) s.gens s.drawn tk s.os)
  refine wpAny_bind (wpAny_holding (wpAny_call_entry slot_list_sort ⟨_, hnew, rfl⟩ entry_list_sort ?_ (args_list_sort _)))
  refine SrtO.list_sort_ord (s := Shared.mk (hp.push (seqObj "list" acc.toList.toArray 0)) s.gens s.drawn tk s.os) SrtO.swo_int hnew hal (fun h2 => SrtO.ints_sortable hint h2) fun out h1 h2 => ⟨_, rfl, ?_⟩
  obtain ⟨k1, k2, k3⟩ := SrtO.ints_out hint h1 h2
  obtain ⟨e', he'⟩ := sortedHeap_at (vs := acc.toList) (out := out.toArray) hnew
  have hol : ((out.map SrtO.iv).map V.int).length ≤ sizeLine := by
    have : ks.length = vs.length := by simpa using (congrArg List.length hvk).symm
    rw [List.length_map, k2.length_eq, this]
    exact hvs
  refine wpAny_pure ⟨_, rfl, .ref hp.objs.size, upd H hp.objs.size (.lst ((out.map SrtO.iv).map V.int)), ?_, rfl, q _ _ k2 k3 (J.hok.fresh (Nat.le_refl _))⟩
  refine J.laid (t' := tk) (fun b u e => ?_) (Nat.le_refl _) (show ObjOk X.prog X.w _ _ _ (.lst ((out.map SrtO.iv).map V.int)) from ⟨hol, out, e', vals_of_ints k1, he'⟩)
  have hb : b < hp.objs.size := Heap.lt_size e
  rw [sortedHeap_old (Nat.ne_of_lt hb) (by rw [size_push']; exact Nat.lt_succ_of_lt hb)]
  exact Heap.get?_push_of_some _ e
end
section
variable {X : Cx}
/-- a statement, then the rest, with a word between them -/
@[irreducible] def tMid (t u : TS) : TS := fun D σ H => ∃ Mid : St → Hp → Prop, t { D with nx := Mid } σ H ∧ ∀ σ' H', Mid σ' H' → u D σ' H'
theorem pss_mid {st : Stmt} {rest : List Stmt} {t u : TS} (h1 : PS X st t) (h2 : PSs X rest u) : PSs X (st :: rest) (tMid t u) := by
  refine ⟨fun pins s σ H D I h => ?_⟩
  unfold tMid at h
  obtain ⟨Mid, hm, hu⟩ := h
  refine wpAny_execs_cons (thn (h1.run pins s σ H { D with nx := Mid } I hm) fun f s1 q => ?_)
  cases f with
  | next =>
    obtain ⟨σ', H', I', q⟩ := q
    exact h2.run pins s1 σ' H' D I' (hu σ' H' q)
  | ret v => exact q
  | brk => exact q
  | cont => exact q
end
/-- what the walk doesn't look into -/
@[irreducible] def Wait (p : Prop) : Prop := p
theorem wait {p : Prop} (h : p) : Wait p := by
  unfold Wait
  exact h
theorem Wait.out {p : Prop} (h : Wait p) : p := by
  unfold Wait at h
  exact h
theorem mid_of {t u : TS} {D : Ends} {σ : St} {H : Hp} (Mid : St → Hp → Prop) (h1 : t { D with nx := fun σ H => Wait (Mid σ H) } σ H) (h2 : ∀ σ' H', Mid σ' H' → u D σ' H') : tMid t u D σ H := by
  unfold tMid
  exact ⟨fun σ H => Wait (Mid σ H), h1, fun σ' H' h => h2 σ' H' h.out⟩
/-- a loop: the walk stops ahead of it -/
@[irreducible] def tStop (t : TS) : TS := t
theorem ps_stop {X : Cx} {st : Stmt} {t : TS} (h : PS X st t) : PS X st (tStop t) := by
  unfold tStop
  exact h
theorem stop_in {t : TS} {D : Ends} {σ : St} {H : Hp} (h : t D σ H) : tStop t D σ H := by
  unfold tStop
  exact h
theorem sq_seq {t u : TS} {D : Ends} {σ : St} {H : Hp} (h : t { D with nx := u D } σ H) : tSeq t u D σ H := h
theorem ifT {c : Bool} {A B : Prop} (hc : c = true) (h : A) : if c = true then A else B := by rw [if_pos hc]; exact h
theorem ifF {c : Bool} {A B : Prop} (hc : c = false) (h : B) : if c = true then A else B := by rw [hc, if_neg Bool.false_ne_true]; exact h
theorem ifD {p : Prop} [Decidable p] {A B : Prop} (h1 : p → A) (h2 : ¬ p → B) : if decide p = true then A else B := by
  by_cases h : p
  · rw [if_pos (decide_eq_true h)]; exact h1 h
  · rw [if_neg (by rw [decide_eq_false h]; exact Bool.false_ne_true)]; exact h2 h
theorem ifN {p : Prop} [Decidable p] {A B : Prop} (h1 : ¬ p → A) (h2 : p → B) : if (!decide p) = true then A else B := by
  by_cases h : p
  · rw [decide_eq_true h, if_neg (by decide)]; exact h2 h
  · rw [decide_eq_false h, if_pos (by decide)]; exact h1 h
theorem ifB {c : Bool} {A B : Prop} (h1 : c = true → A) (h2 : c = false → B) : if c = true then A else B := by
  cases c with
  | true => rw [if_pos rfl]; exact h1 rfl
  | false => rw [if_neg Bool.false_ne_true]; exact h2 rfl
theorem upd_get {H : Hp} {a b : Addr} {o : HO} {u : Option HO} (h : b ≠ a) (e : H b = u) : upd H a o b = u := (upd_ne h).trans e
theorem fmod_pos {i j : Int} (h : 0 < j) : 0 ≤ i.fmod j ∧ i.fmod j < j := ⟨Int.fmod_nonneg_of_pos _ h, Int.fmod_lt_of_pos _ h⟩
theorem atI_in {α : Type} {xs : List α} {i : Int} (h0 : 0 ≤ i) (h1 : i < (xs.length : Int)) : ∃ v, atI xs i = some v ∧ xs[i.toNat]? = some v := by
  obtain ⟨j, rfl⟩ : ∃ j : Nat, i = (j : Int) := ⟨i.toNat, by omega⟩
  have hj : j < xs.length := by omega
  have e : xs[j]? = some xs[j] := List.getElem?_eq_getElem hj
  exact ⟨_, atI_nat e, by rw [Int.toNat_natCast]; exact e⟩
theorem atI_ints {ns : List Int} {i : Int} (h0 : 0 ≤ i) (h1 : i < (ns.length : Int)) : ∃ z, atI (ns.map V.int) i = some (.int z) ∧ ns[i.toNat]? = some z := by
  obtain ⟨v, e1, e2⟩ := atI_in (xs := ns.map V.int) h0 (by rw [List.length_map]; exact h1)
  rw [List.getElem?_map] at e2
  cases e : ns[i.toNat]? with
  | none => rw [e] at e2; cases e2
  | some z =>
    rw [e] at e2
    cases e2
    exact ⟨z, e1, rfl⟩
/-- a while by a word that bears its own measure -/
theorem while_W {c : TT} {tb : TS} {D : Ends} {σ : St} {H : Hp} (W : Nat → St → Hp → Prop) (m : Nat) (h0 : W m σ H)
    (hs : ∀ m σ H, W m σ H → c σ H fun b H1 => if b = true then ∃ N : St → Hp → Prop, (∀ σ' H', N σ' H' → ∃ m', m' < m ∧ W m' σ' H') ∧ tb { D with nx := N, ct := N, bk := D.nx } σ H1 else D.nx σ H1) : tStop (tWhile c tb) D σ H :=
  stop_in ⟨W, ⟨m, h0⟩, hs⟩
theorem next_W {tb : TS} {D : Ends} {σ : St} {H : Hp} {W : Nat → St → Hp → Prop} {m : Nat}
    (h : tb { D with nx := fun σ' H' => Wait (∃ m', m' < m ∧ W m' σ' H'), ct := fun σ' H' => Wait (∃ m', m' < m ∧ W m' σ' H'), bk := D.nx } σ H) :
    ∃ N : St → Hp → Prop, (∀ σ' H', N σ' H' → ∃ m', m' < m ∧ W m' σ' H') ∧ tb { D with nx := N, ct := N, bk := D.nx } σ H := ⟨_, fun _ _ h => h.out, h⟩
theorem forL {K : PySem.W.Frag} {a : Addr} {xs : List V} {g : TG} {tb : TS} {D : Ends} {σ : St} {H : Hp} (Pv : Nat → St → Hp → Prop) (h0 : Pv 0 σ H) (hl : ∀ i σ H, i ≤ xs.length → Pv i σ H → SqL K H a xs)
    (hs : ∀ i x σ H, xs[i]? = some x → Pv i σ H → g x σ H fun σ2 H2 => tb { D with nx := fun σ H => Wait (Pv (i + 1) σ H), ct := fun σ H => Wait (Pv (i + 1) σ H), bk := D.nx } σ2 H2) (hd : ∀ σ H, Pv xs.length σ H → D.nx σ H) :
    ∃ W : Nat → Nat → St → Hp → Prop, (∃ m, W 0 m σ H) ∧ ∀ i m σ H, W i m σ H →
      ((Itl K a).stop i H ∧ D.nx σ H) ∨ ((Itl K a).go i H ∧ ∃ N : St → Hp → Prop, (∀ σ' H', N σ' H' → ∃ m', m' < m ∧ W (i + 1) m' σ' H') ∧ ∀ x H', (Itl K a).yld i H x H' → g x σ H' fun σ2 H2 => tb { D with nx := N, ct := N, bk := D.nx } σ2 H2) :=
  for_list (fun i σ H => Wait (Pv i σ H)) (wait h0) (fun i σ H hi p => hl i σ H hi p.out) (fun i x σ H hx p => hs i x σ H hx p.out) fun σ H p => hd σ H p.out
theorem forT {K : PySem.W.Frag} {a : Addr} {xs : List V} {g : TG} {tb : TS} {D : Ends} {σ : St} {H : Hp} (Pv : Nat → St → Hp → Prop) (h0 : Pv 0 σ H) (hl : ∀ i σ H, i ≤ xs.length → Pv i σ H → SqT K H a xs)
    (hs : ∀ i x σ H, xs[i]? = some x → Pv i σ H → g x σ H fun σ2 H2 => tb { D with nx := fun σ H => Wait (Pv (i + 1) σ H), ct := fun σ H => Wait (Pv (i + 1) σ H), bk := D.nx } σ2 H2) (hd : ∀ σ H, Pv xs.length σ H → D.nx σ H) :
    ∃ W : Nat → Nat → St → Hp → Prop, (∃ m, W 0 m σ H) ∧ ∀ i m σ H, W i m σ H →
      ((Itt K a).stop i H ∧ D.nx σ H) ∨ ((Itt K a).go i H ∧ ∃ N : St → Hp → Prop, (∀ σ' H', N σ' H' → ∃ m', m' < m ∧ W (i + 1) m' σ' H') ∧ ∀ x H', (Itt K a).yld i H x H' → g x σ H' fun σ2 H2 => tb { D with nx := N, ct := N, bk := D.nx } σ2 H2) :=
  for_tup (fun i σ H => Wait (Pv i σ H)) (wait h0) (fun i σ H hi p => hl i σ H hi p.out) (fun i x σ H hx p => hs i x σ H hx p.out) fun σ H p => hd σ H p.out
theorem forR {lo : Int} {n : Nat} {g : TG} {tb : TS} {D : Ends} {σ : St} {H : Hp} (Pv : Nat → St → Hp → Prop) (h0 : Pv 0 σ H)
    (hs : ∀ i σ H, i < n → Pv i σ H → g (.int (lo + i)) σ H fun σ2 H2 => tb { D with nx := fun σ H => Wait (Pv (i + 1) σ H), ct := fun σ H => Wait (Pv (i + 1) σ H), bk := D.nx } σ2 H2) (hd : ∀ σ H, Pv n σ H → D.nx σ H) :
    ∃ W : Nat → Nat → St → Hp → Prop, (∃ m, W 0 m σ H) ∧ ∀ i m σ H, W i m σ H →
      ((Itr lo n).stop i H ∧ D.nx σ H) ∨ ((Itr lo n).go i H ∧ ∃ N : St → Hp → Prop, (∀ σ' H', N σ' H' → ∃ m', m' < m ∧ W (i + 1) m' σ' H') ∧ ∀ x H', (Itr lo n).yld i H x H' → g x σ H' fun σ2 H2 => tb { D with nx := N, ct := N, bk := D.nx } σ2 H2) :=
  for_range (fun i σ H => Wait (Pv i σ H)) (wait h0) (fun i σ H hi p => hs i σ H hi p.out) fun σ H p => hd σ H p.out
theorem lcL {K : PySem.W.Frag} {a : Addr} {xs : List V} {g : TG} {tt : TT} {te : TE} {vs : List Nat} {σ : St} {H1 : Hp} {D : Addr} {Qd : Hp → Prop} (Pv : Nat → Hp → Prop) (h0 : Pv 0 (upd H1 D (.lst []))) (hl : ∀ i H, i ≤ xs.length → Pv i H → SqL K H a xs)
    (hs : ∀ i x H, xs[i]? = some x → Pv i H → g x (wipe σ vs) H fun σ2 H2 => wipe σ2 vs = wipe σ vs ∧ tt σ2 H2 fun b H3 =>
      if b = true then te σ2 H3 fun y H4 => ∃ acc, H4 D = some (.lst acc) ∧ acc.length < sizeLine ∧ Wait (Pv (i + 1) (upd H4 D (.lst (acc ++ [y])))) else Wait (Pv (i + 1) H3)) (hd : ∀ H, Pv xs.length H → Qd H) :
    ∃ W : Nat → Nat → Hp → Prop, (∃ m, W 0 m (upd H1 D (.lst []))) ∧ ∀ i m H, W i m H →
      ((Itl K a).stop i H ∧ Qd H) ∨ ((Itl K a).go i H ∧ ∃ Nx : Hp → Prop, (∀ H', Nx H' → ∃ m', m' < m ∧ W (i + 1) m' H') ∧ ∀ x H', (Itl K a).yld i H x H' → g x (wipe σ vs) H' fun σ2 H2 => wipe σ2 vs = wipe σ vs ∧ tt σ2 H2 fun b H3 =>
        if b = true then te σ2 H3 fun y H4 => ∃ acc, H4 D = some (.lst acc) ∧ acc.length < sizeLine ∧ Nx (upd H4 D (.lst (acc ++ [y]))) else Nx H3) :=
  lc_list (fun i H => Wait (Pv i H)) (wait h0) (fun i H hi p => hl i H hi p.out) (fun i x H hx p => hs i x H hx p.out) fun H p => hd H p.out
theorem lcT {K : PySem.W.Frag} {a : Addr} {xs : List V} {g : TG} {tt : TT} {te : TE} {vs : List Nat} {σ : St} {H1 : Hp} {D : Addr} {Qd : Hp → Prop} (Pv : Nat → Hp → Prop) (h0 : Pv 0 (upd H1 D (.lst []))) (hl : ∀ i H, i ≤ xs.length → Pv i H → SqT K H a xs)
    (hs : ∀ i x H, xs[i]? = some x → Pv i H → g x (wipe σ vs) H fun σ2 H2 => wipe σ2 vs = wipe σ vs ∧ tt σ2 H2 fun b H3 =>
      if b = true then te σ2 H3 fun y H4 => ∃ acc, H4 D = some (.lst acc) ∧ acc.length < sizeLine ∧ Wait (Pv (i + 1) (upd H4 D (.lst (acc ++ [y])))) else Wait (Pv (i + 1) H3)) (hd : ∀ H, Pv xs.length H → Qd H) :
    ∃ W : Nat → Nat → Hp → Prop, (∃ m, W 0 m (upd H1 D (.lst []))) ∧ ∀ i m H, W i m H →
      ((Itt K a).stop i H ∧ Qd H) ∨ ((Itt K a).go i H ∧ ∃ Nx : Hp → Prop, (∀ H', Nx H' → ∃ m', m' < m ∧ W (i + 1) m' H') ∧ ∀ x H', (Itt K a).yld i H x H' → g x (wipe σ vs) H' fun σ2 H2 => wipe σ2 vs = wipe σ vs ∧ tt σ2 H2 fun b H3 =>
        if b = true then te σ2 H3 fun y H4 => ∃ acc, H4 D = some (.lst acc) ∧ acc.length < sizeLine ∧ Nx (upd H4 D (.lst (acc ++ [y]))) else Nx H3) :=
  lc_tup (fun i H => Wait (Pv i H)) (wait h0) (fun i H hi p => hl i H hi p.out) (fun i x H hx p => hs i x H hx p.out) fun H p => hd H p.out
theorem lcR {lo : Int} {n : Nat} {g : TG} {tt : TT} {te : TE} {vs : List Nat} {σ : St} {H1 : Hp} {D : Addr} {Qd : Hp → Prop} (Pv : Nat → Hp → Prop) (h0 : Pv 0 (upd H1 D (.lst [])))
    (hs : ∀ i H, i < n → Pv i H → g (.int (lo + i)) (wipe σ vs) H fun σ2 H2 => wipe σ2 vs = wipe σ vs ∧ tt σ2 H2 fun b H3 =>
      if b = true then te σ2 H3 fun y H4 => ∃ acc, H4 D = some (.lst acc) ∧ acc.length < sizeLine ∧ Wait (Pv (i + 1) (upd H4 D (.lst (acc ++ [y])))) else Wait (Pv (i + 1) H3)) (hd : ∀ H, Pv n H → Qd H) :
    ∃ W : Nat → Nat → Hp → Prop, (∃ m, W 0 m (upd H1 D (.lst []))) ∧ ∀ i m H, W i m H →
      ((Itr lo n).stop i H ∧ Qd H) ∨ ((Itr lo n).go i H ∧ ∃ Nx : Hp → Prop, (∀ H', Nx H' → ∃ m', m' < m ∧ W (i + 1) m' H') ∧ ∀ x H', (Itr lo n).yld i H x H' → g x (wipe σ vs) H' fun σ2 H2 => wipe σ2 vs = wipe σ vs ∧ tt σ2 H2 fun b H3 =>
        if b = true then te σ2 H3 fun y H4 => ∃ acc, H4 D = some (.lst acc) ∧ acc.length < sizeLine ∧ Nx (upd H4 D (.lst (acc ++ [y]))) else Nx H3) :=
  lc_range (fun i H => Wait (Pv i H)) (wait h0) (fun i H hi p => hs i H hi p.out) fun H p => hd H p.out
theorem ints_at {ns : List Int} {i : Nat} {y : V} (h : (ns.map V.int)[i]? = some y) : ∃ u, y = V.int u ∧ ns[i]? = some u ∧ i < ns.length := by
  rw [List.getElem?_map] at h
  cases e : ns[i]? with
  | none => rw [e] at h; cases h
  | some u =>
    rw [e] at h
    exact ⟨u, (Option.some.inj h).symm, rfl, (List.getElem?_eq_some_iff.mp e).1⟩
theorem filt_len {α : Type} (p : α → Bool) (xs : List α) (i : Nat) : ((xs.take i).filter p).length ≤ xs.length := Nat.le_trans (List.length_filter_le _ _) (by rw [List.length_take]; omega)
theorem take_filt_yes {α : Type} {p : α → Bool} {xs : List α} {i : Nat} {x : α} (h : xs[i]? = some x) (hp : p x = true) : (xs.take (i + 1)).filter p = (xs.take i).filter p ++ [x] := by
  rw [List.take_add_one, h, Option.toList_some, List.filter_append, List.filter_cons, if_pos hp] <;> rfl
theorem take_filt_no {α : Type} {p : α → Bool} {xs : List α} {i : Nat} {x : α} (h : xs[i]? = some x) (hp : p x = false) : (xs.take (i + 1)).filter p = (xs.take i).filter p := by
  rw [List.take_add_one, h, Option.toList_some, List.filter_append, List.filter_cons, if_neg (by rw [hp]; decide), List.filter_nil, List.append_nil]
theorem small_lt {n : Nat} (h : n ≤ 100000) : n < sizeLine := Nat.lt_of_le_of_lt h (by decide)
theorem small_le {n : Nat} (h : n ≤ 100000) : n ≤ sizeLine := Nat.le_of_lt (small_lt h)
theorem isi_b {K : PySem.W.Frag} {H : Hp} {Q : VK} {x : V} {t c : String} {b : Bool} (ty : TyX K H x (.type t)) (h : kitB t c = some b) (q : Q (.bl b) H) : rIsi K [x, .ty c] H Q :=
  ⟨x, .ty c, .type t, .type c, b, rfl, .ty c, ty, kit_ty h, q⟩
theorem Same.seqT {K : PySem.W.Frag} {H H' : Hp} {a : Addr} {xs : List V} (e : Same H H') (h : SqT K H a xs) : SqT K H' a xs := by
  rcases h with (h | ⟨o, h⟩) | h
  · exact .inl (.inl (e _ _ h))
  · exact .inl (.inr ⟨o, e _ _ h⟩)
  · exact .inr h
theorem Same.upd_new {H : Hp} {p : Addr} {o : HO} (h : H p = none) : Same H (upd H p o) := fun b u e => by rw [upd_ne (ne_of_none e h)]; exact e
mutual
theorem Dp.same {K : PySem.W.Frag} {H H' : Hp} (e : Same H H') : ∀ {v : V} {d : PyData}, Dp K H v d → Dp K H' v d
  | _, _, .non => .non
  | _, _, .bl b => .bl b
  | _, _, .int i => .int i
  | _, _, .str x => .str x
  | _, _, .lst h r => .lst (e.seq h) (DpAll.same e r)
  | _, _, .tup h r => .tup (e.seqT h) (DpAll.same e r)
theorem DpAll.same {K : PySem.W.Frag} {H H' : Hp} (e : Same H H') : ∀ {vs : List V} {ds : List PyData}, DpAll K H vs ds → DpAll K H' vs ds
  | _, _, .nil => .nil
  | _, _, .cons h r => .cons (Dp.same e h) (DpAll.same e r)
end
theorem DpAll.snoc {K : PySem.W.Frag} {H : Hp} : ∀ {vs : List V} {ds : List PyData} {v : V} {d : PyData}, DpAll K H vs ds → Dp K H v d → DpAll K H (vs ++ [v]) (ds ++ [d])
  | _, _, _, _, .nil, h => .cons h .nil
  | _, _, _, _, .cons a r, h => .cons a (DpAll.snoc r h)
theorem DpAll.len {K : PySem.W.Frag} {H : Hp} : ∀ {vs : List V} {ds : List PyData}, DpAll K H vs ds → vs.length = ds.length
  | _, _, .nil => rfl
  | _, _, .cons _ r => by rw [List.length_cons, List.length_cons, DpAll.len r]
/-- two whole numbers -/
def pairD (p : Int × Int) : PyData := .tuple [.int p.1, .int p.2]
theorem pairD_of {K : PySem.W.Frag} {H : Hp} {t : Addr} {p : Int × Int} (h : H t = some (.tup [.int p.1, .int p.2])) : Dp K H (.ref t) (pairD p) := .tup (SqT.of h) (.cons (.int _) (.cons (.int _) .nil))
theorem lay_pairs : ∀ l : List (Int × Int), PyData.canLayAll0 (l.map pairD) = true
  | [] => rfl
  | p :: r => by
    show (PyData.canLay0 (pairD p) && PyData.canLayAll0 (r.map pairD)) = true
    rw [lay_pairs r] <;> rfl
theorem depth_pairs : ∀ l : List (Int × Int), PyData.depthAll (l.map pairD) ≤ 1
  | [] => Nat.zero_le _
  | p :: r => by
    show max (PyData.depth (pairD p)) (PyData.depthAll (r.map pairD)) ≤ 1
    have := depth_pairs r
    have e : PyData.depth (pairD p) = 1 := rfl
    omega
theorem shaped_pairs (l : List (Int × Int)) : SeqAt.shaped (.list (l.map pairD)) = true := by
  unfold SeqAt.shaped
  rw [Bool.and_eq_true]
  refine ⟨lay_pairs l, decide_eq_true ?_⟩
  show PyData.depthAll (l.map pairD) + 1 ≤ 64
  have := depth_pairs l
  omega
theorem shaped_pair (p : Int × Int) : SeqAt.shaped (pairD p) = true := rfl
theorem eqv_self {d : PyData} (h : SeqAt.shaped d = true) : PyData.eqv d d = true := SeqAt.eqv_refl d (SeqAt.canLay_of_shaped h)
theorem ifYes {p : Prop} [Decidable p] {A B : Prop} (h : p) (hA : A) : if decide p = true then A else B := ifT (decide_eq_true h) hA
theorem ifNo {p : Prop} [Decidable p] {A B : Prop} (h : ¬ p) (hB : B) : if decide p = true then A else B := ifF (decide_eq_false h) hB
theorem ifNY {p : Prop} [Decidable p] {A B : Prop} (h : ¬ p) (hA : A) : if (!decide p) = true then A else B := ifT (by rw [decide_eq_false h]; rfl) hA
theorem ifNN {p : Prop} [Decidable p] {A B : Prop} (h : p) (hB : B) : if (!decide p) = true then A else B := ifF (by rw [decide_eq_true h]; rfl) hB
/-- for k in d, d locked -/
theorem forK {d : Addr} {o : Obj} {kvs : List (Key × V)} {g : TG} {tb : TS} {D : Ends} {σ : St} {H : Hp} (Pv : Nat → St → Hp → Prop) (h0 : Pv 0 σ H) (hl : ∀ i σ H, i ≤ kvs.length → Pv i σ H → H d = some (.frz o (.dK kvs)))
    (hs : ∀ (i : Nat) (k : Key) (v : V) (σ : St) (H : Hp), kvs[i]? = some (k, v) → Pv i σ H → g (kV k) σ H fun σ2 H2 => tb { D with nx := fun σ H => Wait (Pv (i + 1) σ H), ct := fun σ H => Wait (Pv (i + 1) σ H), bk := D.nx } σ2 H2) (hd : ∀ σ H, Pv kvs.length σ H → D.nx σ H) :
    ∃ W : Nat → Nat → St → Hp → Prop, (∃ m, W 0 m σ H) ∧ ∀ i m σ H, W i m σ H →
      ((Itk d o kvs).stop i H ∧ D.nx σ H) ∨ ((Itk d o kvs).go i H ∧ ∃ N : St → Hp → Prop, (∀ σ' H', N σ' H' → ∃ m', m' < m ∧ W (i + 1) m' σ' H') ∧ ∀ x H', (Itk d o kvs).yld i H x H' → g x σ H' fun σ2 H2 => tb { D with nx := N, ct := N, bk := D.nx } σ2 H2) := by
  refine ⟨fun i m σ H => m = kvs.length - i ∧ i ≤ kvs.length ∧ Wait (Pv i σ H), ⟨kvs.length, by simp, Nat.zero_le _, wait h0⟩, ?_⟩
  rintro i m σ H ⟨rfl, hi, p⟩
  have q := hl i σ H hi p.out
  by_cases hlt : i < kvs.length
  · refine .inr ⟨⟨q, hlt⟩, fun σ H => Wait (Pv (i + 1) σ H), fun σ' H' p' => ⟨kvs.length - (i + 1), by omega, rfl, hlt, p'⟩, fun x H' y => ?_⟩
    obtain ⟨rfl, k, v, e, rfl⟩ := y
    exact hs i k v σ _ e p.out
  · have e : i = kvs.length := by omega
    subst e
    exact .inl ⟨⟨q, Nat.le_refl _⟩, hd σ H p.out⟩
/-- tuples of two whole numbers at these addresses -/
def Tups (H : Hp) (ts : List Addr) (ps : List (Int × Int)) : Prop := Paired (fun (t : Addr) (p : Int × Int) => H t = some (.tup [.int p.1, .int p.2])) ts ps
theorem Tups.keep {H H' : Hp} {ts : List Addr} {ps : List (Int × Int)} (h : Tups H ts ps) (k : ∀ t xs, H t = some (.tup xs) → H' t = some (.tup xs)) : Tups H' ts ps := Paired.mapP h fun _ _ e => k _ _ e
theorem Tups.dp {K : PySem.W.Frag} {H : Hp} {ts : List Addr} {ps : List (Int × Int)} (h : Tups H ts ps) : DpAll K H (ts.map V.ref) (ps.map pairD) := by
  unfold Tups at h
  induction h with
  | nil => exact .nil
  | cons e _ ih => exact .cons (pairD_of e) ih
theorem Tups.snoc {H : Hp} {ts : List Addr} {ps : List (Int × Int)} {t : Addr} {p : Int × Int} (h : Tups H ts ps) (e : H t = some (.tup [.int p.1, .int p.2])) : Tups H (ts ++ [t]) (ps ++ [p]) := Paired.snoc h e
theorem Tups.len {H : Hp} {ts : List Addr} {ps : List (Int × Int)} (h : Tups H ts ps) : ts.length = ps.length := Paired.length h
theorem keepT_upd {H : Hp} {D : Addr} {o : HO} {xs : List V} (h : H D = some (.lst xs)) : ∀ t ys, H t = some (.tup ys) → upd H D o t = some (.tup ys) := fun t ys e => by
  rw [upd_ne (ne_of e h (by intro z; cases z))]
  exact e
theorem kV_int (i : Int) : V.int i = kV (Sum.inl i) := rfl
theorem kV_str (x : Str) : V.str x = kV (Sum.inr x) := rfl
def rLenK (K : PySem.W.Frag) : List V → Hp → VK → Prop := fun xs H Q => ∃ p ys, xs = [V.ref p] ∧ (SqL K H p ys ∨ SqT K H p ys) ∧ Q (.int ys.length) H
theorem call_lenK {X : Cx} : CallR X (.builtin "len") (rLenK X.K) := call_len_seq
theorem sorted_same {a b : List Int} (hp : a.Perm b) (ha : a.Pairwise (· ≤ ·)) (hb : b.Pairwise (· ≤ ·)) : a = b := hp.eq_of_pairwise (fun _ _ _ _ h1 h2 => Int.le_antisymm h1 h2) ha hb
/-- a test whose ways are joined -/
@[irreducible] def tMidT (t : TT) : TT := fun σ H Q => ∃ M : Bool → Hp → Prop, t σ H M ∧ ∀ b H', M b H' → Q b H'
theorem pt_mid {X : Cx} {e : Expr} {t : TT} (h : PT X e t) : PT X e (tMidT t) := by
  refine ⟨fun pins s σ H Q I q => ?_⟩
  unfold tMidT at q
  obtain ⟨M, h1, h2⟩ := q
  exact thn (h.run pins s σ H M I h1) fun b s' ⟨H', I', m⟩ => ⟨H', I', h2 b H' m⟩
theorem midT_of {t : TT} {σ : St} {H : Hp} {Q : Bool → Hp → Prop} (M : Bool → Hp → Prop) (h1 : t σ H fun b H' => Wait (M b H')) (h2 : ∀ b H', M b H' → Q b H') : tMidT t σ H Q := by
  unfold tMidT
  exact ⟨fun b H' => Wait (M b H'), h1, fun b H' m => h2 b H' m.out⟩
/-- an expression whose ways are joined -/
@[irreducible] def tMidE (t : TE) : TE := fun σ H Q => ∃ M : V → Hp → Prop, t σ H M ∧ ∀ b H', M b H' → Q b H'
theorem pe_mid {X : Cx} {e : Expr} {t : TE} (h : PE X e t) : PE X e (tMidE t) := by
  refine ⟨fun pins s σ H Q I q => ?_⟩
  unfold tMidE at q
  obtain ⟨M, h1, h2⟩ := q
  exact thn (h.run pins s σ H M I h1) fun b s' ⟨v, H', I', r, m⟩ => ⟨v, H', I', r, h2 v H' m⟩
theorem midE_of {t : TE} {σ : St} {H : Hp} {Q : VK} (M : V → Hp → Prop) (h1 : t σ H fun b H' => Wait (M b H')) (h2 : ∀ b H', M b H' → Q b H') : tMidE t σ H Q := by
  unfold tMidE
  exact ⟨fun b H' => Wait (M b H'), h1, fun b H' m => h2 b H' m.out⟩
/-- for a, b in zip(xs, ys), lists of one length -/
theorem forZ {K : PySem.W.Frag} {a b : Addr} {xs ys : List V} {g : TG} {tb : TS} {D : Ends} {σ : St} {H : Hp} (hl : xs.length = ys.length) (Pv : Nat → St → Hp → Prop) (h0 : Pv 0 σ H) (hq : ∀ i σ H, Pv i σ H → SqL K H a xs ∧ SqL K H b ys)
    (hs : ∀ (i : Nat) (x y : V) (t : Addr) (σ : St) (H : Hp), xs[i]? = some x → ys[i]? = some y → Pv i σ H → H t = none →
      g (.ref t) σ (upd H t (.tup [x, y])) fun σ2 H2 => tb { D with nx := fun σ H => Wait (Pv (i + 1) σ H), ct := fun σ H => Wait (Pv (i + 1) σ H), bk := D.nx } σ2 H2) (hd : ∀ σ H, Pv xs.length σ H → D.nx σ H) :
    ∃ W : Nat → Nat → St → Hp → Prop, (∃ m, W 0 m σ H) ∧ ∀ i m σ H, W i m σ H →
      ((Itz K a b).stop i H ∧ D.nx σ H) ∨ ((Itz K a b).go i H ∧ ∃ N : St → Hp → Prop, (∀ σ' H', N σ' H' → ∃ m', m' < m ∧ W (i + 1) m' σ' H') ∧ ∀ v H', (Itz K a b).yld i H v H' → g v σ H' fun σ2 H2 => tb { D with nx := N, ct := N, bk := D.nx } σ2 H2) := by
  refine ⟨fun i m σ H => m = xs.length - i ∧ i ≤ xs.length ∧ Wait (Pv i σ H), ⟨xs.length, by simp, Nat.zero_le _, wait h0⟩, ?_⟩
  rintro i m σ H ⟨rfl, hi, p⟩
  obtain ⟨q1, q2⟩ := hq i σ H p.out
  by_cases hlt : i < xs.length
  · have e1 : xs[i]? = some xs[i] := List.getElem?_eq_getElem hlt
    have e2 : ys[i]? = some ys[i] := List.getElem?_eq_getElem (by omega)
    refine .inr ⟨⟨xs, ys, _, _, q1, q2, e1, e2⟩, fun σ H => Wait (Pv (i + 1) σ H), fun σ' H' p' => ⟨xs.length - (i + 1), by omega, rfl, hlt, p'⟩, fun v H' y => ?_⟩
    obtain ⟨t, x, z, rfl, ht, rfl, f1, f2⟩ := y
    exact hs i x z t σ H (f1 xs q1) (f2 ys q2) p.out ht
  · have e : i = xs.length := by omega
    subst e
    exact .inl ⟨⟨xs, ys, q1, q2, .inl (Nat.le_refl _)⟩, hd σ H p.out⟩
end L2
set_option Elab.async false
set_option linter.all false
set_option maxRecDepth 100000
set_option maxHeartbeats 4000000
namespace Pf
open PySem L2
def top (i : Nat) : Stmt := PySem.Challenge.pw_pactford_k07_twins_of_tables.main.body.getD i (.Pass ⟨0, 0, 0, 0⟩)
abbrev s_Table___init__ : Stmt := inClass (top 5) 0
abbrev n_Table___init__ : List Str := ["self"]
theorem sc_Table___init__ : FnScope n_Table___init__ ["self"] (defScope s_Table___init__) := ⟨rfl, rfl, rfl, by decide +kernel, rfl, by decide +kernel, by decide +kernel⟩
abbrev s_Table_begin : Stmt := inClass (top 5) 1
abbrev n_Table_begin : List Str := ["self", "number", "place", "turn"]
theorem sc_Table_begin : FnScope n_Table_begin ["self", "number"] (defScope s_Table_begin) := ⟨rfl, rfl, rfl, by decide +kernel, rfl, by decide +kernel, by decide +kernel⟩
abbrev s_Table_need : Stmt := inClass (top 5) 2
abbrev n_Table_need : List Str := ["self", "handle", "place", "turn"]
theorem sc_Table_need : FnScope n_Table_need ["self", "handle"] (defScope s_Table_need) := ⟨rfl, rfl, rfl, by decide +kernel, rfl, by decide +kernel, by decide +kernel⟩
abbrev s_Table_look : Stmt := inClass (top 5) 3
abbrev n_Table_look : List Str := ["self", "handle"]
theorem sc_Table_look : FnScope n_Table_look ["self", "handle"] (defScope s_Table_look) := ⟨rfl, rfl, rfl, by decide +kernel, rfl, by decide +kernel, by decide +kernel⟩
abbrev s_Table_end : Stmt := inClass (top 5) 4
abbrev n_Table_end : List Str := ["self", "handle"]
theorem sc_Table_end : FnScope n_Table_end ["self", "handle"] (defScope s_Table_end) := ⟨rfl, rfl, rfl, by decide +kernel, rfl, by decide +kernel, by decide +kernel⟩
abbrev s_Table_alive : Stmt := inClass (top 5) 5
abbrev n_Table_alive : List Str := ["self", "place"]
theorem sc_Table_alive : FnScope n_Table_alive ["self"] (defScope s_Table_alive) := ⟨rfl, rfl, rfl, by decide +kernel, rfl, by decide +kernel, by decide +kernel⟩
abbrev s_Table_most : Stmt := inClass (top 5) 6
abbrev n_Table_most : List Str := ["self"]
theorem sc_Table_most : FnScope n_Table_most ["self"] (defScope s_Table_most) := ⟨rfl, rfl, rfl, by decide +kernel, rfl, by decide +kernel, by decide +kernel⟩
abbrev s_Table_twin : Stmt := inClass (top 5) 7
abbrev n_Table_twin : List Str := ["self", "other"]
theorem sc_Table_twin : FnScope n_Table_twin ["self"] (defScope s_Table_twin) := ⟨rfl, rfl, rfl, by decide +kernel, rfl, by decide +kernel, by decide +kernel⟩
abbrev s_Table___len__ : Stmt := inClass (top 5) 8
abbrev n_Table___len__ : List Str := ["self"]
theorem sc_Table___len__ : FnScope n_Table___len__ ["self"] (defScope s_Table___len__) := ⟨rfl, rfl, rfl, by decide +kernel, rfl, by decide +kernel, by decide +kernel⟩
abbrev s__law_box : Stmt := top 7
abbrev n__law_box : List Str := ["_law_script", "_law_great", "_law_cell"]
theorem sc__law_box : FnScope n__law_box ["_law_script"] (defScope s__law_box) := ⟨rfl, rfl, rfl, by decide +kernel, rfl, by decide +kernel, by decide +kernel⟩
abbrev s__law_mixed : Stmt := top 8
abbrev n__law_mixed : List Str := ["_law_cell", "_law_k", "_law_whole"]
theorem sc__law_mixed : FnScope n__law_mixed ["_law_cell", "_law_k"] (defScope s__law_mixed) := ⟨rfl, rfl, rfl, by decide +kernel, rfl, by decide +kernel, by decide +kernel⟩
abbrev s__law_take : Stmt := top 9
abbrev n__law_take : List Str := ["_law_box_here", "_law_size", "_law_found", "_law_cell", "_law_reach"]
theorem sc__law_take : FnScope n__law_take ["_law_box_here", "_law_size"] (defScope s__law_take) := ⟨rfl, rfl, rfl, by decide +kernel, rfl, by decide +kernel, by decide +kernel⟩
abbrev s__law_figure : Stmt := top 10
abbrev n__law_figure : List Str := ["_law_box_here", "_law_found"]
theorem sc__law_figure : FnScope n__law_figure ["_law_box_here"] (defScope s__law_figure) := ⟨rfl, rfl, rfl, by decide +kernel, rfl, by decide +kernel, by decide +kernel⟩
abbrev s__law_begun : Stmt := top 11
abbrev n__law_begun : List Str := ["_law_model", "_law_figure_here", "_law_turns", "_law_lives", "_law_peak", "_law_place"]
theorem sc__law_begun : FnScope n__law_begun ["_law_model", "_law_figure_here"] (defScope s__law_begun) := ⟨rfl, rfl, rfl, by decide +kernel, rfl, by decide +kernel, by decide +kernel⟩
abbrev s__law_is_grip : Stmt := top 12
abbrev n__law_is_grip : List Str := ["_law_found", "_law_due", "_law_part"]
theorem sc__law_is_grip : FnScope n__law_is_grip ["_law_found", "_law_due"] (defScope s__law_is_grip) := ⟨rfl, rfl, rfl, by decide +kernel, rfl, by decide +kernel, by decide +kernel⟩
abbrev s__law_stands : Stmt := top 13
abbrev n__law_stands : List Str := ["_law_table", "_law_model", "_law_turns", "_law_lives", "_law_peak", "_law_due", "_law_told", "_law_place"]
theorem sc__law_stands : FnScope n__law_stands ["_law_table", "_law_model"] (defScope s__law_stands) := ⟨rfl, rfl, rfl, by decide +kernel, rfl, by decide +kernel, by decide +kernel⟩
abbrev s__law_deed : Stmt := top 14
abbrev n__law_deed : List Str := ["_law_box_here", "_law_table", "_law_model", "_law_lives", "_law_figure_here", "_law_place", "_law_turn"]
theorem sc__law_deed : FnScope n__law_deed ["_law_box_here", "_law_table", "_law_model"] (defScope s__law_deed) := ⟨rfl, rfl, rfl, by decide +kernel, rfl, by decide +kernel, by decide +kernel⟩
abbrev s__law_sprung : Stmt := top 15
abbrev n__law_sprung : List Str := ["_law_box_here", "_law_tables", "_law_models", "_law_at"]
theorem sc__law_sprung : FnScope n__law_sprung ["_law_box_here", "_law_tables", "_law_models"] (defScope s__law_sprung) := ⟨rfl, rfl, rfl, by decide +kernel, rfl, by decide +kernel, by decide +kernel⟩
abbrev s_law : Stmt := top 16
abbrev n_law : List Str := ["_law_script", "_law_box_here", "_law_tables", "_law_models", "_law_k", "_law_at", "_law_table", "_law_model"]
theorem sc_law : FnScope n_law ["_law_script"] (defScope s_law) := ⟨rfl, rfl, rfl, by decide +kernel, rfl, by decide +kernel, by decide +kernel⟩
/-- keywords behind self -/
def kbG : List Value → List Value → List Value
  | [a], [b] => [a, b]
  | _, _ => []
def kbV : List V → List V → List V
  | [a], [b] => [a, b]
  | _, _ => []
structure Ad where
  c_Table : Addr
  f_Table___init__ : Addr
  d_Table___init__ : FuncData
  f_Table_begin : Addr
  d_Table_begin : FuncData
  f_Table_need : Addr
  d_Table_need : FuncData
  f_Table_look : Addr
  d_Table_look : FuncData
  f_Table_end : Addr
  d_Table_end : FuncData
  f_Table_alive : Addr
  d_Table_alive : FuncData
  f_Table_most : Addr
  d_Table_most : FuncData
  f_Table_twin : Addr
  d_Table_twin : FuncData
  f_Table___len__ : Addr
  d_Table___len__ : FuncData
  f__law_box : Addr
  d__law_box : FuncData
  f__law_mixed : Addr
  d__law_mixed : FuncData
  f__law_take : Addr
  d__law_take : FuncData
  f__law_figure : Addr
  d__law_figure : FuncData
  f__law_begun : Addr
  d__law_begun : FuncData
  f__law_is_grip : Addr
  d__law_is_grip : FuncData
  f__law_stands : Addr
  d__law_stands : FuncData
  f__law_deed : Addr
  d__law_deed : FuncData
  f__law_sprung : Addr
  d__law_sprung : FuncData
  f_law : Addr
  d_law : FuncData
structure Txt (K : PySem.W.Frag) (mg : Str → Option Value) (a : Ad) : Prop where
  m_Table : mg "Table" = some (.ref a.c_Table)
  cl_Table : Cls K a.c_Table
  mk_Table : Mk K a.c_Table a.f_Table___init__
  na_Table_turns : NoAttr K a.c_Table "turns"
  na_Table_kept : NoAttr K a.c_Table "kept"
  na_Table_peak : NoAttr K a.c_Table "peak"
  F_Table___init__ : Fun K "__init__" "Table.__init__" s_Table___init__ a.f_Table___init__ a.d_Table___init__
  b_Table___init__ : Binds K a.d_Table___init__ ["self"] []
  F_Table_begin : Fun K "begin" "Table.begin" s_Table_begin a.f_Table_begin a.d_Table_begin
  b_Table_begin : Binds K a.d_Table_begin ["self", "number"] []
  mt_Table_begin : Meth K a.c_Table "begin" a.f_Table_begin
  F_Table_need : Fun K "need" "Table.need" s_Table_need a.f_Table_need a.d_Table_need
  b_Table_need : Binds K a.d_Table_need ["self", "handle"] []
  mt_Table_need : Meth K a.c_Table "need" a.f_Table_need
  F_Table_look : Fun K "look" "Table.look" s_Table_look a.f_Table_look a.d_Table_look
  b_Table_look : Binds K a.d_Table_look ["self", "handle"] []
  mt_Table_look : Meth K a.c_Table "look" a.f_Table_look
  F_Table_end : Fun K "end" "Table.end" s_Table_end a.f_Table_end a.d_Table_end
  b_Table_end : Binds K a.d_Table_end ["self", "handle"] []
  mt_Table_end : Meth K a.c_Table "end" a.f_Table_end
  F_Table_alive : Fun K "alive" "Table.alive" s_Table_alive a.f_Table_alive a.d_Table_alive
  b_Table_alive : Binds K a.d_Table_alive ["self"] []
  mt_Table_alive : Meth K a.c_Table "alive" a.f_Table_alive
  F_Table_most : Fun K "most" "Table.most" s_Table_most a.f_Table_most a.d_Table_most
  b_Table_most : Binds K a.d_Table_most ["self"] []
  mt_Table_most : Meth K a.c_Table "most" a.f_Table_most
  F_Table_twin : Fun K "twin" "Table.twin" s_Table_twin a.f_Table_twin a.d_Table_twin
  b_Table_twin : Binds K a.d_Table_twin ["self"] []
  mt_Table_twin : Meth K a.c_Table "twin" a.f_Table_twin
  F_Table___len__ : Fun K "__len__" "Table.__len__" s_Table___len__ a.f_Table___len__ a.d_Table___len__
  b_Table___len__ : Binds K a.d_Table___len__ ["self"] []
  mt_Table___len__ : Meth K a.c_Table "__len__" a.f_Table___len__
  F__law_box : Fun K "_law_box" "_law_box" s__law_box a.f__law_box a.d__law_box
  b__law_box : Binds K a.d__law_box ["_law_script"] []
  m__law_box : mg "_law_box" = some (.ref a.f__law_box)
  F__law_mixed : Fun K "_law_mixed" "_law_mixed" s__law_mixed a.f__law_mixed a.d__law_mixed
  b__law_mixed : Binds K a.d__law_mixed ["_law_cell", "_law_k"] []
  m__law_mixed : mg "_law_mixed" = some (.ref a.f__law_mixed)
  F__law_take : Fun K "_law_take" "_law_take" s__law_take a.f__law_take a.d__law_take
  b__law_take : Binds K a.d__law_take ["_law_box_here", "_law_size"] []
  m__law_take : mg "_law_take" = some (.ref a.f__law_take)
  F__law_figure : Fun K "_law_figure" "_law_figure" s__law_figure a.f__law_figure a.d__law_figure
  b__law_figure : Binds K a.d__law_figure ["_law_box_here"] []
  m__law_figure : mg "_law_figure" = some (.ref a.f__law_figure)
  F__law_begun : Fun K "_law_begun" "_law_begun" s__law_begun a.f__law_begun a.d__law_begun
  b__law_begun : Binds K a.d__law_begun ["_law_model", "_law_figure_here"] []
  m__law_begun : mg "_law_begun" = some (.ref a.f__law_begun)
  F__law_is_grip : Fun K "_law_is_grip" "_law_is_grip" s__law_is_grip a.f__law_is_grip a.d__law_is_grip
  b__law_is_grip : Binds K a.d__law_is_grip ["_law_found", "_law_due"] []
  m__law_is_grip : mg "_law_is_grip" = some (.ref a.f__law_is_grip)
  F__law_stands : Fun K "_law_stands" "_law_stands" s__law_stands a.f__law_stands a.d__law_stands
  b__law_stands : Binds K a.d__law_stands ["_law_table", "_law_model"] []
  m__law_stands : mg "_law_stands" = some (.ref a.f__law_stands)
  F__law_deed : Fun K "_law_deed" "_law_deed" s__law_deed a.f__law_deed a.d__law_deed
  b__law_deed : Binds K a.d__law_deed ["_law_box_here", "_law_table", "_law_model"] []
  m__law_deed : mg "_law_deed" = some (.ref a.f__law_deed)
  F__law_sprung : Fun K "_law_sprung" "_law_sprung" s__law_sprung a.f__law_sprung a.d__law_sprung
  b__law_sprung : Binds K a.d__law_sprung ["_law_box_here", "_law_tables", "_law_models"] []
  m__law_sprung : mg "_law_sprung" = some (.ref a.f__law_sprung)
  F_law : Fun K "law" "law" s_law a.f_law a.d_law
  b_law : Binds K a.d_law ["_law_script"] []
  m_law : mg "law" = some (.ref a.f_law)
  z_max : mg "max" = none
  z_len : mg "len" = none
  z_sorted : mg "sorted" = none
  z_list : mg "list" = none
  z_dict : mg "dict" = none
  z_any : mg "any" = none
  z_isinstance : mg "isinstance" = none
  z_tuple : mg "tuple" = none
  z_bool : mg "bool" = none
  z_range : mg "range" = none
  z_zip : mg "zip" = none
/-! ### what all laws share: the box of draws -/
/-- all but the two objects of the box stand as they were -/
def Keep2 (b g : Addr) (H H' : Hp) : Prop := ∀ a o, a ≠ b → a ≠ g → H a = some o → H' a = some o
theorem Keep2.refl (b g : Addr) (H : Hp) : Keep2 b g H H := fun _ _ _ _ h => h
theorem Keep2.trans {b g : Addr} {H H1 H2 : Hp} (x : Keep2 b g H H1) (y : Keep2 b g H1 H2) : Keep2 b g H H2 := fun a o h1 h2 h => y a o h1 h2 (x a o h1 h2 h)
/-- all but one object stand as they were -/
def Keep1 (b : Addr) (H H' : Hp) : Prop := ∀ a o, a ≠ b → H a = some o → H' a = some o
/-- a box at b, its list of great cells at g, of lesser ones at l; n draws were made -/
structure BoxAt (H : Hp) (b g l : Addr) (n : Int) : Prop where
  ex : ∃ (gs ls : List Int) (d : Int), H b = some (.lst [.ref g, .int d, .ref l, .int n]) ∧ H g = some (.lst (gs.map V.int)) ∧ H l = some (.lst (ls.map V.int)) ∧
    0 ≤ d ∧ (∀ z ∈ gs, 0 ≤ z) ∧ gs.length ≤ 63 ∧ ls.length ≤ 63 ∧ b ≠ g ∧ b ≠ l ∧ g ≠ l
  pos : 0 ≤ n
theorem BoxAt.keep {H H' : Hp} {b g l : Addr} {n : Int} (B : BoxAt H b g l n) (k : ∀ a o, H a = some o → a = b ∨ a = g ∨ a = l → H' a = some o) : BoxAt H' b g l n := by
  obtain ⟨gs, ls, d, h1, h2, h3, h⟩ := B.ex
  exact ⟨⟨gs, ls, d, k _ _ h1 (.inl rfl), k _ _ h2 (.inr (.inl rfl)), k _ _ h3 (.inr (.inr rfl)), h⟩, B.pos⟩
theorem BoxAt.same {H H' : Hp} {b g l : Addr} {n : Int} (B : BoxAt H b g l n) (k : ∀ a o, H a = some o → H' a = some o) : BoxAt H' b g l n := B.keep fun a o h _ => k a o h
/-- the three are lists -/
theorem BoxAt.lists {H : Hp} {b g l : Addr} {n : Int} (B : BoxAt H b g l n) : (∃ xs, H b = some (.lst xs)) ∧ (∃ xs, H g = some (.lst xs)) ∧ ∃ xs, H l = some (.lst xs) := by
  obtain ⟨gs, ls, d, h1, h2, h3, _⟩ := B.ex
  exact ⟨⟨_, h1⟩, ⟨_, h2⟩, ⟨_, h3⟩⟩
/-- _law_mixed: some number -/
def spMixed : Sp := fun vs H Q _ => ∃ (c k : Int), vs = [.int c, .int k] ∧ 0 ≤ k ∧ k ≤ 10000000 ∧ ∀ r : Int, Q (.int r) H
/-- _law_take: a number below the size -/
def spTake : Sp := fun vs H Q _ => ∃ (b g l : Addr) (n sz : Int), vs = [.ref b, .int sz] ∧ BoxAt H b g l n ∧ n ≤ 1000000 ∧ 0 < sz ∧ sz < 2 ^ 200 ∧
  ∀ (r : Int) (H' : Hp), 0 ≤ r → r < sz → BoxAt H' b g l (n + 1) → Keep2 b g H H' → Q (.int r) H'
/-- _law_box: a new box -/
def spBox (K : PySem.W.Frag) : Sp := fun vs H Q _ => ∃ (a : Addr) (ns : List Int), vs = [.ref a] ∧ SqL K H a (ns.map V.int) ∧ ns.length ≤ 63 ∧
  ∀ (b g l : Addr) (H' : Hp), H b = none → H g = none → H l = none → BoxAt H' b g l 0 → Same H H' → Q (.ref b) H'
local macro_rules | `(tactic| walk_at "nz") => `(tactic| (show (_ : Int) ≠ 0; omega))
local macro_rules | `(tactic| walk_at "ne") => `(tactic| first | assumption | (apply Ne.symm; assumption))
local macro_rules | `(tactic| walk_at "hp") => `(tactic| first | assumption | exact upd_same | (refine upd_get ?_ ?_; walk_at "ne"; walk_at "hp"))
local macro_rules | `(tactic| walk_at "sd") => `(tactic| first
  | rfl
  | assumption
  | (with_reducible show (_ : Int) < _; omega)
  | (with_reducible show (_ : Int) ≤ _; omega)
  | (with_reducible show (_ : Nat) < _; omega)
  | (with_reducible show (_ : Nat) ≤ _; omega)
  | exact kV_int _
  | exact kV_str _
  | (show (_ : Int) ≠ 0; omega)
  | exact SqL.of (by walk_at "hp")
  | exact ⟨_, SqL.of (by walk_at "hp")⟩
  | exact ⟨_, SqT.of (by walk_at "hp")⟩
  | exact ⟨_, (by assumption)⟩
  | exact SqT.of (by walk_at "hp")
  | exact Rd.of (by walk_at "hp")
  | exact Or.inl (SqL.of (by walk_at "hp"))
  | exact Or.inr (SqT.of (by walk_at "hp"))
  | (walk_at "hp")
  | (exact Or.inl ⟨rfl, _, SqL.of (by walk_at "hp")⟩)
  | (exact Or.inl ⟨by omega, by omega⟩)
  | (exact Or.inr ⟨by omega, by omega⟩)
  | (refine ⟨?_, ?_, ?_⟩ <;> omega)
  | omega
  | (exact small_le (by first | omega | (simp only [List.length_cons, List.length_nil]; omega)))
  | (exact small_lt (by first | omega | (simp only [List.length_cons, List.length_nil]; omega)))
  | exact Nat.le_of_ble_eq_true rfl
  | decide)
local macro_rules | `(tactic| walk_at "st") => `(tactic| first
  | with_reducible refine sq_seq ?_
  | apply Exists.intro
  | (refine And.intro ?_ ?_; (walk_at "sd")))
local macro_rules | `(tactic| walk_at "go") => `(tactic| repeat (walk_at "st"))
section
variable {P : Program} {w : World} {K : PySem.W.Frag} {mg : Str → Option Value} {base : Heap} {a : Ad}
theorem ok__law_mixed (T : Txt K mg a) : FnOk P w K mg base CX0 1 a.f__law_mixed a.d__law_mixed ["_law_cell", "_law_k"] spMixed := by
  refine T.F__law_mixed.ok sc__law_mixed (fun vs H Q E h => ?_) (fun cdv A outer s H vs Q E hr h => ?_)
  · obtain ⟨c, k, rfl, _⟩ := h
    rfl
  · obtain ⟨c, k, rfl, h0, h1, q⟩ := h
    refine ⟨_, (pss_cons (ps_set (i := 2) sc__law_mixed.nd rfl (Or.inl rfl) (pe_op op_modN (pe_op op_pow (pe_op op_add (pe_op op_add (pe_op op_add (pe_op op_modN (pv 0) pe_int) (pe_op op_mul (pe_op op_mul pe_int (pv 1)) (pv 1))) (pe_op op_mul pe_int (pv 1))) pe_int) pe_int) pe_int))
      (pss_one (ps_ret (pe_op op_modN (pe_op op_add (pe_op op_mul (pv 2) pe_int) (pe_op op_mul pe_int (pv 1))) pe_int)))), ?_⟩
    have m1 := fmod_pos (i := c) (j := 2147483647) (by decide)
    have e1 : 1009 * k ≤ 10090000000 := by omega
    have e2 : 0 ≤ 1009 * k * k := Int.mul_nonneg (by omega) h0
    have e3 : 1009 * k * k ≤ 10090000000 * 10000000 := Int.mul_le_mul e1 h1 h0 (by decide)
    walk_at "go"
    exact q _
theorem ok__law_take (T : Txt K mg a) : FnOk P w K mg base CX0 2 a.f__law_take a.d__law_take ["_law_box_here", "_law_size"] spTake := by
  have G__law_mixed := ok__law_mixed (P := P) (w := w) (base := base) T
  refine T.F__law_take.ok sc__law_take (fun vs H Q E h => ?_) (fun cdv A outer s H vs Q E hr h => ?_)
  · obtain ⟨b, g, l, n, sz, rfl, _⟩ := h
    rfl
  · obtain ⟨b, g, l, n, sz, rfl, B, hn, s0, s1, q⟩ := h
    obtain ⟨gs, ls, d, hb, hg, hl, d0, g0, lg, ll, nbg, nbl, ngl⟩ := B.ex
    have n0 := B.pos
    refine ⟨_, (pss_cons (ps_asg (pe_op op_add (pe_ix ix_list (pv 0) pe_int (fun _ _ => rfl)) pe_int) (pg_sub (pv 0) pe_int set_list))
      (pss_mid (ps_if (PW.pt (pw_and (pt_cmpR op_eq (pe_ix ix_list (pv 0) pe_int (fun _ _ => rfl)) pe_int (nomark _)) (pw_and1 (pt_cmpR op_gt (pe_callB call_lenK (by rfl) T.z_len PySem.boot_len (pa_cons (pe_ix ix_list (pv 0) pe_int (fun _ _ => rfl)) pa_nil)) pe_int (nomark _))))) (pss_one (ps_asg (pe_bm PySem.F.plainAttrs_list PySem.F.slot_list_pop PySem.F.type_list_pop mt_popAt (pe_ix ix_list (pv 0) pe_int (fun _ _ => rfl)) (pa_cons pe_int pa_nil)) (pg_sub (pv 0) pe_int set_list))) pss_nil)
      (pss_cons (ps_if (pt_cmpR op_gt (pe_ix ix_list (pv 0) pe_int (fun _ _ => rfl)) pe_int (nomark _)) (pss_cons (ps_set (i := 2) sc__law_take.nd rfl (Or.inl rfl) (pe_op op_modN (pe_ix ix_list (pv 0) pe_int (fun _ _ => rfl)) (pv 1)))
      (pss_cons (ps_asg (pe_op op_fdivW (pe_ix ix_list (pv 0) pe_int (fun _ _ => rfl)) (pv 1)) (pg_sub (pv 0) pe_int set_list))
      (pss_one (ps_ret (pv 2))))) pss_nil)
      (pss_cons (ps_set (i := 3) sc__law_take.nd rfl (Or.inl rfl) (pe_op op_mul pe_int (pe_ix ix_list (pv 0) pe_int (fun _ _ => rfl))))
      (pss_mid (ps_if (pt_cmpR op_gt (pe_callB call_lenK (by rfl) T.z_len PySem.boot_len (pa_cons (pe_ix ix_list (pv 0) pe_int (fun _ _ => rfl)) pa_nil)) pe_int (nomark _)) (pss_one (ps_set (i := 3) sc__law_take.nd rfl (Or.inl rfl) (pe_ix ix_list (pe_ix ix_list (pv 0) pe_int (fun _ _ => rfl)) (pe_op op_modN (pe_ix ix_list (pv 0) pe_int (fun _ _ => rfl)) (pe_callB call_lenK (by rfl) T.z_len PySem.boot_len (pa_cons (pe_ix ix_list (pv 0) pe_int (fun _ _ => rfl)) pa_nil))) (fun _ _ => rfl)))) pss_nil)
      (pss_cons (ps_set (i := 2) sc__law_take.nd rfl (Or.inl rfl) pe_int)
      (pss_cons (ps_set (i := 4) sc__law_take.nd rfl (Or.inl rfl) pe_int)
      (pss_cons (ps_stop (ps_while PassesOwn.never (pt_cmpR op_lt (pv 4) (pv 1) (nomark _)) (pss_cons (ps_set (i := 2) sc__law_take.nd rfl (Or.inl rfl) (pe_op op_add (pe_op op_mul (pv 2) pe_int) (pe_call G__law_mixed (hr.mono (by decide)) rfl T.m__law_mixed T.F__law_mixed.kp T.b__law_mixed .nil pass0 (pa_cons (pv 3) (pa_cons (pe_op op_add (pe_ix ix_list (pv 0) pe_int (fun _ _ => rfl)) (pe_op op_mul pe_int (pe_op op_modN (pv 2) pe_int))) pa_nil)))))
      (pss_one (ps_set (i := 4) sc__law_take.nd rfl (Or.inl rfl) (pe_op op_mul (pv 4) pe_int))))))
      (pss_one (ps_ret (pe_op op_modN (pv 2) (pv 1)))))))))))), ?_⟩
    walk_at "go"
    -- if box[1] == 0 and len(box[0]) > 0
    refine mid_of (fun σ H1 => ∃ (gs1 : List Int) (d1 : Int), σ = [some (.ref b), some (.int sz), none, none, none] ∧ H1 b = some (.lst [.ref g, .int d1, .ref l, .int (n + 1)]) ∧ H1 g = some (.lst (gs1.map V.int)) ∧ H1 l = some (.lst (ls.map V.int)) ∧
      0 ≤ d1 ∧ (∀ z ∈ gs1, 0 ≤ z) ∧ gs1.length ≤ 63 ∧ Keep2 b g H H1) ?_ ?_
    · have k1 : Keep2 b g H (upd H b (.lst [.ref g, .int d, .ref l, .int (n + 1)])) := fun x o n1 n2 e => by rw [upd_ne n1]; exact e
      walk_at "go"
      refine ifD (fun e => ?_) (fun _ => ?_)
      · walk_at "go"
        refine ifD (fun e2 => ?_) (fun _ => ?_)
        · cases gs with
          | nil => exact absurd e2 (by decide)
          | cons z r =>
            walk_at "go"
            refine ⟨(seqIndex_of (by decide) e2 : seqIndex? 0 _ = some 0), rfl, ?_⟩
            walk_at "go"
            refine wait ⟨r, z, rfl, upd_same, upd_get nbg.symm upd_same, upd_get nbl.symm (upd_get ngl.symm (upd_get nbl.symm hl)), g0 _ List.mem_cons_self, fun y hy => g0 y (List.mem_cons_of_mem _ hy), ?_, ?_⟩
            · rw [List.length_cons] at lg
              omega
            · intro x o n1 n2 e
              rw [upd_ne n1, upd_ne n2, upd_ne n1]
              exact e
        · exact wait ⟨gs, d, rfl, upd_same, upd_get nbg.symm hg, upd_get nbl.symm hl, d0, g0, lg, k1⟩
      · refine ifF rfl ?_
        exact wait ⟨gs, d, rfl, upd_same, upd_get nbg.symm hg, upd_get nbl.symm hl, d0, g0, lg, k1⟩
    · rintro σ H1 ⟨gs1, d1, rfl, hb1, hg1, hl1, d10, g10, lg1, k1⟩
      walk_at "go"
      refine ifD (fun e => ?_) (fun e => ?_)
      · have m := fmod_pos (i := d1) (j := sz) s0
        have hd : CDivW d1 sz := wide_div (b := 200) s0 (by omega) (by decide) (by decide)
        walk_at "go"
        refine q _ _ m.1 m.2 ⟨⟨gs1, ls, d1 / sz, upd_same, upd_get nbg.symm hg1, upd_get nbl.symm hl1, Int.ediv_nonneg d10 (by omega), g10, lg1, ll, nbg, nbl, ngl⟩, by omega⟩ ?_
        intro x o n1 n2 e
        rw [upd_ne n1]
        exact k1 x o n1 n2 e
      · walk_at "go"
        refine mid_of (fun σ H2 => H2 = H1 ∧ ∃ c : Int, σ = [some (.ref b), some (.int sz), none, some (.int c), none]) ?_ ?_
        · walk_at "go"
          refine ifD (fun e2 => ?_) (fun _ => ?_)
          · have e3 : (0 : Int) < (ls.length : Int) := by rw [List.length_map] at e2; exact e2
            have m := fmod_pos (i := n + 1) (j := (ls.length : Int)) e3
            obtain ⟨z, hz, _⟩ := atI_ints m.1 m.2
            have hz2 : atI (ls.map V.int) ((n + 1).fmod ((ls.map V.int).length : Int)) = some (.int z) := by rw [List.length_map]; exact hz
            walk_at "go"
            exact wait ⟨rfl, _, rfl⟩
          · exact wait ⟨rfl, _, rfl⟩
        · rintro σ H2 ⟨rfl, c, rfl⟩
          walk_at "go"
          refine while_W (fun m σ H3 => H3 = H2 ∧ ∃ f r : Int, σ = [some (.ref b), some (.int sz), some (.int f), some (.int c), some (.int r)] ∧ 0 < r ∧ m = (sz - r).toNat) (sz - 1).toNat ?_ ?_
          · exact ⟨rfl, 0, 1, rfl, by decide, rfl⟩
          · rintro m σ H3 ⟨rfl, f, r, rfl, r0, rfl⟩
            walk_at "go"
            refine ifD (fun e2 => ?_) (fun _ => ?_)
            · have m := fmod_pos (i := f) (j := 89) (by decide)
              refine next_W ?_
              walk_at "go"
              intro x
              walk_at "go"
              exact wait ⟨_, (show (sz - r * 1000000007).toNat < (sz - r).toNat by omega), rfl, _, _, rfl, by omega, rfl⟩
            · have m := fmod_pos (i := f) (j := sz) s0
              walk_at "go"
              exact q _ _ m.1 m.2 ⟨⟨gs1, ls, d1, hb1, hg1, hl1, d10, g10, lg1, ll, nbg, nbl, ngl⟩, by omega⟩ k1
theorem ok__law_box (T : Txt K mg a) : FnOk P w K mg base CX0 1 a.f__law_box a.d__law_box ["_law_script"] (spBox K) := by
  refine T.F__law_box.ok sc__law_box (fun vs H Q E h => ?_) (fun cdv A outer s H vs Q E hr h => ?_)
  · obtain ⟨c, ns, rfl, _⟩ := h
    rfl
  · obtain ⟨c, ns, rfl, hS, hl, q⟩ := h
    refine ⟨_, (pss_cons (ps_setLc (i := 1) (own := [("_law_cell", 2)]) (g := gName 2) rfl sc__law_box.nd rfl rfl (sw_true rfl rfl rfl (by decide +kernel)) (pi_list (pv 0)) (blkOk_by (own := [("_law_cell", 2)]) (N := n__law_box) (sc := defScope s__law_box) (by decide +kernel)) (fun _ _ _ _ _ => (pg_name (i := 2) sc__law_box.nd rfl (Or.inl rfl))) (fun _ _ _ _ _ => (pts_one (pt_cmpR op_ge (pv 2) (pe_op op_pow pe_int pe_int) (nomark _)))) (fun _ _ _ _ _ => (pv 2)))
      (pss_one (ps_ret (pe_lst (pa_cons (pv 1) (pa_cons pe_int (pa_cons (pe_lc (own := [("_law_cell", 2)]) (g := gName 2) rfl sc__law_box.nd (pi_list (pv 0)) (blkOk_by (own := [("_law_cell", 2)]) (N := n__law_box) (sc := defScope s__law_box) (by decide +kernel)) (fun _ _ _ _ _ => (pg_name (i := 2) sc__law_box.nd rfl (Or.inl rfl))) (fun _ _ _ _ _ => (pts_one (pt_cmpR op_lt (pv 2) (pe_op op_pow pe_int pe_int) (nomark _)))) (fun _ _ _ _ _ => (pv 2))) (pa_cons pe_int pa_nil)))))))), ?_⟩
    walk_at "go"
    intro D hD
    refine lcL (K := K) (a := c) (xs := ns.map V.int) (fun i H' => H' D = some (.lst (((ns.take i).filter fun z => decide ((10 : Int) ^ 18 ≤ z)).map V.int)) ∧ Same H H') ?_ ?_ ?_ ?_
    · exact ⟨upd_same, fun x o e => by rw [upd_ne (ne_of_none e hD)]; exact e⟩
    · exact fun i H' _ h => h.2.seq hS
    · rintro i y H' hi ⟨h1, h2⟩
      obtain ⟨u, rfl, hu, _⟩ := ints_at hi
      have hlen := filt_len (fun z => decide ((10 : Int) ^ 18 ≤ z)) ns i
      refine ⟨rfl, ?_⟩
      walk_at "go"
      refine ifD (fun p => ?_) (fun p => ?_)
      · walk_at "go"
        refine ⟨small_lt (by rw [List.length_map]; omega), wait ⟨?_, fun x o e => ?_⟩⟩
        · rw [upd_same, take_filt_yes hu (decide_eq_true p), List.map_append] <;> rfl
        · rw [upd_ne (ne_of_none e hD)]
          exact h2 x o e
      · refine wait ⟨?_, h2⟩
        rw [take_filt_no hu (decide_eq_false p)]
        exact h1
    · rintro H1 ⟨h1, s1⟩
      rw [List.length_map, List.take_length] at h1
      have hS1 := s1.seq hS
      walk_at "go"
      intro L hL
      refine lcL (K := K) (a := c) (xs := ns.map V.int) (fun i H' => H' L = some (.lst (((ns.take i).filter fun z => decide (z < (10 : Int) ^ 18)).map V.int)) ∧ Same H1 H') ?_ ?_ ?_ ?_
      · exact ⟨upd_same, fun x o e => by rw [upd_ne (ne_of_none e hL)]; exact e⟩
      · exact fun i H' _ h => h.2.seq hS1
      · rintro i y H' hi ⟨g1, g2⟩
        obtain ⟨u, rfl, hu, _⟩ := ints_at hi
        have hlen := filt_len (fun z => decide (z < (10 : Int) ^ 18)) ns i
        refine ⟨rfl, ?_⟩
        walk_at "go"
        refine ifD (fun p => ?_) (fun p => ?_)
        · walk_at "go"
          refine ⟨small_lt (by rw [List.length_map]; omega), wait ⟨?_, fun x o e => ?_⟩⟩
          · rw [upd_same, take_filt_yes hu (decide_eq_true p), List.map_append] <;> rfl
          · rw [upd_ne (ne_of_none e hL)]
            exact g2 x o e
        · refine wait ⟨?_, g2⟩
          rw [take_filt_no hu (decide_eq_false p)]
          exact g1
      · rintro H2 ⟨g1, s2⟩
        rw [List.length_map, List.take_length] at g1
        refine ⟨(by show 4 ≤ sizeLine; decide), fun b hb => ?_⟩
        have hD2 := s2 _ _ h1
        have nbD : b ≠ D := fun z => by rw [z, hD2] at hb; cases hb
        have nbL : b ≠ L := fun z => by rw [z, g1] at hb; cases hb
        have nDL : D ≠ L := ne_of_none h1 hL
        have s12 : Same H (upd H2 b (.lst [.ref D, .int 0, .ref L, .int 0])) := fun x o e => by
          have e2 := s2 _ _ (s1 _ _ e)
          rw [upd_ne (ne_of_none e2 hb)]
          exact e2
        refine q b D L _ ((s1.trans s2).free hb) hD (s1.free hL) ⟨⟨_, _, 0, upd_same, upd_get nbD.symm hD2, upd_get nbL.symm g1, by decide, fun z hz => ?_, ?_, ?_, nbD, nbL, nDL⟩, by decide⟩ s12
        · have := (List.mem_filter.mp hz).2
          have p : (10 : Int) ^ 18 ≤ z := of_decide_eq_true this
          omega
        · exact Nat.le_trans (List.length_filter_le _ _) hl
        · exact Nat.le_trans (List.length_filter_le _ _) hl
def spFigure : Sp := fun vs H Q _ => ∃ (b g l : Addr) (n : Int), vs = [.ref b] ∧ BoxAt H b g l n ∧ n ≤ 900000 ∧
  ∀ (r : Int) (H' : Hp), BoxAt H' b g l (n + 3) → Keep2 b g H H' → Q (.int r) H'
theorem ok__law_figure (T : Txt K mg a) : FnOk P w K mg base CX0 3 a.f__law_figure a.d__law_figure ["_law_box_here"] spFigure := by
  have G__law_take := ok__law_take (P := P) (w := w) (base := base) T
  refine T.F__law_figure.ok sc__law_figure (fun vs H Q E h => ?_) (fun cdv A outer s H vs Q E hr h => ?_)
  · obtain ⟨b, g, l, n, rfl, _⟩ := h
    rfl
  · obtain ⟨b, g, l, n, rfl, B, hn, q⟩ := h
    refine ⟨_, (pss_cons (ps_set (i := 1) sc__law_figure.nd rfl (Or.inl rfl) (pe_call G__law_take (hr.mono (by decide)) rfl T.m__law_take T.F__law_take.kp T.b__law_take .nil pass0 (pa_cons (pv 0) (pa_cons (pe_ix ix_list (pe_lst (pa_cons pe_int (pa_cons pe_int (pa_cons (pe_op op_pow pe_int pe_int) (pa_cons (pe_op op_pow pe_int pe_int) pa_nil))))) (pe_call G__law_take (hr.mono (by decide)) rfl T.m__law_take T.F__law_take.kp T.b__law_take .nil pass0 (pa_cons (pv 0) (pa_cons pe_int pa_nil))) (fun _ _ => rfl)) pa_nil))))
      (pss_one (ps_ret (pe_ix ix_list (pe_lst (pa_cons (pv 1) (pa_cons (pe_un un_neg (pv 1)) pa_nil))) (pe_call G__law_take (hr.mono (by decide)) rfl T.m__law_take T.F__law_take.kp T.b__law_take .nil pass0 (pa_cons (pv 0) (pa_cons pe_int pa_nil))) (fun _ _ => rfl))))), ?_⟩
    walk_at "go"
    intro p hp
    have B0 := B.same (H' := upd H p (.lst [.int 3, .int 20, .int (10 ^ Int.toNat 9), .int (10 ^ Int.toNat 40)])) fun x o e => by rw [upd_ne (ne_of_none e hp)]; exact e
    obtain ⟨gs, ls, d, hb, hg, hl, d0, g0, lg, ll, nbg, nbl, ngl⟩ := B.ex
    have npb : p ≠ b := (ne_of_none hb hp).symm
    have npg : p ≠ g := (ne_of_none hg hp).symm
    refine ⟨_, rfl, b, g, l, n, 4, rfl, B0, by omega, by decide, by decide, fun r H1 r0 r1 B1 k1 => ?_⟩
    have hp1 := k1 _ _ npb npg upd_same
    obtain ⟨v, e1, e2⟩ := atI_in (xs := [V.int 3, .int 20, .int (10 ^ Int.toNat 9), .int (10 ^ Int.toNat 40)]) (i := r) r0 r1
    have hm := List.mem_of_getElem? e2
    obtain ⟨sz, rfl, z0, z1⟩ : ∃ sz : Int, v = .int sz ∧ 0 < sz ∧ sz < 2 ^ 200 := by
      simp only [List.mem_cons, List.not_mem_nil, or_false] at hm
      rcases hm with rfl | rfl | rfl | rfl
      · exact ⟨_, rfl, by decide, by decide⟩
      · exact ⟨_, rfl, by decide, by decide⟩
      · exact ⟨_, rfl, by decide, by decide⟩
      · exact ⟨_, rfl, by decide, by decide⟩
    walk_at "go"
    intro f H2 f0 f1 B2 k2
    walk_at "go"
    intro p2 hp2
    have B3 := B2.same (H' := upd H2 p2 (.lst [.int f, .int (-f)])) fun x o e => by rw [upd_ne (ne_of_none e hp2)]; exact e
    obtain ⟨gs2, ls2, d2, hb2, hg2, _⟩ := B2.ex
    have np2b : p2 ≠ b := (ne_of_none hb2 hp2).symm
    have np2g : p2 ≠ g := (ne_of_none hg2 hp2).symm
    refine ⟨_, rfl, b, g, l, _, 2, rfl, B3, by omega, by decide, by decide, fun r' H4 r0' r1' B4 k4 => ?_⟩
    have hp4 := k4 _ _ np2b np2g upd_same
    obtain ⟨v', e1', e2'⟩ := atI_in (xs := [V.int f, .int (-f)]) (i := r') r0' r1'
    have hm' := List.mem_of_getElem? e2'
    obtain ⟨z, rfl⟩ : ∃ z : Int, v' = .int z := by
      simp only [List.mem_cons, List.not_mem_nil, or_false] at hm'
      rcases hm' with rfl | rfl
      · exact ⟨_, rfl⟩
      · exact ⟨_, rfl⟩
    walk_at "go"
    refine q _ _ (by rw [show n + 3 = n + 1 + 1 + 1 by omega]; exact B4) fun x o n1 n2 e => k4 x o n1 n2 ?_
    have e' := k2 x o n1 n2 (k1 x o n1 n2 (by rw [upd_ne (ne_of_none e hp)]; exact e))
    rw [upd_ne (ne_of_none e' hp2)]
    exact e'
end
end Pf
set_option Elab.async false
set_option linter.all false
set_option maxRecDepth 100000
set_option maxHeartbeats 4000000
namespace Pf
open PySem L2
local macro_rules | `(tactic| walk_at "nz") => `(tactic| (show (_ : Int) ≠ 0; omega))
local macro_rules | `(tactic| walk_at "ne") => `(tactic| first | assumption | (apply Ne.symm; assumption))
local macro_rules | `(tactic| walk_at "hp") => `(tactic| first | assumption | exact upd_same | (refine upd_get ?_ ?_; walk_at "ne"; walk_at "hp"))
local macro_rules | `(tactic| walk_at "sd") => `(tactic| first
  | rfl
  | assumption
  | (with_reducible show (_ : Int) < _; omega)
  | (with_reducible show (_ : Int) ≤ _; omega)
  | (with_reducible show (_ : Nat) < _; omega)
  | (with_reducible show (_ : Nat) ≤ _; omega)
  | exact kV_int _
  | exact kV_str _
  | (show (_ : Int) ≠ 0; omega)
  | exact SqL.of (by walk_at "hp")
  | exact ⟨_, SqL.of (by walk_at "hp")⟩
  | exact ⟨_, SqT.of (by walk_at "hp")⟩
  | exact ⟨_, (by assumption)⟩
  | exact SqT.of (by walk_at "hp")
  | exact Rd.of (by walk_at "hp")
  | exact Or.inl (SqL.of (by walk_at "hp"))
  | exact Or.inr (SqT.of (by walk_at "hp"))
  | (walk_at "hp")
  | (exact Or.inl ⟨rfl, _, SqL.of (by walk_at "hp")⟩)
  | (exact Or.inl ⟨by omega, by omega⟩)
  | (exact Or.inr ⟨by omega, by omega⟩)
  | (refine ⟨?_, ?_, ?_⟩ <;> omega)
  | omega
  | (exact small_le (by first | omega | (simp only [List.length_cons, List.length_nil]; omega)))
  | (exact small_lt (by first | omega | (simp only [List.length_cons, List.length_nil]; omega)))
  | exact Nat.le_of_ble_eq_true rfl
  | decide)
local macro_rules | `(tactic| walk_at "st") => `(tactic| first
  | with_reducible refine sq_seq ?_
  | apply Exists.intro
  | (refine And.intro ?_ ?_; (walk_at "sd")))
local macro_rules | `(tactic| walk_at "go") => `(tactic| repeat (walk_at "st"))
/-! ### the places of a table, in plain Lean -/
/-- a living handle: its place, its turn, its number -/
abbrev En := Int × Int × Int
structure Tb where
  turns : List Int
  live : List En
  peak : Int
abbrev Tb.keys (S : Tb) : List Int := S.live.map (·.1)
def kd (f : En → V) (l : List En) : List (Key × V) := l.map fun e => ((Sum.inl e.1 : Key), f e)
theorem kd_len (f : En → V) (l : List En) : (kd f l).length = l.length := List.length_map _
theorem kd_keys (f : En → V) (l : List En) : (kd f l).map (·.1) = (l.map (·.1)).map Sum.inl := by
  unfold kd
  rw [List.map_map, List.map_map] <;> rfl
theorem kd_none {f : En → V} {p : Int} : ∀ {l : List En}, p ∉ l.map (·.1) → valV (kd f l) (Sum.inl p) = none
  | [], _ => rfl
  | e :: r, h => by
    have h1 : ¬ (Sum.inl e.1 : Key) = Sum.inl p := fun z => h (by rw [List.map_cons, Sum.inl.inj z]; exact List.mem_cons_self)
    have h2 : p ∉ r.map (·.1) := fun z => h (by rw [List.map_cons]; exact List.mem_cons_of_mem _ z)
    show valV ((Sum.inl e.1, f e) :: kd f r) (Sum.inl p) = none
    rw [valV_neg h1]
    exact kd_none h2
theorem kd_val {f : En → V} {e : En} : ∀ {l : List En}, (l.map (·.1)).Nodup → e ∈ l → valV (kd f l) (Sum.inl e.1) = some (f e)
  | [], _, h => by cases h
  | d :: r, hn, h => by
    rw [List.map_cons, List.nodup_cons] at hn
    show valV ((Sum.inl d.1, f d) :: kd f r) (Sum.inl e.1) = some (f e)
    rcases List.mem_cons.mp h with z | z
    · subst z
      exact valV_pos rfl
    · have hne : ¬ (Sum.inl d.1 : Key) = Sum.inl e.1 := fun q => hn.1 (by rw [Sum.inl.inj q]; exact List.mem_map.mpr ⟨e, z, rfl⟩)
      rw [valV_neg hne]
      exact kd_val hn.2 z
theorem kd_some {f : En → V} {l : List En} {p : Int} (hn : (l.map (·.1)).Nodup) (h : p ∈ l.map (·.1)) : ∃ e ∈ l, e.1 = p ∧ valV (kd f l) (Sum.inl p) = some (f e) := by
  obtain ⟨e, he, rfl⟩ := List.mem_map.mp h
  exact ⟨e, he, rfl, kd_val hn he⟩
theorem kd_put {f : En → V} {l : List En} {p : Int} (v : V) (h : p ∉ l.map (·.1)) : putK (kd f l) (Sum.inl p) v = kd f l ++ [(Sum.inl p, v)] := putK_new v (kd_none h)
theorem kd_drop {f : En → V} {p : Int} : ∀ {l : List En}, dropK (kd f l) (Sum.inl p) = kd f (l.filter fun e => decide (e.1 ≠ p))
  | [] => rfl
  | e :: r => by
    show dropK ((Sum.inl e.1, f e) :: kd f r) (Sum.inl p) = _
    by_cases h : e.1 = p
    · rw [dropK_pos (by rw [h]), kd_drop, List.filter_cons, if_neg (by simp [h])]
    · rw [dropK_neg (fun z => h (Sum.inl.inj z)), kd_drop, List.filter_cons, if_pos (by simp [h])] <;> rfl
theorem kd_congr {f g : En → V} {l : List En} (h : ∀ e ∈ l, f e = g e) : kd f l = kd g l := by
  unfold kd
  exact List.map_congr_left fun e he => by rw [h e he]
theorem kd_snoc (f : En → V) (l : List En) (e : En) : kd f (l ++ [e]) = kd f l ++ [(Sum.inl e.1, f e)] := by
  unfold kd
  rw [List.map_append] <;> rfl
/-- the least place that no living handle has -/
structure Least (ks : List Int) (p : Int) : Prop where
  pos : 0 ≤ p
  out : p ∉ ks
  below : ∀ j : Int, 0 ≤ j → j < p → j ∈ ks
theorem Least.uniq {ks : List Int} {p q : Int} (a : Least ks p) (b : Least ks q) : p = q := by
  rcases Int.lt_trichotomy p q with h | h | h
  · exact absurd (b.below p a.pos h) a.out
  · exact h
  · exact absurd (a.below q b.pos h) b.out
structure Wf (S : Tb) : Prop where
  nd : S.keys.Nodup
  at_ : ∀ e ∈ S.live, 0 ≤ e.1 ∧ e.1 < S.turns.length ∧ S.turns[e.1.toNat]? = some (e.2.1 + 1) ∧ 0 ≤ e.2.1
  pos : ∀ x ∈ S.turns, 1 ≤ x
theorem Wf.empty : Wf ⟨[], [], 0⟩ := ⟨List.nodup_nil, (fun _ h => nomatch h), (fun _ h => nomatch h)⟩
theorem Wf.least_le {S : Tb} (w : Wf S) {p : Int} (h : Least S.keys p) : p ≤ S.turns.length := by
  rcases Int.lt_or_le (S.turns.length : Int) p with z | z
  · obtain ⟨e, he, q⟩ := List.mem_map.mp (h.below _ (Int.natCast_nonneg _) z)
    have := (w.at_ e he).2.1
    omega
  · exact z
/-- the turns with the place there -/
def grown (ts : List Int) (p : Int) : List Int := if p = (ts.length : Int) then ts ++ [0] else ts
def turnAt (ts : List Int) (p : Int) : Int := (grown ts p)[p.toNat]?.getD 0
def Tb.begin (S : Tb) (p f : Int) : Tb := ⟨(grown S.turns p).set p.toNat (turnAt S.turns p + 1), S.live ++ [(p, turnAt S.turns p, f)], if ((S.live.length + 1 : Nat) : Int) > S.peak then ((S.live.length + 1 : Nat) : Int) else S.peak⟩
def Tb.end (S : Tb) (p : Int) : Tb := { S with live := S.live.filter fun e => decide (e.1 ≠ p) }
theorem grown_len {ts : List Int} {p : Int} (h0 : 0 ≤ p) (h : p ≤ ts.length) : p < (grown ts p).length ∧ (grown ts p).length ≤ ts.length + 1 := by
  unfold grown
  split
  · rw [List.length_append, List.length_singleton]
    omega
  · omega
theorem grown_at {ts : List Int} {p : Int} (h0 : 0 ≤ p) (h : p ≤ ts.length) : (grown ts p)[p.toNat]? = some (turnAt ts p) := by
  have := (grown_len h0 h).1
  have hl : p.toNat < (grown ts p).length := by omega
  unfold turnAt
  rw [List.getElem?_eq_getElem hl] <;> rfl
theorem grown_old {ts : List Int} {p : Int} {i : Nat} {x : Int} (h : ts[i]? = some x) : (grown ts p)[i]? = some x := by
  unfold grown
  split
  · rw [List.getElem?_append_left (List.getElem?_eq_some_iff.mp h).1]
    exact h
  · exact h
theorem turnAt_pos {S : Tb} (w : Wf S) {p : Int} (h0 : 0 ≤ p) (h : p ≤ S.turns.length) : 0 ≤ turnAt S.turns p := by
  have e := grown_at h0 h
  unfold grown at e
  split at e
  · rename_i hp
    have : p.toNat = S.turns.length := by omega
    rw [this, List.getElem?_append_right (Nat.le_refl _), Nat.sub_self] at e
    have e' : some (0 : Int) = some (turnAt S.turns p) := e
    have := Option.some.inj e'
    omega
  · have := w.pos _ (List.mem_of_getElem? e)
    omega
theorem Wf.begin {S : Tb} (w : Wf S) {p f : Int} (h : Least S.keys p) : Wf (S.begin p f) := by
  have hp := w.least_le h
  have hl := grown_len h.pos hp
  have hg := grown_at h.pos hp
  have ht := turnAt_pos w h.pos hp
  refine ⟨?_, fun e he => ?_, fun x hx => ?_⟩
  · show ((S.live ++ [(p, turnAt S.turns p, f)]).map (·.1)).Nodup
    rw [List.map_append]
    exact nd_snoc w.nd h.out
  · have hlen : ((S.begin p f).turns).length = (grown S.turns p).length := List.length_set
    rcases List.mem_append.mp (show e ∈ S.live ++ [(p, turnAt S.turns p, f)] from he) with z | z
    · obtain ⟨a, b, c, d⟩ := w.at_ e z
      have hne : e.1 ≠ p := fun q => h.out (by rw [← q]; exact List.mem_map.mpr ⟨e, z, rfl⟩)
      refine ⟨a, ?_, ?_, d⟩
      · rw [hlen]
        have : S.turns.length ≤ (grown S.turns p).length := by
          unfold grown
          split
          · rw [List.length_append]; omega
          · exact Nat.le_refl _
        omega
      · show ((grown S.turns p).set p.toNat (turnAt S.turns p + 1))[e.1.toNat]? = _
        rw [List.getElem?_set_ne (by have := h.pos; omega)]
        exact grown_old c
    · have e' := List.mem_singleton.mp z
      subst e'
      refine ⟨h.pos, by rw [hlen]; exact hl.1, ?_, ht⟩
      show ((grown S.turns p).set p.toNat (turnAt S.turns p + 1))[p.toNat]? = _
      rw [List.getElem?_set_self (by have := h.pos; omega)]
  · have hx : x ∈ (grown S.turns p).set p.toNat (turnAt S.turns p + 1) := hx
    rcases List.mem_or_eq_of_mem_set hx with z | z
    · obtain ⟨i, hi, e⟩ := List.mem_iff_getElem.mp z
      by_cases hip : i = p.toNat
      · obtain ⟨j, hj⟩ := List.mem_iff_getElem?.mp hx
        by_cases hjp : j = p.toNat
        · subst hjp
          rw [List.getElem?_set_self (by have := h.pos; omega)] at hj
          have := Option.some.inj hj
          omega
        · rw [List.getElem?_set_ne (Ne.symm hjp)] at hj
          have hj2 : j < (grown S.turns p).length := (List.getElem?_eq_some_iff.mp hj).1
          have hjt : j < S.turns.length := by
            unfold grown at hj2
            split at hj2
            · rename_i q
              rw [List.length_append, List.length_singleton] at hj2
              omega
            · exact hj2
          have := grown_old (p := p) (List.getElem?_eq_getElem hjt)
          rw [this] at hj
          have := w.pos _ (List.getElem_mem hjt)
          have := Option.some.inj hj
          omega
      · have hit : i < S.turns.length := by
          unfold grown at hi
          split at hi
          · rename_i q
            rw [List.length_append, List.length_singleton] at hi
            omega
          · exact hi
        have e2 := grown_old (p := p) (List.getElem?_eq_getElem hit)
        rw [List.getElem?_eq_getElem hi, e] at e2
        have := w.pos _ (List.getElem_mem hit)
        have := Option.some.inj e2
        omega
    · omega
theorem Wf.end {S : Tb} (w : Wf S) (p : Int) : Wf (S.end p) := by
  refine ⟨?_, fun e he => w.at_ e (List.mem_filter.mp he).1, w.pos⟩
  exact (List.filter_sublist.map _).nodup w.nd
theorem keys_end (S : Tb) (p : Int) : (S.end p).keys = S.keys.filter fun x => decide (x ≠ p) := by
  show (S.live.filter fun e => decide (e.1 ≠ p)).map (·.1) = (S.live.map (·.1)).filter fun x => decide (x ≠ p)
  rw [List.filter_map] <;> rfl
theorem begin_len (S : Tb) (p f : Int) : (S.begin p f).live.length = S.live.length + 1 := by
  show (S.live ++ [_]).length = _
  rw [List.length_append, List.length_singleton]
theorem end_len (S : Tb) (p : Int) : (S.end p).live.length ≤ S.live.length := List.length_filter_le _ _
theorem kd_at {f : En → V} {l : List En} {i : Nat} {k : Key} {v : V} (h : (kd f l)[i]? = some (k, v)) : ∃ e ∈ l, k = Sum.inl e.1 ∧ v = f e := by
  unfold kd at h
  rw [List.getElem?_map] at h
  cases z : l[i]? with
  | none => rw [z] at h; cases h
  | some e =>
    rw [z] at h
    cases h
    exact ⟨e, List.mem_of_getElem? z, rfl, rfl⟩
section
variable {P : Program} {w : World} {K : PySem.W.Frag} {mg : Str → Option Value} {base : Heap} {a : Ad}
/-! ### Table -/
abbrev tf (lt dk : Addr) (p : Int) : List (Str × V) := [(("turns" : Str), V.ref lt), (("kept" : Str), V.ref dk), (("peak" : Str), V.int p)]
abbrev kf : En → V := fun e => .int e.2.2
structure TabAt (C : Addr) (H : Hp) (t lt dk : Addr) (S : Tb) : Prop where
  ob : ∃ dx, H t = some (.ins C dx (tf lt dk S.peak))
  tu : H lt = some (.lst (S.turns.map V.int))
  kp : H dk = some (.dK (kd kf S.live))
theorem TabAt.keep {C : Addr} {H H' : Hp} {t lt dk : Addr} {S : Tb} (h : TabAt C H t lt dk S) (k : ∀ x o, (x = t ∨ x = lt ∨ x = dk) → H x = some o → H' x = some o) : TabAt C H' t lt dk S := by
  obtain ⟨dx, ho⟩ := h.ob
  exact ⟨⟨dx, k _ _ (.inl rfl) ho⟩, k _ _ (.inr (.inl rfl)) h.tu, k _ _ (.inr (.inr rfl)) h.kp⟩
theorem TabAt.same {C : Addr} {H H' : Hp} {t lt dk : Addr} {S : Tb} (h : TabAt C H t lt dk S) (k : Same H H') : TabAt C H' t lt dk S := h.keep fun x o _ e => k x o e
/-- a living handle in the heap -/
def spTabInit (C : Addr) : Sp := fun vs H Q _ => ∃ (t dx : Addr), vs = [.ref t] ∧ H t = some (.ins C dx []) ∧ ∀ (lt dk : Addr) (H' : Hp), H lt = none → H dk = none → TabAt C H' t lt dk ⟨[], [], 0⟩ →
  (∀ x o, x ≠ t → H x = some o → H' x = some o) → Q .non H'
def spBegin (C : Addr) : Sp := fun vs H Q _ => ∃ (t lt dk : Addr) (S : Tb) (f : Int), vs = [.ref t, .int f] ∧ TabAt C H t lt dk S ∧ Wf S ∧ S.live.length ≤ 5000 ∧ S.turns.length ≤ 5000 ∧
  ∀ (p : Int) (tp : Addr) (H' : Hp), Least S.keys p → TabAt C H' t lt dk (S.begin p f) → H tp = none → H' tp = some (.tup [.int p, .int (turnAt S.turns p)]) → (∀ x o, x ≠ t → x ≠ lt → x ≠ dk → H x = some o → H' x = some o) → Q (.ref tp) H'
def spNeed (K : PySem.W.Frag) (C : Addr) : Sp := fun vs H Q _ => ∃ (t lt dk h : Addr) (S : Tb) (e : En), vs = [.ref t, .ref h] ∧ TabAt C H t lt dk S ∧ Wf S ∧ e ∈ S.live ∧ SqT K H h [.int e.1, .int e.2.1] ∧ Q .non H
def spLook (K : PySem.W.Frag) (C : Addr) : Sp := fun vs H Q _ => ∃ (t lt dk h : Addr) (S : Tb) (e : En), vs = [.ref t, .ref h] ∧ TabAt C H t lt dk S ∧ Wf S ∧ e ∈ S.live ∧ SqT K H h [.int e.1, .int e.2.1] ∧ Q (.int e.2.2) H
def spEnd (K : PySem.W.Frag) (C : Addr) : Sp := fun vs H Q _ => ∃ (t lt dk h : Addr) (S : Tb) (e : En), vs = [.ref t, .ref h] ∧ TabAt C H t lt dk S ∧ Wf S ∧ e ∈ S.live ∧ SqT K H h [.int e.1, .int e.2.1] ∧
  ∀ H', TabAt C H' t lt dk (S.end e.1) → (∀ x o, x ≠ dk → H x = some o → H' x = some o) → Q (.int e.2.2) H'
/-- a told list of handles -/
def turnOf (S : Tb) (p : Int) : Int := (S.turns[p.toNat]?.getD 0) - 1
def told (S : Tb) (ys : List Int) : List PyData := ys.map fun p => pairD (p, turnOf S p)
def spAlive (K : PySem.W.Frag) (C : Addr) : Sp := fun vs H Q _ => ∃ (t lt dk : Addr) (S : Tb), vs = [.ref t] ∧ TabAt C H t lt dk S ∧ Wf S ∧ S.live.length ≤ 5000 ∧
  ∀ (D : Addr) (ys : List Int) (xs : List V) (H' : Hp), ys.Perm S.keys → ys.Pairwise (· ≤ ·) → H D = none → H' D = some (.lst xs) → DpAll K H' xs (told S ys) → Same H H' → Q (.ref D) H'
def spMost (C : Addr) : Sp := fun vs H Q _ => ∃ (t lt dk : Addr) (S : Tb), vs = [.ref t] ∧ TabAt C H t lt dk S ∧ Q (.int S.peak) H
def spLen (C : Addr) : Sp := fun vs H Q _ => ∃ (t lt dk : Addr) (S : Tb), vs = [.ref t] ∧ TabAt C H t lt dk S ∧ Q (.int S.live.length) H
theorem ok_Table___init__ (T : Txt K mg a) : FnOk P w K mg base CX0 1 a.f_Table___init__ a.d_Table___init__ ["self"] (spTabInit a.c_Table) := by
  have cl := T.cl_Table
  have n1 := T.na_Table_turns
  have n2 := T.na_Table_kept
  have n3 := T.na_Table_peak
  refine T.F_Table___init__.ok sc_Table___init__ (fun vs H Q E h => ?_) (fun cdv A outer s H vs Q E hr h => ?_)
  · obtain ⟨t, dx, rfl, _⟩ := h
    rfl
  · obtain ⟨t, dx, rfl, ht, q⟩ := h
    refine ⟨_, (pss_cons (ps_fld (pv 0) (pe_lst pa_nil) rfl)
      (pss_cons (ps_fld (pv 0) pe_dnewK rfl)
      (pss_one (ps_fld (pv 0) pe_int rfl)))), ?_⟩
    refine ⟨Nat.zero_le _, fun lt hlt => ?_⟩
    have ntl : t ≠ lt := ne_of_none ht hlt
    walk_at "go"
    intro dk hdk
    have ntd : t ≠ dk := fun z => by rw [← z, upd_same] at hdk; cases hdk
    have hdk1 : upd H lt (.lst []) dk = none := by rw [upd_ne ntd.symm] at hdk; exact hdk
    have nld : lt ≠ dk := fun z => by rw [← z, upd_same] at hdk1; cases hdk1
    have hdk2 : H dk = none := by rw [upd_ne nld.symm] at hdk1; exact hdk1
    walk_at "go"
    refine q lt dk _ hlt hdk2 ⟨⟨dx, ?_⟩, ?_, ?_⟩ ?_
    · exact upd_same
    · rw [upd_ne ntl.symm, upd_ne ntl.symm, upd_ne nld, upd_ne ntl.symm, upd_same] <;> rfl
    · rw [upd_ne ntd.symm, upd_ne ntd.symm, upd_same] <;> rfl
    · intro x o n e
      rw [upd_ne n, upd_ne n, upd_ne (ne_of_none e hdk2), upd_ne n, upd_ne (ne_of_none e hlt)]
      exact e
theorem ok_Table_begin (T : Txt K mg a) : FnOk P w K mg base CX0 1 a.f_Table_begin a.d_Table_begin ["self", "number"] (spBegin a.c_Table) := by
  have cl := T.cl_Table
  have n1 := T.na_Table_turns
  have n2 := T.na_Table_kept
  have n3 := T.na_Table_peak
  refine T.F_Table_begin.ok sc_Table_begin (fun vs H Q E h => ?_) (fun cdv A outer s H vs Q E hr h => ?_)
  · obtain ⟨t, lt, dk, S, f, rfl, _⟩ := h
    rfl
  · obtain ⟨t, lt, dk, S, f, rfl, TA, W, hl5, ht5, q⟩ := h
    obtain ⟨dx, ho⟩ := TA.ob
    have hlt := TA.tu
    have hdk := TA.kp
    have ntl : t ≠ lt := ne_of ho hlt (by intro z; cases z)
    have ntd : t ≠ dk := ne_of ho hdk (by intro z; cases z)
    have nld : lt ≠ dk := ne_of hlt hdk (by intro z; cases z)
    refine ⟨_, (pss_cons (ps_set (i := 2) sc_Table_begin.nd rfl (Or.inl rfl) pe_int)
      (pss_cons (ps_stop (ps_while PassesOwn.never (pt_cmp (pc_din (hu_of hr) (pv 2) (pe_fld (pv 0) rfl))) (pss_one (ps_aug (i := 2) sc_Table_begin.nd rfl (Or.inl rfl) pe_int ip_add))))
      (pss_mid (ps_if (pt_cmpR op_eq (pv 2) (pe_callB call_lenK (by rfl) T.z_len PySem.boot_len (pa_cons (pe_fld (pv 0) rfl) pa_nil)) (nomark _)) (pss_one (ps_expr (pe_bm PySem.F.plainAttrs_list PySem.F.slot_list_append PySem.F.type_list_append mt_append (pe_fld (pv 0) rfl) (pa_cons pe_int pa_nil)))) pss_nil)
      (pss_cons (ps_set (i := 3) sc_Table_begin.nd rfl (Or.inl rfl) (pe_ix ix_list (pe_fld (pv 0) rfl) (pv 2) (fun _ _ => rfl)))
      (pss_cons (ps_asg (pe_op op_add (pv 3) pe_int) (pg_sub (pe_fld (pv 0) rfl) (pv 2) set_list))
      (pss_cons (ps_dput (hu_of hr) (pe_fld (pv 0) rfl) (pv 2) (pv 1) rfl)
      (pss_cons (ps_fld (pv 0) (pe_callB (call_max2 rfl) (by rfl) T.z_max (by decide +kernel) (pa_cons (pe_fld (pv 0) rfl) (pa_cons (pe_callB call_lenD (by rfl) T.z_len PySem.boot_len (pa_cons (pe_fld (pv 0) rfl) pa_nil)) pa_nil))) rfl)
      (pss_one (ps_ret (pe_tup (pa_cons (pv 2) (pa_cons (pv 3) pa_nil)))))))))))), ?_⟩
    walk_at "go"
    refine while_W (fun m σ H1 => H1 = H ∧ ∃ p : Int, σ = [some (.ref t), some (.int f), some (.int p), none] ∧ 0 ≤ p ∧ (∀ j : Int, 0 ≤ j → j < p → j ∈ S.keys) ∧ m = ((S.turns.length : Int) - p).toNat) ((S.turns.length : Int) - 0).toNat ?_ ?_
    · exact ⟨rfl, 0, rfl, by decide, fun j h0 h1 => absurd h0 (by omega), rfl⟩
    · rintro m σ H1 ⟨rfl, p, rfl, p0, pb, rfl⟩
      by_cases hin : p ∈ S.keys
      · obtain ⟨e, he, ee, hv⟩ := kd_some (f := kf) W.nd hin
        have hb := (W.at_ e he).2.1
        walk_at "go"
        refine ⟨DGet.k (k := Sum.inl p) hdk, ?_⟩
        rw [hv]
        refine ⟨_, rfl, ifT rfl (next_W ?_)⟩
        walk_at "go"
        refine wait ⟨_, ?_, rfl, p + 1, rfl, by omega, fun j h0 h1 => ?_, rfl⟩
        · rw [ee] at hb
          omega
        · by_cases z : j = p
          · rw [z]; exact hin
          · exact pb j h0 (by omega)
      · have L : Least S.keys p := ⟨p0, hin, pb⟩
        have hp := W.least_le L
        have hgl := grown_len p0 hp
        have hga := grown_at p0 hp
        walk_at "go"
        refine ⟨DGet.k (k := Sum.inl p) hdk, ?_⟩
        rw [kd_none hin]
        refine ⟨_, rfl, ifF rfl ?_⟩
        refine mid_of (fun σ H2 => σ = [some (.ref t), some (.int f), some (.int p), none] ∧ H2 lt = some (.lst ((grown S.turns p).map V.int)) ∧ ∀ x o, x ≠ lt → H1 x = some o → H2 x = some o) ?_ ?_
        · walk_at "go"
          refine ifD (fun e => ?_) (fun e => ?_)
          · walk_at "go"
            refine ⟨small_lt (by rw [List.length_map]; omega), wait ⟨rfl, ?_, fun x o n e => by rw [upd_ne n]; exact e⟩⟩
            rw [upd_same]
            have e2 : p = (S.turns.length : Int) := by
              have := V.int.inj e
              rw [List.length_map] at this
              exact this
            unfold grown
            rw [if_pos e2, List.map_append] <;> rfl
          · have e2 : ¬ p = (S.turns.length : Int) := fun z => e (by rw [List.length_map, ← z])
            refine wait ⟨rfl, ?_, fun x o n e => e⟩
            unfold grown
            rw [if_neg e2]
            exact hlt
        · rintro σ H2 ⟨rfl, hlt2, k2⟩
          have ho2 := k2 _ _ ntl ho
          have hdk2 := k2 _ _ nld.symm hdk
          have hix : atI ((grown S.turns p).map V.int) p = some (.int (turnAt S.turns p)) := by
            obtain ⟨z, h1, h2⟩ := atI_ints p0 hgl.1
            rw [hga] at h2
            cases h2
            exact h1
          have hixN : ixN ((grown S.turns p).map V.int).length p = some p.toNat := by
            unfold ixN
            rw [if_pos p0, List.length_map, if_pos hgl.1]
          walk_at "go"
          refine ⟨DPut.k (k := Sum.inl p) (upd_get nld.symm hdk2) (small_lt (by rw [kd_len]; omega)), ?_⟩
          rw [kd_put (.int f) hin]
          obtain ⟨H3, e3⟩ : ∃ H3, H3 = upd (upd H2 lt (.lst (((grown S.turns p).map V.int).set p.toNat (.int (turnAt S.turns p + 1))))) dk (.dK (kd kf S.live ++ [(Sum.inl p, .int f)])) := ⟨_, rfl⟩
          have ho3 : H3 t = some (.ins a.c_Table dx (tf lt dk S.peak)) := by rw [e3, upd_ne ntd, upd_ne ntl]; exact ho2
          have hdk3 : H3 dk = some (.dK (kd kf S.live ++ [(Sum.inl p, .int f)])) := by rw [e3, upd_same]
          have hlt3 : H3 lt = some (.lst (((grown S.turns p).map V.int).set p.toNat (.int (turnAt S.turns p + 1)))) := by rw [e3, upd_ne nld, upd_same]
          have k3 : ∀ x o, x ≠ lt → x ≠ dk → H1 x = some o → H3 x = some o := fun x o h1 h2 e => by rw [e3, upd_ne h2, upd_ne h1]; exact k2 x o h1 e
          show tSeq _ _ _ _ (upd (upd H2 lt (.lst (((grown S.turns p).map V.int).set p.toNat (.int (turnAt S.turns p + 1))))) dk (.dK (kd kf S.live ++ [(Sum.inl p, .int f)])))
          rw [← e3]
          walk_at "go"
          intro tp htp
          have ntp : t ≠ tp := fun z => by rw [← z, upd_same] at htp; cases htp
          have htp3 : H3 tp = none := by rw [upd_ne ntp.symm] at htp; exact htp
          have nltp : lt ≠ tp := ne_of_none hlt3 htp3
          have ndtp : dk ≠ tp := ne_of_none hdk3 htp3
          have htp1 : H1 tp = none := by
            cases z : H1 tp with
            | none => rfl
            | some o => rw [k3 tp o nltp.symm ndtp.symm z] at htp3; cases htp3
          refine q p tp _ L ⟨⟨dx, ?_⟩, ?_, ?_⟩ htp1 upd_same fun x o h1 h2 h3 e => ?_
          · rw [upd_ne ntp, upd_same]
            simp only [List.length_append, kd_len, List.length_singleton]
            rfl
          · rw [upd_ne nltp, upd_ne ntl.symm, hlt3]
            show _ = some (HO.lst (((grown S.turns p).set p.toNat (turnAt S.turns p + 1)).map V.int))
            rw [List.map_set]
          · rw [upd_ne ndtp, upd_ne ntd.symm, hdk3]
            show _ = some (HO.dK (kd kf (S.live ++ [(p, turnAt S.turns p, f)])))
            rw [kd_snoc]
          · rw [upd_ne (ne_of_none e htp1), upd_ne h1]
            exact k3 x o h2 h3 e
theorem live_at {S : Tb} (W : Wf S) {e : En} (he : e ∈ S.live) : atI (S.turns.map V.int) e.1 = some (.int (e.2.1 + 1)) ∧ turnOf S e.1 = e.2.1 := by
  obtain ⟨a, b, c, d⟩ := W.at_ e he
  obtain ⟨z, h1, h2⟩ := atI_ints a b
  rw [c] at h2
  cases h2
  refine ⟨h1, ?_⟩
  unfold turnOf
  rw [c]
  show e.2.1 + 1 - 1 = e.2.1
  omega
theorem ok_Table_need (T : Txt K mg a) : FnOk P w K mg base CX0 2 a.f_Table_need a.d_Table_need ["self", "handle"] (spNeed K a.c_Table) := by
  have cl := T.cl_Table
  have n1 := T.na_Table_turns
  have n2 := T.na_Table_kept
  have n3 := T.na_Table_peak
  refine T.F_Table_need.ok sc_Table_need (fun vs H Q E h => ?_) (fun cdv A outer s H vs Q E hr h => ?_)
  · obtain ⟨t, lt, dk, h, S, e, rfl, _⟩ := h
    rfl
  · obtain ⟨t, lt, dk, h, S, e, rfl, TA, W, he, hS, q⟩ := h
    obtain ⟨dx, ho⟩ := TA.ob
    have hlt := TA.tu
    have hdk := TA.kp
    obtain ⟨b0, b1, b2, b3⟩ := W.at_ e he
    obtain ⟨hix, _⟩ := live_at W he
    have hget : DGet H dk (.int e.1) (some (kf e)) := by
      have := DGet.k (k := Sum.inl e.1) hdk
      rw [kd_val W.nd he] at this
      exact this
    refine ⟨_, (pss_cons (ps_asg (pv 1) (pg_tup rfl (pgs_cons (pg_name (i := 2) sc_Table_need.nd rfl (Or.inl rfl)) (pgs_cons (pg_name (i := 3) sc_Table_need.nd rfl (Or.inl rfl)) pgs_nil))))
      (pss_cons (ps_if (PW.pt (pw_or (pt_not (pt_chain op_le op_lt pe_int (pv 2) (pe_callB call_lenK (by rfl) T.z_len PySem.boot_len (pa_cons (pe_fld (pv 0) rfl) pa_nil)))) (pw_or1 (pt_not (pt_chain op_le op_lt pe_int (pv 3) (pe_ix ix_list (pe_fld (pv 0) rfl) (pv 2) (fun _ _ => rfl))))))) (pss_one ps_never) pss_nil)
      (pss_one (ps_if (PW.pt (pw_or (pt_cmp (pc_dnotin (hu_of hr) (pv 2) (pe_fld (pv 0) rfl))) (pw_or1 (pt_cmpR op_ne (pv 3) (pe_op op_sub (pe_ix ix_list (pe_fld (pv 0) rfl) (pv 2) (fun _ _ => rfl)) pe_int) (nomark _))))) (pss_one ps_never) pss_nil)))), ?_⟩
    walk_at "go"
    refine ifYes b0 ?_
    walk_at "go"
    refine ifNN (by rw [List.length_map]; exact b1) ?_
    walk_at "go"
    refine ifYes b3 ?_
    walk_at "go"
    refine ifNN (by omega) ?_
    walk_at "go"
    refine ifNN (congrArg V.int (by omega)) ?_
    exact q
theorem ok_Table_look (T : Txt K mg a) : FnOk P w K mg base CX0 3 a.f_Table_look a.d_Table_look ["self", "handle"] (spLook K a.c_Table) := by
  have G_Table_need := ok_Table_need (P := P) (w := w) (base := base) T
  have cl := T.cl_Table
  have n1 := T.na_Table_turns
  have n2 := T.na_Table_kept
  have n3 := T.na_Table_peak
  refine T.F_Table_look.ok sc_Table_look (fun vs H Q E h => ?_) (fun cdv A outer s H vs Q E hr h => ?_)
  · obtain ⟨t, lt, dk, h, S, e, rfl, _⟩ := h
    rfl
  · obtain ⟨t, lt, dk, h, S, e, rfl, TA, W, he, hS, q⟩ := h
    obtain ⟨dx, ho⟩ := TA.ob
    have hlt := TA.tu
    have hdk := TA.kp
    have hget : DGet H dk (.int e.1) (some (kf e)) := by
      have := DGet.k (k := Sum.inl e.1) hdk
      rw [kd_val W.nd he] at this
      exact this
    refine ⟨_, (pss_cons (ps_expr (pe_meth (pv 0) T.cl_Table T.mt_Table_need G_Table_need (hr.mono (by decide)) T.b_Table_need .nil pass0 (pa_cons (pv 1) pa_nil)))
      (pss_one (ps_ret (pe_dget (hu_of hr) (pe_fld (pv 0) rfl) (pe_ix ix_tup (pv 1) pe_int (fun _ _ => rfl)) (fun _ _ => rfl))))), ?_⟩
    walk_at "go"
    exact q
theorem ok_Table_end (T : Txt K mg a) : FnOk P w K mg base CX0 3 a.f_Table_end a.d_Table_end ["self", "handle"] (spEnd K a.c_Table) := by
  have G_Table_need := ok_Table_need (P := P) (w := w) (base := base) T
  have cl := T.cl_Table
  have n1 := T.na_Table_turns
  have n2 := T.na_Table_kept
  have n3 := T.na_Table_peak
  refine T.F_Table_end.ok sc_Table_end (fun vs H Q E h => ?_) (fun cdv A outer s H vs Q E hr h => ?_)
  · obtain ⟨t, lt, dk, h, S, e, rfl, _⟩ := h
    rfl
  · obtain ⟨t, lt, dk, h, S, e, rfl, TA, W, he, hS, q⟩ := h
    obtain ⟨dx, ho⟩ := TA.ob
    have hlt := TA.tu
    have hdk := TA.kp
    have hI : IsD H dk := .inl ⟨_, .inl hdk⟩
    have ntd : t ≠ dk := ne_of ho hdk (by intro z; cases z)
    have nld : lt ≠ dk := ne_of hlt hdk (by intro z; cases z)
    refine ⟨_, (pss_cons (ps_expr (pe_meth (pv 0) T.cl_Table T.mt_Table_need G_Table_need (hr.mono (by decide)) T.b_Table_need .nil pass0 (pa_cons (pv 1) pa_nil)))
      (pss_one (ps_ret (pe_dpop1 (pe_fld (pv 0) rfl) (pe_ix ix_tup (pv 1) pe_int (fun _ _ => rfl)) ⟨rfl, rfl, rfl, rfl⟩)))), ?_⟩
    walk_at "go"
    refine ⟨kd_val W.nd he, ?_⟩
    refine q _ ⟨⟨dx, upd_get ntd ho⟩, upd_get nld hlt, ?_⟩ fun x o n e => upd_get n e
    rw [upd_same, kd_drop] <;> rfl
theorem ok_Table_alive (T : Txt K mg a) : FnOk P w K mg base CX0 1 a.f_Table_alive a.d_Table_alive ["self"] (spAlive K a.c_Table) := by
  have cl := T.cl_Table
  have n1 := T.na_Table_turns
  have n2 := T.na_Table_kept
  have n3 := T.na_Table_peak
  refine T.F_Table_alive.ok sc_Table_alive (fun vs H Q E h => ?_) (fun cdv A outer s H vs Q E hr h => ?_)
  · obtain ⟨t, lt, dk, S, rfl, _⟩ := h
    rfl
  · obtain ⟨t, lt, dk, S, rfl, TA, W, h5, q⟩ := h
    obtain ⟨dx, ho⟩ := TA.ob
    have hlt := TA.tu
    have hdk := TA.kp
    have hk := kd_keys kf S.live
    refine ⟨_, (pss_one (ps_ret (pe_lc (own := [("place", 1)]) (g := gName 1) (tt := tYes) (te := (tTup (tCons _ (tCons (tOp _ (tOp (rIxL K) (tFld K _ "turns") _) _) tNil)))) rfl sc_Table_alive.nd (pi_list (by exact (pe_callB (call_sortedDX rfl) (by rfl) T.z_sorted (by decide +kernel) (pa_cons (pe_fld (pv 0) rfl) pa_nil)))) (blkOk_by (own := [("place", 1)]) (N := n_Table_alive) (sc := defScope s_Table_alive) (by decide +kernel)) (fun _ _ _ _ _ => (pg_name (i := 1) sc_Table_alive.nd rfl (Or.inl rfl))) (fun _ _ _ _ _ => pts_nil) (fun _ _ _ _ _ => (pe_tup (pa_cons (pv 1) (pa_cons (pe_op op_sub (pe_ix ix_list (pe_fld (pv 0) rfl) (pv 1) (fun _ _ => rfl)) pe_int) pa_nil))))))), ?_⟩
    walk_at "go"
    intro ys l perm srt hl
    have hlen : ys.length ≤ 5000 := by
      rw [perm.length_eq, List.length_map]
      exact h5
    walk_at "go"
    intro D hD
    have nlD : l ≠ D := fun z => by rw [← z, upd_same] at hD; cases hD
    have hD0 : H D = none := by rw [upd_ne nlD.symm] at hD; exact hD
    refine lcL (K := K) (a := l) (xs := ys.map V.int) (fun i H' => ∃ ts, H' D = some (.lst (ts.map V.ref)) ∧ Tups H' ts ((ys.take i).map fun p => (p, turnOf S p)) ∧ Same (upd H l (.lst (ys.map V.int))) H') ?_ ?_ ?_ ?_
    · exact ⟨[], upd_same, Paired.nil, Same.upd_new hD⟩
    · rintro i H' _ ⟨_, _, _, h⟩
      exact SqL.of (h _ _ upd_same)
    · rintro i y H' hi ⟨ts, h1, h2, h3⟩
      obtain ⟨u, rfl, hu, hiu⟩ := ints_at hi
      obtain ⟨e, he, rfl⟩ := List.mem_map.mp (perm.mem_iff.mp (List.mem_of_getElem? hu))
      obtain ⟨hix, htu⟩ := live_at W he
      have ho' := h3 _ _ (Same.upd_new hl _ _ ho)
      have hlt' := h3 _ _ (Same.upd_new hl _ _ hlt)
      have hts : ts.length = i := by
        rw [h2.len, List.length_map, List.length_take]
        omega
      refine ⟨rfl, ?_⟩
      walk_at "go"
      intro tp htp
      have nDt : D ≠ tp := ne_of_none h1 htp
      refine ⟨_, upd_get nDt h1, small_lt (by rw [List.length_map]; omega), wait ⟨ts ++ [tp], ?_, ?_, ?_⟩⟩
      · rw [upd_same, List.map_append] <;> rfl
      · rw [List.take_add_one, hu, Option.toList_some, List.map_append]
        refine Tups.snoc (h2.keep fun b xs e' => ?_) ?_
        · rw [upd_ne (ne_of e' h1 (by intro z; cases z)), upd_ne (ne_of_none e' htp)]
          exact e'
        · rw [upd_ne nDt.symm, upd_same]
          show some (HO.tup [V.int e.1, V.int (e.2.1 + 1 - 1)]) = some (HO.tup [V.int e.1, V.int (turnOf S e.1)])
          rw [htu, show e.2.1 + 1 - 1 = e.2.1 by omega]
      · intro b o e'
        have e2 := h3 _ _ e'
        rw [upd_ne (ne_of_none e' hD), upd_ne (ne_of_none e2 htp)]
        exact e2
    · rintro H' ⟨ts, h1, h2, h3⟩
      rw [List.length_map, List.take_length] at h2
      refine q D ys _ H' perm srt hD0 h1 ?_ ((Same.upd_new hl).trans h3)
      have := h2.dp (K := K)
      rw [List.map_map] at this
      exact this
theorem ok_Table_most (T : Txt K mg a) : FnOk P w K mg base CX0 1 a.f_Table_most a.d_Table_most ["self"] (spMost a.c_Table) := by
  have cl := T.cl_Table
  have n3 := T.na_Table_peak
  refine T.F_Table_most.ok sc_Table_most (fun vs H Q E h => ?_) (fun cdv A outer s H vs Q E hr h => ?_)
  · obtain ⟨t, lt, dk, S, rfl, _⟩ := h
    rfl
  · obtain ⟨t, lt, dk, S, rfl, TA, q⟩ := h
    obtain ⟨dx, ho⟩ := TA.ob
    refine ⟨_, (pss_one (ps_ret (pe_fld (pv 0) rfl))), ?_⟩
    walk_at "go"
    exact q
theorem ok_Table___len__ (T : Txt K mg a) : FnOk P w K mg base CX0 1 a.f_Table___len__ a.d_Table___len__ ["self"] (spLen a.c_Table) := by
  have cl := T.cl_Table
  have n2 := T.na_Table_kept
  refine T.F_Table___len__.ok sc_Table___len__ (fun vs H Q E h => ?_) (fun cdv A outer s H vs Q E hr h => ?_)
  · obtain ⟨t, lt, dk, S, rfl, _⟩ := h
    rfl
  · obtain ⟨t, lt, dk, S, rfl, TA, q⟩ := h
    obtain ⟨dx, ho⟩ := TA.ob
    have hdk := TA.kp
    refine ⟨_, (pss_one (ps_ret (pe_callB call_lenD (by rfl) T.z_len PySem.boot_len (pa_cons (pe_fld (pv 0) rfl) pa_nil)))), ?_⟩
    walk_at "go"
    rw [kd_len]
    exact q
/-! ### the law's own places -/
abbrev mf (ad : Int → Addr) : En → V := fun e => .ref (ad e.1)
structure ModAt (H : Hp) (m mt ml : Addr) (ad : Int → Addr) (S : Tb) : Prop where
  ob : H m = some (.lst [.ref mt, .ref ml, .int S.peak])
  tu : H mt = some (.lst (S.turns.map V.int))
  lv : H ml = some (.dK (kd (mf ad) S.live))
  tp : ∀ e ∈ S.live, H (ad e.1) = some (.tup [.int e.2.1, .int e.2.2])
  ne : m ≠ mt
theorem ModAt.same {H H' : Hp} {m mt ml : Addr} {ad : Int → Addr} {S : Tb} (h : ModAt H m mt ml ad S) (k : Same H H') : ModAt H' m mt ml ad S :=
  ⟨k _ _ h.ob, k _ _ h.tu, k _ _ h.lv, fun e he => k _ _ (h.tp e he), h.ne⟩
theorem ModAt.keep {H H' : Hp} {m mt ml : Addr} {ad : Int → Addr} {S : Tb} (h : ModAt H m mt ml ad S) (k : ∀ x o, (x = m ∨ x = mt ∨ x = ml ∨ ∃ xs, o = .tup xs) → H x = some o → H' x = some o) : ModAt H' m mt ml ad S :=
  ⟨k _ _ (.inl rfl) h.ob, k _ _ (.inr (.inl rfl)) h.tu, k _ _ (.inr (.inr (.inl rfl))) h.lv, fun e he => k _ _ (.inr (.inr (.inr ⟨_, rfl⟩))) (h.tp e he), h.ne⟩
def spBegun : Sp := fun vs H Q _ => ∃ (m mt ml : Addr) (ad : Int → Addr) (S : Tb) (f : Int), vs = [.ref m, .int f] ∧ ModAt H m mt ml ad S ∧ Wf S ∧ S.live.length ≤ 5000 ∧ S.turns.length ≤ 5000 ∧
  ∀ (p : Int) (tp : Addr) (ad' : Int → Addr) (H' : Hp), Least S.keys p → ModAt H' m mt ml ad' (S.begin p f) → H tp = none → H' tp = some (.tup [.int p, .int (turnAt S.turns p)]) → (∀ x o, x ≠ m → x ≠ mt → x ≠ ml → H x = some o → H' x = some o) → Q (.ref tp) H'
theorem ok__law_begun (T : Txt K mg a) : FnOk P w K mg base CX0 1 a.f__law_begun a.d__law_begun ["_law_model", "_law_figure_here"] spBegun := by
  refine T.F__law_begun.ok sc__law_begun (fun vs H Q E h => ?_) (fun cdv A outer s H vs Q E hr h => ?_)
  · obtain ⟨m, mt, ml, ad, S, f, rfl, _⟩ := h
    rfl
  · obtain ⟨m, mt, ml, ad, S, f, rfl, MA, W, hl5, ht5, q⟩ := h
    have ho := MA.ob
    have hmt := MA.tu
    have hml := MA.lv
    have nmt := MA.ne
    have nml : m ≠ ml := ne_of ho hml (by intro z; cases z)
    have ntl : mt ≠ ml := ne_of hmt hml (by intro z; cases z)
    refine ⟨_, (pss_cons (ps_asg (pv 0) (pg_unl rfl (pgs_cons (pg_name (i := 2) sc__law_begun.nd rfl (Or.inl rfl)) (pgs_cons (pg_name (i := 3) sc__law_begun.nd rfl (Or.inl rfl)) (pgs_cons (pg_name (i := 4) sc__law_begun.nd rfl (Or.inl rfl)) pgs_nil)))))
      (pss_cons (ps_set (i := 5) sc__law_begun.nd rfl (Or.inl rfl) pe_int)
      (pss_cons (ps_stop (ps_while PassesOwn.never (pt_cmp (pc_din (hu_of hr) (pv 5) (pv 3))) (pss_one (ps_aug (i := 5) sc__law_begun.nd rfl (Or.inl rfl) pe_int ip_add))))
      (pss_mid (ps_if (pt_cmpR op_eq (pv 5) (pe_callB call_lenK (by rfl) T.z_len PySem.boot_len (pa_cons (pv 2) pa_nil)) (nomark _)) (pss_one (ps_expr (pe_bm PySem.F.plainAttrs_list PySem.F.slot_list_append PySem.F.type_list_append mt_append (pv 2) (pa_cons pe_int pa_nil)))) pss_nil)
      (pss_cons (ps_dput (hu_of hr) (pv 3) (pv 5) (pe_tup (pa_cons (pe_ix ix_list (pv 2) (pv 5) (fun _ _ => rfl)) (pa_cons (pv 1) pa_nil))) rfl)
      (pss_mid (ps_augS (pv 2) (pv 5) get_list pe_int ip_add set_list)
      (pss_cons (ps_asg (pe_callB (call_max2 rfl) (by rfl) T.z_max (by decide +kernel) (pa_cons (pv 4) (pa_cons (pe_callB call_lenD (by rfl) T.z_len PySem.boot_len (pa_cons (pv 3) pa_nil)) pa_nil))) (pg_sub (pv 0) pe_int set_list))
      (pss_one (ps_ret (pe_tup (pa_cons (pv 5) (pa_cons (pe_op op_sub (pe_ix ix_list (pv 2) (pv 5) (fun _ _ => rfl)) pe_int) pa_nil)))))))))))), ?_⟩
    walk_at "go"
    refine while_W (fun k σ H1 => H1 = H ∧ ∃ p : Int, σ = [some (.ref m), some (.int f), some (.ref mt), some (.ref ml), some (.int S.peak), some (.int p)] ∧ 0 ≤ p ∧ (∀ j : Int, 0 ≤ j → j < p → j ∈ S.keys) ∧ k = ((S.turns.length : Int) - p).toNat) ((S.turns.length : Int) - 0).toNat ?_ ?_
    · exact ⟨rfl, 0, rfl, by decide, fun j h0 h1 => absurd h0 (by omega), rfl⟩
    · rintro k σ H1 ⟨rfl, p, rfl, p0, pb, rfl⟩
      by_cases hin : p ∈ S.keys
      · obtain ⟨e, he, ee, hv⟩ := kd_some (f := mf ad) W.nd hin
        have hb := (W.at_ e he).2.1
        walk_at "go"
        refine ⟨DGet.k (k := Sum.inl p) hml, ?_⟩
        rw [hv]
        refine ⟨_, rfl, ifT rfl (next_W ?_)⟩
        walk_at "go"
        refine wait ⟨_, ?_, rfl, p + 1, rfl, by omega, fun j h0 h1 => ?_, rfl⟩
        · rw [ee] at hb
          omega
        · by_cases z : j = p
          · rw [z]; exact hin
          · exact pb j h0 (by omega)
      · have L : Least S.keys p := ⟨p0, hin, pb⟩
        have hp := W.least_le L
        have hgl := grown_len p0 hp
        have hga := grown_at p0 hp
        walk_at "go"
        refine ⟨DGet.k (k := Sum.inl p) hml, ?_⟩
        rw [kd_none hin]
        refine ⟨_, rfl, ifF rfl ?_⟩
        refine mid_of (fun σ H2 => σ = [some (.ref m), some (.int f), some (.ref mt), some (.ref ml), some (.int S.peak), some (.int p)] ∧ H2 mt = some (.lst ((grown S.turns p).map V.int)) ∧ ∀ x o, x ≠ mt → H1 x = some o → H2 x = some o) ?_ ?_
        · walk_at "go"
          refine ifD (fun e => ?_) (fun e => ?_)
          · walk_at "go"
            refine ⟨small_lt (by rw [List.length_map]; omega), wait ⟨rfl, ?_, fun x o n e => by rw [upd_ne n]; exact e⟩⟩
            rw [upd_same]
            have e2 : p = (S.turns.length : Int) := by
              have := V.int.inj e
              rw [List.length_map] at this
              exact this
            unfold grown
            rw [if_pos e2, List.map_append] <;> rfl
          · have e2 : ¬ p = (S.turns.length : Int) := fun z => e (by rw [List.length_map, ← z])
            refine wait ⟨rfl, ?_, fun x o n e => e⟩
            unfold grown
            rw [if_neg e2]
            exact hmt
        · rintro σ H2 ⟨rfl, hmt2, k2⟩
          have ho2 := k2 _ _ nmt ho
          have hml2 := k2 _ _ ntl.symm hml
          have hix : atI ((grown S.turns p).map V.int) p = some (.int (turnAt S.turns p)) := by
            obtain ⟨z, h1, h2⟩ := atI_ints p0 hgl.1
            rw [hga] at h2
            cases h2
            exact h1
          have hixN : ixN ((grown S.turns p).map V.int).length p = some p.toNat := by
            unfold ixN
            rw [if_pos p0, List.length_map, if_pos hgl.1]
          walk_at "go"
          intro tq htq
          have ntq : m ≠ tq := ne_of_none ho2 htq
          have nmtq : mt ≠ tq := ne_of_none hmt2 htq
          have nmlq : ml ≠ tq := ne_of_none hml2 htq
          walk_at "go"
          refine ⟨DPut.k (k := Sum.inl p) (upd_get nmlq hml2) (small_lt (by rw [kd_len]; omega)), ?_⟩
          rw [kd_put _ hin]
          obtain ⟨H3, e3⟩ : ∃ H3, H3 = upd (upd H2 tq (.tup [.int (turnAt S.turns p), .int f])) ml (.dK (kd (mf ad) S.live ++ [(Sum.inl p, .ref tq)])) := ⟨_, rfl⟩
          have ho3 : H3 m = some (.lst [.ref mt, .ref ml, .int S.peak]) := by rw [e3, upd_ne nml, upd_ne ntq]; exact ho2
          have hml3 : H3 ml = some (.dK (kd (mf ad) S.live ++ [(Sum.inl p, .ref tq)])) := by rw [e3, upd_same]
          have hmt3 : H3 mt = some (.lst ((grown S.turns p).map V.int)) := by rw [e3, upd_ne ntl, upd_ne nmtq]; exact hmt2
          have htq3 : H3 tq = some (.tup [.int (turnAt S.turns p), .int f]) := by rw [e3, upd_ne nmlq.symm, upd_same]
          have htq1 : H1 tq = none := by
            cases z : H1 tq with
            | none => rfl
            | some o => rw [k2 tq o nmtq.symm z] at htq; cases htq
          have k3 : ∀ x o, x ≠ mt → x ≠ ml → H1 x = some o → H3 x = some o := fun x o h1 h2 e => by rw [e3, upd_ne h2, upd_ne (ne_of_none e htq1)]; exact k2 x o h1 e
          show tSeq _ _ _ _ (upd (upd H2 tq (.tup [.int (turnAt S.turns p), .int f])) ml (.dK (kd (mf ad) S.live ++ [(Sum.inl p, .ref tq)])))
          rw [← e3]
          refine mid_of (fun σ H4 => σ = [some (.ref m), some (.int f), some (.ref mt), some (.ref ml), some (.int S.peak), some (.int p)] ∧ H4 = upd H3 mt (.lst (((grown S.turns p).map V.int).set p.toNat (.int (turnAt S.turns p + 1))))) ?_ ?_
          · walk_at "go"
            exact wait ⟨rfl, rfl⟩
          · rintro σ H4 ⟨rfl, e4⟩
            have ho4 : H4 m = some (.lst [.ref mt, .ref ml, .int S.peak]) := by rw [e4, upd_ne nmt]; exact ho3
            have hml4 : H4 ml = some (.dK (kd (mf ad) S.live ++ [(Sum.inl p, .ref tq)])) := by rw [e4, upd_ne ntl.symm]; exact hml3
            have hmt4 : H4 mt = some (.lst (((grown S.turns p).set p.toNat (turnAt S.turns p + 1)).map V.int)) := by rw [e4, upd_same, List.map_set]
            have htq4 : H4 tq = some (.tup [.int (turnAt S.turns p), .int f]) := by rw [e4, upd_ne nmtq.symm]; exact htq3
            have k4 : ∀ x o, x ≠ mt → x ≠ ml → H1 x = some o → H4 x = some o := fun x o h1 h2 e => by rw [e4, upd_ne h1]; exact k3 x o h1 h2 e
            have hix4 : atI (((grown S.turns p).set p.toNat (turnAt S.turns p + 1)).map V.int) p = some (.int (turnAt S.turns p + 1)) := by
              obtain ⟨z, h1, h2⟩ := atI_ints (ns := (grown S.turns p).set p.toNat (turnAt S.turns p + 1)) p0 (by rw [List.length_set]; exact hgl.1)
              rw [List.getElem?_set_self (by omega)] at h2
              cases h2
              exact h1
            clear hmt3 hmt2 hmt hml3 hml2 hml ho2 ho3 e4
            walk_at "go"
            intro tp htp
            have ntp : m ≠ tp := fun z => by rw [← z, upd_same] at htp; cases htp
            have htp4 : H4 tp = none := by rw [upd_ne ntp.symm] at htp; exact htp
            have nmtp : mt ≠ tp := ne_of_none hmt4 htp4
            have nmlp : ml ≠ tp := ne_of_none hml4 htp4
            have nqp : tq ≠ tp := ne_of_none htq4 htp4
            have nmq : m ≠ tq := ntq
            have htp1 : H1 tp = none := by
              cases z : H1 tp with
              | none => rfl
              | some o => rw [k4 tp o nmtp.symm nmlp.symm z] at htp4; cases htp4
            refine q p tp (fun x => if x = p then tq else ad x) _ L ⟨?_, ?_, ?_, fun e he => ?_, nmt⟩ htp1 ?_ fun x o h1 h2 h3 e => ?_
            · rw [upd_ne ntp, upd_same]
              simp only [List.length_append, kd_len, List.length_singleton]
              rfl
            · rw [upd_ne nmtp, upd_ne nmt.symm]
              exact hmt4
            · rw [upd_ne nmlp, upd_ne nml.symm, hml4]
              show _ = some (HO.dK (kd (mf fun x => if x = p then tq else ad x) (S.live ++ [(p, turnAt S.turns p, f)])))
              rw [kd_snoc, kd_congr (f := mf fun x => if x = p then tq else ad x) (g := mf ad) fun e he => ?_]
              · show _ = some (HO.dK (kd (mf ad) S.live ++ [(Sum.inl p, V.ref (if p = p then tq else ad p))]))
                rw [if_pos rfl]
              · show V.ref (if e.1 = p then tq else ad e.1) = V.ref (ad e.1)
                rw [if_neg fun z => hin (by rw [← z]; exact List.mem_map.mpr ⟨e, he, rfl⟩)]
            · rcases List.mem_append.mp (show e ∈ S.live ++ [(p, turnAt S.turns p, f)] from he) with z | z
              · have hne : ¬ e.1 = p := fun y => hin (by rw [← y]; exact List.mem_map.mpr ⟨e, z, rfl⟩)
                rw [if_neg hne]
                have e1 := MA.tp e z
                have d1 : ad e.1 ≠ m := ne_of e1 MA.ob (by intro z; cases z)
                have d2 : ad e.1 ≠ mt := ne_of e1 MA.tu (by intro z; cases z)
                have d3 : ad e.1 ≠ ml := ne_of e1 MA.lv (by intro z; cases z)
                rw [upd_ne (ne_of_none e1 htp1), upd_ne d1]
                exact k4 _ _ d2 d3 e1
              · have e' := List.mem_singleton.mp z
                subst e'
                rw [if_pos rfl, upd_ne nqp, upd_ne nmq.symm]
                exact htq4
            · rw [upd_same]
              show some (HO.tup [V.int p, V.int (turnAt S.turns p + 1 - 1)]) = _
              rw [show turnAt S.turns p + 1 - 1 = turnAt S.turns p by omega]
            · rw [upd_ne (ne_of_none e htp1), upd_ne h1]
              exact k4 x o h2 h3 e
def spGrip : Sp := fun vs H Q _ => ∃ (x y : Addr) (p q : Int), vs = [.ref x, .ref y] ∧ H x = some (.tup [.int p, .int q]) ∧ H y = some (.tup [.int p, .int q]) ∧ ∀ H', Same H H' → Q (.bl true) H'
theorem ok__law_is_grip (T : Txt K mg a) : FnOk P w K mg base CX0 1 a.f__law_is_grip a.d__law_is_grip ["_law_found", "_law_due"] spGrip := by
  refine T.F__law_is_grip.ok sc__law_is_grip (fun vs H Q E h => ?_) (fun cdv A outer s H vs Q E hr h => ?_)
  · obtain ⟨x, y, p, q, rfl, _⟩ := h
    rfl
  · obtain ⟨x, y, p, q, rfl, hx, hy, k⟩ := h
    refine ⟨_, (pss_cons (ps_if (PW.pt (pw_or (pt_not (pt_val (pe_callB call_isi (by rfl) T.z_isinstance (by decide +kernel) (pa_cons (pv 0) (pa_cons (pe_bltn (v := .ty "tuple") (by rfl) T.z_tuple (by decide +kernel) rfl) pa_nil))))) (pw_or1 (pt_cmpR (op_neD (hr.units)) (pv 0) (pv 1) (nomark _))))) (pss_one (ps_ret pe_bl)) pss_nil)
      (pss_one (ps_ret (pe_not (pe_callB (cr_any rfl) (by rfl) T.z_any (by decide +kernel) (pa_cons (pe_lc (own := [("_law_part", 2)]) (g := gName 2) (tt := tYes) (te := (tCB (rIsi K) _)) rfl sc__law_is_grip.nd (pi_tup (pv 0)) (blkOk_by (own := [("_law_part", 2)]) (N := n__law_is_grip) (sc := defScope s__law_is_grip) (by decide +kernel)) (fun _ _ _ _ _ => (pg_name (i := 2) sc__law_is_grip.nd rfl (Or.inl rfl))) (fun _ _ _ _ _ => pts_nil) (fun _ _ _ _ _ => (pe_callB call_isi (by rfl) T.z_isinstance (by decide +kernel) (pa_cons (pv 2) (pa_cons (pe_bltn (v := .ty "bool") (by rfl) T.z_bool (by decide +kernel) rfl) pa_nil))))) pa_nil)))))), ?_⟩
    refine ⟨_, rfl, _, _, .type "tuple", .type "tuple", true, rfl, .ty _, .base (.tup hx), kit_ty (by decide +kernel), _, rfl, ?_⟩
    refine ifF rfl ?_
    refine ⟨_, rfl, _, rfl, pairD (p, q), pairD (p, q), pairD_of hx, pairD_of hy, rfl, rfl, _, rfl, ?_⟩
    refine ifF (by rw [eqv_self rfl]; rfl) ?_
    walk_at "go"
    intro D hD
    refine lcT (K := K) (a := x) (xs := [.int p, .int q]) (fun i H' => H' D = some (.lst ((List.replicate i false).map V.bl)) ∧ Same H H') ?_ ?_ ?_ ?_
    · exact ⟨upd_same, Same.upd_new hD⟩
    · exact fun i H' _ h => SqT.of (h.2 _ _ hx)
    · rintro i z H' hi ⟨h1, h2⟩
      obtain ⟨u, rfl⟩ : ∃ u : Int, z = .int u := by
        have := List.mem_of_getElem? hi
        simp only [List.mem_cons, List.not_mem_nil, or_false] at this
        rcases this with rfl | rfl
        · exact ⟨_, rfl⟩
        · exact ⟨_, rfl⟩
      have hi2 : i < 2 := (List.getElem?_eq_some_iff.mp hi).1
      refine ⟨rfl, ?_⟩
      refine ⟨_, rfl, _, _, .type "int", .type "bool", false, rfl, .ty _, .base (.int u), kit_ty (by decide +kernel), ?_⟩
      refine ⟨_, h1, small_lt (by rw [List.length_map, List.length_replicate]; omega), wait ⟨?_, fun b o e => ?_⟩⟩
      · rw [upd_same, List.replicate_succ', List.map_append] <;> rfl
      · rw [upd_ne (ne_of_none e hD)]
        exact h2 b o e
    · rintro H' ⟨h1, h2⟩
      refine ⟨_, [false, false], rfl, SqL.of h1, _, rfl, ?_⟩
      exact k _ h2
/-- _law_stands: True -/
def spStands (K : PySem.W.Frag) (C : Addr) : Sp := fun vs H Q _ => ∃ (t lt dk m mt ml : Addr) (ad : Int → Addr) (S : Tb), vs = [.ref t, .ref m] ∧ TabAt C H t lt dk S ∧ ModAt H m mt ml ad S ∧ dk ≠ ml ∧ Wf S ∧ S.live.length ≤ 5000 ∧ ∀ H', Same H H' → Q (.bl true) H'
theorem told_pairs (S : Tb) (ys : List Int) : told S ys = (ys.map fun p => (p, turnOf S p)).map pairD := by
  unfold told
  rw [List.map_map] <;> rfl
theorem told_shaped (S : Tb) (ys : List Int) : SeqAt.shaped (.list (told S ys)) = true := by
  rw [told_pairs]
  exact shaped_pairs _
theorem told_len (S : Tb) (ys : List Int) : (told S ys).length = ys.length := List.length_map _
theorem ok__law_stands (T : Txt K mg a) : FnOk P w K mg base CX0 4 a.f__law_stands a.d__law_stands ["_law_table", "_law_model"] (spStands K a.c_Table) := by
  have G_Table_alive := ok_Table_alive (P := P) (w := w) (base := base) T
  have G_Table___len__ := ok_Table___len__ (P := P) (w := w) (base := base) T
  have G_Table_most := ok_Table_most (P := P) (w := w) (base := base) T
  have G_Table_look := ok_Table_look (P := P) (w := w) (base := base) T
  refine T.F__law_stands.ok sc__law_stands (fun vs H Q E h => ?_) (fun cdv A outer s H vs Q E hr h => ?_)
  · obtain ⟨t, lt, dk, m, mt, ml, ad, S, rfl, _⟩ := h
    rfl
  · obtain ⟨t, lt, dk, m, mt, ml, ad, S, rfl, TA, MA, ndm, W, h5, q⟩ := h
    have ho := MA.ob
    have hml := MA.lv
    have hk := kd_keys (mf ad) S.live
    obtain ⟨dx, hto⟩ := TA.ob
    refine ⟨_, (pss_cons (ps_asg (pv 1) (pg_unl rfl (pgs_cons (pg_name (i := 2) sc__law_stands.nd rfl (Or.inl rfl)) (pgs_cons (pg_name (i := 3) sc__law_stands.nd rfl (Or.inr rfl)) (pgs_cons (pg_name (i := 4) sc__law_stands.nd rfl (Or.inl rfl)) pgs_nil)))))
      (pss_cons (ps_setLc (i := 5) (own := [("_law_place", 7)]) (g := gName 7) (tt := tYes) (te := (tTup (tCons _ (tCons (tOp (rIxT K) _ _) tNil)))) rfl sc__law_stands.nd rfl rfl (sw_true rfl rfl rfl (by decide +kernel)) (pi_list (by exact (pe_callB (call_sortedDX rfl) (by rfl) T.z_sorted (by decide +kernel) (pa_cons (pv 3) pa_nil)))) (blkOk_by (own := [("_law_place", 7)]) (N := n__law_stands) (sc := defScope s__law_stands) (by decide +kernel)) (fun _ _ _ _ _ => (pg_name (i := 7) sc__law_stands.nd rfl (Or.inl rfl))) (fun _ _ _ _ _ => pts_nil) (fun _ _ _ _ _ => (pe_tup (pa_cons (pv 7) (pa_cons (pe_ix ix_tup (pe_dget (hu_of hr) (pv 3) (pv 7) (fun _ _ => rfl)) pe_int (fun _ _ => rfl)) pa_nil)))))
      (pss_cons (ps_set (i := 6) sc__law_stands.nd rfl (Or.inl rfl) (pe_meth0 (pv 0) T.cl_Table T.mt_Table_alive G_Table_alive (hr.mono (by decide)) T.b_Table_alive .nil pass0))
      (pss_cons (ps_if (PW.pt (pw_or (pt_not (pt_val (pe_callB call_isi (by rfl) T.z_isinstance (by decide +kernel) (pa_cons (pv 6) (pa_cons (pe_bltn (v := .ty "list") (by rfl) T.z_list (by decide +kernel) rfl) pa_nil))))) (pw_or (pt_cmpR (op_neD (hr.units)) (pv 6) (pv 5) (nomark _)) (pw_or (pt_cmpR op_ne (pe_callB (call_lenO T.mt_Table___len__ G_Table___len__ (hr.mono (by decide)) T.b_Table___len__ pass0) (by rfl) T.z_len PySem.boot_len (pa_cons (pv 0) pa_nil)) (pe_callB call_lenK (by rfl) T.z_len PySem.boot_len (pa_cons (pv 5) pa_nil)) (nomark _)) (pw_or1 (pt_cmpR op_ne (pe_meth0 (pv 0) T.cl_Table T.mt_Table_most G_Table_most (hr.mono (by decide)) T.b_Table_most .nil pass0) (pv 4) (nomark _))))))) (pss_one (ps_ret pe_bl)) pss_nil)
      (pss_cons (ps_expr (pe_bm PySem.F.plainAttrs_list PySem.F.slot_list_append PySem.F.type_list_append mt_append (pv 6) (pa_cons (pe_tup (pa_cons pe_int (pa_cons pe_int pa_nil))) pa_nil)))
      (pss_mid (ps_expr (pe_bm0 PySem.F.plainAttrs_list PySem.F.slot_list_reverse PySem.F.type_list_reverse mt_reverse (pv 6)))
      (pss_cons (ps_stop (ps_lock (ps_for PassesOwn.never rfl (pi_keys (pv 3)) (pg_name (i := 7) sc__law_stands.nd rfl (Or.inl rfl)) (pss_one (ps_if (pt_cmpR op_ne (pe_meth (pv 0) T.cl_Table T.mt_Table_look G_Table_look (hr.mono (by decide)) T.b_Table_look .nil pass0 (pa_cons (pe_tup (pa_cons (pv 7) (pa_cons (pe_ix ix_tup (pe_dget (hu_of hr) (pv 3) (pv 7) (fun _ _ => rfl)) pe_int (fun _ _ => rfl)) pa_nil))) pa_nil)) (pe_ix ix_tup (pe_dget (hu_of hr) (pv 3) (pv 7) (fun _ _ => rfl)) pe_int (fun _ _ => rfl)) (nomark _)) (pss_one (ps_ret pe_bl)) pss_nil)))))
      (pss_one (ps_ret (pe_cmpR (op_eqD (hr.units)) (pe_meth0 (pv 0) T.cl_Table T.mt_Table_alive G_Table_alive (hr.mono (by decide)) T.b_Table_alive .nil pass0) (pv 5) (nomark _))))))))))), ?_⟩
    walk_at "go"
    intro ys l perm srt hl
    have hlen : ys.length ≤ 5000 := by
      rw [perm.length_eq, List.length_map]
      exact h5
    walk_at "go"
    intro D hD
    have nlD : l ≠ D := fun z => by rw [← z, upd_same] at hD; cases hD
    have hD0 : H D = none := by rw [upd_ne nlD.symm] at hD; exact hD
    refine lcL (K := K) (a := l) (xs := ys.map V.int) (fun i H' => ∃ ts, H' D = some (.lst (ts.map V.ref)) ∧ Tups H' ts ((ys.take i).map fun p => (p, turnOf S p)) ∧ Same (upd H l (.lst (ys.map V.int))) H') ?_ ?_ ?_ ?_
    · exact ⟨[], upd_same, Paired.nil, Same.upd_new hD⟩
    · rintro i H' _ ⟨_, _, _, h⟩
      exact SqL.of (h _ _ upd_same)
    · rintro i y H' hi ⟨ts, h1, h2, h3⟩
      obtain ⟨u, rfl, hu, hiu⟩ := ints_at hi
      obtain ⟨e, he, rfl⟩ := List.mem_map.mp (perm.mem_iff.mp (List.mem_of_getElem? hu))
      obtain ⟨_, htu⟩ := live_at W he
      have hml' := h3 _ _ (Same.upd_new hl _ _ hml)
      have htp' := h3 _ _ (Same.upd_new hl _ _ (MA.tp e he))
      have hget : DGet H' ml (.int e.1) (some (.ref (ad e.1))) := by
        have := DGet.k (k := Sum.inl e.1) hml'
        rw [kd_val W.nd he] at this
        exact this
      have hts : ts.length = i := by
        rw [h2.len, List.length_map, List.length_take]
        omega
      refine ⟨rfl, ?_⟩
      walk_at "go"
      intro tp htp
      have nDt : D ≠ tp := ne_of_none h1 htp
      refine ⟨_, upd_get nDt h1, small_lt (by rw [List.length_map]; omega), wait ⟨ts ++ [tp], ?_, ?_, ?_⟩⟩
      · rw [upd_same, List.map_append] <;> rfl
      · rw [List.take_add_one, hu, Option.toList_some, List.map_append]
        refine Tups.snoc (h2.keep fun b xs e' => ?_) ?_
        · rw [upd_ne (ne_of e' h1 (by intro z; cases z)), upd_ne (ne_of_none e' htp)]
          exact e'
        · rw [upd_ne nDt.symm, upd_same]
          show some (HO.tup [V.int e.1, V.int e.2.1]) = some (HO.tup [V.int e.1, V.int (turnOf S e.1)])
          rw [htu]
      · intro b o e'
        have e2 := h3 _ _ e'
        rw [upd_ne (ne_of_none e' hD), upd_ne (ne_of_none e2 htp)]
        exact e2
    · rintro H1 ⟨ts, h1, h2, h3⟩
      rw [List.length_map, List.take_length] at h2
      have s1 : Same H H1 := (Same.upd_new hl).trans h3
      have TA1 := TA.same s1
      have MA1 := MA.same s1
      obtain ⟨dx1, hto1⟩ := TA1.ob
      have hlts : ts.length = ys.length := by rw [h2.len, List.length_map]
      -- told = table.alive()
      walk_at "go"
      intro D2 ys2 xs2 H2 perm2 srt2 hD2 h2D dp2 s2
      have eys : ys2 = ys := sorted_same (perm2.trans perm.symm) srt2 srt
      subst eys
      have hD12 := s2 _ _ h1
      have nDD : D ≠ D2 := ne_of_none h1 hD2
      have dD : Dp K H2 (.ref D) (.list (told S ys2)) := .lst (SqL.of hD12) (by rw [told_pairs]; exact (h2.keep fun b xs e => s2 _ _ e).dp)
      have dD2 : Dp K H2 (.ref D2) (.list (told S ys2)) := .lst (SqL.of h2D) dp2
      have TA2 := TA1.same s2
      obtain ⟨dx2, hto2⟩ := TA2.ob
      have eL : (S.live.length : Int) = (ts.map V.ref).length := by rw [List.length_map, hlts, perm.length_eq, List.length_map]
      refine ⟨_, rfl, _, _, .type "list", .type "list", true, rfl, .ty _, .base (.lst h2D), kit_ty (by decide +kernel), _, rfl, ?_⟩
      refine ifF rfl ?_
      refine ⟨_, rfl, _, rfl, _, _, dD2, dD, told_shaped _ _, told_shaped _ _, _, rfl, ?_⟩
      refine ifF (by rw [eqv_self (told_shaped _ _)]; rfl) ?_
      walk_at "go"
      refine ifNN (congrArg V.int eL) ?_
      walk_at "go"
      refine ifNN rfl ?_
      walk_at "go"
      intro tz htz
      have nDz : D2 ≠ tz := ne_of_none h2D htz
      have hx2 : xs2.length ≤ 5000 := by
        rw [dp2.len, told_len]
        exact hlen
      have h2D' : upd H2 tz (.tup [.int 0, .int 0]) D2 = some (.lst xs2) := upd_get nDz h2D
      walk_at "go"
      refine mid_of (fun σ H3 => σ = [some (.ref t), some (.ref m), some (.ref mt), some (.ref ml), some (.int S.peak), some (.ref D), some (.ref D2), none] ∧ ∀ x o, x ≠ D2 → H2 x = some o → H3 x = some o) ?_ ?_
      · walk_at "go"
        refine wait ⟨rfl, fun x o n e => ?_⟩
        rw [upd_ne n, upd_ne n, upd_ne (ne_of_none e htz)]
        exact e
      · rintro σ H3 ⟨rfl, k3⟩
        have s3 : Same H1 H3 := fun x o e => k3 x o (ne_of_none e hD2) (s2 x o e)
        have TA3 := TA1.same s3
        have MA3 := MA1.same s3
        have hml3 := MA3.lv
        have hD3 := s3 _ _ h1
        refine stop_in ⟨ml, _, hml3, trivial, fun od => ?_⟩
        obtain ⟨H4, e4⟩ : ∃ H4, H4 = upd H3 ml (.frz od (.dK (kd (mf ad) S.live))) := ⟨_, rfl⟩
        rw [← e4]
        have hml4 : H4 ml = some (.frz od (.dK (kd (mf ad) S.live))) := by rw [e4, upd_same]
        have k4 : ∀ x o, x ≠ ml → H3 x = some o → H4 x = some o := fun x o n e => by rw [e4, upd_ne n]; exact e
        obtain ⟨dx3, hto3⟩ := TA3.ob
        have TA4 : TabAt a.c_Table H4 t lt dk S := ⟨⟨dx3, k4 _ _ (ne_of hto3 hml3 (by intro z; cases z)) hto3⟩, k4 _ _ (ne_of TA3.tu hml3 (by intro z; cases z)) TA3.tu, k4 _ _ ndm TA3.kp⟩
        refine ⟨_, rfl, ml, od, rfl, .inl ⟨_, hml4, ?_⟩⟩
        refine forK (fun i σ H' => (∃ v, σ = [some (.ref t), some (.ref m), some (.ref mt), some (.ref ml), some (.int S.peak), some (.ref D), some (.ref D2), v]) ∧ Same H4 H') ?_ ?_ ?_ ?_
        · exact ⟨⟨_, rfl⟩, Same.refl _⟩
        · exact fun i σ H' _ h => h.2 _ _ hml4
        · rintro i k v σ H' hi ⟨⟨u, rfl⟩, s5⟩
          obtain ⟨e, he, rfl, rfl⟩ := kd_at hi
          have hml5 := s5 _ _ hml4
          have htp5 : H' (ad e.1) = some (.tup [.int e.2.1, .int e.2.2]) := s5 _ _ (k4 _ _ (ne_of (MA3.tp e he) hml3 (by intro z; cases z)) (MA3.tp e he))
          have TA5 := TA4.same s5
          obtain ⟨dx5, hto5⟩ := TA5.ob
          have hget : DGet H' ml (.int e.1) (some (.ref (ad e.1))) := .inl ⟨_, Sum.inl e.1, .inr ⟨od, hml5⟩, rfl, (kd_val (f := mf ad) W.nd he).symm⟩
          walk_at "go"
          intro tp htp
          have s6 : Same H' (upd H' tp (.tup [.int e.1, .int e.2.1])) := Same.upd_new htp
          have TA6 := TA5.same s6
          have htp6 := s6 _ _ htp5
          have hget6 : DGet (upd H' tp (.tup [.int e.1, .int e.2.1])) ml (.int e.1) (some (.ref (ad e.1))) := .inl ⟨_, Sum.inl e.1, .inr ⟨od, s6 _ _ hml5⟩, rfl, (kd_val (f := mf ad) W.nd he).symm⟩
          refine ⟨t, lt, dk, tp, S, e, rfl, TA6, W, he, SqT.of upd_same, ?_⟩
          walk_at "go"
          refine ifNN rfl ?_
          exact wait ⟨⟨_, rfl⟩, s5.trans s6⟩
        · rintro σ H5 ⟨⟨v, rfl⟩, s5⟩
          refine ⟨s5 _ _ hml4, ?_⟩
          obtain ⟨H6, e6⟩ : ∃ H6, H6 = upd H5 ml (.dK (kd (mf ad) S.live)) := ⟨_, rfl⟩
          have s6 : Same H3 H6 := fun x o e => by
            rw [e6]
            by_cases n : x = ml
            · rw [n, upd_same]
              rw [n, hml3] at e
              exact e
            · rw [upd_ne n]
              exact s5 _ _ (k4 x o n e)
          rw [← e6]
          have TA6 := TA3.same s6
          obtain ⟨dx6, hto6⟩ := TA6.ob
          walk_at "go"
          intro D3 ys3 xs3 H7 perm3 srt3 hD3n h3D dp3 s7
          have eys : ys3 = ys2 := sorted_same (perm3.trans perm2.symm) srt3 srt2
          subst eys
          have dD7 : Dp K H7 (.ref D) (.list (told S ys3)) := .lst (SqL.of (s7 _ _ (s6 _ _ hD3))) (by rw [told_pairs]; exact (h2.keep fun b xs e => s7 _ _ (s6 _ _ (s3 _ _ e))).dp)
          refine ⟨_, rfl, _, _, .lst (SqL.of h3D) dp3, dD7, told_shaped _ _, told_shaped _ _, ?_⟩
          rw [eqv_self (told_shaped _ _)]
          exact q _ (((s1.trans s3).trans s6).trans s7)
end
end Pf
set_option Elab.async false
set_option linter.all false
set_option maxRecDepth 100000
set_option maxHeartbeats 4000000
namespace Pf
open PySem L2
local macro_rules | `(tactic| walk_at "nz") => `(tactic| (show (_ : Int) ≠ 0; omega))
local macro_rules | `(tactic| walk_at "ne") => `(tactic| first | assumption | (apply Ne.symm; assumption))
local macro_rules | `(tactic| walk_at "hp") => `(tactic| first | assumption | exact upd_same | (refine upd_get ?_ ?_; walk_at "ne"; walk_at "hp"))
local macro_rules | `(tactic| walk_at "sd") => `(tactic| first
  | rfl
  | assumption
  | (with_reducible show (_ : Int) < _; omega)
  | (with_reducible show (_ : Int) ≤ _; omega)
  | (with_reducible show (_ : Nat) < _; omega)
  | (with_reducible show (_ : Nat) ≤ _; omega)
  | exact kV_int _
  | exact kV_str _
  | (show (_ : Int) ≠ 0; omega)
  | exact SqL.of (by walk_at "hp")
  | exact ⟨_, SqL.of (by walk_at "hp")⟩
  | exact ⟨_, SqT.of (by walk_at "hp")⟩
  | exact ⟨_, (by assumption)⟩
  | exact SqT.of (by walk_at "hp")
  | exact Rd.of (by walk_at "hp")
  | exact Or.inl (SqL.of (by walk_at "hp"))
  | exact Or.inr (SqT.of (by walk_at "hp"))
  | (walk_at "hp")
  | (exact Or.inl ⟨rfl, _, SqL.of (by walk_at "hp")⟩)
  | (exact Or.inl ⟨by omega, by omega⟩)
  | (exact Or.inr ⟨by omega, by omega⟩)
  | (refine ⟨?_, ?_, ?_⟩ <;> omega)
  | omega
  | (exact small_le (by first | omega | (simp only [List.length_cons, List.length_nil]; omega)))
  | (exact small_lt (by first | omega | (simp only [List.length_cons, List.length_nil]; omega)))
  | exact Nat.le_of_ble_eq_true rfl
  | decide)
local macro_rules | `(tactic| walk_at "st") => `(tactic| first
  | with_reducible refine sq_seq ?_
  | apply Exists.intro
  | (refine And.intro ?_ ?_; (walk_at "sd")))
local macro_rules | `(tactic| walk_at "go") => `(tactic| repeat (walk_at "st"))
section
variable {P : Program} {w : World} {K : PySem.W.Frag} {mg : Str → Option Value} {base : Heap} {a : Ad}
/-! ### the law -/
/-- the lists and dicts of box, table and model are unlike ones -/
structure Apart (b g l lt dk m mt ml : Addr) : Prop where
  n1 : dk ≠ ml
  n2 : lt ≠ m
  n3 : lt ≠ mt
  b1 : b ≠ lt
  b2 : b ≠ m
  b3 : b ≠ mt
  g1 : g ≠ lt
  g2 : g ≠ m
  g3 : g ≠ mt
  l1 : l ≠ lt
  l2 : l ≠ m
  l3 : l ≠ mt
/-- behind a draw table and model stand as they did -/
theorem TabAt.draw {C : Addr} {H H' : Hp} {b g l lt dk t : Addr} {n : Int} {S : Tb} (h : TabAt C H t lt dk S) (B : BoxAt H b g l n) (n1 : b ≠ lt) (n2 : g ≠ lt) (k : Keep2 b g H H') : TabAt C H' t lt dk S := by
  obtain ⟨⟨xb, hb⟩, ⟨xg, hg⟩, _⟩ := B.lists
  refine h.keep fun x o hx e => k x o ?_ ?_ e
  · rcases hx with rfl | rfl | rfl
    · obtain ⟨dx, ho⟩ := h.ob
      exact ne_of ho hb (by intro z; cases z)
    · exact n1.symm
    · exact ne_of h.kp hb (by intro z; cases z)
  · rcases hx with rfl | rfl | rfl
    · obtain ⟨dx, ho⟩ := h.ob
      exact ne_of ho hg (by intro z; cases z)
    · exact n2.symm
    · exact ne_of h.kp hg (by intro z; cases z)
theorem ModAt.draw {H H' : Hp} {b g l m mt ml : Addr} {ad : Int → Addr} {n : Int} {S : Tb} (h : ModAt H m mt ml ad S) (B : BoxAt H b g l n) (n1 : b ≠ m) (n2 : b ≠ mt) (n3 : g ≠ m) (n4 : g ≠ mt) (k : Keep2 b g H H') : ModAt H' m mt ml ad S := by
  obtain ⟨⟨xb, hb⟩, ⟨xg, hg⟩, _⟩ := B.lists
  refine h.keep fun x o hx e => k x o ?_ ?_ e
  · rcases hx with rfl | rfl | rfl | ⟨xs, rfl⟩
    · exact n1.symm
    · exact n2.symm
    · exact ne_of h.lv hb (by intro z; cases z)
    · exact ne_of e hb (by intro z; cases z)
  · rcases hx with rfl | rfl | rfl | ⟨xs, rfl⟩
    · exact n3.symm
    · exact n4.symm
    · exact ne_of h.lv hg (by intro z; cases z)
    · exact ne_of e hg (by intro z; cases z)
/-- behind a change of the model's three objects -/
theorem TabAt.mod {C : Addr} {H H' : Hp} {t lt dk m mt ml : Addr} {ad : Int → Addr} {S S' : Tb} (h : TabAt C H t lt dk S) (M : ModAt H m mt ml ad S') (n1 : dk ≠ ml) (n2 : lt ≠ m) (n3 : lt ≠ mt) (k : ∀ x o, x ≠ m → x ≠ mt → x ≠ ml → H x = some o → H' x = some o) : TabAt C H' t lt dk S := by
  obtain ⟨dx, ho⟩ := h.ob
  refine h.keep fun x o hx e => ?_
  rcases hx with rfl | rfl | rfl
  · exact k _ _ (ne_of ho M.ob (by intro z; cases z)) (ne_of ho M.tu (by intro z; cases z)) (ne_of ho M.lv (by intro z; cases z)) e
  · exact k _ _ n2 n3 (ne_of h.tu M.lv (by intro z; cases z)) e
  · exact k _ _ (ne_of h.kp M.ob (by intro z; cases z)) (ne_of h.kp M.tu (by intro z; cases z)) n1 e
theorem BoxAt.mod {H H' : Hp} {b g l m mt ml : Addr} {ad : Int → Addr} {n : Int} {S' : Tb} (B : BoxAt H b g l n) (M : ModAt H m mt ml ad S') (b2 : b ≠ m) (b3 : b ≠ mt) (g2 : g ≠ m) (g3 : g ≠ mt) (l2 : l ≠ m) (l3 : l ≠ mt) (k : ∀ x o, x ≠ m → x ≠ mt → x ≠ ml → H x = some o → H' x = some o) : BoxAt H' b g l n := by
  obtain ⟨⟨xb, hb⟩, ⟨xg, hg⟩, ⟨xl, hl⟩⟩ := B.lists
  refine B.keep fun x o e hx => ?_
  rcases hx with rfl | rfl | rfl
  · exact k _ _ b2 b3 (ne_of hb M.lv (by intro z; cases z)) e
  · exact k _ _ g2 g3 (ne_of hg M.lv (by intro z; cases z)) e
  · exact k _ _ l2 l3 (ne_of hl M.lv (by intro z; cases z)) e
/-- behind a change of the table's three objects -/
theorem ModAt.tab {C : Addr} {H H' : Hp} {t lt dk m mt ml : Addr} {ad : Int → Addr} {S S' : Tb} (M : ModAt H m mt ml ad S) (h : TabAt C H t lt dk S') (n1 : dk ≠ ml) (n2 : lt ≠ m) (n3 : lt ≠ mt) (k : ∀ x o, x ≠ t → x ≠ lt → x ≠ dk → H x = some o → H' x = some o) : ModAt H' m mt ml ad S := by
  obtain ⟨dx, ho⟩ := h.ob
  refine M.keep fun x o hx e => ?_
  rcases hx with rfl | rfl | rfl | ⟨xs, rfl⟩
  · exact k _ _ (ne_of M.ob ho (by intro z; cases z)) n2.symm (ne_of M.ob h.kp (by intro z; cases z)) e
  · exact k _ _ (ne_of M.tu ho (by intro z; cases z)) n3.symm (ne_of M.tu h.kp (by intro z; cases z)) e
  · exact k _ _ (ne_of M.lv ho (by intro z; cases z)) (ne_of M.lv h.tu (by intro z; cases z)) n1.symm e
  · exact k _ _ (ne_of e ho (by intro z; cases z)) (ne_of e h.tu (by intro z; cases z)) (ne_of e h.kp (by intro z; cases z)) e
theorem BoxAt.tab {C : Addr} {H H' : Hp} {b g l t lt dk : Addr} {n : Int} {S' : Tb} (B : BoxAt H b g l n) (h : TabAt C H t lt dk S') (b1 : b ≠ lt) (g1 : g ≠ lt) (l1 : l ≠ lt) (k : ∀ x o, x ≠ t → x ≠ lt → x ≠ dk → H x = some o → H' x = some o) : BoxAt H' b g l n := by
  obtain ⟨dx, ho⟩ := h.ob
  obtain ⟨⟨xb, hb⟩, ⟨xg, hg⟩, ⟨xl, hl⟩⟩ := B.lists
  refine B.keep fun x o e hx => ?_
  rcases hx with rfl | rfl | rfl
  · exact k _ _ (ne_of hb ho (by intro z; cases z)) b1 (ne_of hb h.kp (by intro z; cases z)) e
  · exact k _ _ (ne_of hg ho (by intro z; cases z)) g1 (ne_of hg h.kp (by intro z; cases z)) e
  · exact k _ _ (ne_of hl ho (by intro z; cases z)) l1 (ne_of hl h.kp (by intro z; cases z)) e
theorem turns_len {S : Tb} (W : Wf S) {p f : Int} (L : Least S.keys p) : (S.begin p f).turns.length ≤ S.turns.length + 1 := by
  show ((grown S.turns p).set _ _).length ≤ _
  rw [List.length_set]
  exact (grown_len L.pos (W.least_le L)).2
structure All (C : Addr) (H : Hp) (b g l t lt dk m mt ml : Addr) (ad : Int → Addr) (n : Int) (S : Tb) : Prop where
  box : BoxAt H b g l n
  tab : TabAt C H t lt dk S
  mod : ModAt H m mt ml ad S
  wf : Wf S
/-! ### several tables, each with its own places -/
structure Ad6 where
  t : Addr
  lt : Addr
  dk : Addr
  m : Addr
  mt : Addr
  ml : Addr
structure St6 where
  ad : Int → Addr
  S : Tb
structure Dis (e f : Ad6) : Prop where
  t : e.t ≠ f.t
  d1 : e.dk ≠ f.dk
  d2 : e.dk ≠ f.ml
  d3 : e.ml ≠ f.dk
  d4 : e.ml ≠ f.ml
  l1 : e.lt ≠ f.lt
  l2 : e.lt ≠ f.m
  l3 : e.lt ≠ f.mt
  m1 : e.m ≠ f.lt
  m2 : e.m ≠ f.m
  m3 : e.m ≠ f.mt
  o1 : e.mt ≠ f.lt
  o2 : e.mt ≠ f.m
  o3 : e.mt ≠ f.mt
theorem Dis.symm {e f : Ad6} (d : Dis e f) : Dis f e :=
  ⟨d.t.symm, d.d1.symm, d.d3.symm, d.d2.symm, d.d4.symm, d.l1.symm, d.m1.symm, d.o1.symm, d.l2.symm, d.m2.symm, d.o2.symm, d.l3.symm, d.m3.symm, d.o3.symm⟩
/-- what a deed leaves -/
def Off (b g : Addr) (e : Ad6) (H H' : Hp) : Prop := ∀ x o, x ≠ b → x ≠ g → x ≠ e.t → x ≠ e.lt → x ≠ e.dk → x ≠ e.m → x ≠ e.mt → x ≠ e.ml → H x = some o → H' x = some o
theorem TabAt.off {C : Addr} {H H' : Hp} {b g l : Addr} {n : Int} {e f : Ad6} {ad : Int → Addr} {S S' S2 : Tb} (h : TabAt C H f.t f.lt f.dk S) (B : BoxAt H b g l n) (Te : TabAt C H e.t e.lt e.dk S') (Me : ModAt H e.m e.mt e.ml ad S2) (d : Dis f e) (hb : b ≠ f.lt) (hg : g ≠ f.lt) (k : Off b g e H H') : TabAt C H' f.t f.lt f.dk S := by
  obtain ⟨⟨xb, eb⟩, ⟨xg, eg⟩, _⟩ := B.lists
  obtain ⟨dx, ho⟩ := h.ob
  obtain ⟨dxe, hoe⟩ := Te.ob
  refine h.keep fun x o hx e => ?_
  rcases hx with rfl | rfl | rfl
  · exact k _ _ (ne_of ho eb (by intro z; cases z)) (ne_of ho eg (by intro z; cases z)) d.t (ne_of ho Te.tu (by intro z; cases z)) (ne_of ho Te.kp (by intro z; cases z)) (ne_of ho Me.ob (by intro z; cases z)) (ne_of ho Me.tu (by intro z; cases z)) (ne_of ho Me.lv (by intro z; cases z)) e
  · exact k _ _ hb.symm hg.symm (ne_of h.tu hoe (by intro z; cases z)) d.l1 (ne_of h.tu Te.kp (by intro z; cases z)) d.l2 d.l3 (ne_of h.tu Me.lv (by intro z; cases z)) e
  · exact k _ _ (ne_of h.kp eb (by intro z; cases z)) (ne_of h.kp eg (by intro z; cases z)) (ne_of h.kp hoe (by intro z; cases z)) (ne_of h.kp Te.tu (by intro z; cases z)) d.d1 (ne_of h.kp Me.ob (by intro z; cases z)) (ne_of h.kp Me.tu (by intro z; cases z)) d.d2 e
theorem ModAt.off {C : Addr} {H H' : Hp} {b g l : Addr} {n : Int} {e f : Ad6} {ad ad2 : Int → Addr} {S S' S2 : Tb} (h : ModAt H f.m f.mt f.ml ad2 S) (B : BoxAt H b g l n) (Te : TabAt C H e.t e.lt e.dk S') (Me : ModAt H e.m e.mt e.ml ad S2) (d : Dis f e) (hb : b ≠ f.m) (hg : g ≠ f.m) (hb2 : b ≠ f.mt) (hg2 : g ≠ f.mt) (k : Off b g e H H') : ModAt H' f.m f.mt f.ml ad2 S := by
  obtain ⟨⟨xb, eb⟩, ⟨xg, eg⟩, _⟩ := B.lists
  obtain ⟨dxe, hoe⟩ := Te.ob
  refine h.keep fun x o hx e => ?_
  rcases hx with rfl | rfl | rfl | ⟨xs, rfl⟩
  · exact k _ _ hb.symm hg.symm (ne_of h.ob hoe (by intro z; cases z)) d.m1 (ne_of h.ob Te.kp (by intro z; cases z)) d.m2 d.m3 (ne_of h.ob Me.lv (by intro z; cases z)) e
  · exact k _ _ hb2.symm hg2.symm (ne_of h.tu hoe (by intro z; cases z)) d.o1 (ne_of h.tu Te.kp (by intro z; cases z)) d.o2 d.o3 (ne_of h.tu Me.lv (by intro z; cases z)) e
  · exact k _ _ (ne_of h.lv eb (by intro z; cases z)) (ne_of h.lv eg (by intro z; cases z)) (ne_of h.lv hoe (by intro z; cases z)) (ne_of h.lv Te.tu (by intro z; cases z)) d.d3 (ne_of h.lv Me.ob (by intro z; cases z)) (ne_of h.lv Me.tu (by intro z; cases z)) d.d4 e
  · exact k _ _ (ne_of e eb (by intro z; cases z)) (ne_of e eg (by intro z; cases z)) (ne_of e hoe (by intro z; cases z)) (ne_of e Te.tu (by intro z; cases z)) (ne_of e Te.kp (by intro z; cases z)) (ne_of e Me.ob (by intro z; cases z)) (ne_of e Me.tu (by intro z; cases z)) (ne_of e Me.lv (by intro z; cases z)) e
def spDeed (C : Addr) : Sp := fun vs H Q _ => ∃ (b g l : Addr) (e : Ad6) (ad : Int → Addr) (n : Int) (S : Tb), vs = [.ref b, .ref e.t, .ref e.m] ∧ All C H b g l e.t e.lt e.dk e.m e.mt e.ml ad n S ∧ Apart b g l e.lt e.dk e.m e.mt e.ml ∧ n ≤ 800000 ∧ S.live.length ≤ 4000 ∧ S.turns.length ≤ 4000 ∧
  ∀ (H' : Hp) (ad' : Int → Addr) (n' : Int) (S' : Tb), All C H' b g l e.t e.lt e.dk e.m e.mt e.ml ad' n' S' → Off b g e H H' → n' ≤ n + 10 → S'.live.length ≤ S.live.length + 1 → S'.turns.length ≤ S.turns.length + 1 → Q (.bl true) H'
theorem ok__law_deed (T : Txt K mg a) : FnOk P w K mg base CX0 4 a.f__law_deed a.d__law_deed ["_law_box_here", "_law_table", "_law_model"] (spDeed a.c_Table) := by
  have G__law_take := ok__law_take (P := P) (w := w) (base := base) T
  have G__law_figure := ok__law_figure (P := P) (w := w) (base := base) T
  have G__law_begun := ok__law_begun (P := P) (w := w) (base := base) T
  have G__law_is_grip := ok__law_is_grip (P := P) (w := w) (base := base) T
  have G_Table_begin := ok_Table_begin (P := P) (w := w) (base := base) T
  have G_Table_end := ok_Table_end (P := P) (w := w) (base := base) T
  refine T.F__law_deed.ok sc__law_deed (fun vs H Q E h => ?_) (fun cdv A outer s H vs Q E hr h => ?_)
  · obtain ⟨b, g, l, e6, ad, n, S, rfl, _⟩ := h
    rfl
  · obtain ⟨b, g, l, ⟨t, lt, dk, m, mt, ml⟩, ad, n, S, rfl, ⟨B, TA, MA, W⟩, ⟨n1, n2, n3, b1, b2, b3, g1, g2, g3, l1, l2, l3⟩, hn, hl4, ht4, q⟩ := h
    have ho := MA.ob
    refine ⟨_, (pss_cons (ps_set (i := 3) sc__law_deed.nd rfl (Or.inl rfl) (pe_ix ix_list (pv 2) pe_int (fun _ _ => rfl)))
      (pss_cons (ps_if (pt_mid (PW.pt (pw_or (pt_cmpR op_lt (pe_call G__law_take (hr.mono (by decide)) rfl T.m__law_take T.F__law_take.kp T.b__law_take .nil pass0 (pa_cons (pv 0) (pa_cons pe_int pa_nil))) pe_int (nomark _)) (pw_or1 (pt_cmpR op_eq (pe_callB call_lenD (by rfl) T.z_len PySem.boot_len (pa_cons (pv 3) pa_nil)) pe_int (nomark _)))))) (pss_cons (ps_set (i := 4) sc__law_deed.nd rfl (Or.inl rfl) (pe_call G__law_figure (hr.mono (by decide)) rfl T.m__law_figure T.F__law_figure.kp T.b__law_figure .nil pass0 (pa_cons (pv 0) pa_nil)))
      (pss_one (ps_ret (pe_call G__law_is_grip (hr.mono (by decide)) rfl T.m__law_is_grip T.F__law_is_grip.kp T.b__law_is_grip .nil pass0 (pa_cons (pe_meth (pv 1) T.cl_Table T.mt_Table_begin G_Table_begin (hr.mono (by decide)) T.b_Table_begin .nil pass0 (pa_cons (pv 4) pa_nil)) (pa_cons (pe_call G__law_begun (hr.mono (by decide)) rfl T.m__law_begun T.F__law_begun.kp T.b__law_begun .nil pass0 (pa_cons (pv 2) (pa_cons (pv 4) pa_nil))) pa_nil)))))) pss_nil)
      (pss_cons (ps_set (i := 5) sc__law_deed.nd rfl (Or.inl rfl) (pe_ix ix_list (pe_callB (call_sortedDX rfl) (by rfl) T.z_sorted (by decide +kernel) (pa_cons (pv 3) pa_nil)) (pe_call G__law_take (hr.mono (by decide)) rfl T.m__law_take T.F__law_take.kp T.b__law_take .nil pass0 (pa_cons (pv 0) (pa_cons (pe_callB call_lenD (by rfl) T.z_len PySem.boot_len (pa_cons (pv 3) pa_nil)) pa_nil))) (fun _ _ => rfl)))
      (pss_cons (ps_asg (pe_dpop1 (pv 3) (pv 5) ⟨rfl, rfl, rfl, rfl⟩) (pg_tup rfl (pgs_cons (pg_name (i := 6) sc__law_deed.nd rfl (Or.inl rfl)) (pgs_cons (pg_name (i := 4) sc__law_deed.nd rfl (Or.inl rfl)) pgs_nil))))
      (pss_one (ps_ret (pe_cmpR op_eq (pe_meth (pv 1) T.cl_Table T.mt_Table_end G_Table_end (hr.mono (by decide)) T.b_Table_end .nil pass0 (pa_cons (pe_tup (pa_cons (pv 5) (pa_cons (pv 6) pa_nil))) pa_nil)) (pv 4) (nomark _)))))))), ?_⟩
    walk_at "go"
    refine midT_of (fun c H2 => BoxAt H2 b g l (n + 1) ∧ TabAt a.c_Table H2 t lt dk S ∧ ModAt H2 m mt ml ad S ∧ Keep2 b g H H2 ∧ (c = false → 0 < S.live.length)) ?_ ?_
    · walk_at "go"
      intro r H2 r0 r1 B2 k2
      have TA2 := TA.draw B b1 g1 k2
      have MA2 := MA.draw B b2 b3 g2 g3 k2
      have hml2 := MA2.lv
      walk_at "go"
      refine ifD (fun _ => ?_) (fun _ => ?_)
      · exact wait ⟨B2, TA2, MA2, k2, fun z => nomatch z⟩
      · walk_at "go"
        refine wait ⟨B2, TA2, MA2, k2, fun z => ?_⟩
        have z2 := of_decide_eq_false z
        rw [kd_len] at z2
        rcases Nat.eq_zero_or_pos S.live.length with y | y
        · rw [y] at z2
          exact absurd rfl z2
        · exact y
    · rintro c H2 ⟨B2, TA2, MA2, k2, hc⟩
      have hml2 := MA2.lv
      obtain ⟨dx2, hto2⟩ := TA2.ob
      refine ifB (fun ec => ?_) (fun ec => ?_)
      · -- a handle is begun
        walk_at "go"
        intro f H3 B3 k3
        have TA3 := TA2.draw B2 b1 g1 k3
        have MA3 := MA2.draw B2 b2 b3 g2 g3 k3
        obtain ⟨dx3, hto3⟩ := TA3.ob
        walk_at "go"
        intro p tq H4 L TA4 hq3 hq4 k4
        have MA4 := MA3.tab TA3 n1 n2 n3 k4
        have B4 := B3.tab TA3 b1 g1 l1 k4
        walk_at "go"
        intro p' tp ad' H5 L' MA5 htp4 htp5 k5
        obtain rfl := L'.uniq L
        have TA5 := TA4.mod MA4 n1 n2 n3 k5
        have B5 := B4.mod MA4 b2 b3 g2 g3 l2 l3 k5
        have hq5 := k5 _ _ (ne_of hq4 MA4.ob (by intro z; cases z)) (ne_of hq4 MA4.tu (by intro z; cases z)) (ne_of hq4 MA4.lv (by intro z; cases z)) hq4
        have WB := W.begin (f := f) L
        have hlb := begin_len S p' f
        have htb := turns_len W (f := f) L
        walk_at "go"
        intro H6 s6
        refine q H6 ad' _ _ ⟨B5.same s6, TA5.same s6, MA5.same s6, WB⟩ (fun x o a1 a2 a3 a4 a5 a6 a7 a8 e => ?_) (by omega) (by omega) (by omega)
        exact s6 _ _ (k5 _ _ a6 a7 a8 (k4 _ _ a3 a4 a5 (k3 _ _ a1 a2 (k2 _ _ a1 a2 e))))
      · -- one is ended
        have hpos := hc ec
        have hk := kd_keys (mf ad) S.live
        walk_at "go"
        intro ys ll perm srt hll
        have sA : Same H2 (upd H2 ll (.lst (ys.map V.int))) := Same.upd_new hll
        have hmlA := sA _ _ hml2
        have hlenD : (kd (mf ad) S.live).length = S.live.length := kd_len _ _
        have hys : ys.length = S.live.length := by rw [perm.length_eq, List.length_map]
        have BA := B2.same sA
        refine ⟨_, rfl, _, rfl, ml, _, rfl, hmlA, ?_⟩
        rw [hlenD]
        refine ⟨b, g, l, n + 1, _, rfl, BA, by omega, by omega, by omega, fun r H3 r0 r1 B3 k3 => ?_⟩
        obtain ⟨⟨xb, hb2⟩, ⟨xg, hg2⟩, _⟩ := B2.lists
        have hll3 := k3 _ _ (ne_of_none hb2 hll).symm (ne_of_none hg2 hll).symm upd_same
        have TA3 := (TA2.same sA).draw BA b1 g1 k3
        have MA3 := (MA2.same sA).draw BA b2 b3 g2 g3 k3
        have hml3 := MA3.lv
        obtain ⟨dx3, hto3⟩ := TA3.ob
        obtain ⟨pl, hpl, hpl2⟩ := atI_ints (ns := ys) r0 (by omega)
        obtain ⟨e, he, rfl⟩ := List.mem_map.mp (perm.mem_iff.mp (List.mem_of_getElem? hpl2))
        have hI : IsD H3 ml := .inl ⟨_, .inl hml3⟩
        have htp3 := MA3.tp e he
        have hvv := kd_val (f := mf ad) W.nd he
        have nmm : m ≠ ml := ne_of MA3.ob hml3 (by intro z; cases z)
        have nmt : mt ≠ ml := ne_of MA3.tu hml3 (by intro z; cases z)
        obtain ⟨H4, e4⟩ : ∃ H4, H4 = upd H3 ml (.dK (dropK (kd (mf ad) S.live) (Sum.inl e.1))) := ⟨_, rfl⟩
        have k4 : ∀ x o, x ≠ ml → H3 x = some o → H4 x = some o := fun x o n e => by rw [e4, upd_ne n]; exact e
        have WE := W.end e.1
        have hle := end_len S e.1
        have MA4 : ModAt H4 m mt ml ad (S.end e.1) := by
          refine ⟨k4 _ _ nmm MA3.ob, k4 _ _ nmt MA3.tu, by rw [e4, upd_same, kd_drop] <;> rfl, fun e' he' => ?_, MA3.ne⟩
          have := MA3.tp e' (List.mem_filter.mp he').1
          exact k4 _ _ (ne_of this hml3 (by intro z; cases z)) this
        have TA4 := TA3.mod MA3 n1 n2 n3 fun x o _ _ h3 ex => k4 x o h3 ex
        have B4 := B3.mod MA3 b2 b3 g2 g3 l2 l3 fun x o _ _ h3 ex => k4 x o h3 ex
        have htp4 : H4 (ad e.1) = some (.tup [.int e.2.1, .int e.2.2]) := k4 _ _ (ne_of htp3 hml3 (by intro z; cases z)) htp3
        obtain ⟨dx4, hto4⟩ := TA4.ob
        walk_at "go"
        rw [← e4]
        walk_at "go"
        intro th hth
        have s5 : Same H4 (upd H4 th (.tup [.int e.1, .int e.2.1])) := Same.upd_new hth
        have TA5 := TA4.same s5
        refine ⟨t, lt, dk, th, S, e, rfl, TA5, W, he, SqT.of upd_same, fun H6 TA6 k6 => ?_⟩
        refine ⟨_, rfl, rfl, ?_⟩
        rw [decide_eq_true rfl]
        refine q H6 ad _ _ ⟨(B4.same s5).tab TA5 b1 g1 l1 fun x o _ _ h ex => k6 x o h ex, TA6, (MA4.same s5).tab TA5 n1 n2 n3 fun x o _ _ h ex => k6 x o h ex, WE⟩ (fun x o a1 a2 a3 a4 a5 a6 a7 a8 ex => ?_) (by omega) (by omega) (by show S.turns.length ≤ _; omega)
        exact k6 _ _ a5 (s5 _ _ (k4 _ _ a8 (k3 _ _ a1 a2 (sA _ _ (k2 _ _ a1 a2 ex)))))
def spTwin (C : Addr) : Sp := fun vs H Q _ => ∃ (t lt dk : Addr) (S : Tb), vs = [.ref t] ∧ TabAt C H t lt dk S ∧ ∀ (t2 lt2 dk2 : Addr) (H' : Hp), H t2 = none → H lt2 = none → H dk2 = none → TabAt C H' t2 lt2 dk2 S → Same H H' → Q (.ref t2) H'
theorem ok_Table_twin (T : Txt K mg a) : FnOk P w K mg base CX0 3 a.f_Table_twin a.d_Table_twin ["self"] (spTwin a.c_Table) := by
  have G_Table___init__ := ok_Table___init__ (P := P) (w := w) (base := base) T
  have cl := T.cl_Table
  have n1 := T.na_Table_turns
  have n2 := T.na_Table_kept
  have n3 := T.na_Table_peak
  refine T.F_Table_twin.ok sc_Table_twin (fun vs H Q E h => ?_) (fun cdv A outer s H vs Q E hr h => ?_)
  · obtain ⟨t, lt, dk, S, rfl, _⟩ := h
    rfl
  · obtain ⟨t, lt, dk, S, rfl, TA, q⟩ := h
    refine ⟨_, (pss_cons (ps_set (i := 1) sc_Table_twin.nd rfl (Or.inl rfl) (pe_make0 T.mk_Table G_Table___init__ (hr.mono (by decide)) rfl T.m_Table T.b_Table___init__ .nil pass0))
      (pss_cons (ps_fld (pv 1) (pe_callTy call_list_of (by rfl) T.z_list (by decide +kernel) (pa_cons (pe_fld (pv 0) rfl) pa_nil)) rfl)
      (pss_cons (ps_fld (pv 1) (pe_callTy call_dictD (by rfl) T.z_dict (by decide +kernel) (pa_cons (pe_fld (pv 0) rfl) pa_nil)) rfl)
      (pss_cons (ps_fld (pv 1) (pe_fld (pv 0) rfl) rfl)
      (pss_one (ps_ret (pv 1))))))), ?_⟩
    intro x dx nx ndx nex
    refine ⟨x, dx, rfl, upd_same, fun lt0 dk0 H1 hlt0 hdk0 TA1 k1 => ⟨rfl, ?_⟩⟩
    have s1 : Same H H1 := fun y o e => k1 y o (ne_of_none e nx) (by rw [upd_ne (ne_of_none e nx), upd_ne (ne_of_none e ndx)]; exact e)
    have TB := TA.same s1
    obtain ⟨dxt, hto⟩ := TB.ob
    have htu := TB.tu
    have hkp := TB.kp
    obtain ⟨dx1, hx1⟩ := TA1.ob
    have ntx : t ≠ x := by
      obtain ⟨dq, hq⟩ := TA.ob
      exact ne_of_none hq nx
    have nltx : lt ≠ x := ne_of htu hx1 (by intro z; cases z)
    have ndkx : dk ≠ x := ne_of hkp hx1 (by intro z; cases z)
    walk_at "go"
    intro l2 hl2
    have nxl : x ≠ l2 := ne_of_none hx1 hl2
    have ntl : t ≠ l2 := ne_of_none hto hl2
    have ndl : dk ≠ l2 := ne_of_none hkp hl2
    walk_at "go"
    intro d2 hd2
    have nxd : x ≠ d2 := fun z => by rw [← z, upd_same] at hd2; cases hd2
    have hd2b : upd H1 l2 (.lst (S.turns.map V.int)) d2 = none := by rw [upd_ne nxd.symm] at hd2; exact hd2
    have nld : l2 ≠ d2 := fun z => by rw [← z, upd_same] at hd2b; cases hd2b
    have hd2c : H1 d2 = none := by rw [upd_ne nld.symm] at hd2b; exact hd2b
    have ntd : t ≠ d2 := ne_of_none hto hd2c
    walk_at "go"
    refine q x l2 d2 _ nx (s1.free hl2) (s1.free hd2c) ⟨⟨dx1, ?_⟩, ?_, ?_⟩ fun y o e => ?_
    · exact upd_same
    · rw [upd_ne nxl.symm, upd_ne nxl.symm, upd_ne nld, upd_ne nxl.symm, upd_same] <;> rfl
    · rw [upd_ne nxd.symm, upd_ne nxd.symm, upd_same] <;> rfl
    · have e1 := s1 _ _ e
      rw [upd_ne (ne_of_none e nx), upd_ne (ne_of_none e nx), upd_ne (ne_of_none e1 hd2c), upd_ne (ne_of_none e nx), upd_ne (ne_of_none e1 hl2)]
      exact e1
structure Fam (C : Addr) (H : Hp) (b g l TL ML : Addr) (n : Int) (k M : Nat) (A : Nat → Ad6) (D : Nat → St6) : Prop where
  box : BoxAt H b g l n
  tl : H TL = some (.lst ((List.range k).map fun i => .ref (A i).t))
  ml : H ML = some (.lst ((List.range k).map fun i => .ref (A i).m))
  tab : ∀ i, i < k → TabAt C H (A i).t (A i).lt (A i).dk (D i).S
  mod : ∀ i, i < k → ModAt H (A i).m (A i).mt (A i).ml (D i).ad (D i).S
  wf : ∀ i, i < k → Wf (D i).S
  sz : ∀ i, i < k → (D i).S.live.length ≤ M ∧ (D i).S.turns.length ≤ M
structure FamA (b g l TL ML : Addr) (k : Nat) (A : Nat → Ad6) : Prop where
  ap : ∀ i, i < k → Apart b g l (A i).lt (A i).dk (A i).m (A i).mt (A i).ml
  dj : ∀ i j, i < k → j < k → i ≠ j → Dis (A i) (A j)
  tl : ∀ i, i < k → TL ≠ (A i).lt ∧ TL ≠ (A i).m ∧ TL ≠ (A i).mt
  ml : ∀ i, i < k → ML ≠ (A i).lt ∧ ML ≠ (A i).m ∧ ML ≠ (A i).mt
  ne : TL ≠ ML
  bt : b ≠ TL ∧ g ≠ TL ∧ l ≠ TL
  bm : b ≠ ML ∧ g ≠ ML ∧ l ≠ ML
theorem Fam.same {C : Addr} {H H' : Hp} {b g l TL ML : Addr} {n : Int} {k M : Nat} {A : Nat → Ad6} {D : Nat → St6} (F : Fam C H b g l TL ML n k M A D) (s : Same H H') : Fam C H' b g l TL ML n k M A D :=
  ⟨F.box.same s, s _ _ F.tl, s _ _ F.ml, fun i hi => (F.tab i hi).same s, fun i hi => (F.mod i hi).same s, F.wf, F.sz⟩
theorem Fam.draw {C : Addr} {H H' : Hp} {b g l TL ML : Addr} {n n' : Int} {k M : Nat} {A : Nat → Ad6} {D : Nat → St6} (F : Fam C H b g l TL ML n k M A D) (FA : FamA b g l TL ML k A) (B : BoxAt H' b g l n') (s : Keep2 b g H H') : Fam C H' b g l TL ML n' k M A D :=
  ⟨B, s _ _ FA.bt.1.symm FA.bt.2.1.symm F.tl, s _ _ FA.bm.1.symm FA.bm.2.1.symm F.ml, fun i hi => (F.tab i hi).draw F.box (FA.ap i hi).b1 (FA.ap i hi).g1 s,
    fun i hi => (F.mod i hi).draw F.box (FA.ap i hi).b2 (FA.ap i hi).b3 (FA.ap i hi).g2 (FA.ap i hi).g3 s, F.wf, F.sz⟩
theorem Fam.deed {C : Addr} {H H' : Hp} {b g l TL ML : Addr} {n n' : Int} {k M i : Nat} {A : Nat → Ad6} {D : Nat → St6} {ad' : Int → Addr} {S' : Tb} (F : Fam C H b g l TL ML n k M A D) (FA : FamA b g l TL ML k A) (hi : i < k)
    (al : All C H' b g l (A i).t (A i).lt (A i).dk (A i).m (A i).mt (A i).ml ad' n' S') (o : Off b g (A i) H H') (h1 : S'.live.length ≤ M + 1) (h2 : S'.turns.length ≤ M + 1) :
    Fam C H' b g l TL ML n' k (M + 1) A (fun j => if j = i then ⟨ad', S'⟩ else D j) := by
  have Ti := F.tab i hi
  have Mi := F.mod i hi
  obtain ⟨dx, ho⟩ := Ti.ob
  have hl : ∀ x xs, x ≠ b → x ≠ g → x ≠ (A i).lt → x ≠ (A i).m → x ≠ (A i).mt → H x = some (.lst xs) → H' x = some (.lst xs) := fun x xs a1 a2 a3 a4 a5 e =>
    o x _ a1 a2 (ne_of e ho (by intro z; cases z)) a3 (ne_of e Ti.kp (by intro z; cases z)) a4 a5 (ne_of e Mi.lv (by intro z; cases z)) e
  refine ⟨al.box, hl _ _ FA.bt.1.symm FA.bt.2.1.symm (FA.tl i hi).1 (FA.tl i hi).2.1 (FA.tl i hi).2.2 F.tl, hl _ _ FA.bm.1.symm FA.bm.2.1.symm (FA.ml i hi).1 (FA.ml i hi).2.1 (FA.ml i hi).2.2 F.ml, fun j hj => ?_, fun j hj => ?_, fun j hj => ?_, fun j hj => ?_⟩
  · by_cases e : j = i
    · subst e
      rw [if_pos rfl]
      exact al.tab
    · rw [if_neg e]
      exact (F.tab j hj).off F.box Ti Mi (FA.dj j i hj hi e) (FA.ap j hj).b1 (FA.ap j hj).g1 o
  · by_cases e : j = i
    · subst e
      rw [if_pos rfl]
      exact al.mod
    · rw [if_neg e]
      exact (F.mod j hj).off F.box Ti Mi (FA.dj j i hj hi e) (FA.ap j hj).b2 (FA.ap j hj).g2 (FA.ap j hj).b3 (FA.ap j hj).g3 o
  · by_cases e : j = i
    · subst e
      rw [if_pos rfl]
      exact al.wf
    · rw [if_neg e]
      exact F.wf j hj
  · by_cases e : j = i
    · subst e
      rw [if_pos rfl]
      exact ⟨h1, h2⟩
    · rw [if_neg e]
      have := F.sz j hj
      omega
/-- a new table and its places come to the others -/
theorem Fam.more {C : Addr} {H H' : Hp} {b g l TL ML : Addr} {n : Int} {k M : Nat} {A : Nat → Ad6} {D : Nat → St6} (F : Fam C H b g l TL ML n k M A D) (FA : FamA b g l TL ML k A) (e : Ad6) (s : St6)
    (ht : ∃ dx fs, H e.t = none ∧ H' e.t = some (.ins C dx fs)) (n1 : H e.lt = none) (n2 : H e.dk = none) (n3 : H e.m = none) (n4 : H e.mt = none) (n5 : H e.ml = none)
    (x1 : e.dk ≠ e.ml) (x2 : e.lt ≠ e.m) (x3 : e.lt ≠ e.mt)
    (Te : TabAt C H' e.t e.lt e.dk s.S) (Me : ModAt H' e.m e.mt e.ml s.ad s.S) (We : Wf s.S) (sz : s.S.live.length ≤ M ∧ s.S.turns.length ≤ M)
    (h1 : H' TL = some (.lst ((List.range (k + 1)).map fun i => .ref (if i = k then e else A i).t))) (h2 : H' ML = some (.lst ((List.range (k + 1)).map fun i => .ref (if i = k then e else A i).m)))
    (o : ∀ x u, x ≠ TL → x ≠ ML → H x = some u → H' x = some u) :
    Fam C H' b g l TL ML n (k + 1) M (fun i => if i = k then e else A i) (fun i => if i = k then s else D i) ∧ FamA b g l TL ML (k + 1) (fun i => if i = k then e else A i) := by
  obtain ⟨⟨xb, hb⟩, ⟨xg, hg⟩, ⟨xl, hl⟩⟩ := F.box.lists
  obtain ⟨_, _, ht0, _⟩ := ht
  have nl : ∀ x xs, H x = some (.lst xs) → x ≠ e.lt ∧ x ≠ e.m ∧ x ≠ e.mt := fun x xs h => ⟨ne_of_none h n1, ne_of_none h n3, ne_of_none h n4⟩
  have ap : Apart b g l e.lt e.dk e.m e.mt e.ml := ⟨x1, x2, x3, (nl b _ hb).1, (nl b _ hb).2.1, (nl b _ hb).2.2, (nl g _ hg).1, (nl g _ hg).2.1, (nl g _ hg).2.2, (nl l _ hl).1, (nl l _ hl).2.1, (nl l _ hl).2.2⟩
  have dis : ∀ j, j < k → Dis (A j) e := fun j hj => by
    have Tj := F.tab j hj
    have Mj := F.mod j hj
    obtain ⟨dx, hx⟩ := Tj.ob
    exact ⟨ne_of_none hx ht0, ne_of_none Tj.kp n2, ne_of_none Tj.kp n5, ne_of_none Mj.lv n2, ne_of_none Mj.lv n5, (nl _ _ Tj.tu).1, (nl _ _ Tj.tu).2.1, (nl _ _ Tj.tu).2.2,
      (nl _ _ Mj.ob).1, (nl _ _ Mj.ob).2.1, (nl _ _ Mj.ob).2.2, (nl _ _ Mj.tu).1, (nl _ _ Mj.tu).2.1, (nl _ _ Mj.tu).2.2⟩
  have notL : ∀ x u, H x = some u → (∀ xs, u ≠ .lst xs) → H' x = some u := fun x u hx hu => o x u (ne_of hx F.tl (hu _)) (ne_of hx F.ml (hu _)) hx
  refine ⟨⟨F.box.keep fun x u hx h => ?_, h1, h2, fun j hj => ?_, fun j hj => ?_, fun j hj => ?_, fun j hj => ?_⟩, ⟨fun j hj => ?_, fun i j hi hj hij => ?_, fun j hj => ?_, fun j hj => ?_, FA.ne, FA.bt, FA.bm⟩⟩
  · rcases h with rfl | rfl | rfl
    · exact o _ _ FA.bt.1 FA.bm.1 hx
    · exact o _ _ FA.bt.2.1 FA.bm.2.1 hx
    · exact o _ _ FA.bt.2.2 FA.bm.2.2 hx
  · by_cases z : j = k
    · simp only [if_pos z]
      exact Te
    · simp only [if_neg z]
      have hj' : j < k := by omega
      have Tj := F.tab j hj'
      obtain ⟨dx, hx⟩ := Tj.ob
      refine Tj.keep fun x u hx' h => ?_
      rcases hx' with rfl | rfl | rfl
      · exact notL _ _ h (by rw [hx] at h; cases h; intro xs z; cases z)
      · exact o _ _ (FA.tl j hj').1.symm (FA.ml j hj').1.symm h
      · exact notL _ _ h (by rw [Tj.kp] at h; cases h; intro xs z; cases z)
  · by_cases z : j = k
    · simp only [if_pos z]
      exact Me
    · simp only [if_neg z]
      have hj' : j < k := by omega
      have Mj := F.mod j hj'
      refine Mj.keep fun x u hx' h => ?_
      rcases hx' with rfl | rfl | rfl | ⟨xs, rfl⟩
      · exact o _ _ (FA.tl j hj').2.1.symm (FA.ml j hj').2.1.symm h
      · exact o _ _ (FA.tl j hj').2.2.symm (FA.ml j hj').2.2.symm h
      · exact notL _ _ h (by rw [Mj.lv] at h; cases h; intro xs z; cases z)
      · exact notL _ _ h (by intro ys z; cases z)
  · by_cases z : j = k
    · simp only [if_pos z]
      exact We
    · simp only [if_neg z]
      exact F.wf j (by omega)
  · by_cases z : j = k
    · simp only [if_pos z]
      exact sz
    · simp only [if_neg z]
      exact F.sz j (by omega)
  · by_cases z : j = k
    · simp only [if_pos z]
      exact ap
    · simp only [if_neg z]
      exact FA.ap j (by omega)
  · by_cases z : i = k
    · have z2 : ¬ j = k := fun y => hij (z.trans y.symm)
      simp only [if_pos z, if_neg z2]
      exact (dis j (by omega)).symm
    · by_cases z2 : j = k
      · simp only [if_neg z, if_pos z2]
        exact dis i (by omega)
      · simp only [if_neg z, if_neg z2]
        exact FA.dj i j (by omega) (by omega) hij
  · by_cases z : j = k
    · simp only [if_pos z]
      exact nl _ _ F.tl
    · simp only [if_neg z]
      exact FA.tl j (by omega)
  · by_cases z : j = k
    · simp only [if_pos z]
      exact nl _ _ F.ml
    · simp only [if_neg z]
      exact FA.ml j (by omega)
theorem range_snoc {k : Nat} (f g : Nat → V) (h : ∀ i, i < k → g i = f i) : (List.range (k + 1)).map g = (List.range k).map f ++ [g k] := by
  rw [List.range_succ, List.map_append]
  have : (List.range k).map g = (List.range k).map f := List.map_congr_left fun i hi => h i (List.mem_range.mp hi)
  rw [this] <;> rfl
theorem at_range {k : Nat} {f : Nat → V} {i : Int} (h0 : 0 ≤ i) (h1 : i < k) : atI ((List.range k).map f) i = some (f i.toNat) := by
  obtain ⟨v, e1, e2⟩ := atI_in (xs := (List.range k).map f) h0 (by rw [List.length_map, List.length_range]; exact h1)
  rw [List.getElem?_map, List.getElem?_range (by omega)] at e2
  cases e2
  exact e1
def spSprung (C : Addr) : Sp := fun vs H Q _ => ∃ (b g l TL ML : Addr) (n : Int) (k M : Nat) (A : Nat → Ad6) (D : Nat → St6), vs = [.ref b, .ref TL, .ref ML] ∧ Fam C H b g l TL ML n k M A D ∧ FamA b g l TL ML k A ∧ n ≤ 800000 ∧ k ≤ 100 ∧ M ≤ 3000 ∧
  ∀ (H' : Hp) (A' : Nat → Ad6) (D' : Nat → St6), Fam C H' b g l TL ML (n + 1) (k + 1) M A' D' → FamA b g l TL ML (k + 1) A' → Q .non H'
theorem ok__law_sprung (T : Txt K mg a) : FnOk P w K mg base CX0 4 a.f__law_sprung a.d__law_sprung ["_law_box_here", "_law_tables", "_law_models"] (spSprung a.c_Table) := by
  have G__law_take := ok__law_take (P := P) (w := w) (base := base) T
  have G_Table___init__ := ok_Table___init__ (P := P) (w := w) (base := base) T
  have G_Table_twin := ok_Table_twin (P := P) (w := w) (base := base) T
  refine T.F__law_sprung.ok sc__law_sprung (fun vs H Q E h => ?_) (fun cdv A outer s H vs Q E hr h => ?_)
  · obtain ⟨b, g, l, TL, ML, n, k, M, A, D, rfl, _⟩ := h
    rfl
  · obtain ⟨b, g, l, TL, ML, n, k, M, A6, D6, rfl, F, FA, hn, hk, hM, q⟩ := h
    have hTL := F.tl
    have B := F.box
    have lenT : ((List.range k).map fun i => V.ref (A6 i).t).length = k := by rw [List.length_map, List.length_range]
    have lenM : ((List.range k).map fun i => V.ref (A6 i).m).length = k := by rw [List.length_map, List.length_range]
    refine ⟨_, (pss_cons (ps_set (i := 3) sc__law_sprung.nd rfl (Or.inl rfl) (pe_call G__law_take (hr.mono (by decide)) rfl T.m__law_take T.F__law_take.kp T.b__law_take .nil pass0 (pa_cons (pv 0) (pa_cons (pe_op op_add (pe_callB call_lenK (by rfl) T.z_len PySem.boot_len (pa_cons (pv 1) pa_nil)) pe_int) pa_nil))))
      (pss_one (ps_if (pt_cmpR op_eq (pv 3) (pe_callB call_lenK (by rfl) T.z_len PySem.boot_len (pa_cons (pv 1) pa_nil)) (nomark _)) (pss_cons (ps_expr (pe_bm PySem.F.plainAttrs_list PySem.F.slot_list_append PySem.F.type_list_append mt_append (pv 1) (pa_cons (pe_make0 T.mk_Table G_Table___init__ (hr.mono (by decide)) rfl T.m_Table T.b_Table___init__ .nil pass0) pa_nil)))
      (pss_one (ps_expr (pe_bm PySem.F.plainAttrs_list PySem.F.slot_list_append PySem.F.type_list_append mt_append (pv 2) (pa_cons (pe_lst (pa_cons (pe_lst pa_nil) (pa_cons pe_dnewK (pa_cons pe_int pa_nil)))) pa_nil))))) (pss_cons (ps_expr (pe_bm PySem.F.plainAttrs_list PySem.F.slot_list_append PySem.F.type_list_append mt_append (pv 1) (pa_cons (pe_meth0 (pe_ix ix_list (pv 1) (pv 3) (fun _ _ => rfl)) T.cl_Table T.mt_Table_twin G_Table_twin (hr.mono (by decide)) T.b_Table_twin .nil pass0) pa_nil)))
      (pss_one (ps_expr (pe_bm PySem.F.plainAttrs_list PySem.F.slot_list_append PySem.F.type_list_append mt_append (pv 2) (pa_cons (pe_lst (pa_cons (pe_callTy call_list_of (by rfl) T.z_list (by decide +kernel) (pa_cons (pe_ix ix_list (pe_ix ix_list (pv 2) (pv 3) (fun _ _ => rfl)) pe_int (fun _ _ => rfl)) pa_nil)) (pa_cons (pe_callTy call_dictD (by rfl) T.z_dict (by decide +kernel) (pa_cons (pe_ix ix_list (pe_ix ix_list (pv 2) (pv 3) (fun _ _ => rfl)) pe_int (fun _ _ => rfl)) pa_nil)) (pa_cons (pe_ix ix_list (pe_ix ix_list (pv 2) (pv 3) (fun _ _ => rfl)) pe_int (fun _ _ => rfl)) pa_nil)))) pa_nil)))))))), ?_⟩
    refine ⟨_, rfl, _, rfl, TL, _, rfl, .inl (SqL.of hTL), _, _, rfl, rfl, ?_⟩
    rw [lenT]
    refine ⟨b, g, l, n, (k : Int) + 1, rfl, B, by omega, by omega, by omega, fun r H1 r0 r1 B1 k1 => ?_⟩
    have F1 := F.draw FA B1 k1
    have hTL1 := F1.tl
    have hML1 := F1.ml
    have nTM := FA.ne
    refine ⟨_, rfl, _, rfl, TL, _, rfl, .inl (SqL.of hTL1), rfl, _, rfl, ?_⟩
    rw [lenT]
    refine ifD (fun _ => ?_) (fun ne => ?_)
    · -- a new one
      refine ⟨_, rfl, .inl ⟨rfl, _, SqL.of hTL1⟩, ?_⟩
      intro t dx ht hdx ndx
      refine ⟨t, dx, rfl, upd_same, fun lt dk H2 hlt hdk TA2 k2 => ⟨rfl, ?_⟩⟩
      have s2 : Same H1 H2 := fun x o e => k2 x o (ne_of_none e ht) (by rw [upd_ne (ne_of_none e ht), upd_ne (ne_of_none e hdx)]; exact e)
      have fr : ∀ y, upd (upd H1 dx (.own t)) t (.ins a.c_Table dx []) y = none → H1 y = none := fun y hy => by
        cases z : H1 y with
        | none => rfl
        | some o =>
          rw [upd_ne (ne_of_none z ht), upd_ne (ne_of_none z hdx), z] at hy
          cases hy
      have hlt1 := fr _ hlt
      have hdk1 := fr _ hdk
      have hTL2 := s2 _ _ hTL1
      have hML2 := s2 _ _ hML1
      obtain ⟨dx2, ht2⟩ := TA2.ob
      refine ⟨TL, _, _, rfl, rfl, hTL2, small_lt (by rw [lenT]; omega), ?_⟩
      obtain ⟨H3, e3⟩ : ∃ H3, H3 = upd H2 TL (.lst (((List.range k).map fun i => V.ref (A6 i).t) ++ [.ref t])) := ⟨_, rfl⟩
      rw [← e3]
      have k3 : ∀ x o, x ≠ TL → H2 x = some o → H3 x = some o := fun x o n e => by rw [e3, upd_ne n]; exact e
      have hML3 := k3 _ _ nTM.symm hML2
      refine ⟨_, rfl, .inl ⟨rfl, _, SqL.of hML3⟩, ?_⟩
      refine ⟨Nat.zero_le _, fun mt hmt => fun ml hml => ?_⟩
      have nmtl : mt ≠ ml := fun z => by rw [← z, upd_same] at hml; cases hml
      have hml3 : H3 ml = none := by rw [upd_ne nmtl.symm] at hml; exact hml
      refine ⟨(by show 3 ≤ sizeLine; decide), fun m hm => ?_⟩
      have nmlm : ml ≠ m := fun z => by rw [← z, upd_same] at hm; cases hm
      have hm3 : upd H3 mt (.lst []) m = none := by rw [upd_ne nmlm.symm] at hm; exact hm
      have nmtm : mt ≠ m := fun z => by rw [← z, upd_same] at hm3; cases hm3
      have hm2 : H3 m = none := by rw [upd_ne nmtm.symm] at hm3; exact hm3
      have hTL3 : H3 TL = some (.lst (((List.range k).map fun i => V.ref (A6 i).t) ++ [.ref t])) := by rw [e3, upd_same]
      have back : ∀ y, H3 y = none → H2 y = none := fun y hy => by
        cases z : H2 y with
        | none => rfl
        | some o =>
          by_cases n : y = TL
          · rw [n, hTL3] at hy; cases hy
          · rw [k3 y o n z] at hy; cases hy
      obtain ⟨H4, e4⟩ : ∃ H4, H4 = upd (upd (upd H3 mt (.lst [])) ml (.dK [])) m (.lst [.ref mt, .ref ml, .int 0]) := ⟨_, rfl⟩
      have s4 : Same H3 H4 := fun x o e => by
        rw [e4, upd_ne (ne_of_none e hm2), upd_ne (ne_of_none e hml3), upd_ne (ne_of_none e hmt)]
        exact e
      rw [← e4]
      have hML4 := s4 _ _ hML3
      refine ⟨ML, _, _, rfl, rfl, hML4, small_lt (by rw [lenM]; omega), ?_⟩
      obtain ⟨H5, e5⟩ : ∃ H5, H5 = upd H4 ML (.lst (((List.range k).map fun i => V.ref (A6 i).m) ++ [.ref m])) := ⟨_, rfl⟩
      rw [← e5]
      have k5 : ∀ x o, x ≠ ML → H4 x = some o → H5 x = some o := fun x o n e => by rw [e5, upd_ne n]; exact e
      have nM : ∀ y, H3 y = none → y ≠ ML := fun y hy => (ne_of_none hML3 hy).symm
      have nT : ∀ x u, H2 x = some u → (∀ xs, u ≠ .lst xs) → x ≠ TL ∧ x ≠ ML := fun x u hx hu => ⟨ne_of hx hTL2 (hu _), ne_of hx hML2 (hu _)⟩
      have up : ∀ x u, x ≠ TL → x ≠ ML → H2 x = some u → H5 x = some u := fun x u a1 a2 e => k5 _ _ a2 (s4 _ _ (k3 _ _ a1 e))
      have hlt2 := TA2.tu
      have hltT : lt ≠ TL := (ne_of_none hTL1 hlt1).symm
      have hltM : lt ≠ ML := (ne_of_none hML1 hlt1).symm
      have R := F1.more FA ⟨t, lt, dk, m, mt, ml⟩ ⟨fun _ => 0, ⟨[], [], 0⟩⟩ ⟨dx2, _, ht, up _ _ (nT _ _ ht2 (by intro xs z; cases z)).1 (nT _ _ ht2 (by intro xs z; cases z)).2 ht2⟩ hlt1 hdk1 (s2.free (back _ hm2)) (s2.free (back _ hmt)) (s2.free (back _ hml3))
        (ne_of_none TA2.kp (back _ hml3)) (ne_of_none hlt2 (back _ hm2)) (ne_of_none hlt2 (back _ hmt))
        ⟨⟨dx2, up _ _ (nT _ _ ht2 (by intro xs z; cases z)).1 (nT _ _ ht2 (by intro xs z; cases z)).2 ht2⟩, up _ _ hltT hltM hlt2, up _ _ (nT _ _ TA2.kp (by intro xs z; cases z)).1 (nT _ _ TA2.kp (by intro xs z; cases z)).2 TA2.kp⟩
        ⟨k5 _ _ (nM _ hm2) (by rw [e4, upd_same]), k5 _ _ (nM _ hmt) (by rw [e4, upd_ne nmtm, upd_ne nmtl, upd_same] <;> rfl), k5 _ _ (nM _ hml3) (by rw [e4, upd_ne nmlm, upd_same] <;> rfl), (fun _ h => nomatch h), nmtm.symm⟩
        Wf.empty ⟨Nat.zero_le _, Nat.zero_le _⟩
        (by
          rw [k5 _ _ nTM (s4 _ _ hTL3), range_snoc (fun i => V.ref (A6 i).t) (fun i => V.ref (if i = k then (⟨t, lt, dk, m, mt, ml⟩ : Ad6) else A6 i).t) (fun i hi => by rw [if_neg (by omega)])]
          simp only [if_pos])
        (by
          rw [e5, upd_same, range_snoc (fun i => V.ref (A6 i).m) (fun i => V.ref (if i = k then (⟨t, lt, dk, m, mt, ml⟩ : Ad6) else A6 i).m) (fun i hi => by rw [if_neg (by omega)])]
          simp only [if_pos])
        (fun x u a1 a2 e => up _ _ a1 a2 (s2 _ _ e))
      exact q _ _ _ R.1 R.2
    · -- a twin
      have hr : r < k := by
        have : r ≠ (k : Int) := fun z => ne (by rw [z])
        omega
      have hrn : r.toNat < k := by omega
      have aT := at_range (f := fun i => V.ref (A6 i).t) r0 hr
      have aM := at_range (f := fun i => V.ref (A6 i).m) r0 hr
      have TA := F1.tab _ hrn
      have MA := F1.mod _ hrn
      have W := F1.wf _ hrn
      have SZ := F1.sz _ hrn
      obtain ⟨dxo, hto⟩ := TA.ob
      refine ⟨_, rfl, .inl ⟨rfl, _, SqL.of hTL1⟩, ?_⟩
      refine ⟨_, rfl, _, rfl, TL, _, _, _, rfl, rfl, SqL.of hTL1, aT, (A6 r.toNat).t, dxo, _, rfl, hto, rfl, _, _, _, _, rfl, TA, fun t lt dk H2 ht hlt hdk TA2 s2 => ?_⟩
      have hTL2 := s2 _ _ hTL1
      have hML2 := s2 _ _ hML1
      obtain ⟨dx2, ht2⟩ := TA2.ob
      refine ⟨TL, _, _, rfl, rfl, hTL2, small_lt (by rw [lenT]; omega), ?_⟩
      obtain ⟨H3, e3⟩ : ∃ H3, H3 = upd H2 TL (.lst (((List.range k).map fun i => V.ref (A6 i).t) ++ [.ref t])) := ⟨_, rfl⟩
      rw [← e3]
      have k3 : ∀ x o, x ≠ TL → H2 x = some o → H3 x = some o := fun x o n e => by rw [e3, upd_ne n]; exact e
      have hML3 := k3 _ _ nTM.symm hML2
      have M2 := MA.same s2
      have M3 : ModAt H3 (A6 r.toNat).m (A6 r.toNat).mt (A6 r.toNat).ml (D6 r.toNat).ad (D6 r.toNat).S :=
        ⟨k3 _ _ (FA.tl _ hrn).2.1.symm M2.ob, k3 _ _ (FA.tl _ hrn).2.2.symm M2.tu, k3 _ _ (ne_of M2.lv hTL2 (by intro z; cases z)) M2.lv, fun e he => k3 _ _ (ne_of (M2.tp e he) hTL2 (by intro z; cases z)) (M2.tp e he), M2.ne⟩
      have hmo := M3.ob
      have hmtu := M3.tu
      have hmlv := M3.lv
      refine ⟨_, rfl, .inl ⟨rfl, _, SqL.of hML3⟩, ?_⟩
      refine ⟨_, rfl, _, rfl, ML, _, _, _, rfl, rfl, SqL.of hML3, aM, (A6 r.toNat).m, _, _, _, rfl, rfl, SqL.of hmo, rfl, (A6 r.toNat).mt, _, rfl, .inl (SqL.of hmtu), fun mt hmt => ?_⟩
      have s3a : Same H3 (upd H3 mt (.lst ((D6 r.toNat).S.turns.map V.int))) := Same.upd_new hmt
      refine ⟨_, rfl, _, rfl, ML, _, _, _, rfl, rfl, SqL.of (s3a _ _ hML3), aM, (A6 r.toNat).m, _, _, _, rfl, rfl, SqL.of (s3a _ _ hmo), rfl, (A6 r.toNat).ml, _, rfl, .inl (s3a _ _ hmlv), fun ml hml => ?_⟩
      have nmtl : mt ≠ ml := fun z => by rw [← z, upd_same] at hml; cases hml
      have hml3 : H3 ml = none := by rw [upd_ne nmtl.symm] at hml; exact hml
      have s3b : Same H3 (upd (upd H3 mt (.lst ((D6 r.toNat).S.turns.map V.int))) ml (.dK (kd (mf (D6 r.toNat).ad) (D6 r.toNat).S.live))) := s3a.trans (Same.upd_new hml)
      refine ⟨_, rfl, _, rfl, ML, _, _, _, rfl, rfl, SqL.of (s3b _ _ hML3), aM, (A6 r.toNat).m, _, _, _, rfl, rfl, SqL.of (s3b _ _ hmo), rfl, ?_⟩
      refine ⟨(by show 3 ≤ sizeLine; decide), fun m hm => ?_⟩
      have nmlm : ml ≠ m := fun z => by rw [← z, upd_same] at hm; cases hm
      have hm3 : upd H3 mt (.lst ((D6 r.toNat).S.turns.map V.int)) m = none := by rw [upd_ne nmlm.symm] at hm; exact hm
      have nmtm : mt ≠ m := fun z => by rw [← z, upd_same] at hm3; cases hm3
      have hm2 : H3 m = none := by rw [upd_ne nmtm.symm] at hm3; exact hm3
      have hTL3 : H3 TL = some (.lst (((List.range k).map fun i => V.ref (A6 i).t) ++ [.ref t])) := by rw [e3, upd_same]
      have back : ∀ y, H3 y = none → H2 y = none := fun y hy => by
        cases z : H2 y with
        | none => rfl
        | some o =>
          by_cases n : y = TL
          · rw [n, hTL3] at hy; cases hy
          · rw [k3 y o n z] at hy; cases hy
      obtain ⟨H4, e4⟩ : ∃ H4, H4 = upd (upd (upd H3 mt (.lst ((D6 r.toNat).S.turns.map V.int))) ml (.dK (kd (mf (D6 r.toNat).ad) (D6 r.toNat).S.live))) m (.lst [.ref mt, .ref ml, .int (D6 r.toNat).S.peak]) := ⟨_, rfl⟩
      have s4 : Same H3 H4 := fun x o e => by
        rw [e4, upd_ne (ne_of_none e hm2), upd_ne (ne_of_none e hml3), upd_ne (ne_of_none e hmt)]
        exact e
      rw [← e4]
      have hML4 := s4 _ _ hML3
      refine ⟨ML, _, _, rfl, rfl, hML4, small_lt (by rw [lenM]; omega), ?_⟩
      obtain ⟨H5, e5⟩ : ∃ H5, H5 = upd H4 ML (.lst (((List.range k).map fun i => V.ref (A6 i).m) ++ [.ref m])) := ⟨_, rfl⟩
      rw [← e5]
      have k5 : ∀ x o, x ≠ ML → H4 x = some o → H5 x = some o := fun x o n e => by rw [e5, upd_ne n]; exact e
      have nM : ∀ y, H3 y = none → y ≠ ML := fun y hy => (ne_of_none hML3 hy).symm
      have nT : ∀ x u, H2 x = some u → (∀ xs, u ≠ .lst xs) → x ≠ TL ∧ x ≠ ML := fun x u hx hu => ⟨ne_of hx hTL2 (hu _), ne_of hx hML2 (hu _)⟩
      have up : ∀ x u, x ≠ TL → x ≠ ML → H2 x = some u → H5 x = some u := fun x u a1 a2 e => k5 _ _ a2 (s4 _ _ (k3 _ _ a1 e))
      have hlt2 := TA2.tu
      have hltT : lt ≠ TL := (ne_of_none hTL1 hlt).symm
      have hltM : lt ≠ ML := (ne_of_none hML1 hlt).symm
      have R := F1.more FA ⟨t, lt, dk, m, mt, ml⟩ ⟨(D6 r.toNat).ad, (D6 r.toNat).S⟩ ⟨dx2, _, ht, up _ _ (nT _ _ ht2 (by intro xs z; cases z)).1 (nT _ _ ht2 (by intro xs z; cases z)).2 ht2⟩ hlt hdk (s2.free (back _ hm2)) (s2.free (back _ hmt)) (s2.free (back _ hml3))
        (ne_of_none TA2.kp (back _ hml3)) (ne_of_none hlt2 (back _ hm2)) (ne_of_none hlt2 (back _ hmt))
        ⟨⟨dx2, up _ _ (nT _ _ ht2 (by intro xs z; cases z)).1 (nT _ _ ht2 (by intro xs z; cases z)).2 ht2⟩, up _ _ hltT hltM hlt2, up _ _ (nT _ _ TA2.kp (by intro xs z; cases z)).1 (nT _ _ TA2.kp (by intro xs z; cases z)).2 TA2.kp⟩
        ⟨k5 _ _ (nM _ hm2) (by rw [e4, upd_same]), k5 _ _ (nM _ hmt) (by rw [e4, upd_ne nmtm, upd_ne nmtl, upd_same]), k5 _ _ (nM _ hml3) (by rw [e4, upd_ne nmlm, upd_same]), (fun e he => k5 _ _ (ne_of (s4 _ _ (M3.tp e he)) hML4 (by intro z; cases z)) (s4 _ _ (M3.tp e he))), nmtm.symm⟩
        W SZ
        (by
          rw [k5 _ _ nTM (s4 _ _ hTL3), range_snoc (fun i => V.ref (A6 i).t) (fun i => V.ref (if i = k then (⟨t, lt, dk, m, mt, ml⟩ : Ad6) else A6 i).t) (fun i hi => by rw [if_neg (by omega)])]
          simp only [if_pos])
        (by
          rw [e5, upd_same, range_snoc (fun i => V.ref (A6 i).m) (fun i => V.ref (if i = k then (⟨t, lt, dk, m, mt, ml⟩ : Ad6) else A6 i).m) (fun i hi => by rw [if_neg (by omega)])]
          simp only [if_pos])
        (fun x u a1 a2 e => up _ _ a1 a2 (s2 _ _ e))
      exact q _ _ _ R.1 R.2
theorem Fam.up {C : Addr} {H : Hp} {b g l TL ML : Addr} {n : Int} {k M M' : Nat} {A : Nat → Ad6} {D : Nat → St6} (F : Fam C H b g l TL ML n k M A D) (h : M ≤ M') : Fam C H b g l TL ML n k M' A D :=
  ⟨F.box, F.tl, F.ml, F.tab, F.mod, F.wf, fun i hi => by have := F.sz i hi; omega⟩
theorem of_range {k i : Nat} {f : Nat → V} {x : V} (h : ((List.range k).map f)[i]? = some x) : i < k ∧ x = f i := by
  have hi : i < k := by
    have := (List.getElem?_eq_some_iff.mp h).1
    rw [List.length_map, List.length_range] at this
    exact this
  rw [List.getElem?_map, List.getElem?_range hi] at h
  cases h
  exact ⟨hi, rfl⟩
def spLaw (K : PySem.W.Frag) : Sp := fun vs H Q _ => ∃ (c : Addr) (ns : List Int), vs = [.ref c] ∧ SqL K H c (ns.map V.int) ∧ ns.length ≤ 63 ∧ ∀ H', Q (.bl true) H'
theorem ok_law (T : Txt K mg a) : FnOk P w K mg base CX0 5 a.f_law a.d_law ["_law_script"] (spLaw K) := by
  have G__law_box := ok__law_box (P := P) (w := w) (base := base) T
  have G__law_take := ok__law_take (P := P) (w := w) (base := base) T
  have G__law_stands := ok__law_stands (P := P) (w := w) (base := base) T
  have G__law_deed := ok__law_deed (P := P) (w := w) (base := base) T
  have G__law_sprung := ok__law_sprung (P := P) (w := w) (base := base) T
  have G_Table___init__ := ok_Table___init__ (P := P) (w := w) (base := base) T
  refine T.F_law.ok sc_law (fun vs H Q E h => ?_) (fun cdv A outer s H vs Q E hr h => ?_)
  · obtain ⟨c, ns, rfl, _⟩ := h
    rfl
  · obtain ⟨c, ns, rfl, hS, hl, q⟩ := h
    refine ⟨_, (pss_cons (ps_set (i := 1) sc_law.nd rfl (Or.inl rfl) (pe_call G__law_box (hr.mono (by decide)) rfl T.m__law_box T.F__law_box.kp T.b__law_box .nil pass0 (pa_cons (pv 0) pa_nil)))
      (pss_cons (ps_set (i := 2) sc_law.nd rfl (Or.inl rfl) (pe_lst (pa_cons (pe_make0 T.mk_Table G_Table___init__ (hr.mono (by decide)) rfl T.m_Table T.b_Table___init__ .nil pass0) pa_nil)))
      (pss_cons (ps_set (i := 3) sc_law.nd rfl (Or.inl rfl) (pe_lst (pa_cons (pe_lst (pa_cons (pe_lst pa_nil) (pa_cons pe_dnewK (pa_cons pe_int pa_nil)))) pa_nil)))
      (pss_cons (ps_stop (ps_for PassesOwn.never rfl (pi_range1 rfl T.z_range (pa_cons (pe_op op_add pe_int (pe_call G__law_take (hr.mono (by decide)) rfl T.m__law_take T.F__law_take.kp T.b__law_take .nil pass0 (pa_cons (pv 1) (pa_cons pe_int pa_nil)))) pa_nil)) (pg_name (i := 4) sc_law.nd rfl (Or.inl rfl)) (pss_mid (ps_if (pt_mid (PW.pt (pw_and (pt_cmpR op_lt (pe_callB call_lenK (by rfl) T.z_len PySem.boot_len (pa_cons (pv 2) pa_nil)) pe_int (nomark _)) (pw_and1 (pt_cmpR op_eq (pe_call G__law_take (hr.mono (by decide)) rfl T.m__law_take T.F__law_take.kp T.b__law_take .nil pass0 (pa_cons (pv 1) (pa_cons pe_int pa_nil))) pe_int (nomark _)))))) (pss_one (ps_expr (pe_call G__law_sprung (hr.mono (by decide)) rfl T.m__law_sprung T.F__law_sprung.kp T.b__law_sprung .nil pass0 (pa_cons (pv 1) (pa_cons (pv 2) (pa_cons (pv 3) pa_nil)))))) (pss_cons (ps_set (i := 5) sc_law.nd rfl (Or.inl rfl) (pe_call G__law_take (hr.mono (by decide)) rfl T.m__law_take T.F__law_take.kp T.b__law_take .nil pass0 (pa_cons (pv 1) (pa_cons (pe_callB call_lenK (by rfl) T.z_len PySem.boot_len (pa_cons (pv 2) pa_nil)) pa_nil))))
      (pss_one (ps_if (pt_not (pt_val (pe_call G__law_deed (hr.mono (by decide)) rfl T.m__law_deed T.F__law_deed.kp T.b__law_deed .nil pass0 (pa_cons (pv 1) (pa_cons (pe_ix ix_list (pv 2) (pv 5) (fun _ _ => rfl)) (pa_cons (pe_ix ix_list (pv 3) (pv 5) (fun _ _ => rfl)) pa_nil)))))) (pss_one (ps_ret pe_bl)) pss_nil))))
      (pss_one (ps_stop (ps_for PassesOwn.never rfl (pi_zip rfl T.z_zip (pa_cons (pv 2) (pa_cons (pv 3) pa_nil))) (pg_tup rfl (pgs_cons (pg_name (i := 6) sc_law.nd rfl (Or.inl rfl)) (pgs_cons (pg_name (i := 7) sc_law.nd rfl (Or.inl rfl)) pgs_nil))) (pss_one (ps_if (pt_not (pt_val (pe_call G__law_stands (hr.mono (by decide)) rfl T.m__law_stands T.F__law_stands.kp T.b__law_stands .nil pass0 (pa_cons (pv 6) (pa_cons (pv 7) pa_nil))))) (pss_one (ps_ret pe_bl)) pss_nil))))))))
      (pss_one (ps_ret pe_bl)))))), ?_⟩
    walk_at "go"
    intro b g l H1 hb0 hg0 hl0 B1 s1
    obtain ⟨⟨xb, hb1⟩, ⟨xg, hg1⟩, ⟨xl, hl1⟩⟩ := B1.lists
    intro t dx ht hdx ndx
    refine ⟨t, dx, rfl, upd_same, fun lt dk H2 hlt hdk TA2 k2 => ⟨rfl, ?_⟩⟩
    have s2 : Same H1 H2 := fun x o e => k2 x o (ne_of_none e ht) (by rw [upd_ne (ne_of_none e ht), upd_ne (ne_of_none e hdx)]; exact e)
    have hlt1 : H1 lt = none := by
      cases z : H1 lt with
      | none => rfl
      | some o =>
        rw [upd_ne (ne_of_none z ht), upd_ne (ne_of_none z hdx), z] at hlt
        cases hlt
    refine ⟨(by show 1 ≤ sizeLine; decide), fun TL hTL => ?_⟩
    have sT : Same H2 (upd H2 TL (.lst [.ref t])) := Same.upd_new hTL
    refine ⟨Nat.zero_le _, fun mt hmt => fun ml hml => ?_⟩
    obtain ⟨H3, e3⟩ : ∃ H3, H3 = upd H2 TL (.lst [.ref t]) := ⟨_, rfl⟩
    rw [← e3] at hmt hml sT
    rw [← e3]
    have hTL3 : H3 TL = some (.lst [.ref t]) := by rw [e3, upd_same]
    have nmtl : mt ≠ ml := fun z => by rw [← z, upd_same] at hml; cases hml
    have hml3 : H3 ml = none := by rw [upd_ne nmtl.symm] at hml; exact hml
    refine ⟨(by show 3 ≤ sizeLine; decide), fun m hm => ?_⟩
    have nmlm : ml ≠ m := fun z => by rw [← z, upd_same] at hm; cases hm
    have hm3' : upd H3 mt (.lst []) m = none := by rw [upd_ne nmlm.symm] at hm; exact hm
    have nmtm : mt ≠ m := fun z => by rw [← z, upd_same] at hm3'; cases hm3'
    have hm3 : H3 m = none := by rw [upd_ne nmtm.symm] at hm3'; exact hm3'
    obtain ⟨H4, e4⟩ : ∃ H4, H4 = upd (upd (upd H3 mt (.lst [])) ml (.dK [])) m (.lst [.ref mt, .ref ml, .int 0]) := ⟨_, rfl⟩
    have s4 : Same H3 H4 := fun x o e => by
      rw [e4, upd_ne (ne_of_none e hm3), upd_ne (ne_of_none e hml3), upd_ne (ne_of_none e hmt)]
      exact e
    rw [← e4]
    refine ⟨(by show 1 ≤ sizeLine; decide), fun ML hML => ?_⟩
    have s5 : Same H4 (upd H4 ML (.lst [.ref m])) := Same.upd_new hML
    obtain ⟨H5, e5⟩ : ∃ H5, H5 = upd H4 ML (.lst [.ref m]) := ⟨_, rfl⟩
    rw [← e5] at s5
    rw [← e5]
    have hML3 : H3 ML = none := s4.free hML
    have s23 := sT
    have s25 := (s23.trans s4).trans s5
    have F5 : Fam a.c_Table H5 b g l TL ML 0 1 0 (fun _ => ⟨t, lt, dk, m, mt, ml⟩) (fun _ => ⟨fun _ => 0, ⟨[], [], 0⟩⟩) := by
      refine ⟨B1.same (s2.trans s25), (s4.trans s5) _ _ hTL3, by rw [e5, upd_same] <;> rfl, fun i _ => TA2.same s25, fun i _ => ⟨s5 _ _ ?_, s5 _ _ ?_, s5 _ _ ?_, (fun _ h => nomatch h), nmtm.symm⟩, fun _ _ => Wf.empty, fun _ _ => ⟨Nat.le_refl _, Nat.le_refl _⟩⟩
      · rw [e4, upd_same]
      · rw [e4, upd_ne nmtm, upd_ne nmtl, upd_same] <;> rfl
      · rw [e4, upd_ne nmlm, upd_same] <;> rfl
    have nw : ∀ x xs, H2 x = some (.lst xs) → x ≠ TL ∧ x ≠ ML ∧ x ≠ m ∧ x ≠ mt := fun x xs e => ⟨ne_of_none e hTL, ne_of_none (s23 _ _ e) hML3, ne_of_none (s23 _ _ e) hm3, ne_of_none (s23 _ _ e) hmt⟩
    have hmt4 : H4 mt = some (.lst []) := by rw [e4, upd_ne nmtm, upd_ne nmtl, upd_same]
    have hm4 : H4 m = some (.lst [.ref mt, .ref ml, .int 0]) := by rw [e4, upd_same]
    have FA5 : FamA b g l TL ML 1 (fun _ => ⟨t, lt, dk, m, mt, ml⟩) := by
      have nb := nw _ _ (s2 _ _ hb1)
      have ng := nw _ _ (s2 _ _ hg1)
      have nl := nw _ _ (s2 _ _ hl1)
      have nt := nw _ _ TA2.tu
      refine ⟨fun _ _ => ⟨ne_of_none (s23 _ _ TA2.kp) hml3, nt.2.2.1, nt.2.2.2, ne_of_none hb1 hlt1, nb.2.2.1, nb.2.2.2, ne_of_none hg1 hlt1, ng.2.2.1, ng.2.2.2, ne_of_none hl1 hlt1, nl.2.2.1, nl.2.2.2⟩, fun i j hi hj hij => absurd (by omega : i = j) hij, fun _ _ => ⟨nt.1.symm, ne_of_none hTL3 hm3, ne_of_none hTL3 hmt⟩, fun _ _ => ⟨nt.2.1.symm, (ne_of_none hm4 hML).symm, (ne_of_none hmt4 hML).symm⟩, ne_of_none hTL3 hML3, ⟨nb.1, ng.1, nl.1⟩, ⟨nb.2.1, ng.2.1, nl.2.1⟩⟩
    refine stop_in ?_
    refine ⟨_, rfl, b, g, l, 0, 53, rfl, F5.box, by decide, by decide, by decide, fun r H6 r0 r1 B6 k6 => ?_⟩
    have F6 := F5.draw FA5 B6 k6
    refine ⟨8, r, rfl, rfl, 8 + r, rfl, by omega, by omega, ?_⟩
    refine forR (lo := 0) (n := (8 + r).toNat) (fun i σ H' => (∃ v4 v5 v6 v7, σ = [some (.ref c), some (.ref b), some (.ref TL), some (.ref ML), v4, v5, v6, v7]) ∧ ∃ n k A D, Fam a.c_Table H' b g l TL ML n k i A D ∧ FamA b g l TL ML k A ∧ n ≤ 1 + 20 * i ∧ 1 ≤ k ∧ k ≤ 5) ?_ ?_ ?_
    · exact ⟨⟨_, _, _, _, rfl⟩, _, _, _, _, F6, FA5, by omega, by omega, by omega⟩
    · rintro i σ H7 hi ⟨⟨v4, v5, v6, v7, rfl⟩, n, k, A6, D6, F, FA, hn, hk1, hk5⟩
      have hTL7 := F.tl
      have hML7 := F.ml
      have B7 := F.box
      have lenT : ((List.range k).map fun i => V.ref (A6 i).t).length = k := by rw [List.length_map, List.length_range]
      refine mid_of (fun σ H' => (∃ v4 v5 v6 v7, σ = [some (.ref c), some (.ref b), some (.ref TL), some (.ref ML), v4, v5, v6, v7]) ∧ ∃ n' k' A D, Fam a.c_Table H' b g l TL ML n' k' (i + 1) A D ∧ FamA b g l TL ML k' A ∧ n' ≤ n + 20 ∧ 1 ≤ k' ∧ k' ≤ 5) ?_ ?_
      · refine midT_of (fun c' H' => ∃ n', Fam a.c_Table H' b g l TL ML n' k i A6 D6 ∧ n' ≤ n + 1 ∧ (c' = true → k < 5)) ?_ ?_
        · refine ⟨_, rfl, TL, _, rfl, .inl (SqL.of hTL7), _, _, rfl, rfl, _, rfl, ?_⟩
          rw [lenT]
          refine ifD (fun h5 => ?_) (fun h5 => ?_)
          · walk_at "go"
            intro x H8 x0 x1 B8 k8
            walk_at "go"
            exact wait ⟨_, F.draw FA B8 k8, by omega, fun _ => by omega⟩
          · exact wait ⟨_, F, by omega, fun z => nomatch z⟩
        · rintro c' H8 ⟨n8, F8, hn8, hc'⟩
          refine ifB (fun e => ?_) (fun e => ?_)
          · have hk := hc' e
            refine ⟨_, rfl, _, rfl, _, rfl, b, g, l, TL, ML, n8, k, i, A6, D6, rfl, F8, FA, by omega, by omega, by omega, fun H9 A9 D9 F9 FA9 => ?_⟩
            exact wait ⟨⟨_, _, _, _, rfl⟩, _, _, _, _, F9.up (by omega), FA9, by omega, by omega, by omega⟩
          · have hTL8 := F8.tl
            have hML8 := F8.ml
            refine ⟨_, rfl, _, rfl, TL, _, rfl, .inl (SqL.of hTL8), ?_⟩
            rw [lenT]
            refine ⟨b, g, l, n8, (k : Int), rfl, F8.box, by omega, by omega, by omega, fun x H9 x0 x1 B9 k9 => ?_⟩
            have F9 := F8.draw FA B9 k9
            have hTL9 := F9.tl
            have hML9 := F9.ml
            have hx : x.toNat < k := by omega
            have aT := at_range (f := fun i => V.ref (A6 i).t) x0 x1
            have aM := at_range (f := fun i => V.ref (A6 i).m) x0 x1
            have AL : All a.c_Table H9 b g l (A6 x.toNat).t (A6 x.toNat).lt (A6 x.toNat).dk (A6 x.toNat).m (A6 x.toNat).mt (A6 x.toNat).ml (D6 x.toNat).ad (n8 + 1) (D6 x.toNat).S := ⟨B9, F9.tab _ hx, F9.mod _ hx, F9.wf _ hx⟩
            have SZ := F9.sz _ hx
            refine ⟨_, rfl, _, rfl, _, rfl, TL, _, _, _, rfl, rfl, SqL.of hTL9, aT, _, rfl, _, rfl, ML, _, _, _, rfl, rfl, SqL.of hML9, aM, ?_⟩
            refine ⟨b, g, l, A6 x.toNat, _, n8 + 1, _, rfl, AL, FA.ap _ hx, by omega, by omega, by omega, fun H10 ad' n' S' AL' off h1 h2 h3 => ?_⟩
            refine ⟨_, rfl, ifF rfl ?_⟩
            exact wait ⟨⟨_, _, _, _, rfl⟩, _, _, _, _, F9.deed FA hx AL' off (by omega) (by omega), FA, by omega, by omega, by omega⟩
      · rintro σ H8 ⟨⟨w4, w5, w6, w7, rfl⟩, n8, k8, A8, D8, F8, FA8, hn8, hk81, hk85⟩
        refine stop_in ?_
        refine ⟨_, rfl, _, rfl, TL, ML, _, _, rfl, SqL.of F8.tl, SqL.of F8.ml, ?_⟩
        refine forZ (show ((List.range k8).map fun i => V.ref (A8 i).t).length = ((List.range k8).map fun i => V.ref (A8 i).m).length by rw [List.length_map, List.length_map]) (fun j σ H' => (∃ v4 v5 v6 v7, σ = [some (.ref c), some (.ref b), some (.ref TL), some (.ref ML), v4, v5, v6, v7]) ∧ Same H8 H') ?_ ?_ ?_ ?_
        · exact ⟨⟨_, _, _, _, rfl⟩, Same.refl _⟩
        · exact fun j σ H' h => ⟨SqL.of (h.2 _ _ F8.tl), SqL.of (h.2 _ _ F8.ml)⟩
        · rintro j x y tt σ H9 hx hy ⟨⟨u4, u5, u6, u7, rfl⟩, s9⟩ htt
          obtain ⟨hj, rfl⟩ := of_range hx
          obtain ⟨_, rfl⟩ := of_range hy
          have s10 : Same H9 (upd H9 tt (.tup [.ref (A8 j).t, .ref (A8 j).m])) := Same.upd_new htt
          have F10 := (F8.same s9).same s10
          have SZ := F10.sz j hj
          refine ⟨tt, _, rfl, SqT.of upd_same, rfl, _, _, rfl, _, _, rfl, rfl, ?_⟩
          refine ⟨_, rfl, _, rfl, (A8 j).t, (A8 j).lt, (A8 j).dk, (A8 j).m, (A8 j).mt, (A8 j).ml, (D8 j).ad, (D8 j).S, rfl, F10.tab j hj, F10.mod j hj, (FA8.ap j hj).n1, F10.wf j hj, by omega, fun H11 s11 => ?_⟩
          refine ⟨_, rfl, ifF rfl ?_⟩
          exact wait ⟨⟨_, _, _, _, rfl⟩, (s9.trans s10).trans s11⟩
        · rintro σ H9 ⟨⟨u4, u5, u6, u7, rfl⟩, s9⟩
          exact wait ⟨⟨_, _, _, _, rfl⟩, _, _, _, _, F8.same s9, FA8, by omega, hk81, hk85⟩
    · rintro σ H7 _
      exact q _
end
end Pf
set_option Elab.async false
set_option linter.all false
set_option maxRecDepth 100000
set_option maxHeartbeats 4000000
namespace Pf
open PySem L2
theorem kb_of {K : PySem.W.Frag} {x qual : Str} {st : Stmt} {f : Addr} {fd : FuncData} {ps ks : List Str} (F : Fun K x qual st f fd) (hp : ps.length = 2)
    (h : ∀ (kV doc pm : Value) (an : Option Addr) (cdv ct : Value) (u v : Value), bindArgs (PySem.W.fnOf x qual (defArgs st) (defBody st) (defScope st) .none kV doc pm an cdv ct) ⟨[u], ks.zip [v]⟩ = pure (ps.zip [u, v])) : KBinds K fd ps ks kbG kbV := by
  obtain ⟨oc, od, kV, doc, pm, an, cdv, ct, osl, rfl, lk, hcd⟩ := F.ex
  constructor
  · intro s us ws _ hl
    match us, ws, hl with
    | [u], [v], _ => exact .of_eq (h kV doc pm an cdv ct u v)
    | [], _, hl => rw [hp] at hl; cases hl
    | [_], [], hl => rw [hp] at hl; cases hl
    | [_], _ :: _ :: _, hl => rw [hp] at hl; cases hl
    | _ :: _ :: _, _, hl => rw [hp] at hl; cases hl
  · intro vs us zs ws r1 r2
    match vs, us, zs, ws, r1, r2 with
    | [_], [_], [_], [_], .cons a .nil, .cons b .nil => exact .cons a (.cons b .nil)
    | [], [], _, _, .nil, _ => exact .nil
    | [_], [_], [], [], .cons _ .nil, .nil => exact .nil
    | [_], [_], _ :: _ :: _, _ :: _ :: _, .cons _ .nil, .cons _ (.cons _ _) => exact .nil
    | _ :: _ :: _, _ :: _ :: _, _, _, .cons _ (.cons _ _), _ => exact .nil
theorem all_mk {K : PySem.W.Frag} {h : Heap} {mg : Str → Option Value} (X : K.In h) (G : h.Ns mainGlobals mg)
    {cc_Table : Addr}
    {ff_Table___init__ : Addr} {od_Table___init__ an_Table___init__ : Option Addr} {sl_Table___init__ : Array (Option Value)} {oc_Table___init__ kV_Table___init__ dc_Table___init__ pm_Table___init__ cd_Table___init__ ct_Table___init__ : Value}
    {ff_Table_begin : Addr} {od_Table_begin an_Table_begin : Option Addr} {sl_Table_begin : Array (Option Value)} {oc_Table_begin kV_Table_begin dc_Table_begin pm_Table_begin cd_Table_begin ct_Table_begin : Value}
    {ff_Table_need : Addr} {od_Table_need an_Table_need : Option Addr} {sl_Table_need : Array (Option Value)} {oc_Table_need kV_Table_need dc_Table_need pm_Table_need cd_Table_need ct_Table_need : Value}
    {ff_Table_look : Addr} {od_Table_look an_Table_look : Option Addr} {sl_Table_look : Array (Option Value)} {oc_Table_look kV_Table_look dc_Table_look pm_Table_look cd_Table_look ct_Table_look : Value}
    {ff_Table_end : Addr} {od_Table_end an_Table_end : Option Addr} {sl_Table_end : Array (Option Value)} {oc_Table_end kV_Table_end dc_Table_end pm_Table_end cd_Table_end ct_Table_end : Value}
    {ff_Table_alive : Addr} {od_Table_alive an_Table_alive : Option Addr} {sl_Table_alive : Array (Option Value)} {oc_Table_alive kV_Table_alive dc_Table_alive pm_Table_alive cd_Table_alive ct_Table_alive : Value}
    {ff_Table_most : Addr} {od_Table_most an_Table_most : Option Addr} {sl_Table_most : Array (Option Value)} {oc_Table_most kV_Table_most dc_Table_most pm_Table_most cd_Table_most ct_Table_most : Value}
    {ff_Table_twin : Addr} {od_Table_twin an_Table_twin : Option Addr} {sl_Table_twin : Array (Option Value)} {oc_Table_twin kV_Table_twin dc_Table_twin pm_Table_twin cd_Table_twin ct_Table_twin : Value}
    {ff_Table___len__ : Addr} {od_Table___len__ an_Table___len__ : Option Addr} {sl_Table___len__ : Array (Option Value)} {oc_Table___len__ kV_Table___len__ dc_Table___len__ pm_Table___len__ cd_Table___len__ ct_Table___len__ : Value}
    {ff__law_box : Addr} {od__law_box an__law_box : Option Addr} {sl__law_box : Array (Option Value)} {oc__law_box kV__law_box dc__law_box pm__law_box cd__law_box ct__law_box : Value}
    {ff__law_mixed : Addr} {od__law_mixed an__law_mixed : Option Addr} {sl__law_mixed : Array (Option Value)} {oc__law_mixed kV__law_mixed dc__law_mixed pm__law_mixed cd__law_mixed ct__law_mixed : Value}
    {ff__law_take : Addr} {od__law_take an__law_take : Option Addr} {sl__law_take : Array (Option Value)} {oc__law_take kV__law_take dc__law_take pm__law_take cd__law_take ct__law_take : Value}
    {ff__law_figure : Addr} {od__law_figure an__law_figure : Option Addr} {sl__law_figure : Array (Option Value)} {oc__law_figure kV__law_figure dc__law_figure pm__law_figure cd__law_figure ct__law_figure : Value}
    {ff__law_begun : Addr} {od__law_begun an__law_begun : Option Addr} {sl__law_begun : Array (Option Value)} {oc__law_begun kV__law_begun dc__law_begun pm__law_begun cd__law_begun ct__law_begun : Value}
    {ff__law_is_grip : Addr} {od__law_is_grip an__law_is_grip : Option Addr} {sl__law_is_grip : Array (Option Value)} {oc__law_is_grip kV__law_is_grip dc__law_is_grip pm__law_is_grip cd__law_is_grip ct__law_is_grip : Value}
    {ff__law_stands : Addr} {od__law_stands an__law_stands : Option Addr} {sl__law_stands : Array (Option Value)} {oc__law_stands kV__law_stands dc__law_stands pm__law_stands cd__law_stands ct__law_stands : Value}
    {ff__law_deed : Addr} {od__law_deed an__law_deed : Option Addr} {sl__law_deed : Array (Option Value)} {oc__law_deed kV__law_deed dc__law_deed pm__law_deed cd__law_deed ct__law_deed : Value}
    {ff__law_sprung : Addr} {od__law_sprung an__law_sprung : Option Addr} {sl__law_sprung : Array (Option Value)} {oc__law_sprung kV__law_sprung dc__law_sprung pm__law_sprung cd__law_sprung ct__law_sprung : Value}
    {ff_law : Addr} {od_law an_law : Option Addr} {sl_law : Array (Option Value)} {oc_law kV_law dc_law pm_law cd_law ct_law : Value}
    (aC_Table : PySem.W.nsIn K mainGlobals "Table" = some (some (.ref cc_Table)))
    (pg_Table : PySem.W.plainGet K cc_Table Str.empty = true)
    (hd_Table : PySem.W.hasDictIn K cc_Table = true)
    (po_Table : PySem.W.plainOver K cc_Table = true)
    (sa_Table : PySem.W.findIn K (.ref cc_Table) "__setattr__" = some (some (.builtin "object.__setattr__")))
    (mk_Table : PySem.W.makesIn K cc_Table = true)
    (kc_Table : PySem.W.keepIn K (.ref cc_Table) = true)
    (na_Table_turns : PySem.W.findIn K (.ref cc_Table) "turns" = some none)
    (na_Table_kept : PySem.W.findIn K (.ref cc_Table) "kept" = some none)
    (na_Table_peak : PySem.W.findIn K (.ref cc_Table) "peak" = some none)
    (a_Table___init__ : PySem.W.findIn K (.ref cc_Table) "__init__" = some (some (.ref ff_Table___init__)))
    (i_Table___init__ : PySem.W.isFn K (.ref ff_Table___init__) = true)
    (l_Table___init__ : K.lookup ff_Table___init__ = some ⟨oc_Table___init__, od_Table___init__, .func (PySem.W.fnOf "__init__" "Table.__init__" (defArgs s_Table___init__) (defBody s_Table___init__) (defScope s_Table___init__) .none kV_Table___init__ dc_Table___init__ pm_Table___init__ an_Table___init__ cd_Table___init__ ct_Table___init__), sl_Table___init__⟩)
    (c_Table___init__ : PySem.W.codeIn K cd_Table___init__ "Table.__init__" = true)
    (k_Table___init__ : PySem.W.keepIn K (.ref ff_Table___init__) = true)
    (a_Table_begin : PySem.W.findIn K (.ref cc_Table) "begin" = some (some (.ref ff_Table_begin)))
    (i_Table_begin : PySem.W.isFn K (.ref ff_Table_begin) = true)
    (l_Table_begin : K.lookup ff_Table_begin = some ⟨oc_Table_begin, od_Table_begin, .func (PySem.W.fnOf "begin" "Table.begin" (defArgs s_Table_begin) (defBody s_Table_begin) (defScope s_Table_begin) .none kV_Table_begin dc_Table_begin pm_Table_begin an_Table_begin cd_Table_begin ct_Table_begin), sl_Table_begin⟩)
    (c_Table_begin : PySem.W.codeIn K cd_Table_begin "Table.begin" = true)
    (k_Table_begin : PySem.W.keepIn K (.ref ff_Table_begin) = true)
    (a_Table_need : PySem.W.findIn K (.ref cc_Table) "need" = some (some (.ref ff_Table_need)))
    (i_Table_need : PySem.W.isFn K (.ref ff_Table_need) = true)
    (l_Table_need : K.lookup ff_Table_need = some ⟨oc_Table_need, od_Table_need, .func (PySem.W.fnOf "need" "Table.need" (defArgs s_Table_need) (defBody s_Table_need) (defScope s_Table_need) .none kV_Table_need dc_Table_need pm_Table_need an_Table_need cd_Table_need ct_Table_need), sl_Table_need⟩)
    (c_Table_need : PySem.W.codeIn K cd_Table_need "Table.need" = true)
    (k_Table_need : PySem.W.keepIn K (.ref ff_Table_need) = true)
    (a_Table_look : PySem.W.findIn K (.ref cc_Table) "look" = some (some (.ref ff_Table_look)))
    (i_Table_look : PySem.W.isFn K (.ref ff_Table_look) = true)
    (l_Table_look : K.lookup ff_Table_look = some ⟨oc_Table_look, od_Table_look, .func (PySem.W.fnOf "look" "Table.look" (defArgs s_Table_look) (defBody s_Table_look) (defScope s_Table_look) .none kV_Table_look dc_Table_look pm_Table_look an_Table_look cd_Table_look ct_Table_look), sl_Table_look⟩)
    (c_Table_look : PySem.W.codeIn K cd_Table_look "Table.look" = true)
    (k_Table_look : PySem.W.keepIn K (.ref ff_Table_look) = true)
    (a_Table_end : PySem.W.findIn K (.ref cc_Table) "end" = some (some (.ref ff_Table_end)))
    (i_Table_end : PySem.W.isFn K (.ref ff_Table_end) = true)
    (l_Table_end : K.lookup ff_Table_end = some ⟨oc_Table_end, od_Table_end, .func (PySem.W.fnOf "end" "Table.end" (defArgs s_Table_end) (defBody s_Table_end) (defScope s_Table_end) .none kV_Table_end dc_Table_end pm_Table_end an_Table_end cd_Table_end ct_Table_end), sl_Table_end⟩)
    (c_Table_end : PySem.W.codeIn K cd_Table_end "Table.end" = true)
    (k_Table_end : PySem.W.keepIn K (.ref ff_Table_end) = true)
    (a_Table_alive : PySem.W.findIn K (.ref cc_Table) "alive" = some (some (.ref ff_Table_alive)))
    (i_Table_alive : PySem.W.isFn K (.ref ff_Table_alive) = true)
    (l_Table_alive : K.lookup ff_Table_alive = some ⟨oc_Table_alive, od_Table_alive, .func (PySem.W.fnOf "alive" "Table.alive" (defArgs s_Table_alive) (defBody s_Table_alive) (defScope s_Table_alive) .none kV_Table_alive dc_Table_alive pm_Table_alive an_Table_alive cd_Table_alive ct_Table_alive), sl_Table_alive⟩)
    (c_Table_alive : PySem.W.codeIn K cd_Table_alive "Table.alive" = true)
    (k_Table_alive : PySem.W.keepIn K (.ref ff_Table_alive) = true)
    (a_Table_most : PySem.W.findIn K (.ref cc_Table) "most" = some (some (.ref ff_Table_most)))
    (i_Table_most : PySem.W.isFn K (.ref ff_Table_most) = true)
    (l_Table_most : K.lookup ff_Table_most = some ⟨oc_Table_most, od_Table_most, .func (PySem.W.fnOf "most" "Table.most" (defArgs s_Table_most) (defBody s_Table_most) (defScope s_Table_most) .none kV_Table_most dc_Table_most pm_Table_most an_Table_most cd_Table_most ct_Table_most), sl_Table_most⟩)
    (c_Table_most : PySem.W.codeIn K cd_Table_most "Table.most" = true)
    (k_Table_most : PySem.W.keepIn K (.ref ff_Table_most) = true)
    (a_Table_twin : PySem.W.findIn K (.ref cc_Table) "twin" = some (some (.ref ff_Table_twin)))
    (i_Table_twin : PySem.W.isFn K (.ref ff_Table_twin) = true)
    (l_Table_twin : K.lookup ff_Table_twin = some ⟨oc_Table_twin, od_Table_twin, .func (PySem.W.fnOf "twin" "Table.twin" (defArgs s_Table_twin) (defBody s_Table_twin) (defScope s_Table_twin) .none kV_Table_twin dc_Table_twin pm_Table_twin an_Table_twin cd_Table_twin ct_Table_twin), sl_Table_twin⟩)
    (c_Table_twin : PySem.W.codeIn K cd_Table_twin "Table.twin" = true)
    (k_Table_twin : PySem.W.keepIn K (.ref ff_Table_twin) = true)
    (a_Table___len__ : PySem.W.findIn K (.ref cc_Table) "__len__" = some (some (.ref ff_Table___len__)))
    (i_Table___len__ : PySem.W.isFn K (.ref ff_Table___len__) = true)
    (l_Table___len__ : K.lookup ff_Table___len__ = some ⟨oc_Table___len__, od_Table___len__, .func (PySem.W.fnOf "__len__" "Table.__len__" (defArgs s_Table___len__) (defBody s_Table___len__) (defScope s_Table___len__) .none kV_Table___len__ dc_Table___len__ pm_Table___len__ an_Table___len__ cd_Table___len__ ct_Table___len__), sl_Table___len__⟩)
    (c_Table___len__ : PySem.W.codeIn K cd_Table___len__ "Table.__len__" = true)
    (k_Table___len__ : PySem.W.keepIn K (.ref ff_Table___len__) = true)
    (a__law_box : PySem.W.nsIn K mainGlobals "_law_box" = some (some (.ref ff__law_box)))
    (l__law_box : K.lookup ff__law_box = some ⟨oc__law_box, od__law_box, .func (PySem.W.fnOf "_law_box" "_law_box" (defArgs s__law_box) (defBody s__law_box) (defScope s__law_box) .none kV__law_box dc__law_box pm__law_box an__law_box cd__law_box ct__law_box), sl__law_box⟩)
    (c__law_box : PySem.W.codeIn K cd__law_box "_law_box" = true)
    (k__law_box : PySem.W.keepIn K (.ref ff__law_box) = true)
    (a__law_mixed : PySem.W.nsIn K mainGlobals "_law_mixed" = some (some (.ref ff__law_mixed)))
    (l__law_mixed : K.lookup ff__law_mixed = some ⟨oc__law_mixed, od__law_mixed, .func (PySem.W.fnOf "_law_mixed" "_law_mixed" (defArgs s__law_mixed) (defBody s__law_mixed) (defScope s__law_mixed) .none kV__law_mixed dc__law_mixed pm__law_mixed an__law_mixed cd__law_mixed ct__law_mixed), sl__law_mixed⟩)
    (c__law_mixed : PySem.W.codeIn K cd__law_mixed "_law_mixed" = true)
    (k__law_mixed : PySem.W.keepIn K (.ref ff__law_mixed) = true)
    (a__law_take : PySem.W.nsIn K mainGlobals "_law_take" = some (some (.ref ff__law_take)))
    (l__law_take : K.lookup ff__law_take = some ⟨oc__law_take, od__law_take, .func (PySem.W.fnOf "_law_take" "_law_take" (defArgs s__law_take) (defBody s__law_take) (defScope s__law_take) .none kV__law_take dc__law_take pm__law_take an__law_take cd__law_take ct__law_take), sl__law_take⟩)
    (c__law_take : PySem.W.codeIn K cd__law_take "_law_take" = true)
    (k__law_take : PySem.W.keepIn K (.ref ff__law_take) = true)
    (a__law_figure : PySem.W.nsIn K mainGlobals "_law_figure" = some (some (.ref ff__law_figure)))
    (l__law_figure : K.lookup ff__law_figure = some ⟨oc__law_figure, od__law_figure, .func (PySem.W.fnOf "_law_figure" "_law_figure" (defArgs s__law_figure) (defBody s__law_figure) (defScope s__law_figure) .none kV__law_figure dc__law_figure pm__law_figure an__law_figure cd__law_figure ct__law_figure), sl__law_figure⟩)
    (c__law_figure : PySem.W.codeIn K cd__law_figure "_law_figure" = true)
    (k__law_figure : PySem.W.keepIn K (.ref ff__law_figure) = true)
    (a__law_begun : PySem.W.nsIn K mainGlobals "_law_begun" = some (some (.ref ff__law_begun)))
    (l__law_begun : K.lookup ff__law_begun = some ⟨oc__law_begun, od__law_begun, .func (PySem.W.fnOf "_law_begun" "_law_begun" (defArgs s__law_begun) (defBody s__law_begun) (defScope s__law_begun) .none kV__law_begun dc__law_begun pm__law_begun an__law_begun cd__law_begun ct__law_begun), sl__law_begun⟩)
    (c__law_begun : PySem.W.codeIn K cd__law_begun "_law_begun" = true)
    (k__law_begun : PySem.W.keepIn K (.ref ff__law_begun) = true)
    (a__law_is_grip : PySem.W.nsIn K mainGlobals "_law_is_grip" = some (some (.ref ff__law_is_grip)))
    (l__law_is_grip : K.lookup ff__law_is_grip = some ⟨oc__law_is_grip, od__law_is_grip, .func (PySem.W.fnOf "_law_is_grip" "_law_is_grip" (defArgs s__law_is_grip) (defBody s__law_is_grip) (defScope s__law_is_grip) .none kV__law_is_grip dc__law_is_grip pm__law_is_grip an__law_is_grip cd__law_is_grip ct__law_is_grip), sl__law_is_grip⟩)
    (c__law_is_grip : PySem.W.codeIn K cd__law_is_grip "_law_is_grip" = true)
    (k__law_is_grip : PySem.W.keepIn K (.ref ff__law_is_grip) = true)
    (a__law_stands : PySem.W.nsIn K mainGlobals "_law_stands" = some (some (.ref ff__law_stands)))
    (l__law_stands : K.lookup ff__law_stands = some ⟨oc__law_stands, od__law_stands, .func (PySem.W.fnOf "_law_stands" "_law_stands" (defArgs s__law_stands) (defBody s__law_stands) (defScope s__law_stands) .none kV__law_stands dc__law_stands pm__law_stands an__law_stands cd__law_stands ct__law_stands), sl__law_stands⟩)
    (c__law_stands : PySem.W.codeIn K cd__law_stands "_law_stands" = true)
    (k__law_stands : PySem.W.keepIn K (.ref ff__law_stands) = true)
    (a__law_deed : PySem.W.nsIn K mainGlobals "_law_deed" = some (some (.ref ff__law_deed)))
    (l__law_deed : K.lookup ff__law_deed = some ⟨oc__law_deed, od__law_deed, .func (PySem.W.fnOf "_law_deed" "_law_deed" (defArgs s__law_deed) (defBody s__law_deed) (defScope s__law_deed) .none kV__law_deed dc__law_deed pm__law_deed an__law_deed cd__law_deed ct__law_deed), sl__law_deed⟩)
    (c__law_deed : PySem.W.codeIn K cd__law_deed "_law_deed" = true)
    (k__law_deed : PySem.W.keepIn K (.ref ff__law_deed) = true)
    (a__law_sprung : PySem.W.nsIn K mainGlobals "_law_sprung" = some (some (.ref ff__law_sprung)))
    (l__law_sprung : K.lookup ff__law_sprung = some ⟨oc__law_sprung, od__law_sprung, .func (PySem.W.fnOf "_law_sprung" "_law_sprung" (defArgs s__law_sprung) (defBody s__law_sprung) (defScope s__law_sprung) .none kV__law_sprung dc__law_sprung pm__law_sprung an__law_sprung cd__law_sprung ct__law_sprung), sl__law_sprung⟩)
    (c__law_sprung : PySem.W.codeIn K cd__law_sprung "_law_sprung" = true)
    (k__law_sprung : PySem.W.keepIn K (.ref ff__law_sprung) = true)
    (a_law : PySem.W.nsIn K mainGlobals "law" = some (some (.ref ff_law)))
    (l_law : K.lookup ff_law = some ⟨oc_law, od_law, .func (PySem.W.fnOf "law" "law" (defArgs s_law) (defBody s_law) (defScope s_law) .none kV_law dc_law pm_law an_law cd_law ct_law), sl_law⟩)
    (c_law : PySem.W.codeIn K cd_law "law" = true)
    (k_law : PySem.W.keepIn K (.ref ff_law) = true)
    (z_max : PySem.W.nsIn K mainGlobals "max" = some none)
    (z_len : PySem.W.nsIn K mainGlobals "len" = some none)
    (z_sorted : PySem.W.nsIn K mainGlobals "sorted" = some none)
    (z_list : PySem.W.nsIn K mainGlobals "list" = some none)
    (z_dict : PySem.W.nsIn K mainGlobals "dict" = some none)
    (z_any : PySem.W.nsIn K mainGlobals "any" = some none)
    (z_isinstance : PySem.W.nsIn K mainGlobals "isinstance" = some none)
    (z_tuple : PySem.W.nsIn K mainGlobals "tuple" = some none)
    (z_bool : PySem.W.nsIn K mainGlobals "bool" = some none)
    (z_range : PySem.W.nsIn K mainGlobals "range" = some none)
    (z_zip : PySem.W.nsIn K mainGlobals "zip" = some none)
    : ∃ a : Ad, Txt K mg a := by
  have F_Table___init__ := fun_mk (st := s_Table___init__) l_Table___init__ c_Table___init__ k_Table___init__
  have b_Table___init__ := F_Table___init__.binds (ps := ["self"]) fun _ _ _ _ _ _ us hl => match us, hl with | [_], _ => rfl
  have F_Table_begin := fun_mk (st := s_Table_begin) l_Table_begin c_Table_begin k_Table_begin
  have b_Table_begin := F_Table_begin.binds (ps := ["self", "number"]) fun _ _ _ _ _ _ us hl => match us, hl with | [_, _], _ => rfl
  have F_Table_need := fun_mk (st := s_Table_need) l_Table_need c_Table_need k_Table_need
  have b_Table_need := F_Table_need.binds (ps := ["self", "handle"]) fun _ _ _ _ _ _ us hl => match us, hl with | [_, _], _ => rfl
  have F_Table_look := fun_mk (st := s_Table_look) l_Table_look c_Table_look k_Table_look
  have b_Table_look := F_Table_look.binds (ps := ["self", "handle"]) fun _ _ _ _ _ _ us hl => match us, hl with | [_, _], _ => rfl
  have F_Table_end := fun_mk (st := s_Table_end) l_Table_end c_Table_end k_Table_end
  have b_Table_end := F_Table_end.binds (ps := ["self", "handle"]) fun _ _ _ _ _ _ us hl => match us, hl with | [_, _], _ => rfl
  have F_Table_alive := fun_mk (st := s_Table_alive) l_Table_alive c_Table_alive k_Table_alive
  have b_Table_alive := F_Table_alive.binds (ps := ["self"]) fun _ _ _ _ _ _ us hl => match us, hl with | [_], _ => rfl
  have F_Table_most := fun_mk (st := s_Table_most) l_Table_most c_Table_most k_Table_most
  have b_Table_most := F_Table_most.binds (ps := ["self"]) fun _ _ _ _ _ _ us hl => match us, hl with | [_], _ => rfl
  have F_Table_twin := fun_mk (st := s_Table_twin) l_Table_twin c_Table_twin k_Table_twin
  have b_Table_twin := F_Table_twin.binds (ps := ["self"]) fun _ _ _ _ _ _ us hl => match us, hl with | [_], _ => rfl
  have F_Table___len__ := fun_mk (st := s_Table___len__) l_Table___len__ c_Table___len__ k_Table___len__
  have b_Table___len__ := F_Table___len__.binds (ps := ["self"]) fun _ _ _ _ _ _ us hl => match us, hl with | [_], _ => rfl
  have F__law_box := fun_mk (st := s__law_box) l__law_box c__law_box k__law_box
  have b__law_box := F__law_box.binds (ps := ["_law_script"]) fun _ _ _ _ _ _ us hl => match us, hl with | [_], _ => rfl
  have F__law_mixed := fun_mk (st := s__law_mixed) l__law_mixed c__law_mixed k__law_mixed
  have b__law_mixed := F__law_mixed.binds (ps := ["_law_cell", "_law_k"]) fun _ _ _ _ _ _ us hl => match us, hl with | [_, _], _ => rfl
  have F__law_take := fun_mk (st := s__law_take) l__law_take c__law_take k__law_take
  have b__law_take := F__law_take.binds (ps := ["_law_box_here", "_law_size"]) fun _ _ _ _ _ _ us hl => match us, hl with | [_, _], _ => rfl
  have F__law_figure := fun_mk (st := s__law_figure) l__law_figure c__law_figure k__law_figure
  have b__law_figure := F__law_figure.binds (ps := ["_law_box_here"]) fun _ _ _ _ _ _ us hl => match us, hl with | [_], _ => rfl
  have F__law_begun := fun_mk (st := s__law_begun) l__law_begun c__law_begun k__law_begun
  have b__law_begun := F__law_begun.binds (ps := ["_law_model", "_law_figure_here"]) fun _ _ _ _ _ _ us hl => match us, hl with | [_, _], _ => rfl
  have F__law_is_grip := fun_mk (st := s__law_is_grip) l__law_is_grip c__law_is_grip k__law_is_grip
  have b__law_is_grip := F__law_is_grip.binds (ps := ["_law_found", "_law_due"]) fun _ _ _ _ _ _ us hl => match us, hl with | [_, _], _ => rfl
  have F__law_stands := fun_mk (st := s__law_stands) l__law_stands c__law_stands k__law_stands
  have b__law_stands := F__law_stands.binds (ps := ["_law_table", "_law_model"]) fun _ _ _ _ _ _ us hl => match us, hl with | [_, _], _ => rfl
  have F__law_deed := fun_mk (st := s__law_deed) l__law_deed c__law_deed k__law_deed
  have b__law_deed := F__law_deed.binds (ps := ["_law_box_here", "_law_table", "_law_model"]) fun _ _ _ _ _ _ us hl => match us, hl with | [_, _, _], _ => rfl
  have F__law_sprung := fun_mk (st := s__law_sprung) l__law_sprung c__law_sprung k__law_sprung
  have b__law_sprung := F__law_sprung.binds (ps := ["_law_box_here", "_law_tables", "_law_models"]) fun _ _ _ _ _ _ us hl => match us, hl with | [_, _, _], _ => rfl
  have F_law := fun_mk (st := s_law) l_law c_law k_law
  have b_law := F_law.binds (ps := ["_law_script"]) fun _ _ _ _ _ _ us hl => match us, hl with | [_], _ => rfl
  exact ⟨⟨cc_Table, ff_Table___init__, (PySem.W.fnOf "__init__" "Table.__init__" (defArgs s_Table___init__) (defBody s_Table___init__) (defScope s_Table___init__) .none kV_Table___init__ dc_Table___init__ pm_Table___init__ an_Table___init__ cd_Table___init__ ct_Table___init__), ff_Table_begin, (PySem.W.fnOf "begin" "Table.begin" (defArgs s_Table_begin) (defBody s_Table_begin) (defScope s_Table_begin) .none kV_Table_begin dc_Table_begin pm_Table_begin an_Table_begin cd_Table_begin ct_Table_begin), ff_Table_need, (PySem.W.fnOf "need" "Table.need" (defArgs s_Table_need) (defBody s_Table_need) (defScope s_Table_need) .none kV_Table_need dc_Table_need pm_Table_need an_Table_need cd_Table_need ct_Table_need), ff_Table_look, (PySem.W.fnOf "look" "Table.look" (defArgs s_Table_look) (defBody s_Table_look) (defScope s_Table_look) .none kV_Table_look dc_Table_look pm_Table_look an_Table_look cd_Table_look ct_Table_look), ff_Table_end, (PySem.W.fnOf "end" "Table.end" (defArgs s_Table_end) (defBody s_Table_end) (defScope s_Table_end) .none kV_Table_end dc_Table_end pm_Table_end an_Table_end cd_Table_end ct_Table_end), ff_Table_alive, (PySem.W.fnOf "alive" "Table.alive" (defArgs s_Table_alive) (defBody s_Table_alive) (defScope s_Table_alive) .none kV_Table_alive dc_Table_alive pm_Table_alive an_Table_alive cd_Table_alive ct_Table_alive), ff_Table_most, (PySem.W.fnOf "most" "Table.most" (defArgs s_Table_most) (defBody s_Table_most) (defScope s_Table_most) .none kV_Table_most dc_Table_most pm_Table_most an_Table_most cd_Table_most ct_Table_most), ff_Table_twin, (PySem.W.fnOf "twin" "Table.twin" (defArgs s_Table_twin) (defBody s_Table_twin) (defScope s_Table_twin) .none kV_Table_twin dc_Table_twin pm_Table_twin an_Table_twin cd_Table_twin ct_Table_twin), ff_Table___len__, (PySem.W.fnOf "__len__" "Table.__len__" (defArgs s_Table___len__) (defBody s_Table___len__) (defScope s_Table___len__) .none kV_Table___len__ dc_Table___len__ pm_Table___len__ an_Table___len__ cd_Table___len__ ct_Table___len__), ff__law_box, (PySem.W.fnOf "_law_box" "_law_box" (defArgs s__law_box) (defBody s__law_box) (defScope s__law_box) .none kV__law_box dc__law_box pm__law_box an__law_box cd__law_box ct__law_box), ff__law_mixed, (PySem.W.fnOf "_law_mixed" "_law_mixed" (defArgs s__law_mixed) (defBody s__law_mixed) (defScope s__law_mixed) .none kV__law_mixed dc__law_mixed pm__law_mixed an__law_mixed cd__law_mixed ct__law_mixed), ff__law_take, (PySem.W.fnOf "_law_take" "_law_take" (defArgs s__law_take) (defBody s__law_take) (defScope s__law_take) .none kV__law_take dc__law_take pm__law_take an__law_take cd__law_take ct__law_take), ff__law_figure, (PySem.W.fnOf "_law_figure" "_law_figure" (defArgs s__law_figure) (defBody s__law_figure) (defScope s__law_figure) .none kV__law_figure dc__law_figure pm__law_figure an__law_figure cd__law_figure ct__law_figure), ff__law_begun, (PySem.W.fnOf "_law_begun" "_law_begun" (defArgs s__law_begun) (defBody s__law_begun) (defScope s__law_begun) .none kV__law_begun dc__law_begun pm__law_begun an__law_begun cd__law_begun ct__law_begun), ff__law_is_grip, (PySem.W.fnOf "_law_is_grip" "_law_is_grip" (defArgs s__law_is_grip) (defBody s__law_is_grip) (defScope s__law_is_grip) .none kV__law_is_grip dc__law_is_grip pm__law_is_grip an__law_is_grip cd__law_is_grip ct__law_is_grip), ff__law_stands, (PySem.W.fnOf "_law_stands" "_law_stands" (defArgs s__law_stands) (defBody s__law_stands) (defScope s__law_stands) .none kV__law_stands dc__law_stands pm__law_stands an__law_stands cd__law_stands ct__law_stands), ff__law_deed, (PySem.W.fnOf "_law_deed" "_law_deed" (defArgs s__law_deed) (defBody s__law_deed) (defScope s__law_deed) .none kV__law_deed dc__law_deed pm__law_deed an__law_deed cd__law_deed ct__law_deed), ff__law_sprung, (PySem.W.fnOf "_law_sprung" "_law_sprung" (defArgs s__law_sprung) (defBody s__law_sprung) (defScope s__law_sprung) .none kV__law_sprung dc__law_sprung pm__law_sprung an__law_sprung cd__law_sprung ct__law_sprung), ff_law, (PySem.W.fnOf "law" "law" (defArgs s_law) (defBody s_law) (defScope s_law) .none kV_law dc_law pm_law an_law cd_law ct_law)⟩, { m_Table := PySem.W.mg_of X G aC_Table, cl_Table := ⟨pg_Table, hd_Table, po_Table, sa_Table⟩, mk_Table := ⟨mk_Table, a_Table___init__, i_Table___init__, kc_Table⟩, na_Table_turns := na_Table_turns, na_Table_kept := na_Table_kept, na_Table_peak := na_Table_peak, F_Table___init__ := F_Table___init__, b_Table___init__ := b_Table___init__, mt_Table_begin := ⟨a_Table_begin, i_Table_begin, k_Table_begin⟩, F_Table_begin := F_Table_begin, b_Table_begin := b_Table_begin, mt_Table_need := ⟨a_Table_need, i_Table_need, k_Table_need⟩, F_Table_need := F_Table_need, b_Table_need := b_Table_need, mt_Table_look := ⟨a_Table_look, i_Table_look, k_Table_look⟩, F_Table_look := F_Table_look, b_Table_look := b_Table_look, mt_Table_end := ⟨a_Table_end, i_Table_end, k_Table_end⟩, F_Table_end := F_Table_end, b_Table_end := b_Table_end, mt_Table_alive := ⟨a_Table_alive, i_Table_alive, k_Table_alive⟩, F_Table_alive := F_Table_alive, b_Table_alive := b_Table_alive, mt_Table_most := ⟨a_Table_most, i_Table_most, k_Table_most⟩, F_Table_most := F_Table_most, b_Table_most := b_Table_most, mt_Table_twin := ⟨a_Table_twin, i_Table_twin, k_Table_twin⟩, F_Table_twin := F_Table_twin, b_Table_twin := b_Table_twin, mt_Table___len__ := ⟨a_Table___len__, i_Table___len__, k_Table___len__⟩, F_Table___len__ := F_Table___len__, b_Table___len__ := b_Table___len__, m__law_box := PySem.W.mg_of X G a__law_box, F__law_box := F__law_box, b__law_box := b__law_box, m__law_mixed := PySem.W.mg_of X G a__law_mixed, F__law_mixed := F__law_mixed, b__law_mixed := b__law_mixed, m__law_take := PySem.W.mg_of X G a__law_take, F__law_take := F__law_take, b__law_take := b__law_take, m__law_figure := PySem.W.mg_of X G a__law_figure, F__law_figure := F__law_figure, b__law_figure := b__law_figure, m__law_begun := PySem.W.mg_of X G a__law_begun, F__law_begun := F__law_begun, b__law_begun := b__law_begun, m__law_is_grip := PySem.W.mg_of X G a__law_is_grip, F__law_is_grip := F__law_is_grip, b__law_is_grip := b__law_is_grip, m__law_stands := PySem.W.mg_of X G a__law_stands, F__law_stands := F__law_stands, b__law_stands := b__law_stands, m__law_deed := PySem.W.mg_of X G a__law_deed, F__law_deed := F__law_deed, b__law_deed := b__law_deed, m__law_sprung := PySem.W.mg_of X G a__law_sprung, F__law_sprung := F__law_sprung, b__law_sprung := b__law_sprung, m_law := PySem.W.mg_of X G a_law, F_law := F_law, b_law := b_law, z_max := PySem.W.mg_none_of X G z_max, z_len := PySem.W.mg_none_of X G z_len, z_sorted := PySem.W.mg_none_of X G z_sorted, z_list := PySem.W.mg_none_of X G z_list, z_dict := PySem.W.mg_none_of X G z_dict, z_any := PySem.W.mg_none_of X G z_any, z_isinstance := PySem.W.mg_none_of X G z_isinstance, z_tuple := PySem.W.mg_none_of X G z_tuple, z_bool := PySem.W.mg_none_of X G z_bool, z_range := PySem.W.mg_none_of X G z_range, z_zip := PySem.W.mg_none_of X G z_zip }⟩
theorem all_end {l : PySem.W.OpenLaw} {w : World} {K : PySem.W.Frag} {h : Heap} {mg : Str → Option Value} {fa : Addr} (X : K.In h) (G : h.Ns mainGlobals mg) (hfa : mg "law" = some (.ref fa)) (hT : ∃ a : Ad, Txt K mg a) :
    ∃ fd : FuncData, (∀ (s : Shared) (v : Value), BindsTo s fd ⟨[v], []⟩ [("_law_script", v)]) ∧ ∀ base : Heap, K.In base → base.Ns mainGlobals mg → FnOk l.prog w K mg base CX0 5 fa fd ["_law_script"] (spLaw K) := by
  obtain ⟨a, T⟩ := hT
  have e := hfa.symm.trans T.m_law
  cases e
  obtain ⟨oc, od, kV, doc, pm, an, cdv, ct, osl, e, lk, hcd⟩ := T.F_law.ex
  refine ⟨a.d_law, fun s v => ?_, fun base _ _ => ok_law T⟩
  rw [e]
  exact .of_eq rfl
theorem walk {l : PySem.W.OpenLaw} {q : Program} {loose : List Str} {XP : (Str → Option Value) → Heap → Prop} {YP : World → Heap → Prop} {d : DefRec} {K : Params → PySem.W.Frag} (hn : l.most = some 63) (hdf : d.params.defaults = [])
    (hY : ∀ (w : World) (h : Heap), YP w h → (K w.params).In h)
    (F : ∀ (w : World) (mg : Str → Option Value) (fa : Addr) (h : Heap), (K w.params).In h → h.Ns mainGlobals mg → mg d.name = some (.ref fa) →
      ∃ fd : FuncData, (∀ (s : Shared) (u : Value), BindsTo s fd ⟨[u], []⟩ [("_law_script", u)]) ∧ ∀ base : Heap, (K w.params).In base → base.Ns mainGlobals mg → FnOk l.prog w (K w.params) mg base CX0 5 fa fd ["_law_script"] (spLaw (K w.params))) :
    PySem.W.WalkO q loose XP YP l.row.toRowW d [] (fun f vs => PySem.call f vs) :=
  L2.walk_of (n := 63) (k := 5) (x := "_law_script") (CX := fun _ => CX0) (sp := fun w => spLaw (K w.params)) hn (by decide) hdf ⟨rfl, by decide, by decide⟩ hY F (fun _ _ a ns hl _ hS => ⟨a, ns, rfl, hS, hl, fun _ => rfl⟩) fun _ _ _ _ _ z => z
end Pf
open PySem PySem.W PyProof.Rows in
set_option maxRecDepth 100000 in
set_option maxHeartbeats 0 in
theorem PySem.Challenge.cw_pactford_k07_twins_of_tables_holds : PySem.Challenge.rw_pactford_k07_twins_of_tables.Holds := by
  w_on; o_law; k_head; (case hw => w_witness2)
  k_fill
  refine Pf.walk (l := PySem.Challenge.rw_pactford_k07_twins_of_tables) rfl rfl (fun w h Y => PySem.W.kIn_of Y) ?F
  case F =>
    intro w mg fa h KX G hmg
    refine' Pf.all_end KX G hmg (Pf.all_mk KX G ?aC_Table ?pg_Table ?hd_Table ?po_Table ?sa_Table ?mk_Table ?kc_Table ?na_Table_turns ?na_Table_kept ?na_Table_peak ?a_Table___init__ ?i_Table___init__ ?l_Table___init__ ?c_Table___init__ ?k_Table___init__ ?a_Table_begin ?i_Table_begin ?l_Table_begin ?c_Table_begin ?k_Table_begin ?a_Table_need ?i_Table_need ?l_Table_need ?c_Table_need ?k_Table_need ?a_Table_look ?i_Table_look ?l_Table_look ?c_Table_look ?k_Table_look ?a_Table_end ?i_Table_end ?l_Table_end ?c_Table_end ?k_Table_end ?a_Table_alive ?i_Table_alive ?l_Table_alive ?c_Table_alive ?k_Table_alive ?a_Table_most ?i_Table_most ?l_Table_most ?c_Table_most ?k_Table_most ?a_Table_twin ?i_Table_twin ?l_Table_twin ?c_Table_twin ?k_Table_twin ?a_Table___len__ ?i_Table___len__ ?l_Table___len__ ?c_Table___len__ ?k_Table___len__ ?a__law_box ?l__law_box ?c__law_box ?k__law_box ?a__law_mixed ?l__law_mixed ?c__law_mixed ?k__law_mixed ?a__law_take ?l__law_take ?c__law_take ?k__law_take ?a__law_figure ?l__law_figure ?c__law_figure ?k__law_figure ?a__law_begun ?l__law_begun ?c__law_begun ?k__law_begun ?a__law_is_grip ?l__law_is_grip ?c__law_is_grip ?k__law_is_grip ?a__law_stands ?l__law_stands ?c__law_stands ?k__law_stands ?a__law_deed ?l__law_deed ?c__law_deed ?k__law_deed ?a__law_sprung ?l__law_sprung ?c__law_sprung ?k__law_sprung ?a_law ?l_law ?c_law ?k_law ?z_max ?z_len ?z_sorted ?z_list ?z_dict ?z_any ?z_isinstance ?z_tuple ?z_bool ?z_range ?z_zip)
    (case aC_Table => k_is)
    (case pg_Table => k_is)
    (case hd_Table => k_is)
    (case po_Table => k_is)
    (case sa_Table => k_is)
    (case mk_Table => k_is)
    (case kc_Table => k_is)
    (case na_Table_turns => k_is)
    (case na_Table_kept => k_is)
    (case na_Table_peak => k_is)
    (case a_Table___init__ => k_is)
    (case i_Table___init__ => k_is)
    (case l_Table___init__ => k_is)
    (case c_Table___init__ => k_is)
    (case k_Table___init__ => k_is)
    (case a_Table_begin => k_is)
    (case i_Table_begin => k_is)
    (case l_Table_begin => k_is)
    (case c_Table_begin => k_is)
    (case k_Table_begin => k_is)
    (case a_Table_need => k_is)
    (case i_Table_need => k_is)
    (case l_Table_need => k_is)
    (case c_Table_need => k_is)
    (case k_Table_need => k_is)
    (case a_Table_look => k_is)
    (case i_Table_look => k_is)
    (case l_Table_look => k_is)
    (case c_Table_look => k_is)
    (case k_Table_look => k_is)
    (case a_Table_end => k_is)
    (case i_Table_end => k_is)
    (case l_Table_end => k_is)
    (case c_Table_end => k_is)
    (case k_Table_end => k_is)
    (case a_Table_alive => k_is)
    (case i_Table_alive => k_is)
    (case l_Table_alive => k_is)
    (case c_Table_alive => k_is)
    (case k_Table_alive => k_is)
    (case a_Table_most => k_is)
    (case i_Table_most => k_is)
    (case l_Table_most => k_is)
    (case c_Table_most => k_is)
    (case k_Table_most => k_is)
    (case a_Table_twin => k_is)
    (case i_Table_twin => k_is)
    (case l_Table_twin => k_is)
    (case c_Table_twin => k_is)
    (case k_Table_twin => k_is)
    (case a_Table___len__ => k_is)
    (case i_Table___len__ => k_is)
    (case l_Table___len__ => k_is)
    (case c_Table___len__ => k_is)
    (case k_Table___len__ => k_is)
    (case a__law_box => k_is)
    (case l__law_box => k_is)
    (case c__law_box => k_is)
    (case k__law_box => k_is)
    (case a__law_mixed => k_is)
    (case l__law_mixed => k_is)
    (case c__law_mixed => k_is)
    (case k__law_mixed => k_is)
    (case a__law_take => k_is)
    (case l__law_take => k_is)
    (case c__law_take => k_is)
    (case k__law_take => k_is)
    (case a__law_figure => k_is)
    (case l__law_figure => k_is)
    (case c__law_figure => k_is)
    (case k__law_figure => k_is)
    (case a__law_begun => k_is)
    (case l__law_begun => k_is)
    (case c__law_begun => k_is)
    (case k__law_begun => k_is)
    (case a__law_is_grip => k_is)
    (case l__law_is_grip => k_is)
    (case c__law_is_grip => k_is)
    (case k__law_is_grip => k_is)
    (case a__law_stands => k_is)
    (case l__law_stands => k_is)
    (case c__law_stands => k_is)
    (case k__law_stands => k_is)
    (case a__law_deed => k_is)
    (case l__law_deed => k_is)
    (case c__law_deed => k_is)
    (case k__law_deed => k_is)
    (case a__law_sprung => k_is)
    (case l__law_sprung => k_is)
    (case c__law_sprung => k_is)
    (case k__law_sprung => k_is)
    (case a_law => k_is)
    (case l_law => k_is)
    (case c_law => k_is)
    (case k_law => k_is)
    (case z_max => k_is)
    (case z_len => k_is)
    (case z_sorted => k_is)
    (case z_list => k_is)
    (case z_dict => k_is)
    (case z_any => k_is)
    (case z_isinstance => k_is)
    (case z_tuple => k_is)
    (case z_bool => k_is)
    (case z_range => k_is)
    (case z_zip => k_is)
