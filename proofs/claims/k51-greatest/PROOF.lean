import PyProof.Rows.All
import Wide.All
import OpenK.AllK
import Wide.FinOn
import HandS.ForMost
import HandS.Wide
import HandS.Gcd
import HandS.Zip
import HandS.Walk
import HandS.Strs
import HandS.IsInst
import HandS.SetIn
import PySem.Challenge.RW_oddkeep_k51_whole_greatest_chances
set_option Elab.async false
set_option linter.all false
set_option maxRecDepth 100000
namespace K51
open PySem PySem.Spec PyProof.Rows L2

/-! ### canonical readings: what a piece of syntax does, said by itself -/
structure WpE (X : Cx) (e : Expr) (sg : L2.St) (H : Hp) (Q : VK) : Prop where
  run : ∀ (pins : List (Addr × Obj)) (s : Shared), Inv X pins sg H s → wpAny (model X.prog X.w) X.A (eval e X.env) (EP X pins sg Q) X.xe s
def wpE (X : Cx) (e : Expr) : TE := fun sg H Q => WpE X e sg H Q
structure WpT (X : Cx) (e : Expr) (sg : L2.St) (H : Hp) (Q : Bool → Hp → Prop) : Prop where
  run : ∀ (pins : List (Addr × Obj)) (s : Shared), Inv X pins sg H s → wpAny (model X.prog X.w) X.A (isTrue e X.env (eval e X.env)) (TP X pins sg Q) X.xe s
def wpT (X : Cx) (e : Expr) : TT := fun sg H Q => WpT X e sg H Q
structure WpW (X : Cx) (e : Expr) (sg : L2.St) (H : Hp) (Q : Bool → Hp → Prop) : Prop where
  run : ∀ (whole : Sem Value) (pins : List (Addr × Obj)) (s : Shared), Inv X pins sg H s → wpAny (model X.prog X.w) X.A (isTrue e X.env whole) (TP X pins sg Q) X.xe s
def wpW (X : Cx) (e : Expr) : TT := fun sg H Q => WpW X e sg H Q
structure WpA (X : Cx) (es : List Expr) (sg : L2.St) (H : Hp) (Q : List V → Hp → Prop) : Prop where
  run : ∀ (pos : Pos) (pins : List (Addr × Obj)) (s : Shared), Inv X pins sg H s → wpAny (model X.prog X.w) X.A (spliced (backTo pos (starEach es X.env))) (AP X pins sg Q) X.xe s
def wpA (X : Cx) (es : List Expr) : TA := fun sg H Q => WpA X es sg H Q
structure WpS (X : Cx) (st : Stmt) (D : Ends) (sg : L2.St) (H : Hp) : Prop where
  run : ∀ (pins : List (Addr × Obj)) (s : Shared), Inv X pins sg H s → wpAny (model X.prog X.w) X.A (exec st X.env) (SP X pins D) X.xe s
def wpS (X : Cx) (st : Stmt) : TS := fun D sg H => WpS X st D sg H
structure WpSs (X : Cx) (sts : List Stmt) (D : Ends) (sg : L2.St) (H : Hp) : Prop where
  run : ∀ (pins : List (Addr × Obj)) (s : Shared), Inv X pins sg H s → wpAny (model X.prog X.w) X.A (execs sts X.env) (SP X pins D) X.xe s
def wpSs (X : Cx) (sts : List Stmt) : TS := fun D sg H => WpSs X sts D sg H
structure WpG (X : Cx) (tg : Expr) (v : V) (sg : L2.St) (H : Hp) (Q : L2.St → Hp → Prop) : Prop where
  run : ∀ (pins : List (Addr × Obj)) (s : Shared) (u : Value), Inv X pins sg H s → RelV v u → wpAny (model X.prog X.w) X.A (assign tg X.env u) (fun _ s' => ∃ sg' H', Inv X pins sg' H' s' ∧ Q sg' H') X.xe s
def wpG (X : Cx) (tg : Expr) : TG := fun v sg H Q => WpG X tg v sg H Q
structure WpTs (X : Cx) (ifs : List Expr) (sg : L2.St) (H : Hp) (Q : Bool → Hp → Prop) : Prop where
  run : ∀ (pins : List (Addr × Obj)) (s : Shared), Inv X pins sg H s →
    wpAny (model X.prog X.w) X.A (forIn ifs true fun c r => if r = true then do let ok ← isTrue c X.env (eval c X.env); pure (ForInStep.yield ok) else pure (ForInStep.yield r)) (TP X pins sg Q) X.xe s
def wpTs (X : Cx) (ifs : List Expr) : TT := fun sg H Q => WpTs X ifs sg H Q
section
variable {X : Cx} {e : Expr} {es : List Expr} {st : Stmt} {sts : List Stmt} {tg : Expr} {ifs : List Expr}
theorem e_wp : PE X e (wpE X e) := ⟨fun pins s _ _ _ I h => WpE.run h pins s I⟩
theorem t_wp : PT X e (wpT X e) := ⟨fun pins s _ _ _ I h => WpT.run h pins s I⟩
theorem w_wp : PW X e (wpW X e) := ⟨fun wh pins s _ _ _ I h => WpW.run h wh pins s I⟩
theorem a_wp : PA X es (wpA X es) := ⟨fun pos pins s _ _ _ I h => WpA.run h pos pins s I⟩
theorem s_wp : PS X st (wpS X st) := ⟨fun pins s _ _ _ I h => WpS.run h pins s I⟩
theorem ss_wp : PSs X sts (wpSs X sts) := ⟨fun pins s _ _ _ I h => WpSs.run h pins s I⟩
theorem g_wp : PG X tg (wpG X tg) := ⟨fun pins s _ _ _ u _ I r h => WpG.run h pins s u I r⟩
theorem ts_wp : PTs X ifs (wpTs X ifs) := ⟨fun pins s _ _ _ I h => WpTs.run h pins s I⟩
theorem e_of {t : TE} (h : PE X e t) {sg : L2.St} {H : Hp} {Q : VK} (q : t sg H Q) : wpE X e sg H Q := WpE.mk fun pins s I => h.run pins s sg H Q I q
theorem t_of {t : TT} (h : PT X e t) {sg : L2.St} {H : Hp} {Q : Bool → Hp → Prop} (q : t sg H Q) : wpT X e sg H Q := WpT.mk fun pins s I => h.run pins s sg H Q I q
theorem w_of {t : TT} (h : PW X e t) {sg : L2.St} {H : Hp} {Q : Bool → Hp → Prop} (q : t sg H Q) : wpW X e sg H Q := WpW.mk fun wh pins s I => h.run wh pins s sg H Q I q
theorem a_of {t : TA} (h : PA X es t) {sg : L2.St} {H : Hp} {Q : List V → Hp → Prop} (q : t sg H Q) : wpA X es sg H Q := WpA.mk fun pos pins s I => h.run pos pins s sg H Q I q
theorem s_of {t : TS} (h : PS X st t) {sg : L2.St} {H : Hp} {D : Ends} (q : t D sg H) : wpS X st D sg H := WpS.mk fun pins s I => h.run pins s sg H D I q
theorem ss_of {t : TS} (h : PSs X sts t) {sg : L2.St} {H : Hp} {D : Ends} (q : t D sg H) : wpSs X sts D sg H := WpSs.mk fun pins s I => h.run pins s sg H D I q
theorem g_of {t : TG} (h : PG X tg t) {v : V} {sg : L2.St} {H : Hp} {Q : L2.St → Hp → Prop} (q : t v sg H Q) : wpG X tg v sg H Q := WpG.mk fun pins s u I r => h.run pins s sg H v u Q I r q
theorem ts_of {t : TT} (h : PTs X ifs t) {sg : L2.St} {H : Hp} {Q : Bool → Hp → Prop} (q : t sg H Q) : wpTs X ifs sg H Q := WpTs.mk fun pins s I => h.run pins s sg H Q I q
end

/-! ### what is hidden, data -/
abbrev Mem := List Addr
def hid (M : Mem) (H : Hp) : Hp := fun b => if b ∈ M then none else H b
theorem hid_in {M : Mem} {H : Hp} {b : Addr} (h : b ∈ M) : hid M H b = none := if_pos h
theorem hid_out {M : Mem} {H : Hp} {b : Addr} (h : b ∉ M) : hid M H b = H b := if_neg h
theorem hid_le {M : Mem} {H : Hp} : Same (hid M H) H := fun b o h => by
  by_cases hb : b ∈ M
  · rw [hid_in hb] at h; cases h
  · rw [hid_out hb] at h; exact h
theorem hid_mono {M : Mem} {H H' : Hp} (s : Same H H') : Same (hid M H) (hid M H') := fun b o h => by
  by_cases hb : b ∈ M
  · rw [hid_in hb] at h; cases h
  · rw [hid_out hb] at h ⊢; exact s b o h
theorem hid_sub {M M' : Mem} {H : Hp} (s : ∀ m ∈ M', m ∈ M) : Same (hid M H) (hid M' H) := fun b o h => by
  by_cases hb : b ∈ M
  · rw [hid_in hb] at h; cases h
  · rw [hid_out hb] at h
    rw [hid_out fun z => hb (s b z)]; exact h
theorem hid_upd {M : Mem} {H : Hp} {o : Addr} {x : HO} (h : o ∈ M) : hid M (upd H o x) = hid M H := by
  funext b
  by_cases hb : b ∈ M
  · rw [hid_in hb, hid_in hb]
  · rw [hid_out hb, hid_out hb, upd_ne (show b ≠ o from fun z => hb (by rw [z]; exact h))]
theorem hid_cons {M : Mem} {H : Hp} {o : Addr} (h : H o = none) : hid (o :: M) H = hid M H := by
  funext b
  by_cases hb : b = o
  · subst hb
    rw [hid_in List.mem_cons_self]
    by_cases hm : b ∈ M
    · rw [hid_in hm]
    · rw [hid_out hm, h]
  · by_cases hm : b ∈ M
    · rw [hid_in hm, hid_in (List.mem_cons_of_mem _ hm)]
    · rw [hid_out hm, hid_out fun z => (List.mem_cons.mp z).elim hb hm]
theorem hid_ext {M M' : Mem} {H : Hp} (h : ∀ b, b ∈ M ↔ b ∈ M') : hid M H = hid M' H := by
  funext b
  by_cases hb : b ∈ M
  · rw [hid_in hb, hid_in ((h b).mp hb)]
  · rw [hid_out hb, hid_out fun z => hb ((h b).mpr z)]
theorem hid_swap {M : Mem} {H : Hp} {o p : Addr} : hid (o :: p :: M) H = hid (p :: o :: M) H := hid_ext fun b => by
  simp only [List.mem_cons]
  constructor
  · rintro (h | h | h)
    · exact .inr (.inl h)
    · exact .inl h
    · exact .inr (.inr h)
  · rintro (h | h | h)
    · exact .inr (.inl h)
    · exact .inl h
    · exact .inr (.inr h)
theorem same_upd {H : Hp} {p : Addr} {o : HO} (h : H p = none) : Same H (upd H p o) := fun b x e => by
  rw [upd_ne (ne_of_none e h)]
  exact e
theorem Same.seqT {K : PySem.W.Frag} {H H' : Hp} {a : Addr} {xs : List V} (e : Same H H') (h : SqT K H a xs) : SqT K H' a xs := by
  rcases h with (h | ⟨o, h⟩) | h
  · exact .inl (.inl (e _ _ h))
  · exact .inl (.inr ⟨o, e _ _ h⟩)
  · exact .inr h
section
variable {K : PySem.W.Frag} {H H' : Hp}
mutual
theorem dp_mono (s : Same H H') : ∀ {v : V} {d : PyData}, Dp K H v d → Dp K H' v d
  | _, _, .non => .non
  | _, _, .bl b => .bl b
  | _, _, .int i => .int i
  | _, _, .str x => .str x
  | _, _, .lst q a => .lst (L2.Same.seq s q) (dpa_mono s a)
  | _, _, .tup q a => .tup (Same.seqT s q) (dpa_mono s a)
theorem dpa_mono (s : Same H H') : ∀ {vs : List V} {ds : List PyData}, DpAll K H vs ds → DpAll K H' vs ds
  | _, _, .nil => .nil
  | _, _, .cons h t => .cons (dp_mono s h) (dpa_mono s t)
end
theorem dp_int {v : V} {i : Int} (h : Dp K H v (.int i)) : v = .int i := by cases h; rfl
theorem dp_str {v : V} {x : Str} (h : Dp K H v (.str x)) : v = .str x := by cases h; rfl
theorem dp_non {v : V} (h : Dp K H v .none) : v = .non := by cases h; rfl
theorem dp_bl {v : V} {b : Bool} (h : Dp K H v (.bool b)) : v = .bl b := by cases h; rfl
theorem dp_list {v : V} {ds : List PyData} (h : Dp K H v (.list ds)) : ∃ a xs, v = .ref a ∧ SqL K H a xs ∧ DpAll K H xs ds := by
  cases h with
  | lst q a => exact ⟨_, _, rfl, q, a⟩
theorem dp_tup {v : V} {ds : List PyData} (h : Dp K H v (.tuple ds)) : ∃ a xs, v = .ref a ∧ SqT K H a xs ∧ DpAll K H xs ds := by
  cases h with
  | tup q a => exact ⟨_, _, rfl, q, a⟩
theorem dpa_len : ∀ {vs : List V} {ds : List PyData}, DpAll K H vs ds → vs.length = ds.length
  | _, _, .nil => rfl
  | _, _, .cons _ t => congrArg (· + 1) (dpa_len t)
theorem dpa_get : ∀ {vs : List V} {ds : List PyData}, DpAll K H vs ds → ∀ {i : Nat} {d : PyData}, ds[i]? = some d → ∃ v, vs[i]? = some v ∧ Dp K H v d
  | _, _, .nil, i, d, h => by simp at h
  | _, _, .cons q t, 0, d, h => by
    simp only [List.getElem?_cons_zero, Option.some.injEq] at h
    subst h
    exact ⟨_, rfl, q⟩
  | _, _, .cons q t, i + 1, d, h => by
    simp only [List.getElem?_cons_succ] at h
    obtain ⟨v, h1, h2⟩ := dpa_get t h
    exact ⟨v, by simpa using h1, h2⟩
theorem dpa_get' : ∀ {vs : List V} {ds : List PyData}, DpAll K H vs ds → ∀ {i : Nat} {v : V}, vs[i]? = some v → ∃ d, ds[i]? = some d ∧ Dp K H v d := fun {vs ds} h {i v} e => by
  have hi : i < ds.length := by rw [← dpa_len h]; exact (List.getElem?_eq_some_iff.mp e).1
  obtain ⟨u, h1, h2⟩ := dpa_get h (List.getElem?_eq_getElem hi)
  rw [h1] at e; cases e
  exact ⟨_, List.getElem?_eq_getElem hi, h2⟩
theorem dpa_app : ∀ {vs us : List V} {ds es : List PyData}, DpAll K H vs ds → DpAll K H us es → DpAll K H (vs ++ us) (ds ++ es)
  | _, _, _, _, .nil, h => h
  | _, _, _, _, .cons q t, h => .cons q (dpa_app t h)
theorem dpa_set : ∀ {vs : List V} {ds : List PyData} {v : V} {d : PyData}, DpAll K H vs ds → Dp K H v d → ∀ (i : Nat), DpAll K H (vs.set i v) (ds.set i d)
  | _, _, _, _, .nil, _, _ => .nil
  | _, _, _, _, .cons _ t, h, 0 => .cons h t
  | _, _, _, _, .cons q t, h, i + 1 => .cons q (dpa_set t h i)
theorem dpa_take : ∀ {vs : List V} {ds : List PyData}, DpAll K H vs ds → ∀ (i : Nat), DpAll K H (vs.take i) (ds.take i)
  | _, _, _, 0 => .nil
  | _, _, .nil, i + 1 => .nil
  | _, _, .cons q t, i + 1 => .cons q (dpa_take t i)
theorem dpa_drop : ∀ {vs : List V} {ds : List PyData}, DpAll K H vs ds → ∀ (i : Nat), DpAll K H (vs.drop i) (ds.drop i)
  | _, _, h, 0 => h
  | _, _, .nil, i + 1 => .nil
  | _, _, .cons q t, i + 1 => dpa_drop t i
theorem dpa_dropLast : ∀ {vs : List V} {ds : List PyData}, DpAll K H vs ds → DpAll K H vs.dropLast ds.dropLast := fun {vs ds} h => by
  rw [List.dropLast_eq_take, List.dropLast_eq_take, dpa_len h]
  exact dpa_take h _
end

/-! ### slots -/
inductive Sl where
  | unk
  | dat (d : PyData)
  | mt (o : Addr) (ds : List PyData)
  | obj (o : Addr) (ho : HO)
  | fr (ds : List PyData)
  | rd (ds : List PyData)
def Sl.isFr : Sl → Bool
  | .fr _ => true
  | _ => false
def Sl.ad : Sl → Option Addr
  | .mt o _ => some o
  | .obj o _ => some o
  | _ => none
structure Bs where
  H0 : Hp
  M0 : Mem
def SlotOk (K : PySem.W.Frag) (B : Bs) (M : Mem) (x : Option (Option V)) (H : Hp) : Sl → Prop
  | .unk => True
  | .dat d => ∃ v, x = some (some v) ∧ Dp K (hid M H) v d
  | .mt o ds => x = some (some (.ref o)) ∧ o ∈ M ∧ B.H0 o = none ∧ ∃ xs, H o = some (.lst xs) ∧ DpAll K (hid M H) xs ds
  | .obj o ho => x = some (some (.ref o)) ∧ o ∈ M ∧ B.H0 o = none ∧ H o = some ho
  | .fr ds => ∃ o xs, x = some (some (.ref o)) ∧ o ∉ M ∧ B.H0 o = none ∧ H o = some (.lst xs) ∧ DpAll K (hid (o :: M) H) xs ds
  | .rd ds => ∃ o xs, x = some (some (.ref o)) ∧ (o ∈ M → o ∈ B.M0) ∧ H o = some (.lst xs) ∧ DpAll K (hid M H) xs ds
structure SR (K : PySem.W.Frag) (B : Bs) (M : Mem) (r : List Sl) (sg : L2.St) (H : Hp) : Prop where
  same : Same B.H0 H
  sub : ∀ m ∈ B.M0, m ∈ M
  out : ∀ m ∈ B.M0, B.H0 m ≠ none
  there : ∀ m ∈ M, H m ≠ none
  len : sg.length = r.length
  slot : ∀ (i : Nat) (s : Sl), r[i]? = some s → SlotOk K B M sg[i]? H s
  dist : ∀ (i j : Nat) (s t : Sl) (o : Addr), r[i]? = some s → r[j]? = some t → s.ad = some o → t.ad = some o → i = j
section
variable {K : PySem.W.Frag} {B B' : Bs} {M : Mem} {r : List Sl} {sg : L2.St} {H H' : Hp}
theorem SlotOk.mono {x : Option (Option V)} {s : Sl} (h : SlotOk K B M x H s) (e : Same H H') : SlotOk K B M x H' s := by
  cases s with
  | unk => trivial
  | dat d => obtain ⟨v, h1, h2⟩ := h; exact ⟨v, h1, dp_mono (hid_mono e) h2⟩
  | mt o ds => obtain ⟨h1, h2, h3, xs, h4, h5⟩ := h; exact ⟨h1, h2, h3, xs, e _ _ h4, dpa_mono (hid_mono e) h5⟩
  | obj o ho => obtain ⟨h1, h2, h3, h4⟩ := h; exact ⟨h1, h2, h3, e _ _ h4⟩
  | fr ds => obtain ⟨o, xs, h1, h2, h3, h4, h5⟩ := h; exact ⟨o, xs, h1, h2, h3, e _ _ h4, dpa_mono (hid_mono e) h5⟩
  | rd ds => obtain ⟨o, xs, h1, h2, h4, h5⟩ := h; exact ⟨o, xs, h1, h2, e _ _ h4, dpa_mono (hid_mono e) h5⟩
theorem SR.mono (h : SR K B M r sg H) (e : Same H H') : SR K B M r sg H' :=
  ⟨h.same.trans e, h.sub, h.out, fun m hm => by
    cases q : H m with
    | none => exact absurd q (h.there m hm)
    | some o => rw [e m o q]; simp, h.len, fun i s hs => (h.slot i s hs).mono e, h.dist⟩
theorem SR.new (h : SR K B M r sg H) {p : Addr} (hp : H p = none) : p ∉ M := fun z => h.there p z hp
theorem SR.fresh (h : SR K B M r sg H) {p : Addr} (hp : H p = none) : B.H0 p = none := h.same.free hp
theorem SR.dat (h : SR K B M r sg H) {i : Nat} {d : PyData} (e : r[i]? = some (.dat d)) : ∃ v, sg[i]? = some (some v) ∧ Dp K (hid M H) v d := h.slot i _ e
theorem SR.mt (h : SR K B M r sg H) {i : Nat} {o : Addr} {ds : List PyData} (e : r[i]? = some (.mt o ds)) :
    sg[i]? = some (some (.ref o)) ∧ o ∈ M ∧ B.H0 o = none ∧ ∃ xs, H o = some (.lst xs) ∧ DpAll K (hid M H) xs ds := h.slot i _ e
theorem SR.obj (h : SR K B M r sg H) {i : Nat} {o : Addr} {ho : HO} (e : r[i]? = some (.obj o ho)) :
    sg[i]? = some (some (.ref o)) ∧ o ∈ M ∧ B.H0 o = none ∧ H o = some ho := h.slot i _ e
/-- forgetting slots -/
theorem SR.weak {r' : List Sl} (h : SR K B M r sg H) (hl : r'.length = r.length) (w : ∀ (i : Nat) (s : Sl), r'[i]? = some s → s = .unk ∨ r[i]? = some s) : SR K B M r' sg H :=
  ⟨h.same, h.sub, h.out, h.there, h.len.trans hl.symm, fun i s hs => by
    rcases w i s hs with e | e
    · subst e; trivial
    · exact h.slot i s e, fun i j s t o h1 h2 h3 h4 => by
    rcases w i s h1 with e | e
    · subst e; cases h3
    · rcases w j t h2 with e' | e'
      · subst e'; cases h4
      · exact h.dist i j s t o e e' h3 h4⟩
/-- a slot set to data -/
theorem SR.set (h : SR K B M r sg H) {i : Nat} {v : V} {d : PyData} (hd : Dp K (hid M H) v d) : SR K B M (r.set i (.dat d)) (sg.set i (some v)) H := by
  refine ⟨h.same, h.sub, h.out, h.there, by rw [List.length_set, List.length_set]; exact h.len, fun j s hs => ?_, fun j k s t o h1 h2 h3 h4 => ?_⟩
  · by_cases hj : i = j
    · subst hj
      have hi : i < r.length := by
        have := (List.getElem?_eq_some_iff.mp hs).1
        rwa [List.length_set] at this
      rw [List.getElem?_set_self hi] at hs
      cases hs
      exact ⟨v, by rw [List.getElem?_set_self (by rw [h.len]; exact hi)], hd⟩
    · rw [List.getElem?_set_ne hj] at hs
      rw [List.getElem?_set_ne hj]
      exact h.slot j s hs
  · have aux : ∀ (j : Nat) (s : Sl), (r.set i (.dat d))[j]? = some s → s.ad = some o → r[j]? = some s := fun j s hs ha => by
      by_cases hj : i = j
      · subst hj
        have hi : i < r.length := by
          have := (List.getElem?_eq_some_iff.mp hs).1
          rwa [List.length_set] at this
        rw [List.getElem?_set_self hi] at hs
        cases hs; cases ha
      · rwa [List.getElem?_set_ne hj] at hs
    exact h.dist j k s t o (aux j s h1 h3) (aux k t h2 h4) h3 h4
theorem SR.frS (h : SR K B M r sg H) {i : Nat} {ds : List PyData} (e : r[i]? = some (.fr ds)) :
    ∃ o xs, sg[i]? = some (some (.ref o)) ∧ o ∉ M ∧ B.H0 o = none ∧ H o = some (.lst xs) ∧ DpAll K (hid (o :: M) H) xs ds := h.slot i _ e
/-- a slot set to a new list that is only read -/
theorem SR.setFr (h : SR K B M r sg H) {i : Nat} {p : Addr} {xs : List V} {ds : List PyData} (n1 : p ∉ M) (n2 : B.H0 p = none) (hx : H p = some (.lst xs)) (hd : DpAll K (hid (p :: M) H) xs ds) : SR K B M (r.set i (.fr ds)) (sg.set i (some (.ref p))) H := by
  refine ⟨h.same, h.sub, h.out, h.there, by rw [List.length_set, List.length_set]; exact h.len, fun j s hs => ?_, fun j k s t o h1 h2 h3 h4 => ?_⟩
  · by_cases hj : i = j
    · subst hj
      have hi : i < r.length := by
        have := (List.getElem?_eq_some_iff.mp hs).1
        rwa [List.length_set] at this
      rw [List.getElem?_set_self hi] at hs
      cases hs
      exact ⟨p, xs, by rw [List.getElem?_set_self (by rw [h.len]; exact hi)], n1, n2, hx, hd⟩
    · rw [List.getElem?_set_ne hj] at hs
      rw [List.getElem?_set_ne hj]
      exact h.slot j s hs
  · have aux : ∀ (j : Nat) (s : Sl), (r.set i (.fr ds))[j]? = some s → s.ad = some o → r[j]? = some s := fun j s hs ha => by
      by_cases hj : i = j
      · subst hj
        have hi : i < r.length := by
          have := (List.getElem?_eq_some_iff.mp hs).1
          rwa [List.length_set] at this
        rw [List.getElem?_set_self hi] at hs
        cases hs; cases ha
      · rwa [List.getElem?_set_ne hj] at hs
    exact h.dist j k s t o (aux j s h1 h3) (aux k t h2 h4) h3 h4
/-- a slot forgotten (a target that is bound to nothing known) -/
theorem SR.drop (h : SR K B M r sg H) {i : Nat} {x : Option V} : SR K B M (r.set i .unk) (sg.set i x) H := by
  refine ⟨h.same, h.sub, h.out, h.there, by rw [List.length_set, List.length_set]; exact h.len, fun j s hs => ?_, fun j k s t o h1 h2 h3 h4 => ?_⟩
  · by_cases hj : i = j
    · subst hj
      have hi : i < r.length := by
        have := (List.getElem?_eq_some_iff.mp hs).1
        rwa [List.length_set] at this
      rw [List.getElem?_set_self hi] at hs
      cases hs
      trivial
    · rw [List.getElem?_set_ne hj] at hs
      rw [List.getElem?_set_ne hj]
      exact h.slot j s hs
  · have aux : ∀ (j : Nat) (s : Sl), (r.set i .unk)[j]? = some s → s.ad = some o → r[j]? = some s := fun j s hs ha => by
      by_cases hj : i = j
      · subst hj
        have hi : i < r.length := by
          have := (List.getElem?_eq_some_iff.mp hs).1
          rwa [List.length_set] at this
        rw [List.getElem?_set_self hi] at hs
        cases hs; cases ha
      · rwa [List.getElem?_set_ne hj] at hs
    exact h.dist j k s t o (aux j s h1 h3) (aux k t h2 h4) h3 h4
/-- a new object laid and hidden -/
theorem SR.lay (h : SR K B M r sg H) {p : Addr} {u : HO} (hp : H p = none) : SR K B (p :: M) r sg (upd H p u) := by
  have e1 : hid (p :: M) (upd H p u) = hid M H := by rw [hid_upd List.mem_cons_self, hid_cons hp]
  refine ⟨h.same.trans (same_upd hp), fun m hm => List.mem_cons_of_mem _ (h.sub m hm), h.out, fun m hm => ?_, h.len, fun i s hs => ?_, h.dist⟩
  · rcases List.mem_cons.mp hm with rfl | hm
    · rw [upd_same]; simp
    · rw [upd_ne (show m ≠ p from fun z => h.there m hm (by rw [z]; exact hp))]; exact h.there m hm
  · have q := h.slot i s hs
    cases s with
    | unk => trivial
    | dat d => obtain ⟨v, h1, h2⟩ := q; exact ⟨v, h1, by rw [e1]; exact h2⟩
    | mt o ds =>
      obtain ⟨h1, h2, h3, xs, h4, h5⟩ := q
      exact ⟨h1, List.mem_cons_of_mem _ h2, h3, xs, same_upd hp _ _ h4, by rw [e1]; exact h5⟩
    | obj o ho => obtain ⟨h1, h2, h3, h4⟩ := q; exact ⟨h1, List.mem_cons_of_mem _ h2, h3, same_upd hp _ _ h4⟩
    | fr ds =>
      obtain ⟨o, xs, h1, h2, h3, h4, h5⟩ := q
      have no : o ≠ p := ne_of_none h4 hp
      refine ⟨o, xs, h1, fun z => (List.mem_cons.mp z).elim no h2, h3, same_upd hp _ _ h4, ?_⟩
      rw [hid_swap, hid_upd List.mem_cons_self, hid_cons hp]; exact h5
    | rd ds =>
      obtain ⟨o, xs, h1, h2, h4, h5⟩ := q
      have no : o ≠ p := ne_of_none h4 hp
      exact ⟨o, xs, h1, fun z => (List.mem_cons.mp z).elim (fun e => absurd e no) h2, same_upd hp _ _ h4, by rw [e1]; exact h5⟩
/-- a new list (its items known apart from it) comes to a slot -/
theorem SR.setMt (h : SR K B M r sg H) {i : Nat} {p : Addr} {xs : List V} {ds : List PyData} (e : Same H H') (hp : H p = none) (hx : H' p = some (.lst xs)) (hd : DpAll K (hid (p :: M) H') xs ds) :
    SR K B (p :: M) (r.set i (.mt p ds)) (sg.set i (some (.ref p))) H' := by
  have hs : ∀ {v : V} {d : PyData}, Dp K (hid M H) v d → Dp K (hid (p :: M) H') v d := fun q => dp_mono (hid_mono e) (by rw [hid_cons hp]; exact q)
  have hsa : ∀ {v : List V} {d : List PyData}, DpAll K (hid M H) v d → DpAll K (hid (p :: M) H') v d := fun q => dpa_mono (hid_mono e) (by rw [hid_cons hp]; exact q)
  have npM := h.new hp
  refine ⟨h.same.trans e, fun m hm => List.mem_cons_of_mem _ (h.sub m hm), h.out, fun m hm => ?_, by rw [List.length_set, List.length_set]; exact h.len, fun j s hs' => ?_, fun j k s t o h1 h2 h3 h4 => ?_⟩
  · rcases List.mem_cons.mp hm with rfl | hm
    · rw [hx]; simp
    · cases q : H m with
      | none => exact absurd q (h.there m hm)
      | some o => rw [e m o q]; simp
  · by_cases hj : i = j
    · subst hj
      have hi : i < r.length := by
        have := (List.getElem?_eq_some_iff.mp hs').1
        rwa [List.length_set] at this
      rw [List.getElem?_set_self hi] at hs'
      cases hs'
      exact ⟨by rw [List.getElem?_set_self (by rw [h.len]; exact hi)], List.mem_cons_self, h.fresh hp, xs, hx, hd⟩
    · rw [List.getElem?_set_ne hj] at hs'
      rw [List.getElem?_set_ne hj]
      have q := h.slot j s hs'
      cases s with
      | unk => trivial
      | dat d => obtain ⟨v, h1, h2⟩ := q; exact ⟨v, h1, hs h2⟩
      | mt o ds' => obtain ⟨h1, h2, h3, xs', h4, h5⟩ := q; exact ⟨h1, List.mem_cons_of_mem _ h2, h3, xs', e _ _ h4, hsa h5⟩
      | obj o ho => obtain ⟨h1, h2, h3, h4⟩ := q; exact ⟨h1, List.mem_cons_of_mem _ h2, h3, e _ _ h4⟩
      | fr ds' =>
        obtain ⟨o, xs', h1, h2, h3, h4, h5⟩ := q
        have no : o ≠ p := ne_of_none h4 hp
        refine ⟨o, xs', h1, fun z => (List.mem_cons.mp z).elim no h2, h3, e _ _ h4, ?_⟩
        rw [hid_swap]
        exact dpa_mono (hid_mono e) (by rw [hid_cons hp]; exact h5)
      | rd ds' =>
        obtain ⟨o, xs', h1, h2, h4, h5⟩ := q
        have no : o ≠ p := ne_of_none h4 hp
        exact ⟨o, xs', h1, fun z => (List.mem_cons.mp z).elim (fun e => absurd e no) h2, e _ _ h4, hsa h5⟩
  · have inM : ∀ (j : Nat) (s : Sl), r[j]? = some s → s.ad = some o → o ∈ M := fun j s hs ha => by
      have q := h.slot j s hs
      cases s with
      | unk => cases ha
      | dat d => cases ha
      | mt o' ds' => cases ha; exact q.2.1
      | obj o' ho => cases ha; exact q.2.1
      | fr ds' => cases ha
      | rd ds' => cases ha
    have aux : ∀ (j : Nat) (s : Sl), (r.set i (.mt p ds))[j]? = some s → s.ad = some o → (i = j ∧ o = p) ∨ r[j]? = some s := fun j s hs ha => by
      by_cases hj : i = j
      · subst hj
        have hi : i < r.length := by
          have := (List.getElem?_eq_some_iff.mp hs).1
          rwa [List.length_set] at this
        rw [List.getElem?_set_self hi] at hs
        cases hs; cases ha
        exact .inl ⟨rfl, rfl⟩
      · rw [List.getElem?_set_ne hj] at hs
        exact .inr hs
    rcases aux j s h1 h3 with ⟨e1, e2⟩ | q1
    · rcases aux k t h2 h4 with ⟨e3, e4⟩ | q2
      · exact e1.symm.trans e3
      · subst e2; exact absurd (inM k t q2 h4) npM
    · rcases aux k t h2 h4 with ⟨e3, e4⟩ | q2
      · subst e4; exact absurd (inM j s q1 h3) npM
      · exact h.dist j k s t o q1 q2 h3 h4
/-- a hidden list of a slot is changed -/
theorem SR.chg (h : SR K B M r sg H) {i : Nat} {o : Addr} {ds ds' : List PyData} {xs : List V} (e : r[i]? = some (.mt o ds)) (hd : DpAll K (hid M H) xs ds') : SR K B M (r.set i (.mt o ds')) sg (upd H o (.lst xs)) := by
  obtain ⟨h1, h2, h3, xs0, h4, h5⟩ := h.mt e
  have hi : i < r.length := (List.getElem?_eq_some_iff.mp e).1
  refine ⟨fun b u q => ?_, h.sub, h.out, fun m hm => ?_, by rw [List.length_set]; exact h.len, fun j s hs => ?_, fun j k s t o' q1 q2 q3 q4 => ?_⟩
  · rw [upd_ne (ne_of_none q h3)]; exact h.same b u q
  · by_cases hm' : m = o
    · subst hm'; rw [upd_same]; simp
    · rw [upd_ne hm']; exact h.there m hm
  · by_cases hj : i = j
    · subst hj
      rw [List.getElem?_set_self hi] at hs
      cases hs
      exact ⟨h1, h2, h3, xs, upd_same, by rw [hid_upd h2]; exact hd⟩
    · rw [List.getElem?_set_ne hj] at hs
      have q := h.slot j s hs
      cases s with
      | unk => trivial
      | dat d => obtain ⟨v, z1, z2⟩ := q; exact ⟨v, z1, by rw [hid_upd h2]; exact z2⟩
      | mt o' ds'' =>
        obtain ⟨z1, z2, z3, ys, z4, z5⟩ := q
        have ne : o' ≠ o := fun z => hj (h.dist i j _ _ o e hs rfl (by rw [z]; rfl))
        exact ⟨z1, z2, z3, ys, by rw [upd_ne ne]; exact z4, by rw [hid_upd h2]; exact z5⟩
      | obj o' ho =>
        obtain ⟨z1, z2, z3, z4⟩ := q
        have ne : o' ≠ o := fun z => hj (h.dist i j _ _ o e hs rfl (by rw [z]; rfl))
        exact ⟨z1, z2, z3, by rw [upd_ne ne]; exact z4⟩
      | fr ds'' =>
        obtain ⟨o', ys, z1, z2, z3, z4, z5⟩ := q
        have ne : o' ≠ o := fun z => z2 (by rw [z]; exact h2)
        exact ⟨o', ys, z1, z2, z3, by rw [upd_ne ne]; exact z4, by rw [hid_upd (List.mem_cons_of_mem _ h2)]; exact z5⟩
      | rd ds'' =>
        obtain ⟨o', ys, z1, z2, z4, z5⟩ := q
        have ne : o' ≠ o := fun z => h.out o (z ▸ z2 (by rw [z]; exact h2)) h3
        exact ⟨o', ys, z1, z2, by rw [upd_ne ne]; exact z4, by rw [hid_upd h2]; exact z5⟩
  · have aux : ∀ (j : Nat) (s : Sl), (r.set i (.mt o ds'))[j]? = some s → s.ad = some o' → ∃ s', r[j]? = some s' ∧ s'.ad = some o' := fun j s hs ha => by
      by_cases hj : i = j
      · subst hj
        rw [List.getElem?_set_self hi] at hs
        cases hs
        exact ⟨_, e, ha⟩
      · rw [List.getElem?_set_ne hj] at hs
        exact ⟨s, hs, ha⟩
    obtain ⟨s1, a1, a2⟩ := aux j s q1 q3
    obtain ⟨t1, b1, b2⟩ := aux k t q2 q4
    exact h.dist j k s1 t1 o' a1 b1 a2 b2
/-- a hidden list becomes data -/
theorem SR.fix (h : SR K B (M) r sg H) {i : Nat} {o : Addr} {ds : List PyData} (e : r[i]? = some (.mt o ds)) : SR K B (M.filter (fun m => decide (m ≠ o))) (r.set i (.dat (.list ds))) sg H := by
  obtain ⟨h1, h2, h3, xs, h4, h5⟩ := h.mt e
  have hi : i < r.length := (List.getElem?_eq_some_iff.mp e).1
  have hsub : ∀ m ∈ M.filter (fun m => decide (m ≠ o)), m ∈ M := fun m hm => (List.mem_filter.mp hm).1
  have no : o ∉ M.filter (fun m => decide (m ≠ o)) := fun z => (of_decide_eq_true (List.mem_filter.mp z).2) rfl
  have hw : ∀ {v : V} {d : PyData}, Dp K (hid M H) v d → Dp K (hid (M.filter (fun m => decide (m ≠ o))) H) v d := fun q => dp_mono (hid_sub hsub) q
  have hwa : ∀ {v : List V} {d : List PyData}, DpAll K (hid M H) v d → DpAll K (hid (M.filter (fun m => decide (m ≠ o))) H) v d := fun q => dpa_mono (hid_sub hsub) q
  have oth : ∀ (j : Nat) (s : Sl) (o' : Addr), i ≠ j → r[j]? = some s → s.ad = some o' → o' ≠ o := fun j s o' hj hs ha z => hj (h.dist i j _ _ o e hs rfl (by rw [← z]; exact ha))
  refine ⟨h.same, fun m hm => List.mem_filter.mpr ⟨h.sub m hm, decide_eq_true (show m ≠ o from fun z => h.out m hm (by rw [z]; exact h3))⟩, h.out, fun m hm => h.there m (hsub m hm), by rw [List.length_set]; exact h.len, fun j s hs => ?_, fun j k s t o' q1 q2 q3 q4 => ?_⟩
  · by_cases hj : i = j
    · subst hj
      rw [List.getElem?_set_self hi] at hs
      cases hs
      exact ⟨_, h1, .lst (.inl (.inl (by rw [hid_out no]; exact h4))) (hwa h5)⟩
    · rw [List.getElem?_set_ne hj] at hs
      have q := h.slot j s hs
      cases s with
      | unk => trivial
      | dat d => obtain ⟨v, z1, z2⟩ := q; exact ⟨v, z1, hw z2⟩
      | mt o' ds' =>
        obtain ⟨z1, z2, z3, ys, z4, z5⟩ := q
        exact ⟨z1, List.mem_filter.mpr ⟨z2, decide_eq_true (oth j _ o' hj hs rfl)⟩, z3, ys, z4, hwa z5⟩
      | obj o' ho =>
        obtain ⟨z1, z2, z3, z4⟩ := q
        exact ⟨z1, List.mem_filter.mpr ⟨z2, decide_eq_true (oth j _ o' hj hs rfl)⟩, z3, z4⟩
      | fr ds' =>
        obtain ⟨o', ys, z1, z2, z3, z4, z5⟩ := q
        exact ⟨o', ys, z1, fun z => z2 (hsub _ z), z3, z4, dpa_mono (hid_sub fun m hm => (List.mem_cons.mp hm).elim (fun z => by rw [z]; exact List.mem_cons_self) fun z => List.mem_cons_of_mem _ (hsub m z)) z5⟩
      | rd ds' =>
        obtain ⟨o', ys, z1, z2, z4, z5⟩ := q
        exact ⟨o', ys, z1, fun z => z2 (hsub _ z), z4, hwa z5⟩
  · have aux : ∀ (j : Nat) (s : Sl), (r.set i (.dat (.list ds)))[j]? = some s → s.ad = some o' → r[j]? = some s := fun j s hs ha => by
      by_cases hj : i = j
      · subst hj
        rw [List.getElem?_set_self hi] at hs
        cases hs; cases ha
      · rwa [List.getElem?_set_ne hj] at hs
    exact h.dist j k s t o' (aux j s q1 q3) (aux k t q2 q4) q3 q4
/-- a later base -/
def Bs.le (B B' : Bs) : Prop := Same B.H0 B'.H0 ∧ B'.M0 = B.M0
theorem Bs.le_refl (B : Bs) : B.le B := ⟨Same.refl _, rfl⟩
theorem Bs.le_trans {B B' B'' : Bs} (h : B.le B') (h' : B'.le B'') : B.le B'' := ⟨h.1.trans h'.1, h'.2.trans h.2⟩
theorem SR.unbase (h : SR K B' M r sg H) (l : B.le B') (ho : ∀ m ∈ B.M0, B.H0 m ≠ none) : SR K B M r sg H :=
  ⟨l.1.trans h.same, by rw [← l.2]; exact h.sub, ho, h.there, h.len, fun i s hs => by
    have q := h.slot i s hs
    cases s with
    | unk => trivial
    | dat d => exact q
    | mt o ds => obtain ⟨h1, h2, h3, h4⟩ := q; exact ⟨h1, h2, l.1.free h3, h4⟩
    | obj o ho => obtain ⟨h1, h2, h3, h4⟩ := q; exact ⟨h1, h2, l.1.free h3, h4⟩
    | fr ds => obtain ⟨o, xs, h1, h2, h3, h4⟩ := q; exact ⟨o, xs, h1, h2, l.1.free h3, h4⟩
    | rd ds => obtain ⟨o, xs, h1, h2, h4⟩ := q; exact ⟨o, xs, h1, fun z => by rw [← l.2]; exact h2 z, h4⟩, h.dist⟩
/-- all that stands but one's own hidden objects -/
def reb (B : Bs) (M : Mem) (H : Hp) : Bs := ⟨fun b => if b ∈ M ∧ B.H0 b = none then none else H b, B.M0⟩
theorem reb_own {b : Addr} (h1 : b ∈ M) (h2 : B.H0 b = none) : (reb B M H).H0 b = none := if_pos ⟨h1, h2⟩
theorem reb_oth {b : Addr} (h : ¬ (b ∈ M ∧ B.H0 b = none)) : (reb B M H).H0 b = H b := if_neg h
theorem SR.reb_le (h : SR K B M r sg H) : B.le (reb B M H) := ⟨fun b o e => by
  rw [reb_oth (M := M) (H := H) fun z => by rw [z.2] at e; cases e]
  exact h.same b o e, rfl⟩
theorem SR.rebase (h : SR K B M r sg H) (nf : ∀ s ∈ r, s.isFr = false) : SR K (reb B M H) M r sg H := by
  refine ⟨fun b o e => ?_, h.sub, fun m hm => ?_, h.there, h.len, fun i s hs => ?_, h.dist⟩
  · by_cases z : b ∈ M ∧ B.H0 b = none
    · rw [reb_own z.1 z.2] at e; cases e
    · rw [reb_oth z] at e; exact e
  · have hm' := h.out m hm
    rw [reb_oth fun z => hm' z.2]
    exact h.there m (h.sub m hm)
  · have q := h.slot i s hs
    cases s with
    | unk => trivial
    | dat d => exact q
    | mt o ds => obtain ⟨h1, h2, h3, h4⟩ := q; exact ⟨h1, h2, reb_own h2 h3, h4⟩
    | obj o ho => obtain ⟨h1, h2, h3, h4⟩ := q; exact ⟨h1, h2, reb_own h2 h3, h4⟩
    | fr ds => exact absurd (nf _ (List.mem_of_getElem? hs)) (by simp [Sl.isFr])
    | rd ds => exact q
/-- what is visible at the base is visible at any later state -/
theorem SR.seen {H1 : Hp} (h : SR K (reb B M H1) M r sg H) : Same (hid M H1) (hid M H) := fun b o e => by
  by_cases hb : b ∈ M
  · rw [hid_in hb] at e; cases e
  · rw [hid_out hb] at e ⊢
    refine h.same b o ?_
    rw [reb_oth fun z => hb z.1]; exact e
end
end K51
set_option Elab.async false
set_option linter.all false
set_option maxRecDepth 100000
namespace K51
open PySem PySem.Spec PyProof.Rows L2

def notNone : PyData → Bool
  | .none => false
  | _ => true
/-! ### judgements -/
/-- the expression gives the data d -/
def Ev (X : Cx) (M : Mem) (r : List Sl) (e : Expr) (d : PyData) : Prop :=
  ∀ (B : Bs) (sg : L2.St) (H : Hp) (Q : VK), SR X.K B M r sg H → (∀ v H', Same H H' → Dp X.K (hid M H') v d → Q v H') → wpE X e sg H Q
/-- the expressions give the data ds -/
def EvA (X : Cx) (M : Mem) (r : List Sl) (es : List Expr) (ds : List PyData) : Prop :=
  ∀ (B : Bs) (sg : L2.St) (H : Hp) (Q : List V → Hp → Prop), SR X.K B M r sg H → (∀ vs H', Same H H' → DpAll X.K (hid M H') vs ds → Q vs H') → wpA X es sg H Q
/-- the test gives b -/
def EvT (X : Cx) (M : Mem) (r : List Sl) (e : Expr) (b : Bool) : Prop :=
  ∀ (B : Bs) (sg : L2.St) (H : Hp) (Q : Bool → Hp → Prop), SR X.K B M r sg H → (∀ H', Same H H' → Q b H') → wpT X e sg H Q
def EvW (X : Cx) (M : Mem) (r : List Sl) (e : Expr) (b : Bool) : Prop :=
  ∀ (B : Bs) (sg : L2.St) (H : Hp) (Q : Bool → Hp → Prop), SR X.K B M r sg H → (∀ H', Same H H' → Q b H') → wpW X e sg H Q
/-- a list that may be read -/
def EvR (X : Cx) (M : Mem) (r : List Sl) (e : Expr) (ds : List PyData) : Prop :=
  ∀ (B : Bs) (sg : L2.St) (H : Hp) (Q : VK), SR X.K B M r sg H → (∀ p xs H', Same H H' → SqL X.K H' p xs → DpAll X.K (hid M H') xs ds → Q (.ref p) H') → wpE X e sg H Q
/-- a list that is tracked -/
def EvL (X : Cx) (M : Mem) (r : List Sl) (e : Expr) (ds : List PyData) : Prop :=
  ∀ (B : Bs) (sg : L2.St) (H : Hp) (Q : VK), SR X.K B M r sg H → (∀ p xs H', Same H H' → H' p = some (.lst xs) → DpAll X.K (hid M H') xs ds → Q (.ref p) H') → wpE X e sg H Q
/-- a new list -/
def EvF (X : Cx) (M : Mem) (r : List Sl) (e : Expr) (ds : List PyData) : Prop :=
  ∀ (B : Bs) (sg : L2.St) (H : Hp) (Q : VK), SR X.K B M r sg H → (∀ p xs H', Same H H' → H p = none → H' p = some (.lst xs) → DpAll X.K (hid (p :: M) H') xs ds → Q (.ref p) H') → wpE X e sg H Q

section
variable {X : Cx} {M : Mem} {r : List Sl} {e a b c : Expr} {es : List Expr} {d d1 d2 : PyData} {ds ds1 ds2 : List PyData} {pos : Pos}
theorem EvF.toL (h : EvF X M r e ds) : EvL X M r e ds := fun B sg H Q hs k =>
  h B sg H Q hs fun p xs H' s _ e q => k p xs H' s e (dpa_mono (hid_sub fun m hm => List.mem_cons_of_mem _ hm) q)
theorem EvL.toR (h : EvL X M r e ds) : EvR X M r e ds := fun B sg H Q hs k => h B sg H Q hs fun p xs H' s e q => k p xs H' s (.inl (.inl e)) q
theorem EvF.toR (h : EvF X M r e ds) : EvR X M r e ds := h.toL.toR
theorem EvF.toE (h : EvF X M r e ds) : Ev X M r e (.list ds) := fun B sg H Q hs k =>
  h B sg H Q hs fun p xs H' s n e q => k _ H' s (.lst (.inl (.inl (by rw [hid_out (hs.new n)]; exact e))) (dpa_mono (hid_sub fun m hm => List.mem_cons_of_mem _ hm) q))
theorem Ev.toR (h : Ev X M r e (.list ds)) : EvR X M r e ds := fun B sg H Q hs k => h B sg H Q hs fun v H' s q => by
  obtain ⟨p, xs, rfl, h1, h2⟩ := dp_list q
  exact k p xs H' s (L2.Same.seq hid_le h1) h2

/-! ### names, constants -/
theorem ev_var (i : Nat) {x : Str} {pos : Pos} (hr : r[i]? = some (.dat d)) (hN : X.N[i]? = some x := by rfl) (hv : Vis X.env.scope x := by first | exact Or.inl rfl | exact Or.inr (Or.inl rfl) | exact Or.inr (Or.inr rfl))
    (hd : (x == ("__debug__" : Str)) = false := by decide) (hcd : (x == ("__classdict__" : Str)) = false := by decide) : Ev X M r (.Name x pos) d := fun B sg H Q hs k => by
  obtain ⟨v, h1, h2⟩ := hs.dat hr
  exact e_of (pe_var hN hv hd hcd) ⟨v, h1, k v H (Same.refl _) h2⟩
theorem evL_rd (i : Nat) {x : Str} {pos : Pos} (hr : r[i]? = some (.rd ds)) (hN : X.N[i]? = some x := by rfl) (hv : Vis X.env.scope x := by first | exact Or.inl rfl | exact Or.inr (Or.inl rfl) | exact Or.inr (Or.inr rfl))
    (hd : (x == ("__debug__" : Str)) = false := by decide) (hcd : (x == ("__classdict__" : Str)) = false := by decide) : EvL X M r (.Name x pos) ds := fun B sg H Q hs k => by
  obtain ⟨o, xs, h1, _, h4, h5⟩ := hs.slot i _ hr
  exact e_of (pe_var hN hv hd hcd) ⟨_, h1, k o xs H (Same.refl _) h4 h5⟩
theorem evL_fr (i : Nat) {x : Str} {pos : Pos} (hr : r[i]? = some (.fr ds)) (hN : X.N[i]? = some x := by rfl) (hv : Vis X.env.scope x := by first | exact Or.inl rfl | exact Or.inr (Or.inl rfl) | exact Or.inr (Or.inr rfl))
    (hd : (x == ("__debug__" : Str)) = false := by decide) (hcd : (x == ("__classdict__" : Str)) = false := by decide) : EvL X M r (.Name x pos) ds := fun B sg H Q hs k => by
  obtain ⟨o, xs, h1, _, _, h4, h5⟩ := hs.frS hr
  exact e_of (pe_var hN hv hd hcd) ⟨_, h1, k o xs H (Same.refl _) h4 (dpa_mono (hid_sub fun m hm => List.mem_cons_of_mem _ hm) h5)⟩
theorem ev_fr (i : Nat) {x : Str} {pos : Pos} (hr : r[i]? = some (.fr ds)) (hN : X.N[i]? = some x := by rfl) (hv : Vis X.env.scope x := by first | exact Or.inl rfl | exact Or.inr (Or.inl rfl) | exact Or.inr (Or.inr rfl))
    (hd : (x == ("__debug__" : Str)) = false := by decide) (hcd : (x == ("__classdict__" : Str)) = false := by decide) : Ev X M r (.Name x pos) (.list ds) := fun B sg H Q hs k => by
  obtain ⟨o, xs, h1, h2, _, h4, h5⟩ := hs.frS hr
  exact e_of (pe_var hN hv hd hcd) ⟨_, h1, k _ H (Same.refl _) (.lst (.inl (.inl (by rw [hid_out h2]; exact h4))) (dpa_mono (hid_sub fun m hm => List.mem_cons_of_mem _ hm) h5))⟩
theorem evL_var (i : Nat) {x : Str} {pos : Pos} {o : Addr} (hr : r[i]? = some (.mt o ds)) (hN : X.N[i]? = some x := by rfl) (hv : Vis X.env.scope x := by first | exact Or.inl rfl | exact Or.inr (Or.inl rfl) | exact Or.inr (Or.inr rfl))
    (hd : (x == ("__debug__" : Str)) = false := by decide) (hcd : (x == ("__classdict__" : Str)) = false := by decide) : EvL X M r (.Name x pos) ds := fun B sg H Q hs k => by
  obtain ⟨h1, _, _, xs, h4, h5⟩ := hs.mt hr
  exact e_of (pe_var hN hv hd hcd) ⟨_, h1, k o xs H (Same.refl _) h4 h5⟩
theorem ev_int {i : Int} {j : Nat} : Ev X M r (.Constant (.int i) j pos) (.int i) := fun B sg H Q hs k => e_of pe_int (k _ H (Same.refl _) (.int i))
theorem ev_str {z : Str} {j : Nat} : Ev X M r (.Constant (.str z) j pos) (.str z) := fun B sg H Q hs k => e_of pe_str (k _ H (Same.refl _) (.str z))
theorem ev_non {j : Nat} : Ev X M r (.Constant .none j pos) .none := fun B sg H Q hs k => e_of pe_non (k _ H (Same.refl _) .non)
theorem ev_bl {z : Bool} {j : Nat} : Ev X M r (.Constant (.bool z) j pos) (.bool z) := fun B sg H Q hs k => e_of pe_bl (k _ H (Same.refl _) (.bl z))
/-- a global that stands in the written part -/
theorem ev_glob {x : Str} {p : Addr} (hm : X.mg x = some (.ref p)) (hd : ∀ H : Hp, Dp X.K H (.ref p) d) (hg : Gl X x := by rfl) (hdb : (x == ("__debug__" : Str)) = false := by decide) : Ev X M r (.Name x pos) d := fun B sg H Q hs k =>
  e_of (pe_glob hg hm (v := .ref p) rfl hdb) (k _ H (Same.refl _) (hd _))

/-! ### arguments, displays -/
theorem eva_nil : EvA X M r [] [] := fun B sg H Q hs k => a_of pa_nil (k [] H (Same.refl _) .nil)
theorem eva_cons (ha : Ev X M r e d) (hr : EvA X M r es ds) (hs : starEach (e :: es) X.env = (false, eval e X.env) :: starEach es X.env := by rfl) : EvA X M r (e :: es) (d :: ds) := fun B sg H Q h k => by
  refine a_of (pa_cons e_wp a_wp hs) ?_
  refine ha B sg H _ h fun v H1 s1 q1 => ?_
  refine hr B sg H1 _ (h.mono s1) fun vs H2 s2 q2 => ?_
  exact k _ H2 (s1.trans s2) (.cons (dp_mono (hid_mono s2) q1) q2)
theorem ev_tup {x1 : Nat} (h : EvA X M r es ds) (hz : ds.length ≤ 1000) : Ev X M r (.Tuple es x1 pos) (.tuple ds) := fun B sg H Q hs k => by
  refine e_of (pe_tup a_wp) ?_
  refine h B sg H _ hs fun vs H1 s1 q1 => ⟨by rw [dpa_len q1]; exact Nat.le_of_lt (small1000 hz), fun p hp => ?_⟩
  have hn := (hs.mono s1).new hp
  exact k _ _ (s1.trans (same_upd hp)) (.tup (.inl (.inl (by rw [hid_out hn, upd_same]))) (dpa_mono (hid_mono (same_upd hp)) q1))
theorem evf_lst (h : EvA X M r es ds) (hz : ds.length ≤ 1000) : EvF X M r (.List es pos) ds := fun B sg H Q hs k => by
  refine e_of (pe_lst a_wp) ?_
  refine h B sg H _ hs fun vs H1 s1 q1 => ⟨by rw [dpa_len q1]; exact Nat.le_of_lt (small1000 hz), fun p hp => ?_⟩
  exact k p vs _ (s1.trans (same_upd hp)) (s1.free hp) upd_same (by rw [hid_upd List.mem_cons_self, hid_cons hp]; exact q1)

/-! ### ints -/
/-- an operator upon two data, by its rule -/
def OpOk (X : Cx) (M : Mem) (rr : R2) (d1 d2 d : PyData) : Prop := ∀ (H : Hp) (x y : V) (Q : VK), Dp X.K (hid M H) x d1 → Dp X.K (hid M H) y d2 → (∀ v, Dp X.K (hid M H) v d → Q v H) → rr x y H Q
theorem ev_op {op : Operator} {rr : R2} (ho : OpR X (binaryOp op) rr) (c : OpOk X M rr d1 d2 d) (ha : Ev X M r a d1) (hb : Ev X M r b d2) : Ev X M r (.BinOp a op b pos) d := fun B sg H Q hs k => by
  refine e_of (pe_op ho e_wp e_wp) ?_
  refine ha B sg H _ hs fun v H1 s1 q1 => ?_
  refine hb B sg H1 _ (hs.mono s1) fun u H2 s2 q2 => ?_
  exact c H2 v u Q (dp_mono (hid_mono s2) q1) q2 fun z q => k z H2 (s1.trans s2) q
theorem c_rI0 {g : Int → Int → Int} {i j : Int} : OpOk X M (rI0 fun i j => .int (g i j)) (.int i) (.int j) (.int (g i j)) := fun H x y Q hx hy k => by
  rw [dp_int hx, dp_int hy]
  exact ⟨i, j, rfl, rfl, k _ (.int _)⟩
theorem c_rI {C : Int → Int → Prop} {g : Int → Int → Int} {i j : Int} (hc : C i j) : OpOk X M (rI C fun i j => .int (g i j)) (.int i) (.int j) (.int (g i j)) := fun H x y Q hx hy k => by
  rw [dp_int hx, dp_int hy]
  exact ⟨i, j, rfl, rfl, hc, k _ (.int _)⟩
variable {i j : Int}
theorem ev_add (ha : Ev X M r a (.int i)) (hb : Ev X M r b (.int j)) : Ev X M r (.BinOp a .Add b pos) (.int (i + j)) := ev_op op_add (c_rI0 (g := fun i j => i + j)) ha hb
theorem ev_sub (ha : Ev X M r a (.int i)) (hb : Ev X M r b (.int j)) : Ev X M r (.BinOp a .Sub b pos) (.int (i - j)) := ev_op op_sub (c_rI0 (g := fun i j => i - j)) ha hb
theorem ev_mul (hc : CMulW i j) (ha : Ev X M r a (.int i)) (hb : Ev X M r b (.int j)) : Ev X M r (.BinOp a .Mult b pos) (.int (i * j)) := ev_op op_mulW (c_rI (g := fun i j => i * j) hc) ha hb
theorem ev_mulS (hc : CMul i j) (ha : Ev X M r a (.int i)) (hb : Ev X M r b (.int j)) : Ev X M r (.BinOp a .Mult b pos) (.int (i * j)) := ev_op op_mul (c_rI (g := fun i j => i * j) hc) ha hb
theorem ev_fdiv (hc : CDivW i j) (ha : Ev X M r a (.int i)) (hb : Ev X M r b (.int j)) : Ev X M r (.BinOp a .FloorDiv b pos) (.int (i / j)) := ev_op op_fdivW (c_rI (g := fun i j => i / j) hc) ha hb
theorem ev_mod (hc : 0 < j) (ha : Ev X M r a (.int i)) (hb : Ev X M r b (.int j)) : Ev X M r (.BinOp a .Mod b pos) (.int (i % j)) := ev_op op_mod (c_rI (C := fun _ j => 0 < j) (g := fun i j => i % j) hc) ha hb
theorem ev_neg (ha : Ev X M r a (.int i)) : Ev X M r (.UnaryOp .USub a pos) (.int (-i)) := fun B sg H Q hs k => by
  refine e_of (pe_un un_neg e_wp) ?_
  refine ha B sg H _ hs fun v H1 s1 q1 => ?_
  rw [dp_int q1]
  exact ⟨i, rfl, k _ H1 s1 (.int _)⟩

/-! ### subscripts -/
theorem ev_ixl {n : Nat} (ha : EvR X M r a ds) (hb : Ev X M r b (.int i)) (hi : i = (n : Int)) (hd : ds[n]? = some d) (hs : PlainIx b := by exact fun _ _ => rfl) : Ev X M r (.Subscript a b pos) d := fun B sg H Q h k => by
  refine e_of (pe_ix ix_list e_wp e_wp hs) ?_
  refine ha B sg H _ h fun p xs H1 s1 q1 q2 => ?_
  refine hb B sg H1 _ (h.mono s1) fun u H2 s2 q3 => ?_
  rw [dp_int q3]
  obtain ⟨x, e1, e2⟩ := dpa_get (dpa_mono (hid_mono s2) q2) hd
  exact ⟨p, xs, i, x, rfl, rfl, L2.Same.seq s2 q1, at_of hi e1, k x H2 (s1.trans s2) e2⟩
theorem ev_ixt {n : Nat} (ha : Ev X M r a (.tuple ds)) (hb : Ev X M r b (.int i)) (hi : i = (n : Int)) (hd : ds[n]? = some d) (hs : PlainIx b := by exact fun _ _ => rfl) : Ev X M r (.Subscript a b pos) d := fun B sg H Q h k => by
  refine e_of (pe_ix ix_tup e_wp e_wp hs) ?_
  refine ha B sg H _ h fun v H1 s1 q1 => ?_
  refine hb B sg H1 _ (h.mono s1) fun u H2 s2 q3 => ?_
  rw [dp_int q3]
  obtain ⟨p, xs, rfl, h1, h2⟩ := dp_tup q1
  obtain ⟨x, e1, e2⟩ := dpa_get (dpa_mono (hid_mono s2) h2) hd
  exact ⟨p, xs, i, x, rfl, rfl, Same.seqT s2 (Same.seqT hid_le h1), at_of hi e1, k x H2 (s1.trans s2) e2⟩

/-! ### lists: slices, sums, list() -/
theorem evf_cat (ha : EvL X M r a ds1) (hb : EvL X M r b ds2) (hz : ds1.length + ds2.length ≤ 100000) : EvF X M r (.BinOp a .Add b pos) (ds1 ++ ds2) := fun B sg H Q hs k => by
  refine e_of (pe_op op_cat e_wp e_wp) ?_
  refine ha B sg H _ hs fun p xs H1 s1 e1 q1 => ?_
  refine hb B sg H1 _ (hs.mono s1) fun q ys H2 s2 e2 q2 => ?_
  refine ⟨p, q, xs, ys, rfl, rfl, s2 _ _ e1, e2, ?_, fun o ho => ?_⟩
  · rw [dpa_len q1, dpa_len q2, sizeLine_eq]; omega
  · exact k o _ _ ((s1.trans s2).trans (same_upd ho)) ((s1.trans s2).free ho) upd_same (by
      rw [hid_upd List.mem_cons_self, hid_cons ho]; exact dpa_app (dpa_mono (hid_mono s2) q1) q2)
def EvO (X : Cx) (M : Mem) (r : List Sl) (e : Option Expr) (o : Option Int) : Prop :=
  ∃ t : TO, PO X e t ∧ ∀ (B : Bs) (sg : L2.St) (H : Hp) (Q : Option Int → Hp → Prop), SR X.K B M r sg H → (∀ H', Same H H' → Q o H') → t sg H Q
theorem evo_none : EvO X M r none none := ⟨_, po_none, fun B sg H Q hs k => k H (Same.refl _)⟩
theorem evo_some (h : Ev X M r e (.int i)) : EvO X M r (some e) (some i) := ⟨_, po_some e_wp, fun B sg H Q hs k => h B sg H _ hs fun v H1 s1 q1 => ⟨i, dp_int q1, k H1 s1⟩⟩
/-- the slice of data -/
def cutD (ds : List PyData) (lo hi : Option Int) : List PyData := (ds.drop (HT.sIx ds.length 0 lo)).take (HT.sIx ds.length ds.length hi - HT.sIx ds.length 0 lo)
theorem evf_slice {lo hi : Option Expr} {l u : Option Int} {p2 : Pos} (ha : EvR X M r a ds) (hl : EvO X M r lo l) (hu : EvO X M r hi u) : EvF X M r (.Subscript a (.Slice lo hi none p2) pos) (cutD ds l u) := fun B sg H Q hs k => by
  obtain ⟨tl, h1, h2⟩ := hl
  obtain ⟨tu, h3, h4⟩ := hu
  refine e_of (pe_slice sl_list e_wp h1 h3) ?_
  refine ha B sg H _ hs fun p xs H1 s1 q1 q2 => ?_
  refine h2 B sg H1 _ (hs.mono s1) fun H2 s2 => ?_
  refine h4 B sg H2 _ ((hs.mono s1).mono s2) fun H3 s3 => ?_
  have s13 := s2.trans s3
  refine ⟨p, xs, rfl, L2.Same.seq s13 q1, fun o ho => ?_⟩
  refine k o _ _ ((s1.trans s13).trans (same_upd ho)) ((s1.trans s13).free ho) upd_same ?_
  rw [hid_upd List.mem_cons_self, hid_cons ho]
  unfold cutV cutD
  rw [dpa_len q2]
  exact dpa_take (dpa_drop (dpa_mono (hid_mono s13) q2) _) _
theorem evf_list {p : Pos} (ha : EvR X M r a ds) (hm : X.mg "list" = none) (hg : Gl X "list" := by rfl) (hst : starEach [a] X.env = (false, eval a X.env) :: starEach [] X.env := by rfl) : EvF X M r (.Call (.Name "list" p) [a] [] pos) ds := fun B sg H Q hs k => by
  refine e_of (pe_callTy call_list_of hg hm (by decide +kernel) (pa_cons e_wp pa_nil hst) (he := hst)) ?_
  refine ha B sg H _ hs fun p xs H1 s1 q1 q2 => ?_
  refine ⟨p, xs, rfl, .inl q1, fun o ho => ?_⟩
  exact k o _ _ (s1.trans (same_upd ho)) (s1.free ho) upd_same (by rw [hid_upd List.mem_cons_self, hid_cons ho]; exact q2)
theorem ev_len {p : Pos} (ha : EvR X M r a ds) (hm : X.mg "len" = none) (hg : Gl X "len" := by rfl) (hst : starEach [a] X.env = (false, eval a X.env) :: starEach [] X.env := by rfl) : Ev X M r (.Call (.Name "len" p) [a] [] pos) (.int ds.length) := fun B sg H Q hs k => by
  refine e_of (pe_callB call_len_seq hg hm PySem.boot_len (pa_cons e_wp pa_nil hst) (he := hst)) ?_
  refine ha B sg H _ hs fun p xs H1 s1 q1 q2 => ?_
  exact ⟨p, xs, rfl, .inl q1, k _ H1 s1 (by rw [dpa_len q2]; exact .int _)⟩
theorem ev_lent {p : Pos} (ha : Ev X M r a (.tuple ds)) (hm : X.mg "len" = none) (hg : Gl X "len" := by rfl) (hst : starEach [a] X.env = (false, eval a X.env) :: starEach [] X.env := by rfl) : Ev X M r (.Call (.Name "len" p) [a] [] pos) (.int ds.length) := fun B sg H Q hs k => by
  refine e_of (pe_callB call_len_seq hg hm PySem.boot_len (pa_cons e_wp pa_nil hst) (he := hst)) ?_
  refine ha B sg H _ hs fun v H1 s1 q1 => ?_
  obtain ⟨p, xs, rfl, h1, h2⟩ := dp_tup q1
  exact ⟨p, xs, rfl, .inr (Same.seqT hid_le h1), k _ H1 s1 (by rw [dpa_len h2]; exact .int _)⟩
theorem dpa_ints {K : PySem.W.Frag} {H : Hp} : ∀ {ns : List Int} {vs : List V}, DpAll K H vs (ns.map PyData.int) → vs = ns.map V.int
  | [], _, .nil => rfl
  | n :: ns, _, .cons h t => by rw [dp_int h, dpa_ints t]; rfl
theorem dpa_of_ints {K : PySem.W.Frag} {H : Hp} : ∀ ns : List Int, DpAll K H (ns.map V.int) (ns.map PyData.int)
  | [] => .nil
  | n :: ns => .cons (.int n) (dpa_of_ints ns)
theorem dpa_bls {K : PySem.W.Frag} {H : Hp} : ∀ {ns : List Bool} {vs : List V}, DpAll K H vs (ns.map PyData.bool) → vs = ns.map V.bl
  | [], _, .nil => rfl
  | n :: ns, _, .cons h t => by rw [dp_bl h, dpa_bls t]; rfl
theorem dpa_strs {K : PySem.W.Frag} {H : Hp} : ∀ {ns : List Str} {vs : List V}, DpAll K H vs (ns.map PyData.str) → vs = ns.map V.str
  | [], _, .nil => rfl
  | n :: ns, _, .cons h t => by rw [dp_str h, dpa_strs t]; rfl
variable {ns : List Int} {bs : List Bool}
theorem ev_sum {p : Pos} (ha : EvR X M r a (ns.map PyData.int)) (hm : X.mg "sum" = none) (hc : X.calm = true := by rfl) (hg : Gl X "sum" := by rfl) (hst : starEach [a] X.env = (false, eval a X.env) :: starEach [] X.env := by rfl) : Ev X M r (.Call (.Name "sum" p) [a] [] pos) (.int ns.sum) := fun B sg H Q hs k => by
  refine e_of (pe_callB (cr_sum hc) hg hm (by decide +kernel) (pa_cons e_wp pa_nil hst) (he := hst)) ?_
  refine ha B sg H _ hs fun p xs H1 s1 q1 q2 => ?_
  rw [dpa_ints q2] at q1
  exact ⟨p, ns, rfl, q1, k _ H1 s1 (.int _)⟩
theorem ev_any {p : Pos} (ha : EvR X M r a (bs.map PyData.bool)) (hm : X.mg "any" = none) (hc : X.calm = true := by rfl) (hg : Gl X "any" := by rfl) (hst : starEach [a] X.env = (false, eval a X.env) :: starEach [] X.env := by rfl) : Ev X M r (.Call (.Name "any" p) [a] [] pos) (.bool (bs.any id)) := fun B sg H Q hs k => by
  refine e_of (pe_callB (cr_any hc) hg hm (by decide +kernel) (pa_cons e_wp pa_nil hst) (he := hst)) ?_
  refine ha B sg H _ hs fun p xs H1 s1 q1 q2 => ?_
  rw [dpa_bls q2] at q1
  exact ⟨p, bs, rfl, q1, k _ H1 s1 (.bl _)⟩
theorem ev_all {p : Pos} (ha : EvR X M r a (bs.map PyData.bool)) (hm : X.mg "all" = none) (hc : X.calm = true := by rfl) (hg : Gl X "all" := by rfl) (hst : starEach [a] X.env = (false, eval a X.env) :: starEach [] X.env := by rfl) : Ev X M r (.Call (.Name "all" p) [a] [] pos) (.bool (bs.all id)) := fun B sg H Q hs k => by
  refine e_of (pe_callB (cr_all hc) hg hm (by decide +kernel) (pa_cons e_wp pa_nil hst) (he := hst)) ?_
  refine ha B sg H _ hs fun p xs H1 s1 q1 q2 => ?_
  rw [dpa_bls q2] at q1
  exact ⟨p, bs, rfl, q1, k _ H1 s1 (.bl _)⟩
theorem ev_intOf {p : Pos} (ha : Ev X M r a (.int i)) (hm : X.mg "int" = none) (hg : Gl X "int" := by rfl) (hst : starEach [a] X.env = (false, eval a X.env) :: starEach [] X.env := by rfl) : Ev X M r (.Call (.Name "int" p) [a] [] pos) (.int i) := fun B sg H Q hs k => by
  refine e_of (pe_callTy call_int1 hg hm (by decide +kernel) (pa_cons e_wp pa_nil hst) (he := hst)) ?_
  refine ha B sg H _ hs fun v H1 s1 q1 => ?_
  rw [dp_int q1]
  exact .inl ⟨i, rfl, k _ H1 s1 (.int _)⟩
theorem ev_intOfB {p : Pos} {z : Bool} (ha : Ev X M r a (.bool z)) (hm : X.mg "int" = none) (hg : Gl X "int" := by rfl) (hst : starEach [a] X.env = (false, eval a X.env) :: starEach [] X.env := by rfl) : Ev X M r (.Call (.Name "int" p) [a] [] pos) (.int (if z then 1 else 0)) := fun B sg H Q hs k => by
  refine e_of (pe_callTy call_int1 hg hm (by decide +kernel) (pa_cons e_wp pa_nil hst) (he := hst)) ?_
  refine ha B sg H _ hs fun v H1 s1 q1 => ?_
  rw [dp_bl q1]
  exact .inr ⟨z, rfl, k _ H1 s1 (.int _)⟩
theorem ev_abs {p : Pos} (ha : Ev X M r a (.int i)) (hm : X.mg "abs" = none) (hg : Gl X "abs" := by rfl) (hst : starEach [a] X.env = (false, eval a X.env) :: starEach [] X.env := by rfl) : Ev X M r (.Call (.Name "abs" p) [a] [] pos) (.int (if i < 0 then -i else i)) := fun B sg H Q hs k => by
  refine e_of (pe_callB call_abs hg hm (by decide +kernel) (pa_cons e_wp pa_nil hst) (he := hst)) ?_
  refine ha B sg H _ hs fun v H1 s1 q1 => ?_
  rw [dp_int q1]
  exact ⟨i, rfl, k _ H1 s1 (.int _)⟩
/-- gcd, imported by its name -/
theorem ev_gcd {x : Str} {p : Pos} (ha : Ev X M r a (.int i)) (hb : Ev X M r b (.int j)) (hm : X.mg x = some (.builtin "math.gcd")) (hg : Gl X x := by rfl) (hdb : (x == ("__debug__" : Str)) = false := by decide)
    (hst : starEach [a, b] X.env = (false, eval a X.env) :: starEach [b] X.env := by rfl) (hst2 : starEach [b] X.env = (false, eval b X.env) :: starEach [] X.env := by rfl) (hpl : (backTo pos (starEach [b] X.env)).any (·.1) = false := by rfl) :
    Ev X M r (.Call (.Name x p) [a, b] [] pos) (.int ((Nat.gcd i.natAbs j.natAbs : Nat) : Int)) := fun B sg H Q hs k => by
  refine e_of (pe_callBfun cr_gcd hg hm (pa_cons e_wp (pa_cons e_wp pa_nil hst2) hst) hdb (he := hst) (hpl := hpl)) ?_
  refine ha B sg H _ hs fun v H1 s1 q1 => ?_
  refine hb B sg H1 _ (hs.mono s1) fun u H2 s2 q2 => ?_
  rw [dp_int q1, dp_int q2]
  exact ⟨i, j, rfl, k _ H2 (s1.trans s2) (.int _)⟩

/-! ### comparisons -/
def CmpOk (X : Cx) (M : Mem) (rr : R2) (d1 d2 : PyData) (z : Bool) : Prop := ∀ (H : Hp) (x y : V) (Q : VK), Dp X.K (hid M H) x d1 → Dp X.K (hid M H) y d2 → Q (.bl z) H → rr x y H Q
variable {z z1 z2 : Bool}
theorem ev_cmp {op : CmpOp} {rr : R2} (ho : OpR X (compareOp op) rr) (c : CmpOk X M rr d1 d2 z) (ha : Ev X M r a d1) (hb : Ev X M r b d2) (hm : behindInMarks op b = false := by first | exact nomark _ (by decide) (by decide) | rfl) : Ev X M r (.Compare a [op] [b] pos) (.bool z) := fun B sg H Q hs k => by
  refine e_of (pe_cmpR ho e_wp e_wp hm) ?_
  refine ha B sg H _ hs fun v H1 s1 q1 => ?_
  refine hb B sg H1 _ (hs.mono s1) fun u H2 s2 q2 => ?_
  exact c H2 v u Q (dp_mono (hid_mono s2) q1) q2 (k _ H2 (s1.trans s2) (.bl z))
theorem evt_cmp {op : CmpOp} {rr : R2} (ho : OpR X (compareOp op) rr) (c : CmpOk X M rr d1 d2 z) (ha : Ev X M r a d1) (hb : Ev X M r b d2) (hm : behindInMarks op b = false := by first | exact nomark _ (by decide) (by decide) | rfl) : EvT X M r (.Compare a [op] [b] pos) z := fun B sg H Q hs k => by
  refine t_of (pt_cmpR ho e_wp e_wp hm) ?_
  refine ha B sg H _ hs fun v H1 s1 q1 => ?_
  refine hb B sg H1 _ (hs.mono s1) fun u H2 s2 q2 => ?_
  exact c H2 v u _ (dp_mono (hid_mono s2) q1) q2 ⟨z, rfl, k H2 (s1.trans s2)⟩
theorem c_lt : CmpOk X M (rI0 fun i j => .bl (decide (i < j))) (.int i) (.int j) (decide (i < j)) := fun H x y Q hx hy k => by rw [dp_int hx, dp_int hy]; exact ⟨i, j, rfl, rfl, k⟩
theorem c_le : CmpOk X M (rI0 fun i j => .bl (decide (i ≤ j))) (.int i) (.int j) (decide (i ≤ j)) := fun H x y Q hx hy k => by rw [dp_int hx, dp_int hy]; exact ⟨i, j, rfl, rfl, k⟩
theorem c_gt : CmpOk X M (rI0 fun i j => .bl (decide (j < i))) (.int i) (.int j) (decide (j < i)) := fun H x y Q hx hy k => by rw [dp_int hx, dp_int hy]; exact ⟨i, j, rfl, rfl, k⟩
theorem c_ge : CmpOk X M (rI0 fun i j => .bl (decide (j ≤ i))) (.int i) (.int j) (decide (j ≤ i)) := fun H x y Q hx hy k => by rw [dp_int hx, dp_int hy]; exact ⟨i, j, rfl, rfl, k⟩
theorem c_eqI : CmpOk X M rEq (.int i) (.int j) (decide (i = j)) := fun H x y Q hx hy k => by
  rw [dp_int hx, dp_int hy]
  exact ⟨rfl, by rw [dec_int, Bool.beq_eq_decide_eq]; exact k⟩
theorem c_neI : CmpOk X M rNe (.int i) (.int j) (!decide (i = j)) := fun H x y Q hx hy k => by
  rw [dp_int hx, dp_int hy]
  exact ⟨rfl, by rw [dec_int, Bool.beq_eq_decide_eq]; exact k⟩
variable {s1 s2 : Str}
theorem c_eqS : CmpOk X M rEq (.str s1) (.str s2) (decide (s1 = s2)) := fun H x y Q hx hy k => by
  rw [dp_str hx, dp_str hy]
  exact ⟨rfl, by rw [dec_str, Bool.beq_eq_decide_eq]; exact k⟩
theorem c_neS : CmpOk X M rNe (.str s1) (.str s2) (!decide (s1 = s2)) := fun H x y Q hx hy k => by
  rw [dp_str hx, dp_str hy]
  exact ⟨rfl, by rw [dec_str, Bool.beq_eq_decide_eq]; exact k⟩
theorem c_eqD (h1 : SeqAt.shaped d1 = true) (h2 : SeqAt.shaped d2 = true) : CmpOk X M (rEqD X.K) d1 d2 (PyData.eqv d1 d2) := fun H x y Q hx hy k => ⟨d1, d2, dp_mono hid_le hx, dp_mono hid_le hy, h1, h2, k⟩
theorem c_neD (h1 : SeqAt.shaped d1 = true) (h2 : SeqAt.shaped d2 = true) : CmpOk X M (rNeD X.K) d1 d2 (!PyData.eqv d1 d2) := fun H x y Q hx hy k => ⟨d1, d2, dp_mono hid_le hx, dp_mono hid_le hy, h1, h2, k⟩
/-- the same where a side is a list that may only be read -/
theorem dp_mlist {K : PySem.W.Frag} {H : Hp} {p : Addr} {xs : List V} (h : SqL K H p xs) (q : DpAll K H xs ds) : Dp K H (.ref p) (.list ds) := .lst h q
theorem evt_in {rr : R2} (ha : Ev X M r a (.int i)) (hb : EvR X M r b (ns.map PyData.int)) (hm : behindInMarks .In b = false := by rfl) : EvT X M r (.Compare a [.In] [b] pos) (decide (i ∈ ns)) := fun B sg H Q hs k => by
  refine t_of (pt_cmpR op_in_seq e_wp e_wp hm) ?_
  refine ha B sg H _ hs fun v H1 s1 q1 => ?_
  refine hb B sg H1 _ (hs.mono s1) fun p xs H2 s2 q2 q3 => ?_
  rw [dp_int q1]
  rw [dpa_ints q3] at q2
  refine ⟨p, _, rfl, .inl q2, rfl, ?_, ⟨_, rfl, ?_⟩⟩
  · rw [List.all_eq_true]; intro x hx; obtain ⟨n, _, rfl⟩ := List.mem_map.mp hx; rfl
  · have : inV (.int i) (ns.map V.int) = decide (i ∈ ns) := by
      unfold inV
      rw [Bool.eq_iff_iff, List.any_eq_true]
      simp only [List.mem_map, decide_eq_true_eq]
      constructor
      · rintro ⟨x, ⟨n, hn, rfl⟩, h2⟩
        have : n = i := by simpa [eqV] using h2
        rw [← this]; exact hn
      · intro h; exact ⟨_, ⟨i, h, rfl⟩, by simp [eqV]⟩
    rw [if_neg Bool.false_ne_true, this]
    exact k H2 (s1.trans s2)
theorem inV_ints {i : Int} : inV (.int i) (ns.map V.int) = decide (i ∈ ns) := by
  unfold inV
  rw [Bool.eq_iff_iff, List.any_eq_true]
  simp only [List.mem_map, decide_eq_true_eq]
  constructor
  · rintro ⟨x, ⟨n, hn, rfl⟩, h2⟩
    have : n = i := by simpa [eqV] using h2
    rw [← this]; exact hn
  · intro h; exact ⟨_, ⟨i, h, rfl⟩, by simp [eqV]⟩
theorem inV_strs {i : Str} {ns : List Str} : inV (.str i) (ns.map V.str) = decide (i ∈ ns) := by
  unfold inV
  rw [Bool.eq_iff_iff, List.any_eq_true]
  simp only [List.mem_map, decide_eq_true_eq]
  constructor
  · rintro ⟨x, ⟨n, hn, rfl⟩, h2⟩
    have : n = i := by simpa [eqV] using h2
    rw [← this]; exact hn
  · intro h; exact ⟨_, ⟨i, h, rfl⟩, by simp [eqV]⟩
theorem flat_ints : (ns.map V.int).all flatV = true := by
  rw [List.all_eq_true]; intro x hx; obtain ⟨n, _, rfl⟩ := List.mem_map.mp hx; rfl
theorem flat_strsV {ns : List Str} : (ns.map V.str).all flatV = true := by
  rw [List.all_eq_true]; intro x hx; obtain ⟨n, _, rfl⟩ := List.mem_map.mp hx; rfl
theorem ev_in (ha : Ev X M r a (.int i)) (hb : EvR X M r b (ns.map PyData.int)) (hm : behindInMarks .In b = false := by rfl) : Ev X M r (.Compare a [.In] [b] pos) (.bool (decide (i ∈ ns))) := fun B sg H Q hs k => by
  refine e_of (pe_cmpR op_in_seq e_wp e_wp hm) ?_
  refine ha B sg H _ hs fun v H1 s1 q1 => ?_
  refine hb B sg H1 _ (hs.mono s1) fun p xs H2 s2 q2 q3 => ?_
  rw [dp_int q1]
  rw [dpa_ints q3] at q2
  refine ⟨p, _, rfl, .inl q2, rfl, flat_ints, ?_⟩
  rw [if_neg Bool.false_ne_true, inV_ints]
  exact k _ H2 (s1.trans s2) (.bl _)
theorem evt_nin (ha : Ev X M r a (.int i)) (hb : EvR X M r b (ns.map PyData.int)) (hm : behindInMarks .NotIn b = false := by rfl) : EvT X M r (.Compare a [.NotIn] [b] pos) (!decide (i ∈ ns)) := fun B sg H Q hs k => by
  refine t_of (pt_cmpR op_notIn_seq e_wp e_wp hm) ?_
  refine ha B sg H _ hs fun v H1 s1 q1 => ?_
  refine hb B sg H1 _ (hs.mono s1) fun p xs H2 s2 q2 q3 => ?_
  rw [dp_int q1]
  rw [dpa_ints q3] at q2
  refine ⟨p, _, rfl, .inl q2, rfl, flat_ints, _, rfl, ?_⟩
  rw [if_pos rfl, inV_ints]
  exact k H2 (s1.trans s2)
theorem evt_inS {ns : List Str} (ha : Ev X M r a (.str s1)) (hb : EvR X M r b (ns.map PyData.str)) (hm : behindInMarks .In b = false := by rfl) : EvT X M r (.Compare a [.In] [b] pos) (decide (s1 ∈ ns)) := fun B sg H Q hs k => by
  refine t_of (pt_cmpR op_in_seq e_wp e_wp hm) ?_
  refine ha B sg H _ hs fun v H1 s1 q1 => ?_
  refine hb B sg H1 _ (hs.mono s1) fun p xs H2 s2 q2 q3 => ?_
  rw [dp_str q1]
  rw [dpa_strs q3] at q2
  refine ⟨p, _, rfl, .inl q2, rfl, flat_strsV, _, rfl, ?_⟩
  rw [if_neg Bool.false_ne_true, inV_strs]
  exact k H2 (s1.trans s2)
/-- is not None -/
theorem evt_notN {j : Nat} {p : Pos} (ha : Ev X M r a d) : EvT X M r (.Compare a [.IsNot] [.Constant .none j p] pos) (notNone d) := fun B sg H Q hs k => by
  refine t_of (pt_cmpR op_notN e_wp pe_non (nomark _)) ?_
  refine ha B sg H _ hs fun v H1 s1 q1 => ?_
  refine ⟨rfl, _, rfl, ?_⟩
  have : (!decide (v = V.non)) = notNone d := by
    cases q1 <;> simp [notNone]
  rw [this]
  exact k H1 s1

/-! ### tests -/
theorem evt_val (h : Ev X M r e (.bool z)) (he : ∀ whole, isTrue e X.env whole = (do let v ← whole; standAt e.pos; holding [v] (truthy v)) := by intro _; rfl) : EvT X M r e z := fun B sg H Q hs k => by
  refine t_of (pt_val e_wp he) ?_
  refine h B sg H _ hs fun v H1 s1 q1 => ?_
  exact ⟨z, dp_bl q1, k H1 s1⟩
theorem evt_list (h : EvR X M r e ds) (he : ∀ whole, isTrue e X.env whole = (do let v ← whole; standAt e.pos; holding [v] (truthy v)) := by intro _; rfl) : EvT X M r e (!ds.isEmpty) := fun B sg H Q hs k => by
  refine t_of (pt_truth e_wp he) ?_
  refine h B sg H _ hs fun p xs H1 s1 q1 q2 => ?_
  refine ⟨_, .inl ⟨xs, q1, rfl⟩, ?_⟩
  have : xs.isEmpty = ds.isEmpty := by
    have := dpa_len q2
    cases xs <;> cases ds <;> simp_all
  rw [this]
  exact k H1 s1
theorem evt_not (h : EvT X M r a z) : EvT X M r (.UnaryOp .Not a pos) (!z) := fun B sg H Q hs k => by
  refine t_of (pt_not t_wp) ?_
  exact h B sg H _ hs fun H1 s1 => k H1 s1
theorem ev_not (h : Ev X M r a (.bool z)) : Ev X M r (.UnaryOp .Not a pos) (.bool (!z)) := fun B sg H Q hs k => by
  refine e_of (pe_not e_wp) ?_
  refine h B sg H _ hs fun v H1 s1 q1 => ?_
  exact ⟨z, dp_bl q1, k _ H1 s1 (.bl _)⟩
theorem evw_and1 (h : EvT X M r a z) : EvW X M r (.BoolOp .And [a] pos) z := fun B sg H Q hs k => w_of (pw_and1 t_wp) (h B sg H Q hs k)
theorem evw_or1 (h : EvT X M r a z) : EvW X M r (.BoolOp .Or [a] pos) z := fun B sg H Q hs k => w_of (pw_or1 t_wp) (h B sg H Q hs k)
variable {rest : List Expr}
theorem evw_and (h : EvT X M r a z1) (h2 : z1 = true → EvW X M r (.BoolOp .And (b :: rest) pos) z2) : EvW X M r (.BoolOp .And (a :: b :: rest) pos) (z1 && z2) := fun B sg H Q hs k => by
  refine w_of (pw_and t_wp w_wp) ?_
  refine h B sg H _ hs fun H1 s1 => ?_
  cases z1 with
  | true => exact iteT (h2 rfl B sg H1 Q (hs.mono s1) fun H2 s2 => k H2 (s1.trans s2))
  | false => exact iteF (k H1 s1)
theorem evw_or (h : EvT X M r a z1) (h2 : z1 = false → EvW X M r (.BoolOp .Or (b :: rest) pos) z2) : EvW X M r (.BoolOp .Or (a :: b :: rest) pos) (z1 || z2) := fun B sg H Q hs k => by
  refine w_of (pw_or t_wp w_wp) ?_
  refine h B sg H _ hs fun H1 s1 => ?_
  cases z1 with
  | false => exact iteF (h2 rfl B sg H1 Q (hs.mono s1) fun H2 s2 => k H2 (s1.trans s2))
  | true => exact iteT (k H1 s1)
theorem EvW.toT (h : EvW X M r e z) : EvT X M r e z := fun B sg H Q hs k => t_of w_wp.pt (h B sg H Q hs k)
theorem ev_one {op : BoolOp} (h : Ev X M r a d) : Ev X M r (.BoolOp op [a] pos) d := fun B sg H Q hs k => e_of (pe_one e_wp) (h B sg H Q hs k)
theorem ev_and (h : Ev X M r a (.bool z1)) (h2 : z1 = true → Ev X M r (.BoolOp .And (b :: rest) pos) (.bool z2)) : Ev X M r (.BoolOp .And (a :: b :: rest) pos) (.bool (z1 && z2)) := fun B sg H Q hs k => by
  refine e_of (pe_and e_wp e_wp) ?_
  refine h B sg H _ hs fun v H1 s1 q1 => ⟨z1, dp_bl q1, ?_⟩
  cases z1 with
  | true => exact iteT (h2 rfl B sg H1 Q (hs.mono s1) fun v H2 s2 q2 => k v H2 (s1.trans s2) q2)
  | false => exact iteF (k _ H1 s1 (.bl false))
/-- a chain of two comparisons of ints as a test -/
theorem evt_chain {op op' : CmpOp} {rr rr' : R2} {d3 : PyData} (ho : OpR X (compareOp op) rr) (ho' : OpR X (compareOp op') rr') (c1 : CmpOk X M rr d1 d2 z1) (c2 : CmpOk X M rr' d2 d3 z2) (ha : Ev X M r a d1) (hb : Ev X M r b d2) (hc : Ev X M r c d3)
    (t : PT X (.Compare a [op, op'] [b, c] pos) (tTest (tChain rr rr' (wpE X a) (wpE X b) (wpE X c)))) : EvT X M r (.Compare a [op, op'] [b, c] pos) (z1 && z2) := fun B sg H Q hs k => by
  refine t_of t ?_
  refine ha B sg H _ hs fun v H1 s1 q1 => ?_
  refine hb B sg H1 _ (hs.mono s1) fun u H2 s2 q2 => ?_
  refine c1 H2 v u _ (dp_mono (hid_mono s2) q1) q2 ⟨z1, rfl, ?_⟩
  cases z1 with
  | true =>
    refine iteT (hc B sg H2 _ ((hs.mono s1).mono s2) fun x H3 s3 q3 => ?_)
    exact c2 H3 u x _ (dp_mono (hid_mono s3) q2) q3 ⟨z2, rfl, k H3 ((s1.trans s2).trans s3)⟩
  | false => exact iteF ⟨false, rfl, k H2 (s1.trans s2)⟩
theorem ev_if (hc : EvT X M r c z) (ha : z = true → Ev X M r a d) (hb : z = false → Ev X M r b d) : Ev X M r (.IfExp c a b pos) d := fun B sg H Q hs k => by
  refine e_of (pe_ifExp t_wp e_wp e_wp) ?_
  refine hc B sg H _ hs fun H1 s1 => ?_
  cases z with
  | true => exact iteT (ha rfl B sg H1 Q (hs.mono s1) fun v H2 s2 q2 => k v H2 (s1.trans s2) q2)
  | false => exact iteF (hb rfl B sg H1 Q (hs.mono s1) fun v H2 s2 q2 => k v H2 (s1.trans s2) q2)
theorem Ev.cast (h : Ev X M r e d1) (q : d1 = d2) : Ev X M r e d2 := q ▸ h
theorem EvT.cast (h : EvT X M r e z1) (q : z1 = z2) : EvT X M r e z2 := q ▸ h
theorem EvF.cast (h : EvF X M r e ds1) (q : ds1 = ds2) : EvF X M r e ds2 := q ▸ h
theorem EvR.cast (h : EvR X M r e ds1) (q : ds1 = ds2) : EvR X M r e ds2 := q ▸ h
end

/-! ### calls -/
/-- a def's promise: the data F tells -/
def PureSp (K : PySem.W.Frag) (F : List PyData → PyData → Prop) : Sp := fun vs H Q _ => ∃ (M : Mem) (ds : List PyData) (d : PyData), (∀ m ∈ M, H m ≠ none) ∧ DpAll K (hid M H) vs ds ∧ F ds d ∧
  ∀ v H', Same H H' → Dp K (hid M H') v d → Q v H'
/-- .. a new list -/
def PureSpF (K : PySem.W.Frag) (F : List PyData → List PyData → Prop) : Sp := fun vs H Q _ => ∃ (M : Mem) (ds es : List PyData), (∀ m ∈ M, H m ≠ none) ∧ DpAll K (hid M H) vs ds ∧ F ds es ∧
  ∀ p xs H', Same H H' → H p = none → H' p = some (.lst xs) → DpAll K (hid (p :: M) H') xs es → Q (.ref p) H'
structure Fnc (P : Program) (w : World) (K : PySem.W.Frag) (mg : Str → Option Value) (base : Heap) (k : Nat) (x : Str) (sp : Sp) : Prop where
  ex : ∃ f fd ps, mg x = some (.ref f) ∧ PySem.W.keepIn K (.ref f) = true ∧ Binds K fd ps [] ∧ FnOk P w K mg base CX0 k f fd ps sp
section
variable {X : Cx} {M : Mem} {r : List Sl} {e : Expr} {es : List Expr} {d : PyData} {ds us : List PyData} {p pos : Pos} {x : Str} {k : Nat} {F : List PyData → PyData → Prop} {G : List PyData → List PyData → Prop}
theorem ev_call (hf : Fnc X.prog X.w X.K X.mg X.base k x (PureSp X.K F)) (hr : Room k X.A) (ha : EvA X M r (e :: es) ds) (h : F ds d) (hg : Gl X x := by rfl)
    (hdb : (x == ("__debug__" : Str)) = false := by decide) (he : starEach (e :: es) X.env = (false, eval e X.env) :: starEach es X.env := by rfl) (hpl : (backTo pos (starEach es X.env)).any (·.1) = false := by rfl) : Ev X M r (.Call (.Name x p) (e :: es) [] pos) d := fun B sg H Q hs kk => by
  obtain ⟨f, fd, ps, h1, h2, h3, h4⟩ := hf.ex
  refine e_of (pe_call h4 hr hg h1 h2 h3 .nil pass0 a_wp hdb he hpl) ?_
  refine ha B sg H _ hs fun vs H1 s1 q1 => ?_
  rw [List.append_nil]
  exact ⟨M, ds, d, (hs.mono s1).there, q1, h, fun v H' s q => kk v H' (s1.trans s) q⟩
theorem evf_call (hf : Fnc X.prog X.w X.K X.mg X.base k x (PureSpF X.K G)) (hr : Room k X.A) (ha : EvA X M r (e :: es) ds) (h : G ds us) (hg : Gl X x := by rfl)
    (hdb : (x == ("__debug__" : Str)) = false := by decide) (he : starEach (e :: es) X.env = (false, eval e X.env) :: starEach es X.env := by rfl) (hpl : (backTo pos (starEach es X.env)).any (·.1) = false := by rfl) : EvF X M r (.Call (.Name x p) (e :: es) [] pos) us := fun B sg H Q hs kk => by
  obtain ⟨f, fd, ps, h1, h2, h3, h4⟩ := hf.ex
  refine e_of (pe_call h4 hr hg h1 h2 h3 .nil pass0 a_wp hdb he hpl) ?_
  refine ha B sg H _ hs fun vs H1 s1 q1 => ?_
  rw [List.append_nil]
  exact ⟨M, ds, us, (hs.mono s1).there, q1, h, fun p xs H' s n q1 q2 => kk p xs H' (s1.trans s) (s1.free n) q1 q2⟩
end
end K51
set_option Elab.async false
set_option linter.all false
set_option maxRecDepth 100000
namespace K51
open PySem PySem.Spec PyProof.Rows L2

/-! ### targets -/
/-- binding the target to d: the slots js change, r becomes r' -/
def BG (X : Cx) (M : Mem) (tg : Expr) (js : List Nat) (r : List Sl) (d : PyData) (r' : List Sl) : Prop :=
  ∀ (B : Bs) (sg : L2.St) (H : Hp) (v : V) (Q : L2.St → Hp → Prop), SR X.K B M r sg H → Dp X.K (hid M H) v d →
    (∀ sg', SR X.K B M r' sg' H → sg'.length = sg.length → (∀ j, j ∉ js → sg'[j]? = sg[j]?) → Q sg' H) → wpG X tg v sg H Q
section
variable {X : Cx} {M : Mem} {r r1 r2 : List Sl} {d d1 d2 : PyData} {pos : Pos} {js js1 js2 : List Nat} {t1 t2 : Expr}
theorem bg_name (i : Nat) {x : Str} (hN : X.N.Nodup) (hi : X.N[i]? = some x := by rfl) (hx : Loc X.env.scope x := by first | exact Or.inl rfl | exact Or.inr rfl) (hf : X.fn x = true ∨ X.env.scope.names.lookup x = some .local := by first | exact .inl rfl | exact .inr rfl) :
    BG X M (.Name x pos) [i] r d (r.set i (.dat d)) := fun B sg H v Q hs hd k => by
  refine g_of (pg_name hN hi hx hf) ?_
  refine k _ (hs.set hd) (List.length_set ..) fun j hj => ?_
  rw [List.getElem?_set_ne fun z => hj (by rw [z]; exact List.mem_singleton.mpr rfl)]
theorem bg_pair {kk : Nat} (hc : X.calm = true) (h1 : BG X M t1 js1 r d1 r1) (h2 : BG X M t2 js2 r1 d2 r2)
    (e1 : (assignEach [t1, t2] X.env).map (·.2) = assign t1 X.env :: (assignEach [t2] X.env).map (·.2) := by rfl) (e2 : (assignEach [t2] X.env).map (·.2) = assign t2 X.env :: (assignEach [] X.env).map (·.2) := by rfl)
    (hn : (assignEach [t1, t2] X.env).length = 2 := by rfl) (hst : (assignEach [t1, t2] X.env).findIdx? (·.1) = none := by rfl) :
    BG X M (.Tuple [t1, t2] kk pos) (js1 ++ js2) r (.tuple [d1, d2]) r2 := fun B sg H v Q hs hd k => by
  refine g_of (pg_tup (n := 2) hc (pgs_cons g_wp (pgs_cons g_wp pgs_nil e2) e1) hn hst) ?_
  obtain ⟨a, xs, rfl, q1, q2⟩ := dp_tup hd
  cases q2 with
  | cons z1 z2 =>
    cases z2 with
    | cons z3 z4 =>
      cases z4
      refine ⟨a, _, rfl, Same.seqT hid_le q1, rfl, _, _, rfl, ?_⟩
      refine h1 B sg H _ _ hs z1 fun sg1 hs1 l1 f1 => ?_
      refine ⟨_, _, rfl, ?_⟩
      refine h2 B sg1 H _ _ hs1 z3 fun sg2 hs2 l2 f2 => ⟨rfl, ?_⟩
      exact k sg2 hs2 (l2.trans l1) fun j hj => by
        rw [f2 j fun z => hj (List.mem_append_right _ z), f1 j fun z => hj (List.mem_append_left _ z)]
end

/-! ### what is walked -/
/-- walking iter with the target tg gives the data ds -/
def EvI (X : Cx) (M : Mem) (r : List Sl) (tg iter : Expr) (ds : List PyData) : Prop :=
  ∃ wi : TI, PI X tg iter wi ∧ ∀ (B : Bs) (sg : L2.St) (H : Hp) (R : It → Hp → Prop), SR X.K B M r sg H →
    (∀ (J : It) (H1 : Hp) (G : Hp → Prop) (Y : Nat → Hp → V → Hp → Prop), Same H H1 → Walk J ds.length G Y → (∀ H', Same (hid M H1) H' → G H') →
      (∀ i Hc v H', G Hc → Y i Hc v H' → ∀ (d : PyData) (M' : Mem), ds[i]? = some d → Same (hid M H1) (hid M' Hc) → (∀ m ∈ M', Hc m ≠ none) → Same Hc H' ∧ Dp X.K (hid M' H') v d) → R J H1) → wi sg H R
section
variable {X : Cx} {M : Mem} {r : List Sl} {e e2 tg : Expr} {ds ds2 : List PyData} {pos p : Pos} {i : Int}
theorem evi_list (h : Ev X M r e (.list ds)) : EvI X M r tg e ds := ⟨_, pi_list e_wp, fun B sg H R hs k => by
  refine h B sg H _ hs fun v H1 s1 q1 => ?_
  obtain ⟨a, xs, rfl, h1, h2⟩ := dp_list q1
  refine ⟨a, rfl, ⟨xs, L2.Same.seq hid_le h1⟩, ?_⟩
  refine k _ H1 (fun H => SqL X.K H a xs) (YAt xs) s1 (by rw [← dpa_len h2]; exact walk_list) (fun H' s => L2.Same.seq s h1) fun i Hc v H' _ y d M' e s _ => ?_
  obtain ⟨rfl, y⟩ := y
  obtain ⟨x, e1, e2⟩ := dpa_get h2 e
  rw [y] at e1; cases e1
  exact ⟨Same.refl _, dp_mono s e2⟩⟩
theorem evi_range (h : Ev X M r e (.int i)) (h0 : 0 ≤ i) (h1 : i < 2 ^ 62) (hm : X.mg "range" = none) (hg : Gl X "range" := by rfl) (hst : starEach [e] X.env = [(false, eval e X.env)] := by rfl) (hst2 : starEach [e] X.env = (false, eval e X.env) :: starEach [] X.env := by rfl) :
    EvI X M r tg (.Call (.Name "range" p) [e] [] pos) ((List.range i.toNat).map fun n => .int (n : Nat)) := ⟨_, pi_range1 hg hm (pa_cons e_wp pa_nil hst2) hst, fun B sg H R hs k => by
  refine h B sg H _ hs fun v H1 s1 q1 => ?_
  rw [dp_int q1]
  refine ⟨i, rfl, by omega, h1, ?_⟩
  refine k _ H1 (fun _ => True) (YFn fun i => .int (0 + i)) s1 (by rw [List.length_map, List.length_range]; exact walk_range) (fun _ _ => trivial) fun n Hc v H' _ y d M' e s _ => ?_
  obtain ⟨rfl, rfl⟩ := y
  rw [List.getElem?_map] at e
  obtain ⟨m, e1, rfl⟩ := Option.map_eq_some_iff.mp e
  have : m = n := by
    rw [List.getElem?_range] at e1
    · exact (Option.some.inj e1).symm
    · have := (List.getElem?_eq_some_iff.mp e1).1
      rwa [List.length_range] at this
  subst this
  refine ⟨Same.refl _, ?_⟩
  show Dp X.K (hid M' H') (.int (0 + (m : Nat))) _
  rw [Int.zero_add]
  exact .int _⟩
theorem evi_enum {elts : List Expr} {kk : Nat} {tpos : Pos} (h : Ev X M r e (.list ds)) (hm : X.mg "enumerate" = none) (hg : Gl X "enumerate" := by rfl) (hst : starEach [e] X.env = [(false, eval e X.env)] := by rfl) (hst2 : starEach [e] X.env = (false, eval e X.env) :: starEach [] X.env := by rfl) :
    EvI X M r (.Tuple elts kk tpos) (.Call (.Name "enumerate" p) [e] [] pos) (ds.zipIdx.map fun di => .tuple [.int (di.2 : Nat), di.1]) := ⟨_, pi_enum hg hm (pa_cons e_wp pa_nil hst2) hst, fun B sg H R hs k => by
  refine h B sg H _ hs fun v H1 s1 q1 => ?_
  obtain ⟨a, xs, rfl, h1, h2⟩ := dp_list q1
  refine ⟨a, xs, rfl, L2.Same.seq hid_le h1, ?_⟩
  refine k _ H1 (fun H => SqL X.K H a xs) (YPair (fun i => some (.int (i : Nat))) (fun i => xs[i]?)) s1 (by rw [List.length_map, List.length_zipIdx, ← dpa_len h2]; exact walk_enum) (fun H' s => L2.Same.seq s h1) fun i Hc v H' _ y d M' e s hM => ?_
  obtain ⟨T, x, z, rfl, hT, rfl, ex, ez⟩ := y
  cases ex
  rw [List.getElem?_map] at e
  obtain ⟨⟨d', m⟩, e1, rfl⟩ := Option.map_eq_some_iff.mp e
  rw [List.getElem?_zipIdx] at e1
  obtain ⟨d'', e2, e3⟩ := Option.map_eq_some_iff.mp e1
  cases e3
  obtain ⟨x', e4, e5⟩ := dpa_get h2 e2
  have ez' : xs[i]? = some z := ez
  rw [ez'] at e4; cases e4
  have nT : T ∉ M' := fun z => hM T z hT
  have sT := same_upd (o := HO.tup [.int (i : Nat), z]) hT
  refine ⟨sT, .tup (.inl (.inl (by rw [hid_out nT, upd_same]))) ?_⟩
  rw [Nat.zero_add]
  exact .cons (.int _) (.cons (dp_mono (s.trans (hid_mono sT)) e5) .nil)⟩
theorem evi_zip {elts : List Expr} {kk : Nat} {tpos : Pos} (h : Ev X M r e (.list ds)) (h' : Ev X M r e2 (.list ds2)) (hm : X.mg "zip" = none) (hg : Gl X "zip" := by rfl)
    (hs1 : starEach [e, e2] X.env = (false, eval e X.env) :: starEach [e2] X.env := by rfl) (hs2 : starEach [e2] X.env = (false, eval e2 X.env) :: starEach [] X.env := by rfl) (hpl : (backTo pos (starEach [e2] X.env)).any (·.1) = false := by rfl) :
    EvI X M r (.Tuple elts kk tpos) (.Call (.Name "zip" p) [e, e2] [] pos) ((ds.zip ds2).map fun di => .tuple [di.1, di.2]) := ⟨_, pi_zip hg hm (pa_cons e_wp (pa_cons e_wp pa_nil hs2) hs1) hs1 hpl, fun B sg H R hs k => by
  refine h B sg H _ hs fun v H1 s1 q1 => ?_
  refine h' B sg H1 _ (hs.mono s1) fun u H2 s2 q2 => ?_
  obtain ⟨a, xs, rfl, h1, h2⟩ := dp_list q1
  obtain ⟨b, ys, rfl, h3, h4⟩ := dp_list q2
  have h1' := L2.Same.seq (hid_mono s2) h1
  have h2' := dpa_mono (hid_mono s2) h2
  refine ⟨a, b, xs, ys, rfl, L2.Same.seq hid_le h1', L2.Same.seq hid_le h3, ?_⟩
  refine k _ H2 (fun H => SqL X.K H a xs ∧ SqL X.K H b ys) (YPair (fun i => xs[i]?) (fun i => ys[i]?)) (s1.trans s2) (by rw [List.length_map, List.length_zip, ← dpa_len h2, ← dpa_len h4]; exact walk_zip rfl) (fun H' s => ⟨L2.Same.seq s h1', L2.Same.seq s h3⟩) fun i Hc v H' _ y d M' e s hM => ?_
  obtain ⟨T, x, z, rfl, hT, rfl, ex, ez⟩ := y
  rw [List.getElem?_map] at e
  obtain ⟨⟨d1, d2⟩, e1, rfl⟩ := Option.map_eq_some_iff.mp e
  rw [List.getElem?_zip_eq_some] at e1
  obtain ⟨x', e4, e5⟩ := dpa_get h2' e1.1
  obtain ⟨z', e6, e7⟩ := dpa_get h4 e1.2
  have ex' : xs[i]? = some x := ex
  have ez' : ys[i]? = some z := ez
  rw [ex'] at e4; cases e4
  rw [ez'] at e6; cases e6
  have nT : T ∉ M' := fun z => hM T z hT
  have sT := same_upd (o := HO.tup [x, z]) hT
  refine ⟨sT, .tup (.inl (.inl (by rw [hid_out nT, upd_same]))) ?_⟩
  exact .cons (dp_mono (s.trans (hid_mono sT)) e5) (.cons (dp_mono (s.trans (hid_mono sT)) e7) .nil)⟩
theorem EvI.cast {ds1 ds2 : List PyData} (h : EvI X M r tg e ds1) (q : ds1 = ds2) : EvI X M r tg e ds2 := q ▸ h
end

/-! ### comprehensions -/
/-- a clause's tests -/
def EvTs (X : Cx) (M : Mem) (r : List Sl) (ifs : List Expr) (b : Bool) : Prop :=
  ∀ (B : Bs) (sg : L2.St) (H : Hp) (Q : Bool → Hp → Prop), SR X.K B M r sg H → (∀ H', Same H H' → Q b H') → wpTs X ifs sg H Q
theorem evts_nil {X : Cx} {M : Mem} {r : List Sl} : EvTs X M r [] true := fun B sg H Q hs k => ts_of pts_nil (k H (Same.refl _))
theorem evts_one {X : Cx} {M : Mem} {r : List Sl} {c : Expr} {z : Bool} (h : EvT X M r c z) : EvTs X M r [c] z := fun B sg H Q hs k => ts_of (pts_one t_wp) (h B sg H Q hs k)
def wipeR (r : List Sl) : List Nat → List Sl
  | [] => r
  | v :: vs => (wipeR r vs).set v .unk
theorem wipe_get {sg : L2.St} : ∀ {vs : List Nat} {j : Nat}, (wipe sg vs)[j]? = if j ∈ vs then (if j < sg.length then some none else none) else sg[j]?
  | [], j => by simp [wipe]
  | v :: vs, j => by
    unfold wipe
    by_cases hj : v = j
    · subst hj
      by_cases hl : v < sg.length
      · rw [List.getElem?_set_self (by rw [wipe_length]; exact hl)]; simp [hl]
      · rw [List.getElem?_eq_none (by rw [List.length_set, wipe_length]; omega)]; simp [hl]
    · rw [List.getElem?_set_ne hj, wipe_get]
      have : j ∈ v :: vs ↔ j ∈ vs := by simp [List.mem_cons, Ne.symm hj]
      simp only [this]
theorem wipe_eq {sg sg' : L2.St} {vs : List Nat} (hl : sg'.length = sg.length) (h : ∀ j, j ∉ vs → sg'[j]? = sg[j]?) : wipe sg' vs = wipe sg vs := by
  apply List.ext_getElem?
  intro j
  rw [wipe_get, wipe_get, hl]
  by_cases hj : j ∈ vs
  · rw [if_pos hj, if_pos hj]
  · rw [if_neg hj, if_neg hj, h j hj]
theorem SR.wipe {K : PySem.W.Frag} {B : Bs} {M : Mem} {r : List Sl} {sg : L2.St} {H : Hp} (h : SR K B M r sg H) : ∀ vs : List Nat, SR K B M (wipeR r vs) (L2.wipe sg vs) H
  | [] => h
  | v :: vs => (SR.wipe h vs).drop

section
variable {X : Cx} {M : Mem} {r : List Sl} {elt tg iter : Expr} {ifs : List Expr} {scope : Scope} {pos : Pos} {α : Type}
/-- readings that hold in every block -/
def blkE (X : Cx) (scope : Scope) (e : Expr) : TE := fun sg H' Q => ∀ (s : Shared) (H : Hp) (C : Addr) (cl : List (Str × Addr)) (fp : List Addr), wpE (X.blk s H scope (compEnvC scope cl C X.env) fp) e sg H' Q
def blkTs (X : Cx) (scope : Scope) (ifs : List Expr) : TT := fun sg H' Q => ∀ (s : Shared) (H : Hp) (C : Addr) (cl : List (Str × Addr)) (fp : List Addr), wpTs (X.blk s H scope (compEnvC scope cl C X.env) fp) ifs sg H' Q
def blkG (X : Cx) (scope : Scope) (tg : Expr) : TG := fun v sg H' Q => ∀ (s : Shared) (H : Hp) (C : Addr) (cl : List (Str × Addr)) (fp : List Addr), wpG (X.blk s H scope (compEnvC scope cl C X.env) fp) tg v sg H' Q
theorem lc_read {wi : TI} {xs : List α} {enc : α → PyData} {vs js : List Nat} (pp : α → Bool) (f : α → PyData) (r' : α → List Sl)
    (hI : ∀ (B : Bs) (sg : L2.St) (H : Hp) (R : It → Hp → Prop), SR X.K B M r sg H →
      (∀ (J : It) (H1 : Hp) (G : Hp → Prop) (Y : Nat → Hp → V → Hp → Prop), Same H H1 → Walk J (xs.map enc).length G Y → (∀ H', Same (hid M H1) H' → G H') →
        (∀ i Hc v H', G Hc → Y i Hc v H' → ∀ (d : PyData) (M' : Mem), (xs.map enc)[i]? = some d → Same (hid M H1) (hid M' Hc) → (∀ m ∈ M', Hc m ≠ none) → Same Hc H' ∧ Dp X.K (hid M' H') v d) → R J H1) → wi sg H R)
    (hz : xs.length ≤ 1000000) (hjs : ∀ j ∈ js, j ∈ vs)
    (hg : ∀ (D : Addr) (s : Shared) (H : Hp) (C : Addr) (cl : List (Str × Addr)) (fp : List Addr), ∀ x ∈ xs, BG (X.blk s H scope (compEnvC scope cl C X.env) fp) (D :: M) tg js (wipeR r vs) (enc x) (r' x))
    (ht : ∀ (D : Addr) (s : Shared) (H : Hp) (C : Addr) (cl : List (Str × Addr)) (fp : List Addr), ∀ x ∈ xs, EvTs (X.blk s H scope (compEnvC scope cl C X.env) fp) (D :: M) (r' x) ifs (pp x))
    (he : ∀ (D : Addr) (s : Shared) (H : Hp) (C : Addr) (cl : List (Str × Addr)) (fp : List Addr), ∀ x ∈ xs, pp x = true → Ev (X.blk s H scope (compEnvC scope cl C X.env) fp) (D :: M) (r' x) elt (f x))
    {B : Bs} {sg : L2.St} {H : Hp} {Q : VK} (hs : SR X.K B M r sg H) (k : ∀ p ys H', Same H H' → H p = none → H' p = some (.lst ys) → DpAll X.K (hid (p :: M) H') ys ((xs.filter pp).map f) → Q (.ref p) H') :
    tLc wi (blkG X scope tg) (blkTs X scope ifs) (blkE X scope elt) vs sg H Q := by
  refine hI B sg H _ hs fun J H1 G Y s1 wk hG hY D hD => ?_
  have hs1 := hs.mono s1
  have hsD : SR X.K B (D :: M) r sg (upd H1 D (.lst [])) := hs1.lay hD
  have hnD := hs1.new hD
  -- the base: all but D
  have e0 : hid (D :: M) (upd H1 D (.lst [])) = hid M H1 := by rw [hid_upd List.mem_cons_self, hid_cons hD]
  have sD0 : Same H1 (upd H1 D (.lst [])) := same_upd hD
  refine lc_it wk (fun i Hc => i ≤ xs.length ∧ SR X.K B (D :: M) r sg Hc ∧ Same H1 Hc ∧ ∃ ys, Hc D = some (.lst ys) ∧ ys.length ≤ i ∧ DpAll X.K (hid (D :: M) Hc) ys (((xs.take i).filter pp).map f)) ?_ ?_ ?_ ?_
  · exact ⟨Nat.zero_le _, hsD, sD0, [], upd_same, Nat.zero_le _, .nil⟩
  · intro i Hc hi ⟨_, _, s, _⟩
    exact hG Hc (hid_le.trans s)
  · intro i x Hc H' hi ⟨hi', hsc, sc, ys, hys, hyl, hyd⟩ hy
    rw [List.length_map] at hi
    have hxi : xs[i]? = some xs[i] := List.getElem?_eq_getElem hi
    have hmem : xs[i] ∈ xs := List.getElem_mem hi
    have hd : (xs.map enc)[i]? = some (enc xs[i]) := by rw [List.getElem?_map, hxi]; rfl
    have hvis : Same (hid M H1) (hid (D :: M) Hc) := by
      rw [← hid_cons hD]; exact hid_mono sc
    obtain ⟨sH, dH⟩ := hY i Hc x H' (hG Hc (hid_le.trans sc)) hy _ (D :: M) hd hvis hsc.there
    have hs' := (hsc.mono sH).wipe vs
    intro s0 H0 C cl fp
    refine hg D s0 H0 C cl fp _ hmem B _ H' x _ hs' dH fun sg2 hs2 hlen f2 => ⟨?_, ?_⟩
    · have hl : sg2.length = (L2.wipe sg vs).length := hlen
      rw [wipe_eq hl fun j hj => f2 j fun z => hj (hjs j z)]
      exact wipe_eq (wipe_length _ _) fun j hj => by rw [wipe_get, if_neg hj]
    · intro s3 H3 C3 cl3 fp3
      refine ht D s3 H3 C3 cl3 fp3 _ hmem B sg2 H' _ hs2 fun H4 s4 => ?_
      have take1 : xs.take (i + 1) = xs.take i ++ [xs[i]] := by rw [List.take_add_one, hxi]; rfl
      cases hp : pp xs[i] with
      | false =>
        refine iteF ⟨hi, (hsc.mono sH).mono s4, (sc.trans sH).trans s4, ys, s4 _ _ (sH _ _ hys), by omega, ?_⟩
        rw [take1, List.filter_append, List.filter_cons_of_neg (by rw [hp]; simp), List.filter_nil, List.append_nil]
        exact dpa_mono (hid_mono (sH.trans s4)) hyd
      | true =>
        refine iteT ?_
        intro s5 H5 C5 cl5 fp5
        refine he D s5 H5 C5 cl5 fp5 _ hmem hp B sg2 H4 _ (hs2.mono s4) fun v H6 s6 q6 => ?_
        have s06 : Same Hc H6 := (sH.trans s4).trans s6
        have hysD : H6 D = some (.lst ys) := s06 _ _ hys
        refine ⟨ys, hysD, by rw [sizeLine_eq]; omega, hi, ?_, ?_, ys ++ [v], upd_same, by rw [List.length_append, List.length_singleton]; omega, ?_⟩
        · have h6 := hsc.mono s06
          have hD0 : B.H0 D = none := hs1.fresh hD
          exact ⟨fun b o q => by rw [upd_ne (ne_of_none q hD0)]; exact h6.same b o q, h6.sub, h6.out, fun m hm => by
            by_cases hm' : m = D
            · subst hm'; rw [upd_same]; simp
            · rw [upd_ne hm']; exact h6.there m hm, h6.len, fun j s hj => by
            have q := hs1.slot j s hj
            have q6 := h6.slot j s hj
            cases s with
            | unk => trivial
            | dat d => obtain ⟨v', z1, z2⟩ := q6; exact ⟨v', z1, by rw [hid_upd List.mem_cons_self]; exact z2⟩
            | mt o ds =>
              obtain ⟨z1, z2, z3, ws, z4, z5⟩ := q6
              have no : o ≠ D := fun z => hnD (by rw [← z]; exact q.2.1)
              exact ⟨z1, z2, z3, ws, by rw [upd_ne no]; exact z4, by rw [hid_upd List.mem_cons_self]; exact z5⟩
            | obj o ho =>
              obtain ⟨z1, z2, z3, z4⟩ := q6
              have no : o ≠ D := fun z => hnD (by rw [← z]; exact q.2.1)
              exact ⟨z1, z2, z3, by rw [upd_ne no]; exact z4⟩
            | fr ds =>
              obtain ⟨o, ws, z1, z2, z3, z4, z5⟩ := q6
              have no : o ≠ D := fun z => z2 (by rw [z]; exact List.mem_cons_self)
              exact ⟨o, ws, z1, z2, z3, by rw [upd_ne no]; exact z4, by rw [hid_upd (List.mem_cons_of_mem _ List.mem_cons_self)]; exact z5⟩
            | rd ds =>
              obtain ⟨o, ws, z1, z2, z4, z5⟩ := q6
              have no : o ≠ D := fun z => hs1.out D (z ▸ z2 (by rw [z]; exact List.mem_cons_self)) hD0
              exact ⟨o, ws, z1, z2, by rw [upd_ne no]; exact z4, by rw [hid_upd List.mem_cons_self]; exact z5⟩, h6.dist⟩
        · intro b o q
          rw [upd_ne (ne_of_none q hD)]
          exact s06 _ _ (sc _ _ q)
        · rw [take1, List.filter_append, List.filter_cons_of_pos hp, List.filter_nil, List.map_append]
          rw [hid_upd List.mem_cons_self]
          exact dpa_app (dpa_mono (hid_mono s06) hyd) (.cons q6 .nil)
  · intro Hc ⟨_, hsc, sc, ys, hys, hyl, hyd⟩
    rw [List.length_map, List.take_length] at hyd
    exact k D ys Hc (s1.trans sc) (s1.free hD) hys hyd
end
end K51
set_option Elab.async false
set_option linter.all false
set_option maxRecDepth 100000
namespace K51
open PySem PySem.Spec PyProof.Rows L2

theorem blk_e {X : Cx} {scope : Scope} {e : Expr} (s : Shared) (H : Hp) (C : Addr) (cl : List (Str × Addr)) (fp : List Addr) : PE (X.blk s H scope (compEnvC scope cl C X.env) fp) e (blkE X scope e) :=
  ⟨fun pins s' sg H' Q I h => (h s H C cl fp).run pins s' I⟩
theorem blk_ts {X : Cx} {scope : Scope} {e : List Expr} (s : Shared) (H : Hp) (C : Addr) (cl : List (Str × Addr)) (fp : List Addr) : PTs (X.blk s H scope (compEnvC scope cl C X.env) fp) e (blkTs X scope e) :=
  ⟨fun pins s' sg H' Q I h => (h s H C cl fp).run pins s' I⟩
theorem blk_g {X : Cx} {scope : Scope} {e : Expr} (s : Shared) (H : Hp) (C : Addr) (cl : List (Str × Addr)) (fp : List Addr) : PG (X.blk s H scope (compEnvC scope cl C X.env) fp) e (blkG X scope e) :=
  ⟨fun pins s' sg H' v u Q I r h => (h s H C cl fp).run pins s' u I r⟩
section
variable {X : Cx} {M : Mem} {r : List Sl} {elt tg iter : Expr} {ifs : List Expr} {scope : Scope} {pos : Pos} {α : Type}
/-- [elt for tg in iter if ..] over the data xs.map enc -/
theorem evf_lc {xs : List α} {enc : α → PyData} {js : List Nat} (own : List (Str × Nat)) (pp : α → Bool) (f : α → PyData) (r' : α → List Sl)
    (hI : EvI X M r tg iter (xs.map enc)) (ok : BlkOk X.N X.env.scope scope own) (hN : X.N.Nodup) (hc : X.calm = true) (hz : xs.length ≤ 1000000) (hjs : ∀ j ∈ js, j ∈ own.map (·.2))
    (hg : ∀ (D : Addr) (s : Shared) (H : Hp) (C : Addr) (cl : List (Str × Addr)) (fp : List Addr), ∀ x ∈ xs, BG (X.blk s H scope (compEnvC scope cl C X.env) fp) (D :: M) tg js (wipeR r (own.map (·.2))) (enc x) (r' x))
    (ht : ∀ (D : Addr) (s : Shared) (H : Hp) (C : Addr) (cl : List (Str × Addr)) (fp : List Addr), ∀ x ∈ xs, EvTs (X.blk s H scope (compEnvC scope cl C X.env) fp) (D :: M) (r' x) ifs (pp x))
    (he : ∀ (D : Addr) (s : Shared) (H : Hp) (C : Addr) (cl : List (Str × Addr)) (fp : List Addr), ∀ x ∈ xs, pp x = true → Ev (X.blk s H scope (compEnvC scope cl C X.env) fp) (D :: M) (r' x) elt (f x))
    (hs : ∀ x, foldedSetIterable iter X.env x = pure x := by intro _; rfl) : EvF X M r (.ListComp elt [⟨tg, iter, ifs, 0⟩] scope pos) ((xs.filter pp).map f) := fun B sg H Q hsr k => by
  obtain ⟨wi, h1, h2⟩ := hI
  refine e_of (pe_lc (own := own) hc hN h1 ok blk_g blk_ts blk_e hs) ?_
  exact lc_read pp f r' h2 hz hjs hg ht he hsr k
theorem filter_yes (xs : List α) : xs.filter (fun _ => true) = xs := List.filter_eq_self.mpr fun _ _ => rfl
/-- .. without a test -/
theorem evf_lc' {xs : List α} {enc : α → PyData} {js : List Nat} (own : List (Str × Nat)) (f : α → PyData) (r' : α → List Sl)
    (hI : EvI X M r tg iter (xs.map enc)) (ok : BlkOk X.N X.env.scope scope own) (hN : X.N.Nodup) (hc : X.calm = true) (hz : xs.length ≤ 1000000) (hjs : ∀ j ∈ js, j ∈ own.map (·.2))
    (hg : ∀ (D : Addr) (s : Shared) (H : Hp) (C : Addr) (cl : List (Str × Addr)) (fp : List Addr), ∀ x ∈ xs, BG (X.blk s H scope (compEnvC scope cl C X.env) fp) (D :: M) tg js (wipeR r (own.map (·.2))) (enc x) (r' x))
    (he : ∀ (D : Addr) (s : Shared) (H : Hp) (C : Addr) (cl : List (Str × Addr)) (fp : List Addr), ∀ x ∈ xs, Ev (X.blk s H scope (compEnvC scope cl C X.env) fp) (D :: M) (r' x) elt (f x))
    (hs : ∀ x, foldedSetIterable iter X.env x = pure x := by intro _; rfl) : EvF X M r (.ListComp elt [⟨tg, iter, [], 0⟩] scope pos) (xs.map f) :=
  (evf_lc (ifs := []) own (fun _ => true) f r' hI ok hN hc hz hjs hg (fun _ _ _ _ _ _ _ _ => evts_nil) (fun D s H C cl fp x hx _ => he D s H C cl fp x hx) hs).cast (by rw [filter_yes])

/-! ### statements -/
variable {B : Bs} {sg : L2.St} {H : Hp} {D : Ends} {st : Stmt} {sts : List Stmt} {e c : Expr} {d : PyData} {ds : List PyData}
theorem ss_nil (h : D.nx sg H) : wpSs X [] D sg H := ss_of pss_nil h
theorem ss_cons (h : wpS X st { D with nx := wpSs X sts D } sg H) : wpSs X (st :: sts) D sg H := ss_of (pss_cons s_wp ss_wp) h
theorem ss_one (h : wpS X st D sg H) : wpSs X [st] D sg H := ss_of (pss_one s_wp) h
/-- name = data -/
theorem s_set (i : Nat) {x : Str} {px : Pos} (hsr : SR X.K B M r sg H) (he : Ev X M r e d) (k : ∀ sg' H', Same H H' → SR X.K B M (r.set i (.dat d)) sg' H' → D.nx sg' H') (hN : X.N.Nodup) (hi : X.N[i]? = some x := by rfl)
    (hx : Loc X.env.scope x := by first | exact Or.inl rfl | exact Or.inr rfl) (hs : swapsWith e (some (.Name x px)) pos.line X.env = pure false := by rfl) (hf : X.fn x = true ∨ X.env.scope.names.lookup x = some .local := by first | exact .inl rfl | exact .inr rfl) : wpS X (.Assign [.Name x px] e pos) D sg H := by
  refine s_of (ps_set hN hi hx e_wp hs hf) ?_
  refine he B sg H _ hsr fun v H1 s1 q1 => ?_
  exact k _ H1 s1 ((hsr.mono s1).set q1)
/-- name = a new list, to be changed -/
theorem s_setF (i : Nat) {x : Str} {px : Pos} (hsr : SR X.K B M r sg H) (he : EvF X M r e ds) (k : ∀ p sg' H', Same H H' → SR X.K B (p :: M) (r.set i (.mt p ds)) sg' H' → D.nx sg' H') (hN : X.N.Nodup) (hi : X.N[i]? = some x := by rfl)
    (hx : Loc X.env.scope x := by first | exact Or.inl rfl | exact Or.inr rfl) (hs : swapsWith e (some (.Name x px)) pos.line X.env = pure false := by rfl) (hf : X.fn x = true ∨ X.env.scope.names.lookup x = some .local := by first | exact .inl rfl | exact .inr rfl) : wpS X (.Assign [.Name x px] e pos) D sg H := by
  refine s_of (ps_set hN hi hx e_wp hs hf) ?_
  refine he B sg H _ hsr fun p xs H1 s1 n1 e1 q1 => ?_
  exact k p _ H1 s1 (hsr.setMt s1 n1 e1 q1)
theorem s_lcF {xs : List α} {enc : α → PyData} {js : List Nat} (i : Nat) {y : Str} {py spos : Pos} (hsr : SR X.K B M r sg H) (own : List (Str × Nat)) (pp : α → Bool) (f : α → PyData) (r' : α → List Sl)
    (hI : EvI X M r tg iter (xs.map enc)) (ok : BlkOk X.N X.env.scope scope own) (hN : X.N.Nodup) (hc : X.calm = true) (hz : xs.length ≤ 1000000) (hjs : ∀ j ∈ js, j ∈ own.map (·.2))
    (hg : ∀ (D : Addr) (s : Shared) (H : Hp) (C : Addr) (cl : List (Str × Addr)) (fp : List Addr), ∀ x ∈ xs, BG (X.blk s H scope (compEnvC scope cl C X.env) fp) (D :: M) tg js (wipeR r (own.map (·.2))) (enc x) (r' x))
    (ht : ∀ (D : Addr) (s : Shared) (H : Hp) (C : Addr) (cl : List (Str × Addr)) (fp : List Addr), ∀ x ∈ xs, EvTs (X.blk s H scope (compEnvC scope cl C X.env) fp) (D :: M) (r' x) ifs (pp x))
    (he : ∀ (D : Addr) (s : Shared) (H : Hp) (C : Addr) (cl : List (Str × Addr)) (fp : List Addr), ∀ x ∈ xs, pp x = true → Ev (X.blk s H scope (compEnvC scope cl C X.env) fp) (D :: M) (r' x) elt (f x))
    (k : ∀ p sg' H', Same H H' → SR X.K B (p :: M) (r.set i (.mt p ((xs.filter pp).map f))) sg' H' → D.nx sg' H')
    (hsw : swapsWith (.ListComp elt [⟨tg, iter, ifs, 0⟩] scope pos) (some (.Name y py)) spos.line X.env = pure true) (hi : X.N[i]? = some y := by rfl) (hyl : X.env.scope.names.lookup y = some .local := by rfl)
    (hs : ∀ x, foldedSetIterable iter X.env x = pure x := by intro _; rfl) : wpS X (.Assign [.Name y py] (.ListComp elt [⟨tg, iter, ifs, 0⟩] scope pos) spos) D sg H := by
  obtain ⟨wi, h1, h2⟩ := hI
  refine s_of (ps_setLc (own := own) hc hN hi hyl hsw h1 ok blk_g blk_ts blk_e hs) ?_
  show tLc wi (blkG X scope tg) (blkTs X scope ifs) (blkE X scope elt) (own.map (·.2)) sg H (fun x H1 => gName i x sg H1 D.nx)
  refine lc_read pp f r' h2 hz hjs hg ht he hsr fun p ys H' s1 n1 e1 q1 => ?_
  exact k p _ H' s1 (hsr.setMt s1 n1 e1 q1)
/-- name = [..], data -/
theorem s_lcD {xs : List α} {enc : α → PyData} {js : List Nat} (i : Nat) {y : Str} {py spos : Pos} (hsr : SR X.K B M r sg H) (own : List (Str × Nat)) (pp : α → Bool) (f : α → PyData) (r' : α → List Sl)
    (hI : EvI X M r tg iter (xs.map enc)) (ok : BlkOk X.N X.env.scope scope own) (hN : X.N.Nodup) (hc : X.calm = true) (hz : xs.length ≤ 1000000) (hjs : ∀ j ∈ js, j ∈ own.map (·.2))
    (hg : ∀ (D : Addr) (s : Shared) (H : Hp) (C : Addr) (cl : List (Str × Addr)) (fp : List Addr), ∀ x ∈ xs, BG (X.blk s H scope (compEnvC scope cl C X.env) fp) (D :: M) tg js (wipeR r (own.map (·.2))) (enc x) (r' x))
    (ht : ∀ (D : Addr) (s : Shared) (H : Hp) (C : Addr) (cl : List (Str × Addr)) (fp : List Addr), ∀ x ∈ xs, EvTs (X.blk s H scope (compEnvC scope cl C X.env) fp) (D :: M) (r' x) ifs (pp x))
    (he : ∀ (D : Addr) (s : Shared) (H : Hp) (C : Addr) (cl : List (Str × Addr)) (fp : List Addr), ∀ x ∈ xs, pp x = true → Ev (X.blk s H scope (compEnvC scope cl C X.env) fp) (D :: M) (r' x) elt (f x))
    (k : ∀ sg' H', Same H H' → SR X.K B M (r.set i (.dat (.list ((xs.filter pp).map f)))) sg' H' → D.nx sg' H')
    (hsw : swapsWith (.ListComp elt [⟨tg, iter, ifs, 0⟩] scope pos) (some (.Name y py)) spos.line X.env = pure true) (hi : X.N[i]? = some y := by rfl) (hyl : X.env.scope.names.lookup y = some .local := by rfl)
    (hs : ∀ x, foldedSetIterable iter X.env x = pure x := by intro _; rfl) : wpS X (.Assign [.Name y py] (.ListComp elt [⟨tg, iter, ifs, 0⟩] scope pos) spos) D sg H := by
  obtain ⟨wi, h1, h2⟩ := hI
  refine s_of (ps_setLc (own := own) hc hN hi hyl hsw h1 ok blk_g blk_ts blk_e hs) ?_
  show tLc wi (blkG X scope tg) (blkTs X scope ifs) (blkE X scope elt) (own.map (·.2)) sg H (fun x H1 => gName i x sg H1 D.nx)
  refine lc_read pp f r' h2 hz hjs hg ht he hsr fun p ys H' s1 n1 e1 q1 => ?_
  exact k _ H' s1 ((hsr.mono s1).set (.lst (.inl (.inl (by rw [hid_out (hsr.new n1)]; exact e1))) (dpa_mono (hid_sub fun m hm => List.mem_cons_of_mem _ hm) q1)))
/-- name = a new list, only read -/
theorem s_setR (i : Nat) {x : Str} {px : Pos} (hsr : SR X.K B M r sg H) (he : EvF X M r e ds) (k : ∀ sg' H', Same H H' → SR X.K B M (r.set i (.fr ds)) sg' H' → D.nx sg' H') (hN : X.N.Nodup) (hi : X.N[i]? = some x := by rfl)
    (hx : Loc X.env.scope x := by first | exact Or.inl rfl | exact Or.inr rfl) (hs : swapsWith e (some (.Name x px)) pos.line X.env = pure false := by rfl) (hf : X.fn x = true ∨ X.env.scope.names.lookup x = some .local := by first | exact .inl rfl | exact .inr rfl) : wpS X (.Assign [.Name x px] e pos) D sg H := by
  refine s_of (ps_set hN hi hx e_wp hs hf) ?_
  refine he B sg H _ hsr fun p xs H1 s1 n1 e1 q1 => ?_
  exact k _ H1 s1 ((hsr.mono s1).setFr (hsr.new n1) (hsr.fresh n1) e1 q1)
/-- name = another name that holds such a list -/
theorem s_mvR (i j : Nat) {x y : Str} {px py : Pos} (hsr : SR X.K B M r sg H) (hr : r[j]? = some (.fr ds)) (k : ∀ sg' H', Same H H' → SR X.K B M (r.set i (.fr ds)) sg' H' → D.nx sg' H') (hN : X.N.Nodup) (hi : X.N[i]? = some x := by rfl) (hj : X.N[j]? = some y := by rfl)
    (hx : Loc X.env.scope x := by first | exact Or.inl rfl | exact Or.inr rfl) (hv : Vis X.env.scope y := by first | exact Or.inl rfl | exact Or.inr (Or.inl rfl) | exact Or.inr (Or.inr rfl)) (hd : (y == ("__debug__" : Str)) = false := by decide) (hcd : (y == ("__classdict__" : Str)) = false := by decide)
    (hs : swapsWith (.Name y py) (some (.Name x px)) pos.line X.env = pure false := by rfl) (hf : X.fn x = true ∨ X.env.scope.names.lookup x = some .local := by first | exact .inl rfl | exact .inr rfl) : wpS X (.Assign [.Name x px] (.Name y py) pos) D sg H := by
  refine s_of (ps_set hN hi hx (pe_var hj hv hd hcd) hs hf) ?_
  obtain ⟨o, xs, h1, h2, h3, h4, h5⟩ := hsr.frS hr
  exact ⟨_, h1, k _ H (Same.refl _) (hsr.setFr h2 h3 h4 h5)⟩
/-- a, b = e -/
theorem s_unp (i j : Nat) {x y : Str} {px py pt : Pos} {kt : Nat} {d1 d2 : PyData} (hsr : SR X.K B M r sg H) (he : Ev X M r e (.tuple [d1, d2])) (k : ∀ sg' H', Same H H' → SR X.K B M ((r.set i (.dat d1)).set j (.dat d2)) sg' H' → D.nx sg' H') (hN : X.N.Nodup) (hc : X.calm = true)
    (hi : X.N[i]? = some x := by rfl) (hj : X.N[j]? = some y := by rfl) (hx : Loc X.env.scope x := by first | exact Or.inl rfl | exact Or.inr rfl) (hy : Loc X.env.scope y := by first | exact Or.inl rfl | exact Or.inr rfl)
    (hs : swapsWithSole [.Tuple [.Name x px, .Name y py] kt pt] e pos.line X.env = pure false := by rfl) (hw : swappedStores [.Tuple [.Name x px, .Name y py] kt pt] e X.env = pure none := by rfl)
    (hfx : X.fn x = true ∨ X.env.scope.names.lookup x = some .local := by first | exact .inl rfl | exact .inr rfl) (hfy : X.fn y = true ∨ X.env.scope.names.lookup y = some .local := by first | exact .inl rfl | exact .inr rfl) :
    wpS X (.Assign [.Tuple [.Name x px, .Name y py] kt pt] e pos) D sg H := by
  refine s_of (ps_asg e_wp g_wp hs hw) ?_
  refine he B sg H _ hsr fun v H1 s1 q1 => ?_
  have hbp : BG X M (.Tuple [.Name x px, .Name y py] kt pt) ([i] ++ [j]) r (.tuple [d1, d2]) ((r.set i (.dat d1)).set j (.dat d2)) := bg_pair hc (bg_name i hN hi hx hfx) (bg_name j hN hj hy hfy)
  exact hbp B sg H1 v _ (hsr.mono s1) q1 fun sg' hs' _ _ => k sg' H1 s1 hs'
/-- a, b = e1, e2 -/
theorem s_par (i j : Nat) {x y : Str} {a b : Expr} {px py pt : Pos} {kt k2 : Nat} {pt2 : Pos} {d1 d2 : PyData} (hsr : SR X.K B M r sg H) (he : EvA X M r [a, b] [d1, d2]) (k : ∀ sg' H', Same H H' → SR X.K B M ((r.set i (.dat d1)).set j (.dat d2)) sg' H' → D.nx sg' H') (hN : X.N.Nodup) (hc : X.calm = true)
    (hi : X.N[i]? = some x := by rfl) (hj : X.N[j]? = some y := by rfl) (hij : i ≠ j := by decide) (hx : X.env.scope.names.lookup x = some .local := by rfl) (hy : X.env.scope.names.lookup y = some .local := by rfl)
    (hw : swappedStores [.Tuple [.Name x px, .Name y py] kt pt] (.Tuple [a, b] k2 pt2) X.env = pure (some [x, y]) := by rfl) (hs : swapsWithSole [.Tuple [.Name x px, .Name y py] kt pt] (.Tuple [a, b] k2 pt2) pos.line X.env = pure false := by rfl) :
    wpS X (.Assign [.Tuple [.Name x px, .Name y py] kt pt] (.Tuple [a, b] k2 pt2) pos) D sg H := by
  refine s_of (ps_par hc hN hi hj hij hx hy a_wp hw hs) ?_
  refine he B sg H _ hsr fun vs H1 s1 q1 => ?_
  cases q1 with
  | cons z1 z2 =>
    cases z2 with
    | cons z3 z4 =>
      cases z4
      exact ⟨_, _, rfl, k _ H1 s1 (((hsr.mono s1).set z1).set z3)⟩
/-- x.append(e) -/
theorem s_app (i : Nat) {x : Str} {p ap cp : Pos} {o : Addr} (hsr : SR X.K B M r sg H) (hm : r[i]? = some (.mt o ds)) (he : Ev X M r e d) (hz : ds.length ≤ 1000000) (k : ∀ H', SR X.K B M (r.set i (.mt o (ds ++ [d]))) sg H' → D.nx sg H')
    (hN : X.N[i]? = some x := by rfl) (hv : Vis X.env.scope x := by first | exact Or.inl rfl | exact Or.inr (Or.inl rfl) | exact Or.inr (Or.inr rfl)) (hd : (x == ("__debug__" : Str)) = false := by decide) (hcd : (x == ("__classdict__" : Str)) = false := by decide)
    (hbase : attributeBase (.Name x p) "append" X.env (eval (.Name x p) X.env) = eval (.Name x p) X.env := by rfl)
    (hfew : ((backTo cp (starEach [e] X.env)).all (fun x => !x.1) && (backToKw cp (keywordEach [] X.env)).all (fun x => x.1.isSome)
      && decide ([e].length + ([] : List Keyword).length + (if ([] : List Keyword).isEmpty then 0 else 1) < 30)) = true := by rfl)
    (hline : (ap.endLine == cp.line) = true := by rfl) (hst : starEach [e] X.env = (false, eval e X.env) :: starEach [] X.env := by rfl) (hplain : (backTo cp (starEach [] X.env)).any (·.1) = false := by rfl)
    (hsw : swapsWith (.Call (.Attribute (.Name x p) "append" ap) [e] [] cp) none pos.line X.env = pure false := by rfl) : wpS X (.Expr (.Call (.Attribute (.Name x p) "append" ap) [e] [] cp) pos) D sg H := by
  refine s_of (ps_expr (pe_bm PySem.F.plainAttrs_list PySem.F.slot_list_append PySem.F.type_list_append mt_append (pe_var hN hv hd hcd) (pa_cons e_wp pa_nil hst) hbase hfew hline hst hplain) hsw) ?_
  obtain ⟨h1, h2, h3, xs, h4, h5⟩ := hsr.mt hm
  refine ⟨_, h1, .inl ⟨rfl, xs, .inl (.inl h4)⟩, ?_⟩
  refine he B sg H _ hsr fun v H1 s1 q1 => ?_
  refine ⟨o, xs, v, rfl, rfl, s1 _ _ h4, by rw [dpa_len h5, sizeLine_eq]; omega, ?_⟩
  exact k _ ((hsr.mono s1).chg hm (dpa_app (dpa_mono (hid_mono s1) h5) (.cons q1 .nil)))
/-- x[i] = e -/
theorem s_put (i : Nat) {x : Str} {p ps : Pos} {idx : Expr} {o : Addr} {n : Int} {m : Nat} (hsr : SR X.K B M r sg H) (hm : r[i]? = some (.mt o ds)) (he : Ev X M r e d) (hi : Ev X M r idx (.int n)) (hn : n = (m : Int)) (hl : m < ds.length) (k : ∀ H', SR X.K B M (r.set i (.mt o (ds.set m d))) sg H' → D.nx sg H')
    (hN : X.N[i]? = some x := by rfl) (hv : Vis X.env.scope x := by first | exact Or.inl rfl | exact Or.inr (Or.inl rfl) | exact Or.inr (Or.inr rfl)) (hd : (x == ("__debug__" : Str)) = false := by decide) (hcd : (x == ("__classdict__" : Str)) = false := by decide)
    (ha : ∀ v, assign (.Subscript (.Name x p) idx ps) X.env v = (do
      let ov ← holding [v] (eval (.Name x p) X.env)
      let iv ← holding [v, ov] (eval idx X.env)
      standAt ps
      holding [v, ov, iv] (setItem ov iv v)
      release [v, ov, iv] []) := by intro _; rfl)
    (hs : swapsWithSole [.Subscript (.Name x p) idx ps] e pos.line X.env = pure false := by rfl) (hw : swappedStores [.Subscript (.Name x p) idx ps] e X.env = pure none := by rfl)
    (h1 : (assignEach [.Subscript (.Name x p) idx ps] X.env).map (·.2) = [assign (.Subscript (.Name x p) idx ps) X.env] := by rfl) :
    wpS X (.Assign [.Subscript (.Name x p) idx ps] e pos) D sg H := by
  refine s_of (ps_asg e_wp (pg_sub (pe_var hN hv hd hcd) e_wp set_list ha) hs hw h1) ?_
  refine he B sg H _ hsr fun v H1 s1 q1 => ?_
  have hs1 := hsr.mono s1
  obtain ⟨z1, z2, z3, xs, z4, z5⟩ := hs1.mt hm
  refine ⟨_, z1, ?_⟩
  refine hi B sg H1 _ hs1 fun u H2 s2 q2 => ?_
  rw [dp_int q2]
  refine ⟨o, xs, n, m, rfl, rfl, s2 _ _ z4, ?_, ?_⟩
  · rw [dpa_len z5, hn]
    unfold ixN
    rw [if_pos (Int.natCast_nonneg m), if_pos (by omega)]
    rfl
  · exact k _ ((hs1.mono s2).chg hm (dpa_set (dpa_mono (hid_mono s2) z5) (dp_mono (hid_mono s2) q1) m))
/-- return e -/
theorem s_ret (hsr : SR X.K B M r sg H) (he : Ev X M r e d) (k : ∀ v H', Same B.H0 H' → Dp X.K (hid B.M0 H') v d → D.rt v H') : wpS X (.Return (some e) pos) D sg H := by
  refine s_of (ps_ret e_wp) ?_
  refine he B sg H _ hsr fun v H1 s1 q1 => ?_
  exact k v H1 (hsr.same.trans s1) (dp_mono (hid_sub hsr.sub) q1)
/-- return a new list -/
theorem s_retF (hsr : SR X.K B M r sg H) (he : EvF X M r e ds) (k : ∀ p xs H', Same B.H0 H' → B.H0 p = none → H' p = some (.lst xs) → DpAll X.K (hid (p :: B.M0) H') xs ds → D.rt (.ref p) H') : wpS X (.Return (some e) pos) D sg H := by
  refine s_of (ps_ret e_wp) ?_
  refine he B sg H _ hsr fun p xs H1 s1 n1 e1 q1 => ?_
  exact k p xs H1 (hsr.same.trans s1) (hsr.fresh n1) e1 (dpa_mono (hid_sub fun m hm => (List.mem_cons.mp hm).elim (fun z => by rw [z]; exact List.mem_cons_self) fun z => List.mem_cons_of_mem _ (hsr.sub m z)) q1)
/-- return one's own list -/
theorem s_retM (i : Nat) {x : Str} {p : Pos} {o : Addr} (hsr : SR X.K B M r sg H) (hm : r[i]? = some (.mt o ds)) (k : ∀ xs H', Same B.H0 H' → B.H0 o = none → H' o = some (.lst xs) → DpAll X.K (hid (o :: B.M0) H') xs ds → D.rt (.ref o) H')
    (hN : X.N[i]? = some x := by rfl) (hv : Vis X.env.scope x := by first | exact Or.inl rfl | exact Or.inr (Or.inl rfl) | exact Or.inr (Or.inr rfl)) (hd : (x == ("__debug__" : Str)) = false := by decide) (hcd : (x == ("__classdict__" : Str)) = false := by decide) : wpS X (.Return (some (.Name x p)) pos) D sg H := by
  refine s_of (ps_ret (pe_var hN hv hd hcd)) ?_
  obtain ⟨h1, h2, h3, xs, h4, h5⟩ := hsr.mt hm
  exact ⟨_, h1, k xs H hsr.same h3 h4 (dpa_mono (hid_sub fun m hm => (List.mem_cons.mp hm).elim (fun z => by rw [z]; exact h2) fun z => hsr.sub m z) h5)⟩
/-- if -/
theorem s_if {a b : List Stmt} {z : Bool} (hsr : SR X.K B M r sg H) (hc : EvT X M r c z) (ha : ∀ H', Same H H' → SR X.K B M r sg H' → z = true → wpSs X a D sg H') (hb : ∀ H', Same H H' → SR X.K B M r sg H' → z = false → wpSs X b D sg H') : wpS X (.If c a b pos) D sg H := by
  refine s_of (ps_if t_wp ss_wp ss_wp) ?_
  refine hc B sg H _ hsr fun H1 s1 => ?_
  cases z with
  | true => exact iteT (ha H1 s1 (hsr.mono s1) rfl)
  | false => exact iteF (hb H1 s1 (hsr.mono s1) rfl)
theorem s_pass (h : D.nx sg H) : wpS X (.Pass pos) D sg H := s_of ps_pass h
theorem s_break (h : D.bk sg H) : wpS X (.Break pos) D sg H := s_of ps_break h
/-- for: R i the slots ahead of turn i, R' i behind the target's binding -/
theorem s_for {xs : List α} {enc : α → PyData} {js : List Nat} {body : List Stmt} (hsr : SR X.K B M r sg H) (hI : EvI X M r tg iter (xs.map enc)) (R : Nat → List Sl) (R' : Nat → α → List Sl)
    (h0 : ∀ B' sg' H', SR X.K B' M r sg' H' → SR X.K B' M (R 0) sg' H')
    (hg : ∀ i x, xs[i]? = some x → BG X M tg js (R i) (enc x) (R' i x))
    (hb : ∀ (B' : Bs), B.le B' → (∀ m ∈ B.M0, B.H0 m ≠ none) → ∀ i x, xs[i]? = some x → ∀ (D' : Ends) sg' H', (∀ v H'', D.rt v H'' → D'.rt v H'') → (∀ sg'' H'', D.nx sg'' H'' → D'.bk sg'' H'') → (∀ sg'' H'', SR X.K B' M (R (i + 1)) sg'' H'' → D'.nx sg'' H'') → (∀ sg'' H'', SR X.K B' M (R (i + 1)) sg'' H'' → D'.ct sg'' H'') →
      SR X.K B' M (R' i x) sg' H' → wpSs X body D' sg' H')
    (hd : ∀ sg' H', SR X.K B M (R xs.length) sg' H' → D.nx sg' H') (hp : PassesOwn (model X.prog X.w) X.A X.env X.xe) (hc : X.calm = true)
    (nf : (r.all fun s => !s.isFr) = true := by rfl) (hs : ∀ x, foldedSetIterable iter X.env x = pure x := by intro _; rfl) : wpS X (.For tg iter body [] pos) D sg H := by
  obtain ⟨wi, h1, h2⟩ := hI
  refine s_of (ps_for hp hc h1 g_wp ss_wp hs) ?_
  refine h2 B sg H _ hsr fun J H1 G Y s1 wk hG hY => ?_
  have hs1 := hsr.mono s1
  have hrb := hs1.rebase (fun s hs => by simpa using List.all_eq_true.mp nf s hs)
  have hle := hs1.reb_le
  refine for_it wk (fun i sg' H' => i ≤ xs.length ∧ SR X.K (reb B M H1) M (R i) sg' H') ?_ ?_ ?_ ?_
  · exact ⟨Nat.zero_le _, h0 _ _ _ hrb⟩
  · intro i sg' H' hi ⟨_, q⟩
    exact hG H' (q.seen.trans hid_le)
  · intro i x sg' H' H'' hi ⟨hi', q⟩ hy
    rw [List.length_map] at hi
    have hxi : xs[i]? = some xs[i] := List.getElem?_eq_getElem hi
    have hdd : (xs.map enc)[i]? = some (enc xs[i]) := by rw [List.getElem?_map, hxi]; rfl
    obtain ⟨sH, dH⟩ := hY i H' x H'' (hG H' (q.seen.trans hid_le)) hy _ M hdd q.seen q.there
    refine hg i _ hxi (reb B M H1) sg' H'' x _ (q.mono sH) dH fun sg2 hs2 _ _ => ?_
    exact hb (reb B M H1) hle hsr.out i _ hxi _ sg2 H'' (fun _ _ z => z) (fun _ _ z => z) (fun sg3 H3 z => ⟨hi, z⟩) (fun sg3 H3 z => ⟨hi, z⟩) hs2
  · intro sg' H' ⟨_, q⟩
    rw [List.length_map] at q
    exact hd sg' H' (q.unbase hle hsr.out)
/-- while, by states a: α -/
theorem s_while {body : List Stmt} (hsr : SR X.K B M r sg H) (P : α → Prop) (R : α → List Sl) (b : α → Bool) (mu : α → Nat) (a0 : α) (p0 : P a0) (h0 : r = R a0)
    (ht : ∀ a, P a → EvT X M (R a) c (b a))
    (hb : ∀ a, P a → b a = true → ∀ (D' : Ends) sg' H', (∀ v H'', D.rt v H'' → D'.rt v H'') → (∀ sg'' H'', D.nx sg'' H'' → D'.bk sg'' H'') → (∀ sg'' H'' a', P a' → mu a' < mu a → SR X.K B M (R a') sg'' H'' → D'.nx sg'' H'') → (∀ sg'' H'' a', P a' → mu a' < mu a → SR X.K B M (R a') sg'' H'' → D'.ct sg'' H'') →
      SR X.K B M (R a) sg' H' → wpSs X body D' sg' H')
    (hd : ∀ a, P a → b a = false → ∀ sg' H', SR X.K B M (R a) sg' H' → D.nx sg' H') (hp : PassesOwn (model X.prog X.w) X.A X.env X.xe) : wpS X (.While c body [] pos) D sg H := by
  refine s_of (ps_while hp t_wp ss_wp) ?_
  refine ⟨fun m sg' H' => ∃ a, P a ∧ mu a = m ∧ SR X.K B M (R a) sg' H', ⟨mu a0, a0, p0, rfl, h0 ▸ hsr⟩, ?_⟩
  rintro m sg' H' ⟨a, pa, rfl, q⟩
  refine ht a pa B sg' H' _ q fun H1 s1 => ?_
  cases hba : b a with
  | true =>
    refine iteT ⟨fun sg'' H'' => ∃ a', P a' ∧ mu a' < mu a ∧ SR X.K B M (R a') sg'' H'', ?_, ?_⟩
    · rintro sg'' H'' ⟨a', pa', hlt, q'⟩
      exact ⟨mu a', hlt, a', pa', rfl, q'⟩
    · exact hb a pa hba _ sg' H1 (fun _ _ z => z) (fun _ _ z => z) (fun sg2 H2 a' pa' hl q' => ⟨a', pa', hl, q'⟩) (fun sg2 H2 a' pa' hl q' => ⟨a', pa', hl, q'⟩) (q.mono s1)
  | false => exact iteF (hd a pa hba sg' H1 (q.mono s1))
end

/-- slots forgotten, one by one -/
inductive Wk : List Sl → List Sl → Prop
  | nil : Wk [] []
  | same {s : Sl} {r' r : List Sl} : Wk r' r → Wk (s :: r') (s :: r)
  | drop {s : Sl} {r' r : List Sl} : Wk r' r → Wk (.unk :: r') (s :: r)
theorem Wk.len {r' r : List Sl} (h : Wk r' r) : r'.length = r.length := by
  induction h with
  | nil => rfl
  | same _ ih => simp [ih]
  | drop _ ih => simp [ih]
theorem Wk.get {r' r : List Sl} (h : Wk r' r) : ∀ (i : Nat) (s : Sl), r'[i]? = some s → s = .unk ∨ r[i]? = some s := by
  induction h with
  | nil => intro i s q; simp at q
  | same _ ih =>
    intro i s q
    cases i with
    | zero => exact .inr q
    | succ i => simp only [List.getElem?_cons_succ] at q ⊢; exact ih i s q
  | drop _ ih =>
    intro i s q
    cases i with
    | zero => simp only [List.getElem?_cons_zero, Option.some.injEq] at q; exact .inl q.symm
    | succ i => simp only [List.getElem?_cons_succ] at q ⊢; exact ih i s q
theorem SR.wk {K : PySem.W.Frag} {B : Bs} {M : Mem} {r r' : List Sl} {sg : L2.St} {H : Hp} (h : SR K B M r sg H) (e : Wk r' r) : SR K B M r' sg H := h.weak e.len e.get

/-! ### defs -/
abbrev CxD (P : Program) (w : World) (K : PySem.W.Frag) (mg : Str → Option Value) (base : Heap) (N : List Str) (qual : Str) (st : Stmt) (f : Addr) (cdv : Value) (A : Around) (outer : List Env) (s : Shared) (H : Hp) (E : XK) : Cx :=
  (cxOf CX0 P w K mg base N qual (defScope st) f cdv A outer s H E).nox
/-- the slots at the entry -/
def start0 (N : List Str) (ds : List PyData) : List Sl := ds.map Sl.dat ++ List.replicate (N.length - ds.length) Sl.unk
theorem sr_start {K : PySem.W.Frag} {N : List Str} {M : Mem} {H : Hp} {vs : List V} {ds : List PyData} (hM : ∀ m ∈ M, H m ≠ none) (h : DpAll K (hid M H) vs ds) : SR K ⟨H, M⟩ M (start0 N ds) (L2.start N vs) H := by
  have hl := dpa_len h
  refine ⟨Same.refl _, fun _ z => z, hM, hM, ?_, fun i s hs => ?_, fun i j s t o h1 h2 h3 h4 => ?_⟩
  · unfold L2.start start0
    simp [hl]
  · unfold start0 at hs
    by_cases hi : i < ds.length
    · rw [List.getElem?_append_left (by simpa using hi), List.getElem?_map] at hs
      obtain ⟨d, e1, rfl⟩ := Option.map_eq_some_iff.mp hs
      obtain ⟨v, e2, e3⟩ := dpa_get h e1
      refine ⟨v, ?_, e3⟩
      unfold L2.start
      rw [List.getElem?_append_left (by simpa [hl] using hi), List.getElem?_map, e2]
      rfl
    · rw [List.getElem?_append_right (by simpa using Nat.le_of_not_lt hi), List.getElem?_replicate] at hs
      split at hs
      · cases hs; trivial
      · cases hs
  · have aux : s.ad = none := by
      unfold start0 at h1
      by_cases hi : i < ds.length
      · rw [List.getElem?_append_left (by simpa using hi), List.getElem?_map] at h1
        obtain ⟨d, e1, rfl⟩ := Option.map_eq_some_iff.mp h1
        rfl
      · rw [List.getElem?_append_right (by simpa using Nat.le_of_not_lt hi), List.getElem?_replicate] at h1
        split at h1
        · cases h1; rfl
        · cases h1
    rw [aux] at h3; cases h3
section
variable {P : Program} {w : World} {K : PySem.W.Frag} {mg : Str → Option Value} {base : Heap}
/-- what stands of a def behind the top -/
structure Dfn (K : PySem.W.Frag) (mg : Str → Option Value) (x : Str) (st : Stmt) (ps : List Str) : Prop where
  ex : ∃ f fd, mg x = some (.ref f) ∧ Fun K x x st f fd ∧ Binds K fd ps []
theorem pure_def {x : Str} {st : Stmt} {N ps : List Str} {k : Nat} {F : List PyData → PyData → Prop} (Fn : Dfn K mg x st ps) (S : FnScope N ps (defScope st)) (hlen : ∀ ds d, F ds d → ds.length = ps.length)
    (hbody : ∀ (f : Addr) (cdv : Value) (A : Around) (outer : List Env) (s : Shared) (H : Hp) (E : XK) (M : Mem) (ds : List PyData) (d : PyData), Room k (CxD P w K mg base N x st f cdv A outer s H E).A → F ds d →
      ∀ sg, SR K ⟨H, M⟩ M (start0 N ds) sg H → ∀ D : Ends, (∀ v H', Same H H' → Dp K (hid M H') v d → D.rt v H') → wpSs (CxD P w K mg base N x st f cdv A outer s H E) (defBody st) D sg H) :
    Fnc P w K mg base (k + 1) x (PureSp K F) := by
  obtain ⟨f, fd, h1, h2, h3⟩ := Fn.ex
  refine ⟨f, fd, ps, h1, h2.kp, h3, h2.ok S (fun vs H Q E h => ?_) (fun cdv A outer s H vs Q E hr h => ?_)⟩
  · obtain ⟨M, ds, d, _, h5, h6, _⟩ := h
    rw [dpa_len h5]
    exact hlen ds d h6
  · obtain ⟨M, ds, d, h4, h5, h6, h7⟩ := h
    refine ⟨_, ss_wp, ?_⟩
    exact hbody f cdv A outer s H E M ds d hr h6 _ (sr_start h4 h5) _ h7
theorem pure_defF {x : Str} {st : Stmt} {N ps : List Str} {k : Nat} {F : List PyData → List PyData → Prop} (Fn : Dfn K mg x st ps) (S : FnScope N ps (defScope st)) (hlen : ∀ ds d, F ds d → ds.length = ps.length)
    (hbody : ∀ (f : Addr) (cdv : Value) (A : Around) (outer : List Env) (s : Shared) (H : Hp) (E : XK) (M : Mem) (ds es : List PyData), Room k (CxD P w K mg base N x st f cdv A outer s H E).A → F ds es →
      ∀ sg, SR K ⟨H, M⟩ M (start0 N ds) sg H → ∀ D : Ends, (∀ p xs H', Same H H' → H p = none → H' p = some (.lst xs) → DpAll K (hid (p :: M) H') xs es → D.rt (.ref p) H') → wpSs (CxD P w K mg base N x st f cdv A outer s H E) (defBody st) D sg H) :
    Fnc P w K mg base (k + 1) x (PureSpF K F) := by
  obtain ⟨f, fd, h1, h2, h3⟩ := Fn.ex
  refine ⟨f, fd, ps, h1, h2.kp, h3, h2.ok S (fun vs H Q E h => ?_) (fun cdv A outer s H vs Q E hr h => ?_)⟩
  · obtain ⟨M, ds, d, _, h5, h6, _⟩ := h
    rw [dpa_len h5]
    exact hlen ds d h6
  · obtain ⟨M, ds, d, h4, h5, h6, h7⟩ := h
    refine ⟨_, ss_wp, ?_⟩
    exact hbody f cdv A outer s H E M ds d hr h6 _ (sr_start h4 h5) _ h7
end
end K51
set_option Elab.async false
set_option linter.all false
set_option maxRecDepth 100000
set_option maxHeartbeats 1000000
namespace K51
open PySem PySem.Spec PyProof.Rows L2

/-! ### {e}, e an int -/
theorem new_set_led {P : Program} {w : World} {A : Around} {E : Value → Shared → Prop} {s : Shared} {Q : Value → Shared → Prop}
    (h : Q (.ref s.heap.objs.size) { s with heap := s.heap.push { cls := .type "set", dict := none, data := .set #[] 0 (.fresh 0 0 (!w.params.followText "set-order")) } }) : wpAny (model P w) A (newSet (.type "set")) Q E s := by
  unfold newSet
  refine wpAny_bind (wpAny_byText ?_)
  dsimp only
  simp only [newObj]
  exact wpAny_bind (wpAny_alloc (wpAny_pure h))
def tSet1 (w : World) (te : TE) : TE := fun sg H Q => ∀ D, H D = none → te sg (upd H D (SetO w D (fun _ => false) 0)) fun x H1 => ∃ k : Int, x = .int k ∧ H1 D = some (SetO w D (fun _ => false) 0) ∧ Q (.ref D) (upd H1 D (SetO w D (fun j => decide (j = k)) 1))
theorem pe_set1 {X : Cx} {e : Expr} {te : TE} {pos : Pos} (he : PE X e te) (hcd : PySem.W.kdsCode X.K X.env.code = true) (hst : starEach [e] X.env = [(false, eval e X.env)] := by rfl) : PE X (.Set [e] 0 pos) (tSet1 X.w te) := by
  refine ⟨fun pins s sg H Q I h => ?_⟩
  rw [arm_eval_Set]
  refine wpAny_bind (wpAny_standAt (wpAny_bind (PySem.W.kds_main I.kIn hcd fun b => ?_)))
  rw [hst]
  have hroad : displayRoad 0 [e] = .oneByOne := by
    unfold displayRoad
    rw [if_neg (Nat.lt_irrefl 0), if_pos (by simp)]
  rw [hroad]
  show wpAny _ _ (setDisplay .oneByOne b [(false, do let v ← eval e X.env; standAt pos; pure v)]) _ _ _
  unfold setDisplay
  dsimp only
  rw [if_neg (by decide)]
  refine wpAny_bind (new_set_led ?_)
  dsimp only
  have hD : H s.heap.objs.size = none := I.hok.fresh (Nat.le_refl _)
  have I1 : Inv X pins sg (upd H s.heap.objs.size (SetO X.w s.heap.objs.size (fun _ => false) 0)) { s with heap := s.heap.push { cls := .type "set", dict := none, data := .set #[] 0 (.fresh 0 0 (!X.w.params.followText "set-order")) } } :=
    I.laid (t' := s.toks) (fun b u e => Heap.get?_push_of_some _ e) (Nat.le_refl _) (setO_new (setR_fresh X.w))
  have h1 := h s.heap.objs.size hD
  generalize s.heap.objs.size = D at *
  refine wpAny_bind (wpAny_holding ?_)
  refine wpAny_bind (wpAny_evalAll_cons (wpAny_bind (thn (he.run pins _ sg _ _ I1 h1) fun v s2 ⟨x, H2, I2, r2, k, ex, e2, q⟩ => ?_)))
  subst ex
  obtain ⟨tk, rfl⟩ := r2
  refine wpAny_bind (wpAny_standAt (wpAny_pure (wpAny_evalAll_nil ?_)))
  refine wpAny_bind (wpAny_holding ?_)
  rw [List.forIn_cons]
  refine wpAny_bind (wpAny_bind (wpAny_bind ?_))
  unfold setAdd
  refine wpAny_holding (wpAny_bind ((intKind X.prog X.w).pyHash (intKind_is X.prog X.w k tk) ?_))
  refine setR_add_hashed (s := { s2 with toks := s2.toks + 1 }) (setO_get (I2.tok (s2.toks + 1)) e2) (by decide) fun h' sb r => ?_
  have hu : ∃ u, h'.get? D = some u := by
    have ⟨o, _, _, _, ho, _⟩ := r
    exact ⟨o, ho⟩
  have r' : SetR X.w h' D (fun j => decide (j = k)) 1 := r.congr fun j => by simp
  have I3 : Inv X pins sg (upd H2 D (SetO X.w D (fun j => decide (j = k)) 1)) { s2 with heap := h', toks := s2.toks + 1 } :=
    I2.write (e := D) (t' := s2.toks + 1) (by rw [e2]; trivial) (.inl rfl) (fun b u hb z => (sb.2 b hb).trans z) hu (setO_new r')
  refine wpAny_pure ?_
  dsimp only
  rw [List.forIn_nil]
  refine wpAny_pure ?_
  rw [if_neg (by decide)]
  refine wpAny_pure ?_
  rw [List.drop_eq_nil_of_le (by simp), List.forIn_nil]
  exact wpAny_bind (wpAny_pure (wpAny_pure (wpAny_pure ⟨.ref D, _, I3, rfl, q⟩)))

section
variable {K : PySem.W.Frag} {B : Bs} {M : Mem} {r : List Sl} {sg : L2.St} {H H' : Hp} {p : Addr}
/-- a hidden object of a slot is changed -/
theorem SR.chgO (h : SR K B M r sg H) {i : Nat} {o : Addr} {ho ho' : HO} (e : r[i]? = some (.obj o ho)) : SR K B M (r.set i (.obj o ho')) sg (upd H o ho') := by
  obtain ⟨h1, h2, h3, h4⟩ := h.obj e
  have hi : i < r.length := (List.getElem?_eq_some_iff.mp e).1
  refine ⟨fun b u q => ?_, h.sub, h.out, fun m hm => ?_, by rw [List.length_set]; exact h.len, fun j s hs => ?_, fun j k s t o' q1 q2 q3 q4 => ?_⟩
  · rw [upd_ne (ne_of_none q h3)]; exact h.same b u q
  · by_cases hm' : m = o
    · subst hm'; rw [upd_same]; simp
    · rw [upd_ne hm']; exact h.there m hm
  · by_cases hj : i = j
    · subst hj
      rw [List.getElem?_set_self hi] at hs
      cases hs
      exact ⟨h1, h2, h3, upd_same⟩
    · rw [List.getElem?_set_ne hj] at hs
      have q := h.slot j s hs
      cases s with
      | unk => trivial
      | dat d => obtain ⟨v, z1, z2⟩ := q; exact ⟨v, z1, by rw [hid_upd h2]; exact z2⟩
      | mt o' ds'' =>
        obtain ⟨z1, z2, z3, ys, z4, z5⟩ := q
        have ne : o' ≠ o := fun z => hj (h.dist i j _ _ o e hs rfl (by rw [z]; rfl))
        exact ⟨z1, z2, z3, ys, by rw [upd_ne ne]; exact z4, by rw [hid_upd h2]; exact z5⟩
      | obj o' ho =>
        obtain ⟨z1, z2, z3, z4⟩ := q
        have ne : o' ≠ o := fun z => hj (h.dist i j _ _ o e hs rfl (by rw [z]; rfl))
        exact ⟨z1, z2, z3, by rw [upd_ne ne]; exact z4⟩
      | fr ds'' =>
        obtain ⟨o', ys, z1, z2, z3, z4, z5⟩ := q
        have ne : o' ≠ o := fun z => z2 (by rw [z]; exact h2)
        exact ⟨o', ys, z1, z2, z3, by rw [upd_ne ne]; exact z4, by rw [hid_upd (List.mem_cons_of_mem _ h2)]; exact z5⟩
      | rd ds'' =>
        obtain ⟨o', ys, z1, z2, z4, z5⟩ := q
        have ne : o' ≠ o := fun z => h.out o (z ▸ z2 (by rw [z]; exact h2)) h3
        exact ⟨o', ys, z1, z2, by rw [upd_ne ne]; exact z4, by rw [hid_upd h2]; exact z5⟩
  · have aux : ∀ (j : Nat) (s : Sl), (r.set i (.obj o ho'))[j]? = some s → s.ad = some o' → ∃ s', r[j]? = some s' ∧ s'.ad = some o' := fun j s hs ha => by
      by_cases hj : i = j
      · subst hj
        rw [List.getElem?_set_self hi] at hs
        cases hs
        exact ⟨_, e, ha⟩
      · rw [List.getElem?_set_ne hj] at hs
        exact ⟨s, hs, ha⟩
    obtain ⟨s1, a1, a2⟩ := aux j s q1 q3
    obtain ⟨t1, b1, b2⟩ := aux k t q2 q4
    exact h.dist j k s1 t1 o' a1 b1 a2 b2
/-- a new object comes to a slot -/
theorem SR.setO (h : SR K B M r sg H) {i : Nat} {p : Addr} {ho : HO} (e : Same H H') (hp : H p = none) (hx : H' p = some ho) : SR K B (p :: M) (r.set i (.obj p ho)) (sg.set i (some (.ref p))) H' := by
  have h1 := h.lay (u := ho) hp
  have npM := h.new hp
  have e' : Same (upd H p ho) H' := fun b o q => by
    by_cases hb : b = p
    · subst hb; rw [upd_same] at q; cases q; exact hx
    · rw [upd_ne hb] at q; exact e b o q
  have h2 := (h1.mono e').drop (i := i) (x := some (.ref p))
  refine ⟨h2.same, h2.sub, h2.out, h2.there, by rw [List.length_set, List.length_set]; exact h.len, fun j s hs => ?_, fun j k s t o q1 q2 q3 q4 => ?_⟩
  · by_cases hj : i = j
    · subst hj
      have hi : i < r.length := by
        have := (List.getElem?_eq_some_iff.mp hs).1
        rwa [List.length_set] at this
      rw [List.getElem?_set_self hi] at hs
      cases hs
      exact ⟨by rw [List.getElem?_set_self (by rw [h.len]; exact hi)], List.mem_cons_self, h.fresh hp, hx⟩
    · rw [List.getElem?_set_ne hj] at hs
      exact h2.slot j s (by rw [List.getElem?_set_ne hj]; exact hs)
  · have inM : ∀ (j : Nat) (s : Sl), r[j]? = some s → s.ad = some o → o ∈ M := fun j s hs ha => by
      have q := h.slot j s hs
      cases s with
      | unk => cases ha
      | dat d => cases ha
      | mt o' ds' => cases ha; exact q.2.1
      | obj o' ho => cases ha; exact q.2.1
      | fr ds' => cases ha
      | rd ds' => cases ha
    have aux : ∀ (j : Nat) (s : Sl), (r.set i (.obj p ho))[j]? = some s → s.ad = some o → (i = j ∧ o = p) ∨ r[j]? = some s := fun j s hs ha => by
      by_cases hj : i = j
      · subst hj
        have hi : i < r.length := by
          have := (List.getElem?_eq_some_iff.mp hs).1
          rwa [List.length_set] at this
        rw [List.getElem?_set_self hi] at hs
        cases hs; cases ha
        exact .inl ⟨rfl, rfl⟩
      · rw [List.getElem?_set_ne hj] at hs
        exact .inr hs
    rcases aux j s q1 q3 with ⟨e1, e2⟩ | z1
    · rcases aux k t q2 q4 with ⟨e3, e4⟩ | z2
      · exact e1.symm.trans e3
      · subst e2; exact absurd (inM k t z2 q4) npM
    · rcases aux k t q2 q4 with ⟨e3, e4⟩ | z2
      · subst e4; exact absurd (inM j s z1 q3) npM
      · exact h.dist j k s t o z1 z2 q3 q4
/-- one's own list, just made, becomes data again -/
theorem SR.fix1 (h : SR K B (p :: M) r sg H) (np : p ∉ M) {i : Nat} {ds : List PyData} (e : r[i]? = some (.mt p ds)) : SR K B M (r.set i (.dat (.list ds))) sg H := by
  have q := h.fix e
  have : (p :: M).filter (fun m => decide (m ≠ p)) = M := by
    rw [List.filter_cons_of_neg (by simp)]
    exact List.filter_eq_self.mpr fun m hm => decide_eq_true fun z => np (z ▸ hm)
  rw [this] at q
  exact q
end

section
variable {X : Cx} {M : Mem} {r : List Sl} {elt tg iter : Expr} {ifs : List Expr} {scope : Scope} {pos : Pos} {α : Type} {B : Bs} {sg : L2.St} {H : Hp} {D : Ends} {st : Stmt} {sts : List Stmt} {e c a b : Expr} {d : PyData} {ds : List PyData}
/-- seen = {e} -/
theorem s_set1 (i : Nat) {x : Str} {px : Pos} {k0 : Int} {sp : Pos} (hsr : SR X.K B M r sg H) (he : ∀ D, Ev X (D :: M) r e (.int k0)) (k : ∀ p sg' H', p ∉ M → Same H H' → SR X.K B (p :: M) (r.set i (.obj p (SetO X.w p (fun j => decide (j = k0)) 1))) sg' H' → D.nx sg' H') (hN : X.N.Nodup)
    (hcd : PySem.W.kdsCode X.K X.env.code = true) (hi : X.N[i]? = some x := by rfl) (hx : Loc X.env.scope x := by first | exact Or.inl rfl | exact Or.inr rfl) (hs : swapsWith (.Set [e] 0 sp) (some (.Name x px)) pos.line X.env = pure false := by rfl)
    (hf : X.fn x = true ∨ X.env.scope.names.lookup x = some .local := by first | exact .inl rfl | exact .inr rfl) (hst : starEach [e] X.env = [(false, eval e X.env)] := by rfl) : wpS X (.Assign [.Name x px] (.Set [e] 0 sp) pos) D sg H := by
  refine s_of (ps_set hN hi hx (pe_set1 e_wp hcd hst) hs hf) ?_
  intro p hp
  refine he p B sg _ _ (hsr.lay hp) fun v H1 s1 q1 => ?_
  have e1 : H1 p = some (SetO X.w p (fun _ => false) 0) := s1 _ _ upd_same
  refine ⟨k0, dp_int q1, e1, ?_⟩
  have sH : Same H H1 := (same_upd hp).trans s1
  have sH2 : Same H (upd H1 p (SetO X.w p (fun j => decide (j = k0)) 1)) := fun b o q => by rw [upd_ne (ne_of_none q hp)]; exact sH b o q
  exact k p _ _ (hsr.new hp) sH2 (hsr.setO sH2 hp upd_same)
variable {o : Addr} {S : Int → Bool} {n : Nat} {i0 : Int}
/-- e not in seen -/
theorem evt_sni (i : Nat) {x : Str} {px : Pos} (hr : r[i]? = some (.obj o (SetO X.w o S n))) (he : Ev X M r e (.int i0)) (hN : X.N[i]? = some x := by rfl) (hv : Vis X.env.scope x := by first | exact Or.inl rfl | exact Or.inr (Or.inl rfl) | exact Or.inr (Or.inr rfl))
    (hd : (x == ("__debug__" : Str)) = false := by decide) (hcd : (x == ("__classdict__" : Str)) = false := by decide) : EvT X M r (.Compare e [.NotIn] [.Name x px] pos) (!S i0) := fun B sg H Q hs k => by
  refine t_of (pt_cmpR or_snotin e_wp (pe_var hN hv hd hcd) rfl) ?_
  refine he B sg H _ hs fun v H1 s1 q1 => ?_
  obtain ⟨h1, h2, h3, h4⟩ := (hs.mono s1).obj hr
  refine ⟨_, h1, i0, o, S, n, dp_int q1, rfl, h4, ⟨_, rfl, k H1 s1⟩⟩
/-- seen.add(e) -/
theorem s_sadd (i : Nat) {x : Str} {p ap cp : Pos} (hsr : SR X.K B M r sg H) (hm : r[i]? = some (.obj o (SetO X.w o S n))) (he : Ev X M r e (.int i0)) (hz : n + 1 < scanBound) (k : ∀ H', SR X.K B M (r.set i (.obj o (SetO X.w o (fun j => S j || decide (j = i0)) (if S i0 = true then n else n + 1)))) sg H' → D.nx sg H')
    (hN : X.N[i]? = some x := by rfl) (hv : Vis X.env.scope x := by first | exact Or.inl rfl | exact Or.inr (Or.inl rfl) | exact Or.inr (Or.inr rfl)) (hd : (x == ("__debug__" : Str)) = false := by decide) (hcd : (x == ("__classdict__" : Str)) = false := by decide)
    (hbase : attributeBase (.Name x p) "add" X.env (eval (.Name x p) X.env) = eval (.Name x p) X.env := by rfl)
    (hfew : ((backTo cp (starEach [e] X.env)).all (fun x => !x.1) && (backToKw cp (keywordEach [] X.env)).all (fun x => x.1.isSome)
      && decide ([e].length + ([] : List Keyword).length + (if ([] : List Keyword).isEmpty then 0 else 1) < 30)) = true := by rfl)
    (hline : (ap.endLine == cp.line) = true := by rfl) (hst : starEach [e] X.env = (false, eval e X.env) :: starEach [] X.env := by rfl) (hplain : (backTo cp (starEach [] X.env)).any (·.1) = false := by rfl)
    (hsw : swapsWith (.Call (.Attribute (.Name x p) "add" ap) [e] [] cp) none pos.line X.env = pure false := by rfl) : wpS X (.Expr (.Call (.Attribute (.Name x p) "add" ap) [e] [] cp) pos) D sg H := by
  refine s_of (ps_expr (pe_sadd (pe_var hN hv hd hcd) (pa_cons e_wp pa_nil hst) hbase hfew hline hst hplain) hsw) ?_
  obtain ⟨h1, h2, h3, h4⟩ := hsr.obj hm
  refine ⟨_, h1, ⟨o, S, n, rfl, h4⟩, ?_⟩
  refine he B sg H _ hsr fun v H1 s1 q1 => ?_
  refine ⟨o, i0, S, n, rfl, by rw [dp_int q1], s1 _ _ h4, hz, ?_⟩
  exact k _ ((hsr.mono s1).chgO hm)
/-- sorted(seen) -/
theorem evf_sortedO (i : Nat) {x : Str} {px p : Pos} (hr : r[i]? = some (.obj o (SetO X.w o S n))) (hn : n < 64) {ks : List Int} (hk : ∀ ns : List Int, ns.Pairwise (· < ·) → (∀ k : Int, k ∈ ns ↔ S k = true) → ns.length = n → ns = ks) (hm : X.mg "sorted" = none) (hc : X.calm = true := by rfl) (hg : Gl X "sorted" := by rfl)
    (hN : X.N[i]? = some x := by rfl) (hv : Vis X.env.scope x := by first | exact Or.inl rfl | exact Or.inr (Or.inl rfl) | exact Or.inr (Or.inr rfl))
    (hd : (x == ("__debug__" : Str)) = false := by decide) (hcd : (x == ("__classdict__" : Str)) = false := by decide) (hst : starEach [.Name x px] X.env = (false, eval (.Name x px) X.env) :: starEach [] X.env := by rfl) :
    EvF X M r (.Call (.Name "sorted" p) [.Name x px] [] pos) (ks.map PyData.int) := fun B sg H Q hs k => by
  refine e_of (pe_callB (cr_sortedSet hc) hg hm (by decide +kernel) (pa_cons (pe_var hN hv hd hcd) pa_nil hst) (he := hst)) ?_
  obtain ⟨h1, h2, h3, h4⟩ := hs.obj hr
  refine ⟨_, h1, o, S, n, rfl, h4, hn, fun ns p hp hmem hl hfree => ?_⟩
  have := hk ns hp hmem hl
  subst this
  exact k p _ _ (same_upd hfree) hfree upd_same (dpa_of_ints _)
/-- for over any walk, from the state behind the walk's making -/
theorem s_forC {xs : List α} {enc : α → PyData} {js : List Nat} {body : List Stmt} {r2 : List Sl} {sg : L2.St} {wi : TI} (h1 : PI X tg iter wi) (hout : ∀ m ∈ B.M0, B.H0 m ≠ none)
    (h2 : ∀ R : It → Hp → Prop, (∀ (J : It) (H1 : Hp) (G : Hp → Prop) (Y : Nat → Hp → V → Hp → Prop), SR X.K B M r2 sg H1 → Walk J (xs.map enc).length G Y → (∀ H', Same (hid M H1) H' → G H') →
      (∀ i Hc v H', G Hc → Y i Hc v H' → ∀ (d : PyData) (M' : Mem), (xs.map enc)[i]? = some d → Same (hid M H1) (hid M' Hc) → (∀ m ∈ M', Hc m ≠ none) → Same Hc H' ∧ Dp X.K (hid M' H') v d) → R J H1) → wi sg H R)
    (R : Nat → List Sl) (R' : Nat → α → List Sl)
    (h0 : ∀ B' sg' H', SR X.K B' M r2 sg' H' → SR X.K B' M (R 0) sg' H')
    (hg : ∀ i x, xs[i]? = some x → BG X M tg js (R i) (enc x) (R' i x))
    (hb : ∀ (B' : Bs), B.le B' → ∀ i x, xs[i]? = some x → ∀ (D' : Ends) sg' H', (∀ v H'', D.rt v H'' → D'.rt v H'') → (∀ sg'' H'', D.nx sg'' H'' → D'.bk sg'' H'') → (∀ sg'' H'', SR X.K B' M (R (i + 1)) sg'' H'' → D'.nx sg'' H'') → (∀ sg'' H'', SR X.K B' M (R (i + 1)) sg'' H'' → D'.ct sg'' H'') →
      SR X.K B' M (R' i x) sg' H' → wpSs X body D' sg' H')
    (hd : ∀ sg' H', SR X.K B M (R xs.length) sg' H' → D.nx sg' H') (hp : PassesOwn (model X.prog X.w) X.A X.env X.xe) (hc : X.calm = true) (nf : (r2.all fun s => !s.isFr) = true)
    (hs : ∀ x, foldedSetIterable iter X.env x = pure x := by intro _; rfl) : wpS X (.For tg iter body [] pos) D sg H := by
  refine s_of (ps_for hp hc h1 g_wp ss_wp hs) ?_
  refine h2 _ fun J H1 G Y hs1 wk hG hY => ?_
  have hrb := hs1.rebase (fun s hs => by simpa using List.all_eq_true.mp nf s hs)
  have hle := hs1.reb_le
  refine for_it wk (fun i sg' H' => i ≤ xs.length ∧ SR X.K (reb B M H1) M (R i) sg' H') ?_ ?_ ?_ ?_
  · exact ⟨Nat.zero_le _, h0 _ _ _ hrb⟩
  · intro i sg' H' hi ⟨_, q⟩
    exact hG H' (q.seen.trans hid_le)
  · intro i x sg' H' H'' hi ⟨hi', q⟩ hy
    rw [List.length_map] at hi
    have hxi : xs[i]? = some xs[i] := List.getElem?_eq_getElem hi
    have hdd : (xs.map enc)[i]? = some (enc xs[i]) := by rw [List.getElem?_map, hxi]; rfl
    obtain ⟨sH, dH⟩ := hY i H' x H'' (hG H' (q.seen.trans hid_le)) hy _ M hdd q.seen q.there
    refine hg i _ hxi (reb B M H1) sg' H'' x _ (q.mono sH) dH fun sg2 hs2 _ _ => ?_
    exact hb (reb B M H1) hle i _ hxi _ sg2 H'' (fun _ _ z => z) (fun _ _ z => z) (fun sg3 H3 z => ⟨hi, z⟩) (fun sg3 H3 z => ⟨hi, z⟩) hs2
  · intro sg' H' ⟨_, q⟩
    rw [List.length_map] at q
    exact hd sg' H' (q.unbase hle hout)
/-- xs.index(e) of ints -/
theorem idx_first : ∀ {ns : List Int} {i : Int}, i ∈ ns → (ns.map V.int)[ns.idxOf i]? = some (.int i) ∧ ∀ (m : Nat) (z : V), m < ns.idxOf i → (ns.map V.int)[m]? = some z → eqV z (.int i) = false := fun {ns i} h => by
  have hl : ns.idxOf i < ns.length := List.idxOf_lt_length_of_mem h
  constructor
  · rw [List.getElem?_map, List.getElem?_eq_getElem hl, List.getElem_idxOf hl]; rfl
  · intro m z hm hz
    rw [List.getElem?_map] at hz
    obtain ⟨x, hx, rfl⟩ := Option.map_eq_some_iff.mp hz
    show (x == i) = false
    rw [beq_eq_false_iff_ne]
    intro e
    subst e
    have hml : m < ns.length := by omega
    have hxm : ns[m] = x := by rw [List.getElem?_eq_getElem hml] at hx; exact Option.some.inj hx
    have := List.not_of_lt_findIdx (xs := ns) (p := fun y => y == x) (i := m) (by simpa [List.idxOf] using hm)
    simp [hxm] at this
theorem ev_index {ns : List Int} {ap cp : Pos} (ha : EvR X M r a (ns.map PyData.int)) (hb : Ev X M r b (.int i0)) (hi : i0 ∈ ns)
    (hbase : attributeBase a "index" X.env (eval a X.env) = eval a X.env := by rfl)
    (hfew : ((backTo cp (starEach [b] X.env)).all (fun x => !x.1) && (backToKw cp (keywordEach [] X.env)).all (fun x => x.1.isSome)
      && decide ([b].length + ([] : List Keyword).length + (if ([] : List Keyword).isEmpty then 0 else 1) < 30)) = true := by rfl)
    (hline : (ap.endLine == cp.line) = true := by rfl) (hst : starEach [b] X.env = (false, eval b X.env) :: starEach [] X.env := by rfl) (hplain : (backTo cp (starEach [] X.env)).any (·.1) = false := by rfl) :
    Ev X M r (.Call (.Attribute a "index" ap) [b] [] cp) (.int ((ns.idxOf i0 : Nat) : Int)) := fun B sg H Q hs k => by
  refine e_of (pe_bm PySem.F.plainAttrs_list PySem.F.slot_list_index PySem.F.type_list_index mt_index e_wp (pa_cons e_wp pa_nil hst) hbase hfew hline hst hplain) ?_
  refine ha B sg H _ hs fun p xs H1 s1 q1 q2 => ?_
  rw [dpa_ints q2] at q1
  refine ⟨.inl ⟨rfl, _, q1⟩, ?_⟩
  refine hb B sg H1 _ (hs.mono s1) fun u H2 s2 q3 => ?_
  obtain ⟨f1, f2⟩ := idx_first hi
  exact ⟨p, _, .int i0, _, .int i0, rfl, by rw [dp_int q3], L2.Same.seq s2 q1, rfl, flat_ints, f1, by simp [eqV], f2, k _ H2 (s1.trans s2) (.int _)⟩
end
end K51
set_option Elab.async false
set_option linter.all false
set_option maxRecDepth 100000
set_option maxHeartbeats 1000000
namespace K51
open PySem PySem.Spec PyProof.Rows L2
section
variable {X : Cx} {M : Mem} {r : List Sl} {elt tg iter : Expr} {ifs : List Expr} {scope : Scope} {pos p : Pos} {α β : Type} {B : Bs} {sg : L2.St} {H : Hp} {D : Ends} {st : Stmt} {sts : List Stmt} {e c a b : Expr} {es : List Expr} {d : PyData} {ds : List PyData} {Q : VK} {i j : Int}
theorem Ev.run {e : Expr} (h : Ev X M r e d) (hs : SR X.K B M r sg H) (k : ∀ v H', Same H H' → Dp X.K (hid M H') v d → Q v H') : wpE X e sg H Q := h B sg H Q hs k
theorem s_retE (hsr : SR X.K B M r sg H) (he : Ev X M r e d) (k : ∀ v H', SR X.K B M r sg H' → Dp X.K (hid M H') v d → D.rt v H') : wpS X (.Return (some e) pos) D sg H := by
  refine s_of (ps_ret e_wp) ?_
  exact he B sg H _ hsr fun v H1 s1 q1 => k v H1 (hsr.mono s1) q1
theorem BG.run {js : List Nat} {r' : List Sl} {v : V} {Q : L2.St → Hp → Prop} (h : BG X M tg js r d r') (hs : SR X.K B M r sg H) (hd : Dp X.K (hid M H) v d) (k : ∀ sg', SR X.K B M r' sg' H → Q sg' H) : wpG X tg v sg H Q := h B sg H v Q hs hd fun sg' h _ _ => k sg' h
/-- for over range(e), any invariant -/
theorem s_forN {n : Nat} {body : List Stmt} {rp : Pos} (hsr : SR X.K B M r sg H) (he : Ev X M r e (.int n)) (hn : n < 2 ^ 62) (Pv : Nat → L2.St → Hp → Prop) (h0 : ∀ H', SR X.K B M r sg H' → Pv 0 sg H')
    (hb : ∀ i, i < n → ∀ sg' H' (D' : Ends), Pv i sg' H' → (∀ v H'', D.rt v H'' → D'.rt v H'') → (∀ sg'' H'', D.nx sg'' H'' → D'.bk sg'' H'') → (∀ sg'' H'', Pv (i + 1) sg'' H'' → D'.nx sg'' H'') → (∀ sg'' H'', Pv (i + 1) sg'' H'' → D'.ct sg'' H'') →
      wpG X tg (.int (i : Nat)) sg' H' fun sg2 H2 => wpSs X body D' sg2 H2)
    (hd : ∀ sg' H', Pv n sg' H' → D.nx sg' H') (hm : X.mg "range" = none) (hp : PassesOwn (model X.prog X.w) X.A X.env X.xe) (hc : X.calm = true) (hg : Gl X "range" := by rfl) (hst : starEach [e] X.env = [(false, eval e X.env)] := by rfl) (hst2 : starEach [e] X.env = (false, eval e X.env) :: starEach [] X.env := by rfl)
    (hs : ∀ x, foldedSetIterable (.Call (.Name "range" p) [e] [] rp) X.env x = pure x := by intro _; rfl) : wpS X (.For tg (.Call (.Name "range" p) [e] [] rp) body [] pos) D sg H := by
  refine s_of (ps_for hp hc (pi_range1 hg hm (pa_cons e_wp pa_nil hst2) hst) g_wp ss_wp hs) ?_
  refine he B sg H _ hsr fun v H1 s1 q1 => ?_
  rw [dp_int q1]
  refine ⟨n, rfl, by omega, by omega, ?_⟩
  rw [Int.toNat_natCast]
  refine for_it (walk_range (lo := 0)) Pv (h0 H1 (hsr.mono s1)) (fun _ _ _ _ _ => trivial) ?_ ?_
  · intro i x sg' H' H'' hi q hy
    obtain ⟨rfl, rfl⟩ := hy
    show wpG X tg (.int (0 + (i : Nat))) _ _ _
    rw [Int.zero_add]
    exact hb i (by omega) sg' H'' { D with nx := Pv (i + 1), ct := Pv (i + 1), bk := D.nx } q (fun _ _ z => z) (fun _ _ z => z) (fun _ _ z => z) (fun _ _ z => z)
  · intro sg' H' q
    exact hd sg' H' q
/-- for over a walk of data, the invariant's state free, the hidden memory fixed -/
theorem s_forB {xs : List α} {enc : α → PyData} {js : List Nat} {body : List Stmt} (hsr : SR X.K B M r sg H) (hI : EvI X M r tg iter (xs.map enc)) (Ps : Nat → β → Prop) (R : Nat → β → List Sl) (R' : Nat → α → β → List Sl) (b0 : β) (p0 : Ps 0 b0)
    (h0 : ∀ B' sg' H', SR X.K B' M r sg' H' → SR X.K B' M (R 0 b0) sg' H')
    (hg : ∀ i x b, xs[i]? = some x → BG X M tg js (R i b) (enc x) (R' i x b))
    (hb : ∀ (B' : Bs), B.le B' → (∀ m ∈ B.M0, B.H0 m ≠ none) → ∀ i x b, xs[i]? = some x → Ps i b → ∀ (D' : Ends) sg' H', (∀ v H'', D.rt v H'' → D'.rt v H'') → (∀ sg'' H'', D.nx sg'' H'' → D'.bk sg'' H'') → (∀ sg'' H'' b', Ps (i + 1) b' → SR X.K B' M (R (i + 1) b') sg'' H'' → D'.nx sg'' H'') → (∀ sg'' H'' b', Ps (i + 1) b' → SR X.K B' M (R (i + 1) b') sg'' H'' → D'.ct sg'' H'') →
      SR X.K B' M (R' i x b) sg' H' → wpSs X body D' sg' H')
    (hd : ∀ sg' H' b, Ps xs.length b → SR X.K B M (R xs.length b) sg' H' → D.nx sg' H') (hp : PassesOwn (model X.prog X.w) X.A X.env X.xe) (hc : X.calm = true)
    (nf : (r.all fun s => !s.isFr) = true := by rfl) (hs : ∀ x, foldedSetIterable iter X.env x = pure x := by intro _; rfl) : wpS X (.For tg iter body [] pos) D sg H := by
  obtain ⟨wi, h1, h2⟩ := hI
  refine s_of (ps_for hp hc h1 g_wp ss_wp hs) ?_
  refine h2 B sg H _ hsr fun J H1 G Y s1 wk hG hY => ?_
  have hs1 := hsr.mono s1
  have hrb := hs1.rebase (fun s hs => by simpa using List.all_eq_true.mp nf s hs)
  have hle := hs1.reb_le
  refine for_it wk (fun i sg' H' => i ≤ xs.length ∧ ∃ b, Ps i b ∧ SR X.K (reb B M H1) M (R i b) sg' H') ?_ ?_ ?_ ?_
  · exact ⟨Nat.zero_le _, b0, p0, h0 _ _ _ hrb⟩
  · intro i sg' H' hi ⟨_, b, _, q⟩
    exact hG H' (q.seen.trans hid_le)
  · intro i x sg' H' H'' hi ⟨hi', b, pb, q⟩ hy
    rw [List.length_map] at hi
    have hxi : xs[i]? = some xs[i] := List.getElem?_eq_getElem hi
    have hdd : (xs.map enc)[i]? = some (enc xs[i]) := by rw [List.getElem?_map, hxi]; rfl
    obtain ⟨sH, dH⟩ := hY i H' x H'' (hG H' (q.seen.trans hid_le)) hy _ M hdd q.seen q.there
    refine hg i _ b hxi (reb B M H1) sg' H'' x _ (q.mono sH) dH fun sg2 hs2 _ _ => ?_
    exact hb (reb B M H1) hle hsr.out i _ b hxi pb _ sg2 H'' (fun _ _ z => z) (fun _ _ z => z) (fun sg3 H3 b' pb' z => ⟨hi, b', pb', z⟩) (fun sg3 H3 b' pb' z => ⟨hi, b', pb', z⟩) hs2
  · intro sg' H' ⟨_, b, pb, q⟩
    rw [List.length_map] at q pb
    exact hd sg' H' b pb (q.unbase hle hsr.out)

/-! ### a pool of pInts that a call may change -/
def PoolOk (ps : List Int) : Prop := 2 ≤ ps.length ∧ ps.length ≤ 10000
abbrev pInts (ps : List Int) : List PyData := ps.map PyData.int
/-- an expression that may change the pool (R: the slots by the pool's content) -/
def EvP (X : Cx) (M : Mem) (R : List Int → List Sl) (e : Expr) (Post : PyData → Prop) : Prop :=
  ∀ (B : Bs) (sg : L2.St) (H : Hp) (ps : List Int) (Q : VK), SR X.K B M (R ps) sg H → PoolOk ps →
    (∀ v H' ps' d, Same (hid M H) (hid M H') → SR X.K B M (R ps') sg H' → PoolOk ps' → Dp X.K (hid M H') v d → Post d → Q v H') → wpE X e sg H Q
def EvPA (X : Cx) (M : Mem) (R : List Int → List Sl) (es : List Expr) (Post : List PyData → Prop) : Prop :=
  ∀ (B : Bs) (sg : L2.St) (H : Hp) (ps : List Int) (Q : List V → Hp → Prop), SR X.K B M (R ps) sg H → PoolOk ps →
    (∀ vs H' ps' ds, Same (hid M H) (hid M H') → SR X.K B M (R ps') sg H' → PoolOk ps' → DpAll X.K (hid M H') vs ds → Post ds → Q vs H') → wpA X es sg H Q
variable {R : List Int → List Sl} {P1 P2 : PyData → Prop} {PA : List PyData → Prop}
theorem EvP.of (h : ∀ ps, PoolOk ps → Ev X M (R ps) e d) : EvP X M R e (· = d) := fun B sg H ps Q hs hp k => h ps hp B sg H Q hs fun v H' s q => k v H' ps d (hid_mono s) (hs.mono s) hp q rfl
theorem EvP.imp (h : EvP X M R e P1) (q : ∀ d, P1 d → P2 d) : EvP X M R e P2 := fun B sg H ps Q hs hp k => h B sg H ps Q hs hp fun v H' ps' d s h' hp' hd p => k v H' ps' d s h' hp' hd (q d p)
theorem evpa_nil : EvPA X M R [] (· = []) := fun B sg H ps Q hs hp k => a_of pa_nil (k [] H ps [] (Same.refl _) hs hp .nil rfl)
theorem evpa_cons (ha : EvP X M R e P1) (hr : EvPA X M R es PA) (hs : starEach (e :: es) X.env = (false, eval e X.env) :: starEach es X.env := by rfl) : EvPA X M R (e :: es) (fun ds => ∃ d ds', ds = d :: ds' ∧ P1 d ∧ PA ds') := fun B sg H ps Q h hp k => by
  refine a_of (pa_cons e_wp a_wp hs) ?_
  refine ha B sg H ps _ h hp fun v H1 ps1 d s1 h1 hp1 q1 p1 => ?_
  refine hr B sg H1 ps1 _ h1 hp1 fun vs H2 ps2 ds s2 h2 hp2 q2 p2 => ?_
  exact k _ H2 ps2 _ (s1.trans s2) h2 hp2 (.cons (dp_mono s2 q1) q2) ⟨d, ds, rfl, p1, p2⟩
theorem evp_tup {x1 : Nat} (h : EvPA X M R es PA) (hz : es.length ≤ 1000) (hl : ∀ ds, PA ds → ds.length ≤ 1000) : EvP X M R (.Tuple es x1 pos) (fun d => ∃ ds, d = .tuple ds ∧ PA ds) := fun B sg H ps Q hs hp k => by
  refine e_of (pe_tup a_wp) ?_
  refine h B sg H ps _ hs hp fun vs H1 ps1 ds s1 h1 hp1 q1 p1 => ⟨by rw [dpa_len q1]; exact Nat.le_of_lt (small1000 (hl _ p1)), fun o ho => ?_⟩
  have hn := h1.new ho
  exact k _ _ ps1 _ (s1.trans (hid_mono (same_upd ho))) (h1.mono (same_upd ho)) hp1 (.tup (.inl (.inl (by rw [hid_out hn, upd_same]))) (dpa_mono (hid_mono (same_upd ho)) q1)) ⟨ds, rfl, p1⟩
/-- c + e, of pInts -/
theorem evp_add1 {z : Int} {j : Nat} {p2 : Pos} {PI : Int → Prop} (h : EvP X M R e (fun d => ∃ n : Int, d = .int n ∧ PI n)) : EvP X M R (.BinOp (.Constant (.int z) j p2) .Add e pos) (fun d => ∃ n : Int, d = .int (z + n) ∧ PI n) := fun B sg H ps Q hs hp k => by
  refine e_of (pe_op op_add pe_int e_wp) ?_
  refine h B sg H ps _ hs hp fun v H1 ps1 d s1 h1 hp1 q1 p1 => ?_
  obtain ⟨n, rfl, hn⟩ := p1
  rw [dp_int q1]
  exact ⟨z, n, rfl, rfl, k _ H1 ps1 _ s1 h1 hp1 (.int _) ⟨n, rfl, hn⟩⟩
/-- xs[e] -/
theorem evp_ix {n : Nat} (ha : ∀ ps, PoolOk ps → Ev X M (R ps) a (.list ds)) (h : EvP X M R e (fun d => ∃ m : Nat, d = .int m ∧ m < n)) (hn : n = ds.length) (hs : PlainIx e := by exact fun _ _ => rfl) : EvP X M R (.Subscript a e pos) (fun d => ∃ m : Nat, ds[m]? = some d) := fun B sg H ps Q hsr hp k => by
  refine e_of (pe_ix ix_list e_wp e_wp hs) ?_
  refine ha ps hp B sg H _ hsr fun v0 H0 s0 q0 => ?_
  refine h B sg H0 ps _ (hsr.mono s0) hp fun v H1 ps1 d s1 h1 hp1 q1 p1 => ?_
  obtain ⟨m, rfl, hm⟩ := p1
  rw [dp_int q1]
  obtain ⟨o, xs, rfl, e1, e2⟩ := dp_list (dp_mono s1 q0)
  have hd : ds[m]? = some ds[m] := List.getElem?_eq_getElem (by omega)
  obtain ⟨x, e3, e4⟩ := dpa_get e2 hd
  exact ⟨o, xs, m, x, rfl, rfl, L2.Same.seq hid_le e1, at_of rfl e3, k x H1 ps1 _ ((hid_mono s0).trans s1) h1 hp1 e4 ⟨m, hd⟩⟩
/-- a test -/
def EvPT (X : Cx) (M : Mem) (R : List Int → List Sl) (e : Expr) : Prop :=
  ∀ (B : Bs) (sg : L2.St) (H : Hp) (ps : List Int) (Q : Bool → Hp → Prop), SR X.K B M (R ps) sg H → PoolOk ps →
    (∀ z H' ps', SR X.K B M (R ps') sg H' → PoolOk ps' → Q z H') → wpT X e sg H Q
theorem evpt_cmp {op : CmpOp} {f : Int → Int → Bool} (ho : OpR X (compareOp op) (rI0 fun i j => .bl (f i j))) {z : Int} {k0 : Nat} {p2 : Pos} {PI : Int → Prop} (h : EvP X M R e (fun d => ∃ n : Int, d = .int n ∧ PI n)) (hm : behindInMarks op (.Constant (.int z) k0 p2) = false := by first | exact nomark _ (by decide) (by decide) | rfl) :
    EvPT X M R (.Compare e [op] [.Constant (.int z) k0 p2] pos) := fun B sg H ps Q hs hp k => by
  refine t_of (pt_cmpR ho e_wp pe_int hm) ?_
  refine h B sg H ps _ hs hp fun v H1 ps1 d s1 h1 hp1 q1 p1 => ?_
  obtain ⟨n, rfl, hn⟩ := p1
  rw [dp_int q1]
  exact ⟨n, z, rfl, rfl, _, rfl, k _ H1 ps1 h1 hp1⟩
theorem evpt_eq {z : Int} {k0 : Nat} {p2 : Pos} {PI : Int → Prop} (h : EvP X M R e (fun d => ∃ n : Int, d = .int n ∧ PI n)) (hm : behindInMarks .Eq (.Constant (.int z) k0 p2) = false := by first | exact nomark _ (by decide) (by decide) | rfl) :
    EvPT X M R (.Compare e [.Eq] [.Constant (.int z) k0 p2] pos) := fun B sg H ps Q hs hp k => by
  refine t_of (pt_cmpR op_eq e_wp pe_int hm) ?_
  refine h B sg H ps _ hs hp fun v H1 ps1 d s1 h1 hp1 q1 p1 => ?_
  obtain ⟨n, rfl, hn⟩ := p1
  rw [dp_int q1]
  exact ⟨rfl, _, rfl, k _ H1 ps1 h1 hp1⟩
/-- statements -/
theorem s_setP (i : Nat) {x : Str} {px : Pos} {ps : List Int} (hsr : SR X.K B M (R ps) sg H) (hp : PoolOk ps) (he : EvP X M R e P1) (k : ∀ sg' H' ps' d, P1 d → PoolOk ps' → SR X.K B M ((R ps').set i (.dat d)) sg' H' → D.nx sg' H') (hN : X.N.Nodup) (hi : X.N[i]? = some x := by rfl)
    (hx : Loc X.env.scope x := by first | exact Or.inl rfl | exact Or.inr rfl) (hs : swapsWith e (some (.Name x px)) pos.line X.env = pure false := by rfl) (hf : X.fn x = true ∨ X.env.scope.names.lookup x = some .local := by first | exact .inl rfl | exact .inr rfl) : wpS X (.Assign [.Name x px] e pos) D sg H := by
  refine s_of (ps_set hN hi hx e_wp hs hf) ?_
  refine he B sg H ps _ hsr hp fun v H1 ps1 d s1 h1 hp1 q1 p1 => ?_
  exact k _ H1 ps1 d p1 hp1 (h1.set q1)
theorem s_retP {ps : List Int} (hsr : SR X.K B M (R ps) sg H) (hp : PoolOk ps) (he : EvP X M R e P1) (k : ∀ v H' ps' d, SR X.K B M (R ps') sg H' → PoolOk ps' → Dp X.K (hid M H') v d → P1 d → D.rt v H') : wpS X (.Return (some e) pos) D sg H := by
  refine s_of (ps_ret e_wp) ?_
  refine he B sg H ps _ hsr hp fun v H1 ps1 d s1 h1 hp1 q1 p1 => ?_
  exact k v H1 ps1 d h1 hp1 q1 p1
theorem s_ifP {x y : List Stmt} {ps : List Int} (hsr : SR X.K B M (R ps) sg H) (hp : PoolOk ps) (he : EvPT X M R c) (h1 : ∀ H' ps', SR X.K B M (R ps') sg H' → PoolOk ps' → wpSs X x D sg H') (h2 : ∀ H' ps', SR X.K B M (R ps') sg H' → PoolOk ps' → wpSs X y D sg H') : wpS X (.If c x y pos) D sg H := by
  refine s_of (ps_if t_wp ss_wp ss_wp) ?_
  refine he B sg H ps _ hsr hp fun z H1 ps1 q1 hp1 => ?_
  cases z with
  | true => exact iteT (h1 H1 ps1 q1 hp1)
  | false => exact iteF (h2 H1 ps1 q1 hp1)
end

/-! ### calls that change the pool -/
def PoolSp (K : PySem.W.Frag) (C : List PyData → Prop) (Post : List PyData → PyData → Prop) : Sp := fun vs H Q _ => ∃ (M : Mem) (o : Addr) (ps : List Int) (vs' : List V) (ds : List PyData), (∀ m ∈ M, H m ≠ none) ∧ o ∈ M ∧ vs = .ref o :: vs' ∧
  H o = some (.lst (ps.map V.int)) ∧ PoolOk ps ∧ DpAll K (hid M H) vs' ds ∧ C ds ∧
  ∀ v H' ps' d, Same (hid [o] H) H' → H' o = some (.lst (ps'.map V.int)) → PoolOk ps' → Dp K (hid M H') v d → Post ds d → Q v H'
section
variable {X : Cx} {M : Mem} {r : List Sl} {p pos : Pos} {B : Bs} {sg : L2.St} {H H' : Hp} {o : Addr} {ps ps' : List Int} {e : Expr} {es : List Expr} {ds : List PyData} {R : List Int → List Sl} {K : PySem.W.Frag}
theorem hid_flip {M : Mem} {H : Hp} (ho : o ∈ M) (s : Same (hid [o] H) H') : Same (hid M H) (hid M H') := fun b x e => by
  by_cases hb : b ∈ M
  · rw [hid_in hb] at e; cases e
  · rw [hid_out hb] at e ⊢
    exact s b x (by rw [hid_out fun z => hb (by rw [List.mem_singleton.mp z]; exact ho)]; exact e)
/-- a pool's slot behind such a call -/
theorem SR.pool (h : SR K B M r sg H) {i : Nat} (e : r[i]? = some (.mt o (pInts ps))) (s : Same (hid [o] H) H') (ho : H' o = some (.lst (ps'.map V.int))) : SR K B M (r.set i (.mt o (pInts ps'))) sg H' := by
  have h1 := h.chg (xs := ps'.map V.int) e (dpa_of_ints ps')
  refine h1.mono fun b x q => ?_
  by_cases hb : b = o
  · subst hb; rw [upd_same] at q; cases q; exact ho
  · rw [upd_ne hb] at q
    exact s b x (by rw [hid_out fun z => hb (List.mem_singleton.mp z)]; exact q)
theorem evp_call {x y : Str} {px : Pos} {k : Nat} {C : List PyData → Prop} {Post : List PyData → PyData → Prop} (i : Nat) (o : Addr) (hf : Fnc X.prog X.w X.K X.mg X.base k x (PoolSp X.K C Post)) (hr : Room k X.A) (hR : ∀ ps, (R ps)[i]? = some (.mt o (pInts ps))) (hS : ∀ ps ps', (R ps).set i (.mt o (pInts ps')) = R ps')
    (ha : ∀ ps, PoolOk ps → EvA X M (R ps) es ds) (hC : C ds) (hN : X.N[i]? = some y := by rfl) (hv : Vis X.env.scope y := by first | exact Or.inl rfl | exact Or.inr (Or.inl rfl) | exact Or.inr (Or.inr rfl))
    (hd : (y == ("__debug__" : Str)) = false := by decide) (hcd : (y == ("__classdict__" : Str)) = false := by decide) (hg : Gl X x := by rfl)
    (hdb : (x == ("__debug__" : Str)) = false := by decide) (he : starEach (.Name y px :: es) X.env = (false, eval (.Name y px) X.env) :: starEach es X.env := by rfl) (hpl : (backTo pos (starEach es X.env)).any (·.1) = false := by rfl) :
    EvP X M R (.Call (.Name x p) (.Name y px :: es) [] pos) (Post ds) := fun B sg H ps Q hs hp kk => by
  obtain ⟨f, fd, pars, h1, h2, h3, h4⟩ := hf.ex
  refine e_of (pe_call h4 hr hg h1 h2 h3 .nil pass0 (pa_cons (pe_var hN hv hd hcd) a_wp he) hdb he hpl) ?_
  obtain ⟨z1, z2, z3, xs, z4, z5⟩ := hs.mt (hR ps)
  have := dpa_ints z5
  subst this
  refine ⟨_, z1, ?_⟩
  refine ha ps hp B sg H _ hs fun vs H1 s1 q1 => ?_
  show PoolSp X.K C Post ((V.ref o :: vs) ++ []) _ _ _
  rw [List.append_nil]
  refine ⟨M, o, ps, vs, ds, (hs.mono s1).there, z2, rfl, s1 _ _ z4, hp, q1, hC, fun v H' ps' d s ho hp' q2 p2 => ?_⟩
  have hsr := (hs.mono s1).pool (hR ps) s ho
  rw [hS] at hsr
  exact kk v H' ps' d ((hid_mono s1).trans (hid_flip z2 s)) hsr hp' q2 p2
end
def Sl.isDU : Sl → Bool
  | .unk => true
  | .dat _ => true
  | _ => false
section
variable {X : Cx} {M : Mem} {elt tg iter : Expr} {ifs : List Expr} {scope : Scope} {pos : Pos} {α : Type} {B : Bs} {sg : L2.St} {H : Hp} {D : Ends} {Q : VK} {R : List Int → List Sl} {ps : List Int}
theorem lc_readP {wi : TI} {xs : List α} {enc : α → PyData} {vs js : List Nat} {o : Addr} (ip : Nat) (Post : PyData → Prop) (R' : α → List Int → List Sl) (hR : ∀ ps, (R ps)[ip]? = some (.mt o (pInts ps))) (hS : ∀ ps ps', (R ps).set ip (.mt o (pInts ps')) = R ps') (hR' : ∀ x ps, (R' x ps)[ip]? = some (.mt o (pInts ps)))
    (hDU : (((R []).set ip .unk).all Sl.isDU) = true) (hS' : ∀ x ps ps', (R' x ps).set ip (.mt o (pInts ps')) = R' x ps') (hDU' : ∀ x, (((R' x []).set ip .unk).all Sl.isDU) = true)
    (hI : ∀ (B : Bs) (sg : L2.St) (H : Hp) (R0 : It → Hp → Prop), SR X.K B M (R ps) sg H →
      (∀ (J : It) (H1 : Hp) (G : Hp → Prop) (Y : Nat → Hp → V → Hp → Prop), Same H H1 → Walk J (xs.map enc).length G Y → (∀ H', Same (hid M H1) H' → G H') →
        (∀ i Hc v H', G Hc → Y i Hc v H' → ∀ (d : PyData) (M' : Mem), (xs.map enc)[i]? = some d → Same (hid M H1) (hid M' Hc) → (∀ m ∈ M', Hc m ≠ none) → Same Hc H' ∧ Dp X.K (hid M' H') v d) → R0 J H1) → wi sg H R0)
    (hz : xs.length ≤ 1000000) (hjs : ∀ j ∈ js, j ∈ vs)
    (hg : ∀ (D : Addr) (s : Shared) (H : Hp) (C : Addr) (cl : List (Str × Addr)) (fp : List Addr), ∀ x ∈ xs, ∀ ps, BG (X.blk s H scope (compEnvC scope cl C X.env) fp) (D :: M) tg js (wipeR (R ps) vs) (enc x) (R' x ps))
    (he : ∀ (D : Addr) (s : Shared) (H : Hp) (C : Addr) (cl : List (Str × Addr)) (fp : List Addr), ∀ x ∈ xs, EvP (X.blk s H scope (compEnvC scope cl C X.env) fp) (D :: M) (R' x) elt Post)
    (hp : PoolOk ps) (hs : SR X.K B M (R ps) sg H) (k : ∀ p ys H' ps' ds, H p = none → H' p = some (.lst ys) → DpAll X.K (hid (p :: M) H') ys ds → ds.length = xs.length → (∀ d ∈ ds, Post d) → PoolOk ps' → SR X.K B (p :: M) (R ps') sg H' → p ∉ M → Same (hid M H) (hid M H') → Q (.ref p) H') :
    tLc wi (blkG X scope tg) (blkTs X scope []) (blkE X scope elt) vs sg H Q := by
  refine hI B sg H _ hs fun J H1 G Y s1 wk hG hY D hD => ?_
  have hs1 := hs.mono s1
  have hsD : SR X.K B (D :: M) (R ps) sg (upd H1 D (.lst [])) := hs1.lay hD
  have hnD := hs1.new hD
  have e0 : hid (D :: M) (upd H1 D (.lst [])) = hid M H1 := by rw [hid_upd List.mem_cons_self, hid_cons hD]
  have hD0 : B.H0 D = none := hs1.fresh hD
  have hoD : o ≠ D := fun z => by
    have := (hs1.mt (hR ps)).2.1
    rw [z] at this; exact hnD this
  have hdu : ∀ (ps : List Int) (j : Nat) (s : Sl), j ≠ ip → (R ps)[j]? = some s → s.isDU = true := fun ps j s hj e => by
    rw [← hS [] ps, List.getElem?_set_ne (Ne.symm hj)] at e
    have e2 : ((R []).set ip .unk)[j]? = some s := by rw [List.getElem?_set_ne (Ne.symm hj)]; exact e
    exact List.all_eq_true.mp hDU s (List.mem_of_getElem? e2)
  have hdu' : ∀ (x : α) (ps : List Int) (j : Nat) (s : Sl), j ≠ ip → (R' x ps)[j]? = some s → s.isDU = true := fun x ps j s hj e => by
    rw [← hS' x [] ps, List.getElem?_set_ne (Ne.symm hj)] at e
    have e2 : ((R' x []).set ip .unk)[j]? = some s := by rw [List.getElem?_set_ne (Ne.symm hj)]; exact e
    exact List.all_eq_true.mp (hDU' x) s (List.mem_of_getElem? e2)
  -- the slots at a later heap
  have back : ∀ {ps ps' : List Int} {Hc H6 : Hp} {r2 : List Sl} {sg2 : L2.St} {B2 : Bs}, SR X.K B (D :: M) (R ps) sg Hc → SR X.K B2 (D :: M) r2 sg2 H6 → Same B.H0 B2.H0 → r2[ip]? = some (.mt o (pInts ps')) → Same (hid (D :: M) Hc) (hid (D :: M) H6) → SR X.K B (D :: M) (R ps') sg H6 := by
    intro ps ps' Hc H6 r2 sg2 B2 ha hb hB e s
    refine ⟨hB.trans hb.same, ha.sub, ha.out, hb.there, ?_, fun j t hj => ?_, fun i j t u a q1 q2 q3 q4 => ?_⟩
    · rw [ha.len, ← hS ps ps', List.length_set]
    · by_cases hji : j = ip
      · subst hji
        rw [hR ps'] at hj; cases hj
        obtain ⟨_, _, _, xs, z4, z5⟩ := hb.mt e
        obtain ⟨w1, w2, w3, _⟩ := ha.mt (hR ps)
        exact ⟨w1, w2, w3, xs, z4, z5⟩
      · have hd := hdu ps' j t hji hj
        have hj2 : (R ps)[j]? = some t := by rw [← hS ps' ps, List.getElem?_set_ne (Ne.symm hji)]; exact hj
        have q := ha.slot j t hj2
        cases t with
        | unk => trivial
        | dat d => obtain ⟨v, z1, z2⟩ := q; exact ⟨v, z1, dp_mono s z2⟩
        | _ => cases hd
    · have aux : ∀ (j : Nat) (t : Sl), (R ps')[j]? = some t → t.ad = some a → j = ip := fun j t hj ha => by
        refine Decidable.byContradiction fun hji => ?_
        have hd := hdu ps' j t hji hj
        cases t with
        | unk => cases ha
        | dat d => cases ha
        | _ => cases hd
      exact (aux i t q1 q3).trans (aux j u q2 q4).symm
  refine lc_it wk (fun i Hc => i ≤ xs.length ∧ ∃ ps ys ds, PoolOk ps ∧ SR X.K B (D :: M) (R ps) sg Hc ∧ Same (hid M H1) (hid (D :: M) Hc) ∧ Hc D = some (.lst ys) ∧ ds.length = i ∧ DpAll X.K (hid (D :: M) Hc) ys ds ∧ ∀ d ∈ ds, Post d) ?_ ?_ ?_ ?_
  · exact ⟨Nat.zero_le _, ps, [], [], hp, hsD, by rw [e0]; exact Same.refl _, upd_same, rfl, .nil, fun d hd => by cases hd⟩
  · rintro i Hc hi ⟨_, ps, ys, ds, _, _, s, _⟩
    exact hG Hc (s.trans hid_le)
  · rintro i x Hc H' hi ⟨hi', ps, ys, ds, hp, hsc, sc, hys, hyl, hyd, hpo⟩ hy
    rw [List.length_map] at hi
    have hxi : xs[i]? = some xs[i] := List.getElem?_eq_getElem hi
    have hmem : xs[i] ∈ xs := List.getElem_mem hi
    have hd : (xs.map enc)[i]? = some (enc xs[i]) := by rw [List.getElem?_map, hxi]; rfl
    obtain ⟨sH, dH⟩ := hY i Hc x H' (hG Hc (sc.trans hid_le)) hy _ (D :: M) hd sc hsc.there
    have hs' := (hsc.mono sH).wipe vs
    intro s0 H0 C cl fp
    refine hg D s0 H0 C cl fp _ hmem ps B _ H' x _ hs' dH fun sg2 hs2 hlen f2 => ⟨?_, ?_⟩
    · have hl : sg2.length = (L2.wipe sg vs).length := hlen
      rw [wipe_eq hl fun j hj => f2 j fun z => hj (hjs j z)]
      exact wipe_eq (wipe_length _ _) fun j hj => by rw [wipe_get, if_neg hj]
    · intro s3 H3 C3 cl3 fp3
      refine evts_nil (X := X.blk s3 H3 scope (compEnvC scope cl3 C3 X.env) fp3) (M := D :: M) B sg2 H' _ hs2 fun H4 s4 => ?_
      refine iteT ?_
      intro s5 H5 C5 cl5 fp5
      have hs4 := hs2.mono s4
      have hys4 : H4 D = some (.lst ys) := s4 _ _ (sH _ _ hys)
      have hbs : SR X.K ⟨fun b => if b = D then H4 D else B.H0 b, B.M0⟩ (D :: M) (R' xs[i] ps) sg2 H4 := by
        refine ⟨fun b y e => ?_, hs4.sub, fun m hm => ?_, hs4.there, hs4.len, fun j t hj => ?_, hs4.dist⟩
        · have e : (if b = D then H4 D else B.H0 b) = some y := e
          by_cases hb : b = D
          · rw [if_pos hb] at e; rw [hb]; exact e
          · rw [if_neg hb] at e; exact hs4.same b y e
        · show (if m = D then H4 D else B.H0 m) ≠ none
          by_cases hb : m = D
          · rw [if_pos hb, hys4]; simp
          · rw [if_neg hb]; exact hs4.out m hm
        · have q := hs4.slot j t hj
          by_cases hji : j = ip
          · subst hji
            rw [hR'] at hj; cases hj
            obtain ⟨z1, z2, z3, z4⟩ := q
            refine ⟨z1, z2, ?_, z4⟩
            show (if o = D then H4 D else B.H0 o) = none
            rw [if_neg hoD]; exact z3
          · have hd := hdu' _ _ j t hji hj
            cases t with
            | unk => trivial
            | dat d => exact q
            | _ => cases hd
      refine he D s5 H5 C5 cl5 fp5 _ hmem _ sg2 H4 ps _ hbs hp fun v H6 ps6 d6 s6 h6 hp6 q6 p6 => ?_
      have hvis : Same (hid (D :: M) Hc) (hid (D :: M) H6) := (hid_mono (sH.trans s4)).trans s6
      have hb := back hsc h6 (fun b y e => by
        show (if b = D then H4 D else B.H0 b) = some y
        rw [if_neg fun z => by rw [z, hD0] at e; cases e]; exact e) (hR' _ ps6) hvis
      have hD6 : H6 D = some (.lst ys) := h6.same D _ (by show (if D = D then H4 D else B.H0 D) = _; rw [if_pos rfl]; exact hys4)
      refine ⟨ys, hD6, by rw [sizeLine_eq, dpa_len hyd, hyl]; omega, hi, ps6, ys ++ [v], ds ++ [d6], hp6, ?_, ?_, upd_same, by rw [List.length_append, List.length_singleton, hyl], ?_, ?_⟩
      · refine ⟨fun b y q => by rw [upd_ne (ne_of_none q hD0)]; exact hb.same b y q, hb.sub, hb.out, fun m hm => by
          by_cases hm' : m = D
          · subst hm'; rw [upd_same]; simp
          · rw [upd_ne hm']; exact hb.there m hm, hb.len, fun j t hj => ?_, hb.dist⟩
        have q := hb.slot j t hj
        by_cases hji : j = ip
        · subst hji
          rw [hR] at hj; cases hj
          obtain ⟨z1, z2, z3, ws, z4, z5⟩ := q
          exact ⟨z1, z2, z3, ws, by rw [upd_ne hoD]; exact z4, by rw [hid_upd List.mem_cons_self]; exact z5⟩
        · have hd := hdu _ j t hji hj
          cases t with
          | unk => trivial
          | dat d => obtain ⟨u, z1, z2⟩ := q; exact ⟨u, z1, by rw [hid_upd List.mem_cons_self]; exact z2⟩
          | _ => cases hd
      · rw [hid_upd List.mem_cons_self]; exact sc.trans hvis
      · rw [hid_upd List.mem_cons_self]
        exact dpa_app (dpa_mono hvis hyd) (.cons q6 .nil)
      · intro d hd
        rcases List.mem_append.mp hd with z | z
        · exact hpo d z
        · rw [List.mem_singleton.mp z]; exact p6
  · rintro Hc ⟨_, ps, ys, ds, hp, hsc, sc, hys, hyl, hyd, hpo⟩
    rw [List.length_map] at hyl
    exact k D ys Hc ps ds (s1.free hD) hys hyd hyl hpo hp hsc hnD ((hid_mono s1).trans (sc.trans (hid_sub fun m hm => List.mem_cons_of_mem _ hm)))
theorem unhideP {o p : Addr} {ip : Nat} {ps' : List Int} {H' : Hp} (hR : ∀ ps, (R ps)[ip]? = some (.mt o (pInts ps))) (hS : ∀ ps ps', (R ps).set ip (.mt o (pInts ps')) = R ps') (hDU : (((R []).set ip .unk).all Sl.isDU) = true)
    (hsr : SR X.K B M (R ps) sg H) (h3 : SR X.K B (p :: M) (R ps') sg H') : SR X.K B M (R ps') sg H' := by
  have hoM : o ∈ M := (hsr.mt (hR ps)).2.1
  have hdu : ∀ (ps : List Int) (j : Nat) (s : Sl), j ≠ ip → (R ps)[j]? = some s → s.isDU = true := fun ps j s hj e => by
    rw [← hS [] ps, List.getElem?_set_ne (Ne.symm hj)] at e
    have e2 : ((R []).set ip .unk)[j]? = some s := by rw [List.getElem?_set_ne (Ne.symm hj)]; exact e
    exact List.all_eq_true.mp hDU s (List.mem_of_getElem? e2)
  have hsub : ∀ m ∈ M, m ∈ p :: M := fun m hm => List.mem_cons_of_mem _ hm
  refine ⟨h3.same, hsr.sub, h3.out, fun m hm => h3.there m (hsub m hm), h3.len, fun j t hj => ?_, h3.dist⟩
  have q := h3.slot j t hj
  by_cases hji : j = ip
  · subst hji
    rw [hR] at hj; cases hj
    obtain ⟨z1, z2, z3, ws, z4, z5⟩ := q
    exact ⟨z1, hoM, z3, ws, z4, dpa_mono (hid_sub hsub) z5⟩
  · have hd := hdu _ j t hji hj
    cases t with
    | unk => trivial
    | dat d => obtain ⟨u, z1, z2⟩ := q; exact ⟨u, z1, dp_mono (hid_sub hsub) z2⟩
    | _ => cases hd
/-- [..], each item perhaps changing the pool -/
theorem evp_lc {xs : List α} {enc : α → PyData} {js : List Nat} {o : Addr} (ip : Nat) (own : List (Str × Nat)) (Post : PyData → Prop) (R' : α → List Int → List Sl) (hR : ∀ ps, (R ps)[ip]? = some (.mt o (pInts ps))) (hS : ∀ ps ps', (R ps).set ip (.mt o (pInts ps')) = R ps') (hR' : ∀ x ps, (R' x ps)[ip]? = some (.mt o (pInts ps)))
    (hDU : (((R []).set ip .unk).all Sl.isDU) = true) (hS' : ∀ x ps ps', (R' x ps).set ip (.mt o (pInts ps')) = R' x ps') (hDU' : ∀ x, (((R' x []).set ip .unk).all Sl.isDU) = true)
    (hI : ∀ ps, EvI X M (R ps) tg iter (xs.map enc)) (ok : BlkOk X.N X.env.scope scope own) (hN : X.N.Nodup) (hc : X.calm = true) (hz : xs.length ≤ 1000000) (hjs : ∀ j ∈ js, j ∈ own.map (·.2))
    (hg : ∀ (D : Addr) (s : Shared) (H : Hp) (C : Addr) (cl : List (Str × Addr)) (fp : List Addr), ∀ x ∈ xs, ∀ ps, BG (X.blk s H scope (compEnvC scope cl C X.env) fp) (D :: M) tg js (wipeR (R ps) (own.map (·.2))) (enc x) (R' x ps))
    (he : ∀ (D : Addr) (s : Shared) (H : Hp) (C : Addr) (cl : List (Str × Addr)) (fp : List Addr), ∀ x ∈ xs, EvP (X.blk s H scope (compEnvC scope cl C X.env) fp) (D :: M) (R' x) elt Post)
    (hs : ∀ x, foldedSetIterable iter X.env x = pure x := by intro _; rfl) : EvP X M R (.ListComp elt [⟨tg, iter, [], 0⟩] scope pos) (fun d => ∃ ds, d = .list ds ∧ ds.length = xs.length ∧ ∀ d ∈ ds, Post d) := fun B sg H ps Q hsr hp k => by
  obtain ⟨wi, h1, h2⟩ := hI ps
  refine e_of (pe_lc (own := own) hc hN h1 ok blk_g blk_ts blk_e hs) ?_
  refine lc_readP ip Post R' hR hS hR' hDU hS' hDU' h2 hz hjs hg he hp hsr fun p ys H' ps' ds n1 e1 q1 hl hpo hp' h3 np hv => ?_
  exact k _ H' ps' (.list ds) hv (unhideP hR hS hDU hsr h3) hp' (.lst (.inl (.inl (by rw [hid_out np]; exact e1))) (dpa_mono (hid_sub fun m hm => List.mem_cons_of_mem _ hm) q1)) ⟨ds, rfl, hl, hpo⟩
/-- name = [..], each item perhaps changing the pool -/
theorem s_lcP {xs : List α} {enc : α → PyData} {js : List Nat} {o : Addr} (ip i : Nat) {y : Str} {py spos : Pos} (hp : PoolOk ps) (hsr : SR X.K B M (R ps) sg H) (own : List (Str × Nat)) (Post : PyData → Prop) (R' : α → List Int → List Sl) (hR : ∀ ps, (R ps)[ip]? = some (.mt o (pInts ps))) (hS : ∀ ps ps', (R ps).set ip (.mt o (pInts ps')) = R ps') (hR' : ∀ x ps, (R' x ps)[ip]? = some (.mt o (pInts ps)))
    (hDU : (((R []).set ip .unk).all Sl.isDU) = true) (hS' : ∀ x ps ps', (R' x ps).set ip (.mt o (pInts ps')) = R' x ps') (hDU' : ∀ x, (((R' x []).set ip .unk).all Sl.isDU) = true)
    (hI : EvI X M (R ps) tg iter (xs.map enc)) (ok : BlkOk X.N X.env.scope scope own) (hN : X.N.Nodup) (hc : X.calm = true) (hz : xs.length ≤ 1000000) (hjs : ∀ j ∈ js, j ∈ own.map (·.2))
    (hg : ∀ (D : Addr) (s : Shared) (H : Hp) (C : Addr) (cl : List (Str × Addr)) (fp : List Addr), ∀ x ∈ xs, ∀ ps, BG (X.blk s H scope (compEnvC scope cl C X.env) fp) (D :: M) tg js (wipeR (R ps) (own.map (·.2))) (enc x) (R' x ps))
    (he : ∀ (D : Addr) (s : Shared) (H : Hp) (C : Addr) (cl : List (Str × Addr)) (fp : List Addr), ∀ x ∈ xs, EvP (X.blk s H scope (compEnvC scope cl C X.env) fp) (D :: M) (R' x) elt Post)
    (k : ∀ sg' H' ps' ds, PoolOk ps' → ds.length = xs.length → (∀ d ∈ ds, Post d) → SR X.K B M ((R ps').set i (.dat (.list ds))) sg' H' → D.nx sg' H')
    (hsw : swapsWith (.ListComp elt [⟨tg, iter, [], 0⟩] scope pos) (some (.Name y py)) spos.line X.env = pure true) (hi : X.N[i]? = some y := by rfl) (hyl : X.env.scope.names.lookup y = some .local := by rfl)
    (hs : ∀ x, foldedSetIterable iter X.env x = pure x := by intro _; rfl) : wpS X (.Assign [.Name y py] (.ListComp elt [⟨tg, iter, [], 0⟩] scope pos) spos) D sg H := by
  obtain ⟨wi, h1, h2⟩ := hI
  refine s_of (ps_setLc (own := own) hc hN hi hyl hsw h1 ok blk_g blk_ts blk_e hs) ?_
  show tLc wi (blkG X scope tg) (blkTs X scope []) (blkE X scope elt) (own.map (·.2)) sg H (fun x H1 => gName i x sg H1 D.nx)
  refine lc_readP ip Post R' hR hS hR' hDU hS' hDU' h2 hz hjs hg he hp hsr fun p ys H' ps' ds n1 e1 q1 hl hpo hp' h3 np _ => ?_
  have hsub : ∀ m ∈ M, m ∈ p :: M := fun m hm => List.mem_cons_of_mem _ hm
  have h4 := unhideP hR hS hDU hsr h3
  refine k _ H' ps' ds hp' hl hpo (h4.set (v := .ref p) (.lst (.inl (.inl (by rw [hid_out np]; exact e1))) (dpa_mono (hid_sub hsub) q1)))
end
section
variable {P : Program} {w : World} {K : PySem.W.Frag} {mg : Str → Option Value} {base : Heap}
theorem pool_def {x : Str} {st : Stmt} {N pars : List Str} {k : Nat} {C : List PyData → Prop} {Post : List PyData → PyData → Prop} (Fn : Dfn K mg x st pars) (S : FnScope N pars (defScope st)) (hlen : ∀ ds, C ds → ds.length + 1 = pars.length) (hNl : pars.length ≤ N.length)
    (hbody : ∀ (f : Addr) (cdv : Value) (A : Around) (outer : List Env) (s : Shared) (H : Hp) (E : XK) (B : Bs) (M : Mem) (o : Addr) (ps : List Int) (ds : List PyData), Room k (CxD P w K mg base N x st f cdv A outer s H E).A → C ds → PoolOk ps →
      ∀ sg, SR K B M (.mt o (pInts ps) :: (ds.map Sl.dat ++ List.replicate (N.length - (ds.length + 1)) Sl.unk)) sg H → ∀ D : Ends, (∀ v H' ps' d r' sg', SR K B M (.mt o (pInts ps') :: r') sg' H' → PoolOk ps' → Dp K (hid M H') v d → Post ds d → D.rt v H') → wpSs (CxD P w K mg base N x st f cdv A outer s H E) (defBody st) D sg H) :
    Fnc P w K mg base (k + 1) x (PoolSp K C Post) := by
  obtain ⟨f, fd, h1, h2, h3⟩ := Fn.ex
  refine ⟨f, fd, pars, h1, h2.kp, h3, h2.ok S (fun vs H Q E h => ?_) (fun cdv A outer s H vs Q E hr h => ?_)⟩
  · obtain ⟨M, o, ps, vs', ds, _, _, rfl, _, _, h6, h7, _⟩ := h
    rw [List.length_cons, dpa_len h6]
    exact hlen ds h7
  · obtain ⟨M, o, ps, vs', ds, hM, hoM, rfl, ho, hp, hd, hC, hk⟩ := h
    refine ⟨_, ss_wp, ?_⟩
    have hl := dpa_len hd
    have hlen' := hlen ds hC
    have eM : hid (o :: M.filter (fun m => decide (m ≠ o))) H = hid M H := hid_ext fun b => by
      rw [List.mem_cons, List.mem_filter]
      constructor
      · rintro (rfl | ⟨h, _⟩)
        · exact hoM
        · exact h
      · intro h
        by_cases e : b = o
        · exact .inl e
        · exact .inr ⟨h, decide_eq_true e⟩
    have eM' : ∀ H', hid (o :: M.filter (fun m => decide (m ≠ o))) H' = hid M H' := fun H' => hid_ext fun b => by
      rw [List.mem_cons, List.mem_filter]
      constructor
      · rintro (rfl | ⟨h, _⟩)
        · exact hoM
        · exact h
      · intro h
        by_cases e : b = o
        · exact .inl e
        · exact .inr ⟨h, decide_eq_true e⟩
    have ad : ∀ (i : Nat) (s : Sl), (Sl.mt o (pInts ps) :: (ds.map Sl.dat ++ List.replicate (N.length - (ds.length + 1)) Sl.unk))[i]? = some s → (i = 0 ∧ s = .mt o (pInts ps)) ∨ (s.ad = none ∧ SlotOk K ⟨hid [o] H, M.filter (fun m => decide (m ≠ o))⟩ (o :: M.filter (fun m => decide (m ≠ o))) (L2.start N (.ref o :: vs'))[i]? H s) := fun i s hs => by
      cases i with
      | zero => rw [List.getElem?_cons_zero, Option.some.injEq] at hs; exact .inl ⟨rfl, hs.symm⟩
      | succ i =>
        right
        rw [List.getElem?_cons_succ] at hs
        by_cases hi : i < ds.length
        · rw [List.getElem?_append_left (by simpa using hi), List.getElem?_map] at hs
          obtain ⟨d, e1, rfl⟩ := Option.map_eq_some_iff.mp hs
          obtain ⟨v, e2, e3⟩ := dpa_get hd e1
          refine ⟨rfl, v, ?_, by rw [eM]; exact e3⟩
          unfold L2.start
          rw [List.getElem?_append_left (by simp [hl]; omega), List.getElem?_map, List.getElem?_cons_succ, e2]
          rfl
        · rw [List.getElem?_append_right (by simpa using Nat.le_of_not_lt hi), List.getElem?_replicate] at hs
          split at hs
          · cases hs; exact ⟨rfl, trivial⟩
          · cases hs
    have hsr : SR K ⟨hid [o] H, M.filter (fun m => decide (m ≠ o))⟩ (o :: M.filter (fun m => decide (m ≠ o))) (Sl.mt o (pInts ps) :: (ds.map Sl.dat ++ List.replicate (N.length - (ds.length + 1)) Sl.unk)) (L2.start N (.ref o :: vs')) H := by
      refine ⟨hid_le, fun m hm => List.mem_cons_of_mem _ hm, fun m hm => ?_, fun m hm => ?_, ?_, fun i s hs => ?_, fun i j s t b q1 q2 q3 q4 => ?_⟩
      · have h := List.mem_filter.mp hm
        show hid [o] H m ≠ none
        rw [hid_out fun z => of_decide_eq_true h.2 (List.mem_singleton.mp z)]
        exact hM m h.1
      · rcases List.mem_cons.mp hm with rfl | hm
        · rw [ho]; simp
        · exact hM m (List.mem_filter.mp hm).1
      · unfold L2.start
        simp [hl]
      · rcases ad i s hs with ⟨rfl, rfl⟩ | q
        · exact ⟨rfl, List.mem_cons_self, hid_in (List.mem_singleton.mpr rfl), _, ho, dpa_of_ints ps⟩
        · exact q.2
      · rcases ad i s q1 with ⟨rfl, rfl⟩ | z
        · rcases ad j t q2 with ⟨rfl, rfl⟩ | z2
          · rfl
          · rw [z2.1] at q4; cases q4
        · rw [z.1] at q3; cases q3
    refine hbody f cdv A outer s H E _ _ o ps ds hr hC hp _ hsr _ fun v H' ps' d r' sg' h' hp' q p => ?_
    obtain ⟨_, _, _, xs, y4, y5⟩ := h'.mt (i := 0) rfl
    have := dpa_ints y5
    subst this
    exact hk v H' ps' d h'.same y4 hp' (by rw [← eM']; exact q) p
end
end K51
set_option Elab.async false
set_option linter.all false
set_option maxRecDepth 100000
namespace K51
open PySem PySem.Spec PyProof.Rows L2
def topS (i : Nat) : Stmt := PySem.Challenge.pw_oddkeep_k51_whole_greatest_chances.main.body.getD i (.Pass ⟨0, 0, 0, 0⟩)
abbrev s_number : Stmt := topS 4
abbrev n_number : List Str := ["n", "d", "common"]
theorem sc_number : FnScope n_number ["n", "d"] (defScope s_number) := ⟨rfl, rfl, rfl, by decide +kernel, rfl, by decide +kernel, by decide +kernel⟩
abbrev s_compare : Stmt := topS 5
abbrev n_compare : List Str := ["a", "b", "left", "right"]
theorem sc_compare : FnScope n_compare ["a", "b"] (defScope s_compare) := ⟨rfl, rfl, rfl, by decide +kernel, rfl, by decide +kernel, by decide +kernel⟩
abbrev s_plus : Stmt := topS 6
abbrev n_plus : List Str := ["a", "b"]
theorem sc_plus : FnScope n_plus ["a", "b"] (defScope s_plus) := ⟨rfl, rfl, rfl, by decide +kernel, rfl, by decide +kernel, by decide +kernel⟩
abbrev s_minus : Stmt := topS 7
abbrev n_minus : List Str := ["a", "b"]
theorem sc_minus : FnScope n_minus ["a", "b"] (defScope s_minus) := ⟨rfl, rfl, rfl, by decide +kernel, rfl, by decide +kernel, by decide +kernel⟩
abbrev s_times : Stmt := topS 8
abbrev n_times : List Str := ["a", "b"]
theorem sc_times : FnScope n_times ["a", "b"] (defScope s_times) := ⟨rfl, rfl, rfl, by decide +kernel, rfl, by decide +kernel, by decide +kernel⟩
abbrev s_divided : Stmt := topS 9
abbrev n_divided : List Str := ["a", "b"]
theorem sc_divided : FnScope n_divided ["a", "b"] (defScope s_divided) := ⟨rfl, rfl, rfl, by decide +kernel, rfl, by decide +kernel, by decide +kernel⟩
abbrev s_targets : Stmt := topS 11
abbrev n_targets : List Str := ["game", "place", "here", "chance", "target"]
theorem sc_targets : FnScope n_targets ["game", "place"] (defScope s_targets) := ⟨rfl, rfl, rfl, by decide +kernel, rfl, by decide +kernel, by decide +kernel⟩
abbrev s_places_of : Stmt := topS 12
abbrev n_places_of : List Str := ["game", "kind", "place", "here"]
theorem sc_places_of : FnScope n_places_of ["game", "kind"] (defScope s_places_of) := ⟨rfl, rfl, rfl, by decide +kernel, rfl, by decide +kernel, by decide +kernel⟩
abbrev s_copy_of : Stmt := topS 13
abbrev n_copy_of : List Str := ["place"]
theorem sc_copy_of : FnScope n_copy_of ["place"] (defScope s_copy_of) := ⟨rfl, rfl, rfl, by decide +kernel, rfl, by decide +kernel, by decide +kernel⟩
abbrev s_with_strategy : Stmt := topS 14
abbrev n_with_strategy : List Str := ["game", "side", "strategy", "found", "place", "here"]
theorem sc_with_strategy : FnScope n_with_strategy ["game", "side", "strategy"] (defScope s_with_strategy) := ⟨rfl, rfl, rfl, by decide +kernel, rfl, by decide +kernel, by decide +kernel⟩
abbrev s_reached : Stmt := topS 15
abbrev n_reached : List Str := ["game", "place", "seen", "waiting", "target"]
theorem sc_reached : FnScope n_reached ["game", "place"] (defScope s_reached) := ⟨rfl, rfl, rfl, by decide +kernel, rfl, by decide +kernel, by decide +kernel⟩
abbrev s_scaled : Stmt := topS 17
abbrev n_scaled : List Str := ["line", "by", "one"]
theorem sc_scaled : FnScope n_scaled ["line", "by"] (defScope s_scaled) := ⟨rfl, rfl, rfl, by decide +kernel, rfl, by decide +kernel, by decide +kernel⟩
abbrev s_without : Stmt := topS 18
abbrev n_without : List Str := ["line", "place", "other", "less", "factors", "one", "two", "multipliers"]
theorem sc_without : FnScope n_without ["line", "place", "other"] (defScope s_without) := ⟨rfl, rfl, rfl, by decide +kernel, rfl, by decide +kernel, by decide +kernel⟩
abbrev s_reduced : Stmt := topS 19
abbrev n_reduced : List Str := ["count", "rows", "waiting", "place", "factors", "bound", "k", "solved", "having", "line", "other", "at"]
theorem sc_reduced : FnScope n_reduced ["count", "rows"] (defScope s_reduced) := ⟨rfl, rfl, rfl, by decide +kernel, rfl, by decide +kernel, by decide +kernel⟩
abbrev s_solution_of : Stmt := topS 20
abbrev n_solution_of : List Str := ["count", "solved", "numbers", "place", "line"]
theorem sc_solution_of : FnScope n_solution_of ["count", "solved"] (defScope s_solution_of) := ⟨rfl, rfl, rfl, by decide +kernel, rfl, by decide +kernel, by decide +kernel⟩
abbrev s_only_solution : Stmt := topS 21
abbrev n_only_solution : List Str := ["count", "rows", "solved", "left", "line"]
theorem sc_only_solution : FnScope n_only_solution ["count", "rows"] (defScope s_only_solution) := ⟨rfl, rfl, rfl, by decide +kernel, rfl, by decide +kernel, by decide +kernel⟩
abbrev s_branches : Stmt := topS 23
abbrev n_branches : List Str := ["chain", "place"]
theorem sc_branches : FnScope n_branches ["chain", "place"] (defScope s_branches) := ⟨rfl, rfl, rfl, by decide +kernel, rfl, by decide +kernel, by decide +kernel⟩
abbrev s_all_reached : Stmt := topS 24
abbrev n_all_reached : List Str := ["chain", "place"]
theorem sc_all_reached : FnScope n_all_reached ["chain"] (defScope s_all_reached) := ⟨rfl, rfl, rfl, by decide +kernel, rfl, by decide +kernel, by decide +kernel⟩
abbrev s_means : Stmt := topS 25
abbrev n_means : List Str := ["chain", "unknown", "gains", "known", "rows", "place", "factors", "other", "bound", "chance", "target", "at"]
theorem sc_means : FnScope n_means ["chain", "unknown", "gains", "known"] (defScope s_means) := ⟨rfl, rfl, rfl, by decide +kernel, rfl, by decide +kernel, by decide +kernel⟩
abbrev s_chances : Stmt := topS 26
abbrev n_chances : List Str := ["chain", "goals", "ways", "found", "place", "near", "goal", "unknown", "numbers", "number"]
theorem sc_chances : FnScope n_chances ["chain", "goals"] (defScope s_chances) := ⟨rfl, rfl, rfl, by decide +kernel, rfl, by decide +kernel, by decide +kernel⟩
abbrev s_first_choices : Stmt := topS 28
abbrev n_first_choices : List Str := ["game", "side", "place"]
theorem sc_first_choices : FnScope n_first_choices ["game", "side"] (defScope s_first_choices) := ⟨rfl, rfl, rfl, by decide +kernel, rfl, by decide +kernel, by decide +kernel⟩
abbrev s_better : Stmt := topS 29
abbrev n_better : List Str := ["game", "side", "strategy", "numbers", "found", "wanted", "place", "goals", "goal", "best", "branch", "number", "order"]
theorem sc_better : FnScope n_better ["game", "side", "strategy", "numbers"] (defScope s_better) := ⟨rfl, rfl, rfl, by decide +kernel, rfl, by decide +kernel, by decide +kernel⟩
abbrev s_improved : Stmt := topS 30
abbrev n_improved : List Str := ["game", "ours", "numbers"]
theorem sc_improved : FnScope n_improved ["game", "ours", "numbers"] (defScope s_improved) := ⟨rfl, rfl, rfl, by decide +kernel, rfl, by decide +kernel, by decide +kernel⟩
abbrev s_finishing : Stmt := topS 31
abbrev n_finishing : List Str := ["game", "ours", "theirs", "chain"]
theorem sc_finishing : FnScope n_finishing ["game", "ours", "theirs"] (defScope s_finishing) := ⟨rfl, rfl, rfl, by decide +kernel, rfl, by decide +kernel, by decide +kernel⟩
abbrev s_greatest_against : Stmt := topS 32
abbrev n_greatest_against : List Str := ["game", "theirs", "ours", "numbers", "other"]
theorem sc_greatest_against : FnScope n_greatest_against ["game", "theirs"] (defScope s_greatest_against) := ⟨rfl, rfl, rfl, by decide +kernel, rfl, by decide +kernel, by decide +kernel⟩
abbrev s_law_pool : Stmt := topS 34
abbrev n_law_pool : List Str := ["_law_script", "_law_pool_here", "_law_state", "_law_k", "_law_cell", "_law_step", "_law_one", "_law_two"]
theorem sc_law_pool : FnScope n_law_pool ["_law_script"] (defScope s_law_pool) := ⟨rfl, rfl, rfl, by decide +kernel, rfl, by decide +kernel, by decide +kernel⟩
abbrev s_law_stream : Stmt := topS 35
abbrev n_law_stream : List Str := ["_law_script"]
theorem sc_law_stream : FnScope n_law_stream ["_law_script"] (defScope s_law_stream) := ⟨rfl, rfl, rfl, by decide +kernel, rfl, by decide +kernel, by decide +kernel⟩
abbrev s_law_pick : Stmt := topS 36
abbrev n_law_pick : List Str := ["_law_pool_here", "_law_many"]
theorem sc_law_pick : FnScope n_law_pick ["_law_pool_here", "_law_many"] (defScope s_law_pick) := ⟨rfl, rfl, rfl, by decide +kernel, rfl, by decide +kernel, by decide +kernel⟩
abbrev s_law_lowest : Stmt := topS 37
abbrev n_law_lowest : List Str := ["_law_n", "_law_d", "_law_a", "_law_b", "_law_step"]
theorem sc_law_lowest : FnScope n_law_lowest ["_law_n", "_law_d"] (defScope s_law_lowest) := ⟨rfl, rfl, rfl, by decide +kernel, rfl, by decide +kernel, by decide +kernel⟩
abbrev s_law_place : Stmt := topS 38
abbrev n_law_place : List Str := ["_law_pool_here", "_law_many", "_law_kinds", "_law_kind", "_law_width", "_law_goals_here", "_law_k", "_law_shares", "_law_goal"]
theorem sc_law_place : FnScope n_law_place ["_law_pool_here", "_law_many", "_law_kinds"] (defScope s_law_place) := ⟨rfl, rfl, rfl, by decide +kernel, rfl, by decide +kernel, by decide +kernel⟩
abbrev s_law_game : Stmt := topS 39
abbrev n_law_game : List Str := ["_law_pool_here", "_law_most", "_law_many", "_law_kinds", "_law_game_here", "_law_k"]
theorem sc_law_game : FnScope n_law_game ["_law_pool_here", "_law_most"] (defScope s_law_game) := ⟨rfl, rfl, rfl, by decide +kernel, rfl, by decide +kernel, by decide +kernel⟩
abbrev s_law_strategy : Stmt := topS 40
abbrev n_law_strategy : List Str := ["_law_pool_here", "_law_game_here", "_law_side", "_law_found", "_law_place_here"]
theorem sc_law_strategy : FnScope n_law_strategy ["_law_pool_here", "_law_game_here", "_law_side"] (defScope s_law_strategy) := ⟨rfl, rfl, rfl, by decide +kernel, rfl, by decide +kernel, by decide +kernel⟩
abbrev s_law_is_strategy : Stmt := topS 41
abbrev n_law_is_strategy : List Str := ["_law_game_here", "_law_side", "_law_strategy_here", "_law_k"]
theorem sc_law_is_strategy : FnScope n_law_is_strategy ["_law_game_here", "_law_side", "_law_strategy_here"] (defScope s_law_is_strategy) := ⟨rfl, rfl, rfl, by decide +kernel, rfl, by decide +kernel, by decide +kernel⟩
abbrev s_law_is_number : Stmt := topS 42
abbrev n_law_is_number : List Str := ["_law_value"]
theorem sc_law_is_number : FnScope n_law_is_number ["_law_value"] (defScope s_law_is_number) := ⟨rfl, rfl, rfl, by decide +kernel, rfl, by decide +kernel, by decide +kernel⟩
abbrev s_law_is_numbers : Stmt := topS 43
abbrev n_law_is_numbers : List Str := ["_law_numbers", "_law_one"]
theorem sc_law_is_numbers : FnScope n_law_is_numbers ["_law_numbers"] (defScope s_law_is_numbers) := ⟨rfl, rfl, rfl, by decide +kernel, rfl, by decide +kernel, by decide +kernel⟩
abbrev s_law_less : Stmt := topS 44
abbrev n_law_less : List Str := ["_law_a", "_law_b"]
theorem sc_law_less : FnScope n_law_less ["_law_a", "_law_b"] (defScope s_law_less) := ⟨rfl, rfl, rfl, by decide +kernel, rfl, by decide +kernel, by decide +kernel⟩
abbrev s_law_are_numbers : Stmt := topS 45
abbrev n_law_are_numbers : List Str := ["_law_game_here", "_law_numbers", "_law_k"]
theorem sc_law_are_numbers : FnScope n_law_are_numbers ["_law_game_here", "_law_numbers"] (defScope s_law_are_numbers) := ⟨rfl, rfl, rfl, by decide +kernel, rfl, by decide +kernel, by decide +kernel⟩
abbrev s_law_targets : Stmt := topS 46
abbrev n_law_targets : List Str := ["_law_game_here", "_law_place_here", "_law_here", "_law_branch"]
theorem sc_law_targets : FnScope n_law_targets ["_law_game_here", "_law_place_here"] (defScope s_law_targets) := ⟨rfl, rfl, rfl, by decide +kernel, rfl, by decide +kernel, by decide +kernel⟩
abbrev s_law_goals : Stmt := topS 47
abbrev n_law_goals : List Str := ["_law_game_here", "_law_place_here", "_law_ours", "_law_theirs", "_law_goals_here"]
theorem sc_law_goals : FnScope n_law_goals ["_law_game_here", "_law_place_here", "_law_ours", "_law_theirs"] (defScope s_law_goals) := ⟨rfl, rfl, rfl, by decide +kernel, rfl, by decide +kernel, by decide +kernel⟩
abbrev s_law_reaching : Stmt := topS 48
abbrev n_law_reaching : List Str := ["_law_game_here", "_law_ours", "_law_theirs", "_law_found", "_law_k", "_law_step", "_law_more", "_law_goal"]
theorem sc_law_reaching : FnScope n_law_reaching ["_law_game_here", "_law_ours", "_law_theirs"] (defScope s_law_reaching) := ⟨rfl, rfl, rfl, by decide +kernel, rfl, by decide +kernel, by decide +kernel⟩
abbrev s_law_add : Stmt := topS 49
abbrev n_law_add : List Str := ["_law_a", "_law_b"]
theorem sc_law_add : FnScope n_law_add ["_law_a", "_law_b"] (defScope s_law_add) := ⟨rfl, rfl, rfl, by decide +kernel, rfl, by decide +kernel, by decide +kernel⟩
abbrev s_law_mul : Stmt := topS 50
abbrev n_law_mul : List Str := ["_law_a", "_law_b"]
theorem sc_law_mul : FnScope n_law_mul ["_law_a", "_law_b"] (defScope s_law_mul) := ⟨rfl, rfl, rfl, by decide +kernel, rfl, by decide +kernel, by decide +kernel⟩
abbrev s_law_mean : Stmt := topS 51
abbrev n_law_mean : List Str := ["_law_game_here", "_law_place_here", "_law_numbers", "_law_found", "_law_chance", "_law_goal"]
theorem sc_law_mean : FnScope n_law_mean ["_law_game_here", "_law_place_here", "_law_numbers"] (defScope s_law_mean) := ⟨rfl, rfl, rfl, by decide +kernel, rfl, by decide +kernel, by decide +kernel⟩
abbrev s_law_are_chances : Stmt := topS 52
abbrev n_law_are_chances : List Str := ["_law_game_here", "_law_numbers", "_law_ours", "_law_theirs", "_law_reaching_here", "_law_k"]
theorem sc_law_are_chances : FnScope n_law_are_chances ["_law_game_here", "_law_numbers", "_law_ours", "_law_theirs"] (defScope s_law_are_chances) := ⟨rfl, rfl, rfl, by decide +kernel, rfl, by decide +kernel, by decide +kernel⟩
abbrev s_law_counted : Stmt := topS 53
abbrev n_law_counted : List Str := ["_law_game_here", "_law_place_here", "_law_side", "_law_strategy_here", "_law_goals_here"]
theorem sc_law_counted : FnScope n_law_counted ["_law_game_here", "_law_place_here", "_law_side", "_law_strategy_here"] (defScope s_law_counted) := ⟨rfl, rfl, rfl, by decide +kernel, rfl, by decide +kernel, by decide +kernel⟩
abbrev s_law_upper : Stmt := topS 54
abbrev n_law_upper : List Str := ["_law_game_here", "_law_numbers", "_law_theirs", "_law_k", "_law_least", "_law_goal", "_law_one"]
theorem sc_law_upper : FnScope n_law_upper ["_law_game_here", "_law_numbers", "_law_theirs"] (defScope s_law_upper) := ⟨rfl, rfl, rfl, by decide +kernel, rfl, by decide +kernel, by decide +kernel⟩
abbrev s_law : Stmt := topS 55
abbrev n_law : List Str := ["_law_script", "_law_pool_here", "_law_game_here", "_law_theirs", "_law_kept", "_law_told", "_law_numbers", "_law_ours"]
theorem sc_law : FnScope n_law ["_law_script"] (defScope s_law) := ⟨rfl, rfl, rfl, by decide +kernel, rfl, by decide +kernel, by decide +kernel⟩
end K51
set_option Elab.async false
set_option linter.all false
/-! sizes of numbers: plain Lean -/
namespace K51
/-- numerator and denominator below 2 ^ k -/
def Sz (k : Nat) (q : Rat) : Prop := q.num.natAbs < 2 ^ k ∧ q.den < 2 ^ k
abbrev Sm (q : Rat) : Prop := Sz 3000 q
theorem Sz.mono {k m : Nat} {q : Rat} (h : Sz k q) (hk : k ≤ m) : Sz m q :=
  ⟨Nat.lt_of_lt_of_le h.1 (Nat.pow_le_pow_right (by decide) hk), Nat.lt_of_lt_of_le h.2 (Nat.pow_le_pow_right (by decide) hk)⟩
theorem div_natAbs (a b : Int) (h : b ∣ a) : (a / b).natAbs = a.natAbs / b.natAbs := by
  obtain ⟨c, rfl⟩ := h
  by_cases hb : b = 0
  · subst hb; simp
  · rw [Int.mul_ediv_cancel_left _ hb, Int.natAbs_mul, Nat.mul_div_cancel_left _ (Int.natAbs_pos.mpr hb)]
theorem mkRat_sz {n : Int} {d : Nat} {k : Nat} (hd : d ≠ 0) (h1 : n.natAbs < 2 ^ k) (h2 : d < 2 ^ k) : Sz k (mkRat n d) := by
  constructor
  · rw [Rat.num_mkRat, if_neg hd]
    have hg : ((d.gcd n.natAbs : Nat) : Int) ∣ n := by
      exact Int.ofNat_dvd_left.mpr (Nat.gcd_dvd_right _ _)
    rw [div_natAbs _ _ hg]
    exact Nat.lt_of_le_of_lt (Nat.div_le_self _ _) h1
  · rw [Rat.den_mkRat, if_neg hd]
    exact Nat.lt_of_le_of_lt (Nat.div_le_self _ _) h2
theorem pow_add_lt {a b x y : Nat} (h1 : x < 2 ^ a) (h2 : y < 2 ^ b) : x * y < 2 ^ (a + b) := by
  rw [Nat.pow_add]; exact Nat.mul_lt_mul'' h1 h2
theorem natAbs_mul_lt {a b : Nat} {x y : Int} (h1 : x.natAbs < 2 ^ a) (h2 : y.natAbs < 2 ^ b) : (x * y).natAbs < 2 ^ (a + b) := by
  rw [Int.natAbs_mul]; exact pow_add_lt h1 h2
theorem natAbs_add_lt {a : Nat} {x y : Int} (h1 : x.natAbs < 2 ^ a) (h2 : y.natAbs < 2 ^ a) : (x + y).natAbs < 2 ^ (a + 1) := by
  have := Int.natAbs_add_le x y
  rw [Nat.pow_succ]; omega
theorem natAbs_sub_lt {a : Nat} {x y : Int} (h1 : x.natAbs < 2 ^ a) (h2 : y.natAbs < 2 ^ a) : (x - y).natAbs < 2 ^ (a + 1) := by
  have := Int.natAbs_sub_le x y
  rw [Nat.pow_succ]; omega
theorem Sz.mul {j k : Nat} {p q : Rat} (h1 : Sz j p) (h2 : Sz k q) : Sz (j + k) (p * q) := by
  rw [Rat.mul_def']
  exact mkRat_sz (Nat.mul_ne_zero p.den_nz q.den_nz) (natAbs_mul_lt h1.1 h2.1) (pow_add_lt h1.2 h2.2)
theorem Sz.add {k : Nat} {p q : Rat} (h1 : Sz k p) (h2 : Sz k q) : Sz (k + k + 1) (p + q) := by
  rw [Rat.add_def']
  have a1 : (p.num * q.den).natAbs < 2 ^ (k + k) := natAbs_mul_lt h1.1 (by simpa using h2.2)
  have a2 : (q.num * p.den).natAbs < 2 ^ (k + k) := natAbs_mul_lt h2.1 (by simpa using h1.2)
  exact mkRat_sz (Nat.mul_ne_zero p.den_nz q.den_nz) (natAbs_add_lt a1 a2) (Nat.lt_of_lt_of_le (pow_add_lt h1.2 h2.2) (Nat.pow_le_pow_right (by decide) (Nat.le_succ _)))
theorem divInt_ne {a b : Int} (h : b ≠ 0) : Rat.divInt a b = a / b := Rat.divInt_eq_div a b
/-- the sum, the difference, the product, the quotient as one fraction -/
theorem add_frac (p q : Rat) : Rat.divInt (p.num * q.den + q.num * p.den) (p.den * q.den : Int) = p + q := by
  rw [Rat.add_def', ← Rat.divInt_ofNat]; rfl
theorem sub_frac (p q : Rat) : Rat.divInt (p.num * q.den - q.num * p.den) (p.den * q.den : Int) = p - q := by
  rw [Rat.sub_def', ← Rat.divInt_ofNat]; rfl
theorem mul_frac (p q : Rat) : Rat.divInt (p.num * q.num) (p.den * q.den : Int) = p * q := by
  rw [Rat.mul_def', ← Rat.divInt_ofNat]; rfl
theorem div_frac (p q : Rat) : Rat.divInt (p.num * q.den) (p.den * q.num : Int) = p / q := by
  rw [Rat.div_def, Rat.inv_def]
  conv => rhs; rw [← Rat.num_divInt_den p]
  rw [Rat.divInt_mul_divInt]
theorem rlt_le {a b c : Rat} (h : a < b) (h' : b ≤ c) : a < c := by grind
theorem rle_lt {a b c : Rat} (h : a ≤ b) (h' : b < c) : a < c := by grind
theorem den_pos (q : Rat) : (0 : Int) < q.den := by
  have := q.den_nz; omega
theorem den_ne (q : Rat) : (q.den : Int) ≠ 0 := by
  have := q.den_nz; omega
/-- the parts of a fraction brought to lowest terms -/
theorem frac_pos {n d : Int} (h : 0 < d) : (Rat.divInt n d).num = n / ((Nat.gcd n.natAbs d.natAbs : Nat) : Int) ∧ (((Rat.divInt n d).den : Nat) : Int) = d / ((Nat.gcd n.natAbs d.natAbs : Nat) : Int) := by
  have hg : Int.gcd d n = Nat.gcd n.natAbs d.natAbs := by rw [Int.gcd_comm]; rfl
  constructor
  · rw [Rat.num_divInt, hg, Int.sign_eq_one_of_pos h, Int.one_mul]
  · rw [Rat.den_divInt, if_neg (by omega), hg]
    have : ((d.natAbs : Nat) : Int) = d := Int.natAbs_of_nonneg (by omega)
    rw [Int.natCast_ediv, this]
end K51
set_option Elab.async false
set_option linter.all false
set_option maxRecDepth 100000
set_option exponentiation.threshold 20000
set_option maxHeartbeats 1000000
namespace K51
open PySem PySem.Spec PyProof.Rows L2
abbrev encQ (q : Rat) : PyData := .tuple [.int q.num, .int (q.den : Nat)]
section
variable {P : Program} {w : World} {K : PySem.W.Frag} {mg : Str → Option Value} {base : Heap}

/-- below 2 ^ 8000 -/
def Lt8 (i : Int) : Prop := i.natAbs < 2 ^ 8000
theorem Lt8.neg {i : Int} (h : Lt8 i) : Lt8 (-i) := by unfold Lt8 at *; rw [Int.natAbs_neg]; exact h
def F_number (ds : List PyData) (d : PyData) : Prop := ∃ n m : Int, ds = [.int n, .int m] ∧ m ≠ 0 ∧ Lt8 n ∧ Lt8 m ∧ d = encQ (Rat.divInt n m)
theorem gcd_lt {a b k : Nat} (hb : b ≠ 0) (h : b < 2 ^ k) : Nat.gcd a b < 2 ^ k := Nat.lt_of_le_of_lt (Nat.gcd_le_right _ (Nat.pos_of_ne_zero hb)) h
theorem num_tail {X : Cx} {M : Mem} {r : List Sl} {n m : Int} {e1 e2 e3 e4 : Expr} {p q ps : Pos} {x1 : Nat} (hm : 0 < m) (hz : Lt8 m)
    (h1 : Ev X M r e1 (.int n)) (h2 : Ev X M r e2 (.int m)) (h3 : Ev X M r e3 (.int ((Nat.gcd n.natAbs m.natAbs : Nat) : Int))) (h4 : Ev X M r e4 (.int ((Nat.gcd n.natAbs m.natAbs : Nat) : Int)))
    (st : starEach [(.BinOp e1 .FloorDiv e3 p), (.BinOp e2 .FloorDiv e4 q)] X.env = (false, eval (.BinOp e1 .FloorDiv e3 p) X.env) :: starEach [(.BinOp e2 .FloorDiv e4 q)] X.env := by rfl)
    (st2 : starEach [(.BinOp e2 .FloorDiv e4 q)] X.env = (false, eval (.BinOp e2 .FloorDiv e4 q) X.env) :: starEach [] X.env := by rfl) :
    Ev X M r (.Tuple [.BinOp e1 .FloorDiv e3 p, (.BinOp e2 .FloorDiv e4 q)] x1 ps) (encQ (Rat.divInt n m)) := by
  have hmn : m.natAbs ≠ 0 := Int.natAbs_ne_zero.mpr (by omega)
  have hg : 0 < ((Nat.gcd n.natAbs m.natAbs : Nat) : Int) := by
    have := Nat.gcd_pos_of_pos_right n.natAbs (Nat.pos_of_ne_zero hmn)
    omega
  have hg2 : (((Nat.gcd n.natAbs m.natAbs : Nat) : Int)).natAbs < 2 ^ 8000 := by
    rw [Int.natAbs_natCast]; exact gcd_lt hmn hz
  have hc : ∀ i : Int, CDivW i ((Nat.gcd n.natAbs m.natAbs : Nat) : Int) := fun i => wide_div hg hg2 (by decide) (by decide)
  obtain ⟨f1, f2⟩ := frac_pos (n := n) hm
  refine (ev_tup (eva_cons (ev_fdiv (hc n) h1 h3) (eva_cons (ev_fdiv (hc m) h2 h4) eva_nil st2) st) (by simp)).cast ?_
  rw [← f1, ← f2]
theorem fn_number (Fn : Dfn K mg "number" s_number ["n", "d"]) (mg1 : mg "gcd" = some (.builtin "math.gcd")) : Fnc P w K mg base 1 "number" (PureSp K F_number) := by
  refine pure_def Fn sc_number (fun ds d h => ?_) (fun f cdv A outer s H E M ds d hr h sg hsr D k => ?_)
  · obtain ⟨n, m, rfl, _⟩ := h; rfl
  · obtain ⟨n, m, rfl, hm, hn8, hm8, rfl⟩ := h
    refine ss_cons (s_if hsr (evt_cmp op_lt c_lt (ev_var 1 rfl) ev_int) (fun H1 s1 h1 z => ?_) fun H1 s1 h1 z => ?_)
    · have z := of_decide_eq_true z
      refine ss_one (s_par 0 1 h1 (eva_cons (ev_neg (ev_var 0 rfl)) (eva_cons (ev_neg (ev_var 1 rfl)) eva_nil)) (fun sg2 H2 s2 h2 => ?_) sc_number.nd rfl)
      refine ss_cons (s_set 2 h2 (ev_gcd (ev_var 0 rfl) (ev_var 1 rfl) mg1) (fun sg3 H3 s3 h3 => ?_) sc_number.nd)
      rw [show Rat.divInt n m = Rat.divInt (-n) (-m) from (Rat.neg_divInt_neg n m).symm] at k
      refine ss_one (s_ret h3 ?_ k)
      refine num_tail (n := -n) (m := -m) ?_ hm8.neg ?_ ?_ ?_ ?_
      · omega
      · exact ev_var 0 rfl
      · exact ev_var 1 rfl
      · exact ev_var 2 rfl
      · exact ev_var 2 rfl
    · have z := of_decide_eq_false z
      refine ss_nil ?_
      refine ss_cons (s_set 2 h1 (ev_gcd (ev_var 0 rfl) (ev_var 1 rfl) mg1) (fun sg3 H3 s3 h3 => ?_) sc_number.nd)
      refine ss_one (s_ret h3 ?_ k)
      refine num_tail (n := n) (m := m) ?_ hm8 ?_ ?_ ?_ ?_
      · omega
      · exact ev_var 0 rfl
      · exact ev_var 1 rfl
      · exact ev_var 2 rfl
      · exact ev_var 2 rfl
/-- a[0], a[1] of a number -/
theorem ev_q0 {X : Cx} {M : Mem} {r : List Sl} {a : Expr} {pos p : Pos} {j : Nat} {q : Rat} (h : Ev X M r a (encQ q)) : Ev X M r (.Subscript a (.Constant (.int 0) j p) pos) (.int q.num) := ev_ixt (n := 0) h ev_int rfl rfl
theorem ev_q1 {X : Cx} {M : Mem} {r : List Sl} {a : Expr} {pos p : Pos} {j : Nat} {q : Rat} (h : Ev X M r a (encQ q)) : Ev X M r (.Subscript a (.Constant (.int 1) j p) pos) (.int (q.den : Nat)) := ev_ixt (n := 1) h ev_int rfl rfl
theorem den_abs {q : Rat} {k : Nat} (h : q.den < 2 ^ k) : ((q.den : Nat) : Int).natAbs < 2 ^ k := by rw [Int.natAbs_natCast]; exact h
theorem mulw {i j : Int} {a b : Nat} (h1 : i.natAbs < 2 ^ a) (h2 : j.natAbs < 2 ^ b) (h : 0 < a ∧ 0 < b ∧ a + b ≤ 1000000) : CMulW i j := wide_mul h1 h2 h.1 h.2.1 h.2.2
def F_compare (ds : List PyData) (d : PyData) : Prop := ∃ p q : Rat, ds = [encQ p, encQ q] ∧ Sm p ∧ Sm q ∧ d = .int (if p < q then -1 else if q < p then 1 else 0)
theorem fn_compare (Fn : Dfn K mg "compare" s_compare ["a", "b"]) (mi : mg "int" = none) : Fnc P w K mg base 1 "compare" (PureSp K F_compare) := by
  refine pure_def Fn sc_compare (fun ds d h => ?_) (fun f cdv A outer s H E M ds d hr h sg hsr D k => ?_)
  · obtain ⟨p, q, rfl, _⟩ := h; rfl
  · obtain ⟨p, q, rfl, hp, hq, rfl⟩ := h
    refine ss_cons (s_par 2 3 hsr (eva_cons (ev_mul (mulw hp.1 (den_abs hq.2) (by decide)) (ev_q0 (ev_var 0 rfl)) (ev_q1 (ev_var 1 rfl))) (eva_cons (ev_mul (mulw hq.1 (den_abs hp.2) (by decide)) (ev_q0 (ev_var 1 rfl)) (ev_q1 (ev_var 0 rfl))) eva_nil)) (fun sg2 H2 s2 h2 => ?_) sc_compare.nd rfl)
    have l1 : (p < q) ↔ p.num * (q.den : Nat) < q.num * (p.den : Nat) := Rat.lt_iff p q
    have l2 : (q < p) ↔ q.num * (p.den : Nat) < p.num * (q.den : Nat) := Rat.lt_iff q p
    refine ss_cons (s_if h2 (evt_cmp op_lt c_lt (ev_var 2 rfl) (ev_var 3 rfl)) (fun H1 s1 h1 z => ?_) fun H1 s1 h1 z => ?_)
    · have z := of_decide_eq_true z
      rw [if_pos (l1.mpr z)] at k
      exact ss_one (s_ret h1 (ev_neg ev_int) k)
    · have z := of_decide_eq_false z
      rw [if_neg (fun t => z (l1.mp t))] at k
      refine ss_nil (ss_one (s_ret h1 (ev_intOfB (ev_cmp op_gt c_gt (ev_var 2 rfl) (ev_var 3 rfl)) mi) ?_))
      have : (if decide (q.num * (p.den : Nat) < p.num * (q.den : Nat)) = true then (1 : Int) else 0) = (if q < p then 1 else 0) := by
        by_cases t : q < p
        · rw [if_pos t, decide_eq_true (l2.mp t)]; rfl
        · rw [if_neg t, decide_eq_false (fun u => t (l2.mpr u))]; rfl
      rw [this]
      exact k
def F_op (o : Rat → Rat → Rat) (C : Rat → Rat → Prop) (ds : List PyData) (d : PyData) : Prop := ∃ p q : Rat, ds = [encQ p, encQ q] ∧ Sm p ∧ Sm q ∧ C p q ∧ d = encQ (o p q)
theorem lt8_of {i : Int} {k : Nat} (h : i.natAbs < 2 ^ k) (hk : k ≤ 8000) : Lt8 i := Nat.lt_of_lt_of_le h (Nat.pow_le_pow_right (by decide) hk)
variable {X : Cx} {M : Mem} {r : List Sl} {p q : Rat}
theorem fn_plus (Fn : Dfn K mg "plus" s_plus ["a", "b"]) (fN : Fnc P w K mg base 1 "number" (PureSp K F_number)) : Fnc P w K mg base 2 "plus" (PureSp K (F_op (· + ·) fun _ _ => True)) := by
  refine pure_def Fn sc_plus (fun ds d h => ?_) (fun f cdv A outer s H E M ds d hr h sg hsr D k => ?_)
  · obtain ⟨p, q, rfl, _⟩ := h; rfl
  · obtain ⟨p, q, rfl, hp, hq, _, rfl⟩ := h
    have e := add_frac p q
    have l1 : (p.num * (q.den : Nat)).natAbs < 2 ^ (3000 + 3000) := natAbs_mul_lt hp.1 (den_abs hq.2)
    have l2 : (q.num * (p.den : Nat)).natAbs < 2 ^ (3000 + 3000) := natAbs_mul_lt hq.1 (den_abs hp.2)
    have l3 : (((p.den : Nat) : Int) * (q.den : Nat)).natAbs < 2 ^ (3000 + 3000) := natAbs_mul_lt (den_abs hp.2) (den_abs hq.2)
    refine ss_one (s_ret hsr (ev_call fN hr (eva_cons (ev_add (ev_mul (mulw hp.1 (den_abs hq.2) (by decide)) (ev_q0 (ev_var 0 rfl)) (ev_q1 (ev_var 1 rfl))) (ev_mul (mulw hq.1 (den_abs hp.2) (by decide)) (ev_q0 (ev_var 1 rfl)) (ev_q1 (ev_var 0 rfl))))
      (eva_cons (ev_mul (mulw (den_abs hp.2) (den_abs hq.2) (by decide)) (ev_q1 (ev_var 0 rfl)) (ev_q1 (ev_var 1 rfl))) eva_nil))
      ⟨_, _, rfl, Int.mul_ne_zero (den_ne p) (den_ne q), lt8_of (natAbs_add_lt l1 l2) (by decide), lt8_of l3 (by decide), rfl⟩) ?_)
    rw [e]
    exact k
theorem fn_minus (Fn : Dfn K mg "minus" s_minus ["a", "b"]) (fN : Fnc P w K mg base 1 "number" (PureSp K F_number)) : Fnc P w K mg base 2 "minus" (PureSp K (F_op (· - ·) fun _ _ => True)) := by
  refine pure_def Fn sc_minus (fun ds d h => ?_) (fun f cdv A outer s H E M ds d hr h sg hsr D k => ?_)
  · obtain ⟨p, q, rfl, _⟩ := h; rfl
  · obtain ⟨p, q, rfl, hp, hq, _, rfl⟩ := h
    have e := sub_frac p q
    have l1 : (p.num * (q.den : Nat)).natAbs < 2 ^ (3000 + 3000) := natAbs_mul_lt hp.1 (den_abs hq.2)
    have l2 : (q.num * (p.den : Nat)).natAbs < 2 ^ (3000 + 3000) := natAbs_mul_lt hq.1 (den_abs hp.2)
    have l3 : (((p.den : Nat) : Int) * (q.den : Nat)).natAbs < 2 ^ (3000 + 3000) := natAbs_mul_lt (den_abs hp.2) (den_abs hq.2)
    refine ss_one (s_ret hsr (ev_call fN hr (eva_cons (ev_sub (ev_mul (mulw hp.1 (den_abs hq.2) (by decide)) (ev_q0 (ev_var 0 rfl)) (ev_q1 (ev_var 1 rfl))) (ev_mul (mulw hq.1 (den_abs hp.2) (by decide)) (ev_q0 (ev_var 1 rfl)) (ev_q1 (ev_var 0 rfl))))
      (eva_cons (ev_mul (mulw (den_abs hp.2) (den_abs hq.2) (by decide)) (ev_q1 (ev_var 0 rfl)) (ev_q1 (ev_var 1 rfl))) eva_nil))
      ⟨_, _, rfl, Int.mul_ne_zero (den_ne p) (den_ne q), lt8_of (natAbs_sub_lt l1 l2) (by decide), lt8_of l3 (by decide), rfl⟩) ?_)
    rw [e]
    exact k
theorem fn_times (Fn : Dfn K mg "times" s_times ["a", "b"]) (fN : Fnc P w K mg base 1 "number" (PureSp K F_number)) : Fnc P w K mg base 2 "times" (PureSp K (F_op (· * ·) fun _ _ => True)) := by
  refine pure_def Fn sc_times (fun ds d h => ?_) (fun f cdv A outer s H E M ds d hr h sg hsr D k => ?_)
  · obtain ⟨p, q, rfl, _⟩ := h; rfl
  · obtain ⟨p, q, rfl, hp, hq, _, rfl⟩ := h
    have e := mul_frac p q
    have l1 : (p.num * q.num).natAbs < 2 ^ (3000 + 3000) := natAbs_mul_lt hp.1 hq.1
    have l3 : (((p.den : Nat) : Int) * (q.den : Nat)).natAbs < 2 ^ (3000 + 3000) := natAbs_mul_lt (den_abs hp.2) (den_abs hq.2)
    refine ss_one (s_ret hsr (ev_call fN hr (eva_cons (ev_mul (mulw hp.1 hq.1 (by decide)) (ev_q0 (ev_var 0 rfl)) (ev_q0 (ev_var 1 rfl)))
      (eva_cons (ev_mul (mulw (den_abs hp.2) (den_abs hq.2) (by decide)) (ev_q1 (ev_var 0 rfl)) (ev_q1 (ev_var 1 rfl))) eva_nil))
      ⟨_, _, rfl, Int.mul_ne_zero (den_ne p) (den_ne q), lt8_of l1 (by decide), lt8_of l3 (by decide), rfl⟩) ?_)
    rw [e]
    exact k
theorem fn_divided (Fn : Dfn K mg "divided" s_divided ["a", "b"]) (fN : Fnc P w K mg base 1 "number" (PureSp K F_number)) : Fnc P w K mg base 2 "divided" (PureSp K (F_op (· / ·) fun _ q => q ≠ 0)) := by
  refine pure_def Fn sc_divided (fun ds d h => ?_) (fun f cdv A outer s H E M ds d hr h sg hsr D k => ?_)
  · obtain ⟨p, q, rfl, _⟩ := h; rfl
  · obtain ⟨p, q, rfl, hp, hq, hq0, rfl⟩ := h
    have e := div_frac p q
    have hq0' : q ≠ 0 := hq0
    have l1 : (p.num * (q.den : Nat)).natAbs < 2 ^ (3000 + 3000) := natAbs_mul_lt hp.1 (den_abs hq.2)
    have l3 : (((p.den : Nat) : Int) * q.num).natAbs < 2 ^ (3000 + 3000) := natAbs_mul_lt (den_abs hp.2) hq.1
    refine ss_one (s_ret hsr (ev_call fN hr (eva_cons (ev_mul (mulw hp.1 (den_abs hq.2) (by decide)) (ev_q0 (ev_var 0 rfl)) (ev_q1 (ev_var 1 rfl)))
      (eva_cons (ev_mul (mulw (den_abs hp.2) hq.1 (by decide)) (ev_q1 (ev_var 0 rfl)) (ev_q0 (ev_var 1 rfl))) eva_nil))
      ⟨_, _, rfl, Int.mul_ne_zero (den_ne p) (fun z => hq0' (Rat.num_eq_zero.mp z)), lt8_of l1 (by decide), lt8_of l3 (by decide), rfl⟩) ?_)
    rw [e]
    exact k
end
end K51
set_option Elab.async false
set_option linter.all false
/-! games, chains, strategies: plain Lean -/
namespace K51
inductive Pl where
  | draw (bs : List (Rat × Nat))
  | ours (ts : List Nat)
  | theirs (ts : List Nat)
  | reward (am : Rat) (t : Nat)
  | finish
  | lose
namespace Pl
def tgs : Pl → List Nat
  | draw bs => bs.map (·.2)
  | ours ts => ts
  | theirs ts => ts
  | reward _ t => [t]
  | finish => []
  | lose => []
/-- the branches of a chain's place -/
def brs : Pl → List (Rat × Nat)
  | draw bs => bs
  | reward _ t => [(1, t)]
  | _ => []
def isDraw : Pl → Bool | draw _ => true | _ => false
def isOurs : Pl → Bool | ours _ => true | _ => false
def isTheirs : Pl → Bool | theirs _ => true | _ => false
def isReward : Pl → Bool | reward _ _ => true | _ => false
def isFin : Pl → Bool | finish => true | _ => false
def isLose : Pl → Bool | lose => true | _ => false
end Pl
abbrev Game := List Pl
inductive Side where | o | t
def Pl.isSide (p : Pl) : Side → Bool | .o => p.isOurs | .t => p.isTheirs
/-- what a place is to be, in a game of n places -/
def sumQ : List Rat → Rat
  | [] => 0
  | x :: xs => x + sumQ xs
def Pl.Ok (n : Nat) : Pl → Prop
  | .draw bs => bs ≠ [] ∧ bs.length ≤ 6 ∧ (∀ b ∈ bs, b.2 < n ∧ 0 < b.1) ∧ sumQ (bs.map (·.1)) = 1 ∧ ∃ W : Nat, 0 < W ∧ W ≤ 100 ∧ ∀ b ∈ bs, ∃ z : Nat, b.1 * (W : Rat) = (z : Rat) ∧ z ≤ 100
  | .ours ts => ts ≠ [] ∧ ts.length ≤ 6 ∧ ∀ t ∈ ts, t < n
  | .theirs ts => ts ≠ [] ∧ ts.length ≤ 6 ∧ ∀ t ∈ ts, t < n
  | .reward am t => t < n ∧ ∃ k : Nat, k ≤ 100 ∧ am = (k : Rat)
  | .finish => True
  | .lose => True
structure GOk (G : Game) : Prop where
  pos : 0 < G.length
  few : G.length ≤ 12
  ok : ∀ p ∈ G, p.Ok G.length
def IsChain (G : Game) : Prop := ∀ p ∈ G, p.isOurs = false ∧ p.isTheirs = false
theorem Pl.Ok.tg {n : Nat} {p : Pl} (h : p.Ok n) : ∀ t ∈ p.tgs, t < n := by
  intro t ht
  cases p with
  | draw bs =>
    obtain ⟨b, hb, rfl⟩ := List.mem_map.mp ht
    exact (h.2.2.1 b hb).1
  | ours ts => exact h.2.2 t ht
  | theirs ts => exact h.2.2 t ht
  | reward am x =>
    have : t = x := by simpa [Pl.tgs] using ht
    rw [this]; exact h.1
  | finish => simp [Pl.tgs] at ht
  | lose => simp [Pl.tgs] at ht
theorem Pl.Ok.few {n : Nat} {p : Pl} (h : p.Ok n) : p.tgs.length ≤ 6 := by
  cases p with
  | draw bs => simpa [Pl.tgs] using h.2.1
  | ours ts => exact h.2.1
  | theirs ts => exact h.2.1
  | reward am x => simp [Pl.tgs]
  | finish => simp [Pl.tgs]
  | lose => simp [Pl.tgs]
/-- a strategy -/
abbrev Strat := List (Option Nat)
structure SOk (sd : Side) (G : Game) (s : Strat) : Prop where
  len : s.length = G.length
  ok : ∀ (i : Nat) (p : Pl), G[i]? = some p → if p.isSide sd = true then ∃ b, s[i]? = some (some b) ∧ b < p.tgs.length else s[i]? = some none
/-- the strategy put in -/
def put (sd : Side) (p : Pl) (b : Option Nat) : Pl := if p.isSide sd = true then .draw [(1, p.tgs.getD (b.getD 0) 0)] else p
def withS (sd : Side) (G : Game) (s : Strat) : Game := G.zipIdx.map fun pi => put sd pi.1 (s.getD pi.2 none)
theorem withS_length {sd : Side} {G : Game} {s : Strat} : (withS sd G s).length = G.length := by simp [withS]
theorem withS_get {sd : Side} {G : Game} {s : Strat} {i : Nat} {p : Pl} (h : G[i]? = some p) : (withS sd G s)[i]? = some (put sd p (s.getD i none)) := by
  unfold withS
  rw [List.getElem?_map, List.getElem?_zipIdx, h]
  simp
theorem one_ok {n t : Nat} (h : t < n) : (Pl.draw [(1, t)]).Ok n := by
  refine ⟨by simp, by simp, ?_, ?_, 1, by decide, by decide, ?_⟩
  · intro b hb
    have : b = (1, t) := by simpa using hb
    subst this
    exact ⟨h, (by decide : (0 : Rat) < 1)⟩
  · simp [sumQ, Rat.add_zero]
  · intro b hb
    have : b = (1, t) := by simpa using hb
    subst this
    exact ⟨1, by simp, by decide⟩
theorem put_ok {sd : Side} {n : Nat} {p : Pl} {b : Option Nat} (h : p.Ok n) (hb : p.isSide sd = true → ∃ k, b = some k ∧ k < p.tgs.length) : (put sd p b).Ok n := by
  unfold put
  by_cases hs : p.isSide sd = true
  · rw [if_pos hs]
    obtain ⟨k, rfl, hk⟩ := hb hs
    apply one_ok
    show (p.tgs.getD k 0) < n
    rw [List.getD_eq_getElem?_getD, List.getElem?_eq_getElem hk]
    exact h.tg _ (List.getElem_mem hk)
  · rw [if_neg hs]; exact h
theorem withS_ok {sd : Side} {G : Game} {s : Strat} (h : GOk G) (hs : SOk sd G s) : GOk (withS sd G s) := by
  refine ⟨by rw [withS_length]; exact h.pos, by rw [withS_length]; exact h.few, fun p hp => ?_⟩
  obtain ⟨i, hi⟩ := List.mem_iff_getElem?.mp hp
  have hl : i < G.length := by
    have := (List.getElem?_eq_some_iff.mp hi).1
    rwa [withS_length] at this
  rw [withS_get (List.getElem?_eq_getElem hl)] at hi
  cases hi
  rw [withS_length]
  refine put_ok (h.ok _ (List.getElem_mem hl)) fun hsd => ?_
  have := hs.ok i _ (List.getElem?_eq_getElem hl)
  rw [if_pos hsd] at this
  obtain ⟨b, h1, h2⟩ := this
  exact ⟨b, by rw [List.getD_eq_getElem?_getD, h1]; rfl, h2⟩
/-- the places of a kind -/
def plcB (f : Pl → Bool) (G : Game) : List Nat := (G.zipIdx.filter fun pi => f pi.1).map (·.2)
theorem mem_zipIdx {α : Type} {l : List α} {a : α} {i : Nat} : (a, i) ∈ l.zipIdx ↔ l[i]? = some a := by
  rw [List.mem_iff_getElem?]
  constructor
  · rintro ⟨j, h⟩
    rw [List.getElem?_zipIdx] at h
    obtain ⟨b, h1, h2⟩ := Option.map_eq_some_iff.mp h
    have : j = i ∧ b = a := by
      have := Prod.mk.inj h2
      exact ⟨by omega, this.1⟩
    rw [← this.1, ← this.2]; exact h1
  · intro h
    exact ⟨i, by rw [List.getElem?_zipIdx, h]; simp⟩
theorem mem_plcB {f : Pl → Bool} {G : Game} {i : Nat} : i ∈ plcB f G ↔ ∃ p, G[i]? = some p ∧ f p = true := by
  unfold plcB
  rw [List.mem_map]
  constructor
  · rintro ⟨⟨p, j⟩, h1, rfl⟩
    obtain ⟨h2, h3⟩ := List.mem_filter.mp h1
    exact ⟨p, mem_zipIdx.mp h2, h3⟩
  · rintro ⟨p, h1, h2⟩
    exact ⟨(p, i), List.mem_filter.mpr ⟨mem_zipIdx.mpr h1, h2⟩, rfl⟩
theorem plcB_len {f : Pl → Bool} {G : Game} : (plcB f G).length ≤ G.length := by
  unfold plcB
  rw [List.length_map]
  exact Nat.le_trans (List.length_filter_le _ _) (by rw [List.length_zipIdx]; exact Nat.le_refl _)
def firstS (sd : Side) (G : Game) : Strat := G.map fun p => if p.isSide sd = true then some 0 else none
end K51
set_option Elab.async false
set_option linter.all false
set_option maxRecDepth 100000
set_option maxHeartbeats 1000000
namespace K51
open PySem PySem.Spec PyProof.Rows L2
abbrev encN (n : Nat) : PyData := .int (n : Nat)
abbrev encB (b : Rat × Nat) : PyData := .tuple [encQ b.1, encN b.2]
def Pl.tag : Pl → _root_.Fin 6
  | .draw _ => 0 | .ours _ => 1 | .theirs _ => 2 | .reward _ _ => 3 | .finish => 4 | .lose => 5
def tagStr : _root_.Fin 6 → Str
  | 0 => "draw" | 1 => "ours" | 2 => "theirs" | 3 => "reward" | 4 => "finish" | 5 => "lose"
theorem tag_eq : ∀ a b : _root_.Fin 6, decide (tagStr a = tagStr b) = decide (a = b) := by decide +kernel
def Pl.kind (p : Pl) : Str := tagStr p.tag
def Pl.rest : Pl → List PyData
  | .draw bs => [.list (bs.map encB)]
  | .ours ts => [.list (ts.map encN)]
  | .theirs ts => [.list (ts.map encN)]
  | .reward am t => [encQ am, encN t]
  | .finish => []
  | .lose => []
def encPl (p : Pl) : PyData := .tuple (.str p.kind :: p.rest)
def encG (G : Game) : PyData := .list (G.map encPl)
def encO : Option Nat → PyData
  | none => .none
  | some b => encN b
def encS (s : Strat) : PyData := .list (s.map encO)
def encNs (ns : List Nat) : PyData := .list (ns.map encN)
def encQs (qs : List Rat) : PyData := .list (qs.map encQ)
def Side.str : Side → Str | .o => "ours" | .t => "theirs"
theorem kd_draw (p : Pl) : decide (p.kind = ("draw" : Str)) = p.isDraw := (tag_eq p.tag 0).trans (by cases p <;> rfl)
theorem kd_ours (p : Pl) : decide (p.kind = ("ours" : Str)) = p.isOurs := (tag_eq p.tag 1).trans (by cases p <;> rfl)
theorem kd_theirs (p : Pl) : decide (p.kind = ("theirs" : Str)) = p.isTheirs := (tag_eq p.tag 2).trans (by cases p <;> rfl)
theorem kd_reward (p : Pl) : decide (p.kind = ("reward" : Str)) = p.isReward := (tag_eq p.tag 3).trans (by cases p <;> rfl)
theorem kd_fin (p : Pl) : decide (p.kind = ("finish" : Str)) = p.isFin := (tag_eq p.tag 4).trans (by cases p <;> rfl)
theorem kd_lose (p : Pl) : decide (p.kind = ("lose" : Str)) = p.isLose := (tag_eq p.tag 5).trans (by cases p <;> rfl)
theorem kd_side (p : Pl) (sd : Side) : decide (p.kind = sd.str) = p.isSide sd := by
  cases sd
  · exact kd_ours p
  · exact kd_theirs p
section
variable {P : Program} {w : World} {K : PySem.W.Frag} {mg : Str → Option Value} {base : Heap} {X : Cx} {M : Mem} {r : List Sl} {a b : Expr} {pos p q : Pos} {pl : Pl} {G : Game} {j : Nat}
/-- x[0] of a place -/
theorem ev_k0 (h : Ev X M r a (encPl pl)) : Ev X M r (.Subscript a (.Constant (.int 0) j p) pos) (.str pl.kind) := ev_ixt (n := 0) h ev_int rfl rfl
/-- x[0] == "draw" .. -/
theorem evt_kd {z : Str} {B : Bool} {j2 : Nat} {p2 p3 : Pos} (h : Ev X M r a (encPl pl)) (hk : decide (pl.kind = z) = B) : EvT X M r (.Compare (.Subscript a (.Constant (.int 0) j p) pos) [.Eq] [.Constant (.str z) j2 p2] p3) B :=
  (evt_cmp op_eq c_eqS (ev_k0 h) ev_str).cast hk
theorem evt_kdn {z : Str} {B : Bool} {j2 : Nat} {p2 p3 : Pos} (h : Ev X M r a (encPl pl)) (hk : decide (pl.kind = z) = B) : EvT X M r (.Compare (.Subscript a (.Constant (.int 0) j p) pos) [.NotEq] [.Constant (.str z) j2 p2] p3) (!B) :=
  (evt_cmp op_ne c_neS (ev_k0 h) ev_str).cast (by rw [hk])
/-- game[place] -/
theorem ev_g {i : Nat} (h : Ev X M r a (encG G)) (hi : Ev X M r b (encN i)) (e : G[i]? = some pl) (hs : PlainIx b := by exact fun _ _ => rfl) : Ev X M r (.Subscript a b pos) (encPl pl) := ev_ixl h.toR hi rfl (by rw [List.getElem?_map, e]; rfl) hs
theorem few_le {n : Nat} {pl : Pl} (h : pl.Ok n) : pl.tgs.length ≤ 1000000 := Nat.le_trans h.few (by decide)
def F_targets (ds : List PyData) (d : PyData) : Prop := ∃ (G : Game) (i : Nat) (pl : Pl), ds = [encG G, encN i] ∧ GOk G ∧ G[i]? = some pl ∧ d = encNs pl.tgs
theorem fn_targets (Fn : Dfn K mg "targets" s_targets ["game", "place"]) (ml : mg "list" = none) : Fnc P w K mg base 1 "targets" (PureSp K F_targets) := by
  refine pure_def Fn sc_targets (fun ds d h => ?_) (fun f cdv A outer s H E M ds d hr h sg hsr D k => ?_)
  · obtain ⟨G, i, pl, rfl, _⟩ := h; rfl
  · obtain ⟨G, i, pl, rfl, hG, hi, rfl⟩ := h
    have hok : pl.Ok G.length := hG.ok pl (List.mem_of_getElem? hi)
    refine ss_cons (s_set 2 hsr (ev_g (ev_var 0 rfl) (ev_var 1 rfl) hi) (fun sg1 H1 _ h1 => ?_) sc_targets.nd)
    refine ss_cons (s_if h1 (evt_kd (ev_var 2 rfl) (kd_draw pl)) (fun H2 _ h2 z => ?_) fun H2 _ h2 z => ?_)
    · cases pl with
      | draw bs =>
        refine ss_one (s_ret h2 ((evf_lc' (xs := bs) (enc := encB) [("chance", 3), ("target", 4)] (fun b => encN b.2) (fun b => [.dat (encG G), .dat (encN i), .dat (encPl (.draw bs)), .dat (encQ b.1), .dat (encN b.2)])
          (evi_list (ev_ixt (n := 1) (ev_var 2 rfl) ev_int rfl rfl)) (blkOk_by (N := n_targets) (sc := defScope s_targets) (by decide +kernel)) sc_targets.nd rfl (by have := few_le hok; simpa [Pl.tgs] using this) (by simp)
          (fun D s H C cl fp x hx => bg_pair rfl (bg_name 3 sc_targets.nd) (bg_name 4 sc_targets.nd)) (fun D s H C cl fp x hx => ev_var 4 rfl)).toE.cast ?_) k)
        simp [encNs, Pl.tgs]
      | _ => cases z
    · refine ss_nil (ss_cons (s_if h2 (evw_or (evt_kd (ev_var 2 rfl) (kd_ours pl)) fun _ => evw_or1 (evt_kd (ev_var 2 rfl) (kd_theirs pl))).toT (fun H3 _ h3 z3 => ?_) fun H3 _ h3 z3 => ?_))
      · cases pl with
        | ours ts => exact ss_one (s_ret h3 (evf_list (ev_ixt (n := 1) (ev_var 2 rfl) ev_int rfl rfl).toR ml).toE k)
        | theirs ts => exact ss_one (s_ret h3 (evf_list (ev_ixt (n := 1) (ev_var 2 rfl) ev_int rfl rfl).toR ml).toE k)
        | _ => cases z3
      · refine ss_nil (ss_cons (s_if h3 (evt_kd (ev_var 2 rfl) (kd_reward pl)) (fun H4 _ h4 z4 => ?_) fun H4 _ h4 z4 => ?_))
        · cases pl with
          | reward am t => exact ss_one (s_ret h4 (evf_lst (eva_cons (ev_ixt (n := 2) (ev_var 2 rfl) ev_int rfl rfl) eva_nil) (by simp)).toE k)
          | _ => cases z4
        · refine ss_nil (ss_one (s_ret h4 (evf_lst eva_nil (by simp)).toE ?_))
          have : pl.tgs = [] := by
            cases pl with
            | draw _ => cases z
            | ours _ => cases z3
            | theirs _ => cases z3
            | reward _ _ => cases z4
            | finish => rfl
            | lose => rfl
          unfold encNs at k
          rw [this] at k
          exact k
theorem zi_map {α β : Type} (l : List α) (f : α → β) : (l.map f).zipIdx = l.zipIdx.map fun ai => (f ai.1, ai.2) := by
  apply List.ext_getElem?
  intro i
  rw [List.getElem?_zipIdx, List.getElem?_map, List.getElem?_map, List.getElem?_zipIdx]
  cases l[i]? <;> simp
abbrev encI {α : Type} (f : α → PyData) (ai : α × Nat) : PyData := .tuple [encN ai.2, f ai.1]
theorem zi_enc {α : Type} (l : List α) (f : α → PyData) : ((l.map f).zipIdx.map fun di => PyData.tuple [.int (di.2 : Nat), di.1]) = l.zipIdx.map (encI f) := by
  rw [zi_map, List.map_map]; rfl
def plc (G : Game) (z : Str) : List Nat := plcB (fun p => decide (p.kind = z)) G
theorem plc_side (G : Game) (sd : Side) : plc G sd.str = plcB (fun p => p.isSide sd) G := by
  unfold plc; congr 1; funext p; exact kd_side p sd
theorem plc_fin (G : Game) : plc G "finish" = plcB Pl.isFin G := by
  unfold plc; congr 1; funext p; exact kd_fin p
def F_places (ds : List PyData) (d : PyData) : Prop := ∃ (G : Game) (z : Str), ds = [encG G, .str z] ∧ GOk G ∧ d = encNs (plc G z)
theorem fn_places_of (Fn : Dfn K mg "places_of" s_places_of ["game", "kind"]) (me : mg "enumerate" = none) : Fnc P w K mg base 1 "places_of" (PureSp K F_places) := by
  refine pure_def Fn sc_places_of (fun ds d h => ?_) (fun f cdv A outer s H E M ds d hr h sg hsr D k => ?_)
  · obtain ⟨G, z, rfl, _⟩ := h; rfl
  · obtain ⟨G, z, rfl, hG, rfl⟩ := h
    refine ss_one (s_ret hsr ((evf_lc (xs := G.zipIdx) (enc := encI encPl) [("place", 2), ("here", 3)] (fun pi => decide (pi.1.kind = z)) (fun pi => encN pi.2) (fun pi => [.dat (encG G), .dat (.str z), .dat (encN pi.2), .dat (encPl pi.1)])
      ((evi_enum (ev_var 0 rfl) me).cast (zi_enc G encPl)) (blkOk_by (N := n_places_of) (sc := defScope s_places_of) (by decide +kernel)) sc_places_of.nd rfl (by rw [List.length_zipIdx]; have := hG.few; omega) (by simp)
      (fun D s H C cl fp x hx => bg_pair rfl (bg_name 2 sc_places_of.nd) (bg_name 3 sc_places_of.nd)) (fun D s H C cl fp x hx => evts_one (evt_cmp op_eq c_eqS (ev_k0 (ev_var 3 rfl)) (ev_var 1 rfl))) (fun D s H C cl fp x hx _ => ev_var 2 rfl)).toE.cast ?_) k)
    unfold encNs plc plcB
    rw [List.map_map]; rfl
def F_copy (ds : List PyData) (d : PyData) : Prop := ∃ (n : Nat) (p : Pl), ds = [encPl p] ∧ p.Ok n ∧ d = encPl p
theorem fn_copy_of (Fn : Dfn K mg "copy_of" s_copy_of ["place"]) (ml : mg "list" = none) : Fnc P w K mg base 1 "copy_of" (PureSp K F_copy) := by
  refine pure_def Fn sc_copy_of (fun ds d h => ?_) (fun f cdv A outer s H E M ds d hr h sg hsr D k => ?_)
  · obtain ⟨n, p, rfl, _⟩ := h; rfl
  · obtain ⟨n, pl, rfl, hok, rfl⟩ := h
    refine ss_cons (s_if hsr (evw_or (evt_kd (ev_var 0 rfl) (kd_draw pl)) fun _ => evw_or (evt_kd (ev_var 0 rfl) (kd_ours pl)) fun _ => evw_or1 (evt_kd (ev_var 0 rfl) (kd_theirs pl))).toT (fun H2 _ h2 z => ?_) fun H2 _ h2 z => ?_)
    · cases pl with
      | draw bs => exact ss_one (s_ret h2 (ev_tup (eva_cons (ev_k0 (ev_var 0 rfl)) (eva_cons (evf_list (ev_ixt (n := 1) (ev_var 0 rfl) ev_int rfl rfl).toR ml).toE eva_nil)) (by simp)) k)
      | ours ts => exact ss_one (s_ret h2 (ev_tup (eva_cons (ev_k0 (ev_var 0 rfl)) (eva_cons (evf_list (ev_ixt (n := 1) (ev_var 0 rfl) ev_int rfl rfl).toR ml).toE eva_nil)) (by simp)) k)
      | theirs ts => exact ss_one (s_ret h2 (ev_tup (eva_cons (ev_k0 (ev_var 0 rfl)) (eva_cons (evf_list (ev_ixt (n := 1) (ev_var 0 rfl) ev_int rfl rfl).toR ml).toE eva_nil)) (by simp)) k)
      | _ => cases z
    · exact ss_nil (ss_one (s_ret h2 (ev_var 0 rfl) k))
/-- s[i] of a strategy -/
theorem ev_s {s : Strat} {i : Nat} {o : Option Nat} (h : Ev X M r a (encS s)) (hi : Ev X M r b (encN i)) (e : s[i]? = some o) (hs : PlainIx b := by exact fun _ _ => rfl) : Ev X M r (.Subscript a b pos) (encO o) := ev_ixl h.toR hi rfl (by rw [List.getElem?_map, e]; rfl) hs
/-- x[1] of a place of a side -/
theorem ev_side1 {sd : Side} (h : Ev X M r a (encPl pl)) (hs : pl.isSide sd = true) : Ev X M r (.Subscript a (.Constant (.int 1) j p) pos) (encNs pl.tgs) := by
  cases sd <;> cases pl <;> first | exact ev_ixt (n := 1) h ev_int rfl rfl | (simp [Pl.isSide, Pl.isOurs, Pl.isTheirs] at hs; done)
theorem ev_ns {ns : List Nat} {i n : Nat} (h : Ev X M r a (encNs ns)) (hi : Ev X M r b (encN i)) (e : ns[i]? = some n) (hs : PlainIx b := by exact fun _ _ => rfl) : Ev X M r (.Subscript a b pos) (encN n) := ev_ixl h.toR hi rfl (by rw [List.getElem?_map, e]; rfl) hs
theorem ev_qs {ns : List Rat} {i : Nat} {n : Rat} (h : Ev X M r a (encQs ns)) (hi : Ev X M r b (encN i)) (e : ns[i]? = some n) (hs : PlainIx b := by exact fun _ _ => rfl) : Ev X M r (.Subscript a b pos) (encQ n) := ev_ixl h.toR hi rfl (by rw [List.getElem?_map, e]; rfl) hs
def F_with (ds : List PyData) (d : PyData) : Prop := ∃ (G : Game) (sd : Side) (s : Strat), ds = [encG G, .str sd.str, encS s] ∧ GOk G ∧ SOk sd G s ∧ d = encG (withS sd G s)
theorem fn_with_strategy (Fn : Dfn K mg "with_strategy" s_with_strategy ["game", "side", "strategy"]) (fC : Fnc P w K mg base 1 "copy_of" (PureSp K F_copy)) (me : mg "enumerate" = none) {aO : Addr} (mO : mg "ONE" = some (.ref aO)) (dO : ∀ H : Hp, Dp K H (.ref aO) (encQ 1)) : Fnc P w K mg base 2 "with_strategy" (PureSp K F_with) := by
  refine pure_def Fn sc_with_strategy (fun ds d h => ?_) (fun f cdv A outer s H E M ds d hr h sg hsr D k => ?_)
  · obtain ⟨G, z, s, rfl, _⟩ := h; rfl
  · obtain ⟨G, sd, st, rfl, hG, hS, rfl⟩ := h
    refine ss_cons (s_setF 3 hsr (evf_lst eva_nil (by simp)) (fun o sg1 H1 s1 h1 => ?_) sc_with_strategy.nd)
    refine ss_cons (s_for (xs := G.zipIdx) (enc := encI encPl) h1 ((evi_enum (ev_var 0 rfl) me).cast (zi_enc G encPl))
      (fun i => [.dat (encG G), .dat (.str sd.str), .dat (encS st), .mt o (((withS sd G st).take i).map encPl), .unk, .unk])
      (fun i pi => [.dat (encG G), .dat (.str sd.str), .dat (encS st), .mt o (((withS sd G st).take i).map encPl), .dat (encN pi.2), .dat (encPl pi.1)])
      (fun B' sg' H' h => h) (fun i x hx => bg_pair rfl (bg_name 4 sc_with_strategy.nd) (bg_name 5 sc_with_strategy.nd)) ?_ ?_ PassesOwn.never rfl)
    · intro B' hB hout i x hx D' sg' H' _ _ hnx _ h2
      obtain ⟨pl, i'⟩ := x
      have hi : G[i]? = some pl ∧ i' = i := by
        rw [List.getElem?_zipIdx] at hx
        obtain ⟨b, e1, e2⟩ := Option.map_eq_some_iff.mp hx
        have := Prod.mk.inj e2
        exact ⟨by rw [e1, this.1], by omega⟩
      obtain ⟨hi, rfl⟩ := hi
      have hok : pl.Ok G.length := hG.ok pl (List.mem_of_getElem? hi)
      have hlen : (((withS sd G st).take i').map encPl).length ≤ 1000000 := by
        rw [List.length_map, List.length_take, withS_length]; have := hG.few; omega
      have hw := withS_get (sd := sd) (s := st) hi
      have htake : ((withS sd G st).take (i' + 1)).map encPl = ((withS sd G st).take i').map encPl ++ [encPl (put sd pl (st.getD i' none))] := by
        rw [List.take_add_one, hw, List.map_append]; rfl
      have hst := hS.ok i' pl hi
      refine ss_one (s_if h2 (evt_cmp op_eq c_eqS (ev_k0 (ev_var 5 rfl)) (ev_var 1 rfl)) (fun H3 _ h3 z => ?_) fun H3 _ h3 z => ?_)
      · have z' : pl.isSide sd = true := (kd_side pl sd).symm.trans z
        rw [if_pos z'] at hst
        obtain ⟨b, hb, hbl⟩ := hst
        refine ss_one (s_app 3 h3 rfl (ev_tup (eva_cons ev_str (eva_cons (evf_lst (eva_cons (ev_tup (eva_cons (ev_glob mO dO) (eva_cons (ev_ns (ev_side1 (ev_var 5 rfl) z') (ev_s (ev_var 2 rfl) (ev_var 4 rfl) hb) (List.getElem?_eq_getElem hbl)) eva_nil)) (by simp)) eva_nil) (by simp)).toE eva_nil)) (by simp)) hlen (fun H4 h4 => ?_))
        refine hnx _ _ ?_
        have e : put sd pl (st.getD i' none) = .draw [(1, pl.tgs[b])] := by
          unfold put
          rw [if_pos z', show st.getD i' none = some b by rw [List.getD_eq_getElem?_getD, hb]; rfl]
          show Pl.draw [(1, pl.tgs.getD b 0)] = _
          rw [List.getD_eq_getElem?_getD, List.getElem?_eq_getElem hbl]; rfl
        rw [htake, e]
        exact h4.wk (by repeat (first | apply Wk.nil | apply Wk.same | apply Wk.drop))
      · have z' : ¬ pl.isSide sd = true := by
          have := (kd_side pl sd).symm.trans z
          rw [this]; simp
        refine ss_one (s_app 3 h3 rfl (ev_call fC hr (eva_cons (ev_var 5 rfl) eva_nil) ⟨_, pl, rfl, hok, rfl⟩) hlen (fun H4 h4 => ?_))
        refine hnx _ _ ?_
        have e : put sd pl (st.getD i' none) = pl := by unfold put; rw [if_neg z']
        rw [htake, e]
        exact h4.wk (by repeat (first | apply Wk.nil | apply Wk.same | apply Wk.drop))
    · intro sg' H' h2
      have hfull : (withS sd G st).take G.zipIdx.length = withS sd G st := List.take_of_length_le (by rw [withS_length, List.length_zipIdx]; exact Nat.le_refl _)
      rw [hfull] at h2
      exact ss_one (s_ret (h2.fix (i := 3) rfl) (ev_var 3 rfl) k)
end
end K51
set_option Elab.async false
set_option linter.all false
/-! the improved strategy: plain Lean -/
namespace K51
/-- the best branch: a later one only where it is better -/
def bstep (gs : List Rat) (best : Nat) (xi : Rat × Nat) : Nat := if gs.getD best 0 < xi.1 then xi.2 else best
def bestOf (gs : List Rat) (b0 : Nat) : Nat := gs.zipIdx.foldl (bstep gs) b0
theorem bstep_lt {gs : List Rat} {b : Nat} (hb : b < gs.length) {xi : Rat × Nat} (h : xi ∈ gs.zipIdx) : bstep gs b xi < gs.length := by
  unfold bstep
  split
  · have := mem_zipIdx.mp (show (xi.1, xi.2) ∈ gs.zipIdx from h)
    exact (List.getElem?_eq_some_iff.mp this).1
  · exact hb
theorem bfold_lt {gs : List Rat} : ∀ {l : List (Rat × Nat)} {b : Nat}, b < gs.length → (∀ x ∈ l, x ∈ gs.zipIdx) → l.foldl (bstep gs) b < gs.length
  | [], b, hb, _ => hb
  | x :: l, b, hb, h => bfold_lt (l := l) (bstep_lt hb (h x List.mem_cons_self)) fun y hy => h y (List.mem_cons_of_mem _ hy)
theorem bstep_ge {gs : List Rat} {b : Nat} {xi : Rat × Nat} (h : xi ∈ gs.zipIdx) : gs.getD b 0 ≤ gs.getD (bstep gs b xi) 0 ∧ xi.1 ≤ gs.getD (bstep gs b xi) 0 := by
  have hx : gs.getD xi.2 0 = xi.1 := by
    have := mem_zipIdx.mp (show (xi.1, xi.2) ∈ gs.zipIdx from h)
    rw [List.getD_eq_getElem?_getD, this]; rfl
  unfold bstep
  split
  · rename_i hlt
    rw [hx]; exact ⟨Rat.le_of_lt hlt, Rat.le_refl⟩
  · rename_i hlt
    exact ⟨Rat.le_refl, Rat.not_lt.mp hlt⟩
theorem bfold_ge {gs : List Rat} : ∀ {l : List (Rat × Nat)} {b : Nat}, (∀ x ∈ l, x ∈ gs.zipIdx) → gs.getD b 0 ≤ gs.getD (l.foldl (bstep gs) b) 0 ∧ ∀ x ∈ l, x.1 ≤ gs.getD (l.foldl (bstep gs) b) 0
  | [], b, _ => ⟨Rat.le_refl, fun x hx => by cases hx⟩
  | y :: l, b, h => by
    obtain ⟨h1, h2⟩ := bstep_ge (b := b) (h y List.mem_cons_self)
    obtain ⟨h3, h4⟩ := bfold_ge (l := l) (b := bstep gs b y) fun z hz => h z (List.mem_cons_of_mem _ hz)
    refine ⟨Rat.le_trans h1 h3, fun x hx => ?_⟩
    rcases List.mem_cons.mp hx with rfl | hx
    · exact Rat.le_trans h2 h3
    · exact h4 x hx
theorem bfold_eq {gs : List Rat} : ∀ {l : List (Rat × Nat)} {b : Nat}, (∀ x ∈ l, x ∈ gs.zipIdx) → l.foldl (bstep gs) b = b ∨ gs.getD b 0 < gs.getD (l.foldl (bstep gs) b) 0
  | [], b, _ => .inl rfl
  | y :: l, b, h => by
    have hy := h y List.mem_cons_self
    have hx : gs.getD y.2 0 = y.1 := by
      have := mem_zipIdx.mp (show (y.1, y.2) ∈ gs.zipIdx from hy)
      rw [List.getD_eq_getElem?_getD, this]; rfl
    have ih := bfold_eq (l := l) (b := bstep gs b y) fun z hz => h z (List.mem_cons_of_mem _ hz)
    have ge := (bfold_ge (l := l) (b := bstep gs b y) fun z hz => h z (List.mem_cons_of_mem _ hz)).1
    show l.foldl (bstep gs) (bstep gs b y) = b ∨ gs.getD b 0 < gs.getD (l.foldl (bstep gs) (bstep gs b y)) 0
    by_cases hlt : gs.getD b 0 < y.1
    · have e : bstep gs b y = y.2 := by unfold bstep; rw [if_pos hlt]
      right
      rw [e] at ge ⊢
      rw [hx] at ge
      exact rlt_le hlt ge
    · have e : bstep gs b y = b := by unfold bstep; rw [if_neg hlt]
      rw [e] at ih ⊢
      exact ih
theorem bestOf_lt {gs : List Rat} {b : Nat} (hb : b < gs.length) : bestOf gs b < gs.length := bfold_lt hb fun _ h => h
theorem bestOf_ge {gs : List Rat} {b i : Nat} (hi : i < gs.length) : gs.getD i 0 ≤ gs.getD (bestOf gs b) 0 := by
  have h := (bfold_ge (gs := gs) (l := gs.zipIdx) (b := b) fun _ h => h).2 (gs[i], i) (mem_zipIdx.mpr (List.getElem?_eq_getElem hi))
  rw [List.getD_eq_getElem?_getD, List.getElem?_eq_getElem hi]
  exact h
theorem bestOf_eq {gs : List Rat} {b : Nat} : bestOf gs b = b ∨ gs.getD b 0 < gs.getD (bestOf gs b) 0 := bfold_eq fun _ h => h
/-- the numbers at the targets -/
def goalsOf (v : List Rat) (p : Pl) : List Rat := p.tgs.map fun t => v.getD t 0
/-- one place improved -/
def istep (G : Game) (v : List Rat) (s : Strat) (i : Nat) : Strat := s.set i (some (bestOf (goalsOf v (G.getD i .lose)) ((s.getD i none).getD 0)))
def impr (G : Game) (v : List Rat) (s : Strat) : Strat := (plcB Pl.isOurs G).foldl (istep G v) s
theorem istep_ok {G : Game} {v : List Rat} {s : Strat} {i : Nat} {p : Pl} (hs : SOk .o G s) (hi : G[i]? = some p) (hp : p.isOurs = true) : SOk .o G (istep G v s i) := by
  refine ⟨by unfold istep; rw [List.length_set]; exact hs.len, fun j q hj => ?_⟩
  have h := hs.ok j q hj
  unfold istep
  by_cases e : i = j
  · subst e
    rw [hi] at hj; cases hj
    have hi' : i < s.length := by rw [hs.len]; exact (List.getElem?_eq_some_iff.mp hi).1
    have hp' : p.isSide .o = true := hp
    rw [if_pos hp'] at h ⊢
    obtain ⟨b, hb, hl⟩ := h
    refine ⟨_, List.getElem?_set_self hi', ?_⟩
    have e1 : G.getD i .lose = p := by rw [List.getD_eq_getElem?_getD, hi]; rfl
    have e2 : (s.getD i none).getD 0 = b := by rw [List.getD_eq_getElem?_getD, hb]; rfl
    rw [e1, e2]
    have := bestOf_lt (gs := goalsOf v p) (b := b) (by unfold goalsOf; rw [List.length_map]; exact hl)
    unfold goalsOf at this ⊢
    rwa [List.length_map] at this
  · rw [List.getElem?_set_ne e]
    exact h
theorem ifold_ok {G : Game} {v : List Rat} : ∀ {l : List Nat} {s : Strat}, SOk .o G s → (∀ i ∈ l, i ∈ plcB Pl.isOurs G) → SOk .o G (l.foldl (istep G v) s)
  | [], s, hs, _ => hs
  | i :: l, s, hs, h => by
    obtain ⟨p, h1, h2⟩ := mem_plcB.mp (h i List.mem_cons_self)
    exact ifold_ok (l := l) (istep_ok hs h1 h2) fun j hj => h j (List.mem_cons_of_mem _ hj)
theorem impr_ok {G : Game} {v : List Rat} {s : Strat} (hs : SOk .o G s) : SOk .o G (impr G v s) := ifold_ok hs fun _ h => h
end K51
set_option Elab.async false
set_option linter.all false
set_option maxRecDepth 100000
set_option maxHeartbeats 1000000
namespace K51
open PySem PySem.Spec PyProof.Rows L2
section
variable {P : Program} {w : World} {K : PySem.W.Frag} {mg : Str → Option Value} {base : Heap} {X : Cx} {M : Mem} {r : List Sl} {a b : Expr} {pos p q : Pos} {pl : Pl} {G : Game} {j : Nat}
def F_branches (ds : List PyData) (d : PyData) : Prop := ∃ (G : Game) (i : Nat) (pl : Pl), ds = [encG G, encN i] ∧ GOk G ∧ G[i]? = some pl ∧ d = .list (pl.brs.map encB)
theorem fn_branches (Fn : Dfn K mg "branches" s_branches ["chain", "place"]) (ml : mg "list" = none) {aO : Addr} (mO : mg "ONE" = some (.ref aO)) (dO : ∀ H : Hp, Dp K H (.ref aO) (encQ 1)) : Fnc P w K mg base 1 "branches" (PureSp K F_branches) := by
  refine pure_def Fn sc_branches (fun ds d h => ?_) (fun f cdv A outer s H E M ds d hr h sg hsr D k => ?_)
  · obtain ⟨G, i, pl, rfl, _⟩ := h; rfl
  · obtain ⟨G, i, pl, rfl, hG, hi, rfl⟩ := h
    have hok : pl.Ok G.length := hG.ok pl (List.mem_of_getElem? hi)
    refine ss_cons (s_if hsr (evt_kd (ev_g (ev_var 0 rfl) (ev_var 1 rfl) hi) (kd_draw pl)) (fun H2 _ h2 z => ?_) fun H2 _ h2 z => ?_)
    · cases pl with
      | draw bs => exact ss_one (s_ret h2 (evf_list (ev_ixt (n := 1) (ev_g (ev_var 0 rfl) (ev_var 1 rfl) hi) ev_int rfl rfl).toR ml).toE k)
      | _ => cases z
    · refine ss_nil (ss_cons (s_if h2 (evt_kd (ev_g (ev_var 0 rfl) (ev_var 1 rfl) hi) (kd_reward pl)) (fun H4 _ h4 z4 => ?_) fun H4 _ h4 z4 => ?_))
      · cases pl with
        | reward am t => exact ss_one (s_ret h4 (evf_lst (eva_cons (ev_tup (eva_cons (ev_glob mO dO) (eva_cons (ev_ixt (n := 2) (ev_g (ev_var 0 rfl) (ev_var 1 rfl) hi) ev_int rfl rfl) eva_nil)) (by simp)) eva_nil) (by simp)).toE k)
        | _ => cases z4
      · refine ss_nil (ss_one (s_ret h4 (evf_lst eva_nil (by simp)).toE ?_))
        have : pl.brs = [] := by
          cases pl with
          | draw _ => cases z
          | ours _ => rfl
          | theirs _ => rfl
          | reward _ _ => cases z4
          | finish => rfl
          | lose => rfl
        rw [this] at k
        exact k
def F_first (ds es : List PyData) : Prop := ∃ (G : Game) (sd : Side), ds = [encG G, .str sd.str] ∧ GOk G ∧ es = (firstS sd G).map encO
theorem fn_first_choices (Fn : Dfn K mg "first_choices" s_first_choices ["game", "side"]) : Fnc P w K mg base 1 "first_choices" (PureSpF K F_first) := by
  refine pure_defF Fn sc_first_choices (fun ds d h => ?_) (fun f cdv A outer s H E M ds d hr h sg hsr D k => ?_)
  · obtain ⟨G, sd, rfl, _⟩ := h; rfl
  · obtain ⟨G, sd, rfl, hG, rfl⟩ := h
    refine ss_one (s_retF hsr ((evf_lc' (xs := G) (enc := encPl) [("place", 2)] (fun p => encO (if p.isSide sd = true then some 0 else none)) (fun pl => [.dat (encG G), .dat (.str sd.str), .dat (encPl pl)])
      (evi_list (ev_var 0 rfl)) (blkOk_by (N := n_first_choices) (sc := defScope s_first_choices) (by decide +kernel)) sc_first_choices.nd rfl (by have := hG.few; omega) (by simp)
      (fun D s H C cl fp x hx => bg_name 2 sc_first_choices.nd) (fun D s H C cl fp x hx => ?_)).cast ?_) k)
    · refine ev_if (z := x.isSide sd) ((evt_cmp op_eq c_eqS (ev_k0 (ev_var 2 rfl)) (ev_var 1 rfl)).cast (kd_side x sd)) (fun z => ?_) fun z => ?_
      · rw [if_pos z]; exact ev_int
      · rw [if_neg (by rw [z]; simp)]; exact ev_non
    · unfold firstS; rw [List.map_map]; rfl
def F_better (ds es : List PyData) : Prop := ∃ (G : Game) (st : Strat) (v : List Rat), ds = [encG G, .str "ours", encS st, encQs v] ∧ GOk G ∧ SOk .o G st ∧ v.length = G.length ∧ (∀ q ∈ v, Sm q) ∧ es = (impr G v st).map encO
theorem take_fold {α β : Type} {f : β → α → β} {l : List α} {i : Nat} {x : α} {b : β} (h : l[i]? = some x) : (l.take (i + 1)).foldl f b = f ((l.take i).foldl f b) x := by
  rw [List.take_add_one, h, List.foldl_append]; rfl
theorem fn_better (Fn : Dfn K mg "better" s_better ["game", "side", "strategy", "numbers"]) (fT : Fnc P w K mg base 1 "targets" (PureSp K F_targets)) (fP : Fnc P w K mg base 1 "places_of" (PureSp K F_places)) (fC : Fnc P w K mg base 1 "compare" (PureSp K F_compare))
    (ml : mg "list" = none) (me : mg "enumerate" = none) : Fnc P w K mg base 2 "better" (PureSpF K F_better) := by
  refine pure_defF Fn sc_better (fun ds d h => ?_) (fun f cdv A outer s H E M ds d hr h sg hsr D k => ?_)
  · obtain ⟨G, sd, v, rfl, _⟩ := h; rfl
  · obtain ⟨G, st, v, rfl, hG, hS, hv, hsm, rfl⟩ := h
    refine ss_cons (s_setF 4 hsr (evf_list (ev_var 2 rfl).toR ml) (fun o sg1 H1 s1 h1 => ?_) sc_better.nd)
    refine ss_cons (s_set 5 h1 (ev_if (d := .int 1) (evt_cmp op_eq c_eqS (ev_var 1 rfl) ev_str) (fun _ => ev_int) (fun z => absurd (show decide ((Side.o.str) = Side.o.str) = false from z) (by simp))) (fun sg2 H2 s2 h2 => ?_) sc_better.nd)
    have hpl : plc G "ours" = plcB Pl.isOurs G := plc_side G .o
    have hgv : ∀ i, (G.getD i .lose) ∈ G ∨ G.getD i .lose = .lose := fun i => by
      rw [List.getD_eq_getElem?_getD]
      cases e : G[i]? with
      | none => exact .inr rfl
      | some p => exact .inl (List.mem_of_getElem? e)
    refine ss_cons (s_for (xs := plcB Pl.isOurs G) (enc := encN) h2 (evi_list ((ev_call fP hr (eva_cons (ev_var 0 rfl) (eva_cons (ev_var 1 rfl) eva_nil)) ⟨G, _, rfl, hG, rfl⟩).cast (by rw [hpl]; rfl)))
      (fun i => [.dat (encG G), .dat (.str "ours"), .dat (encS st), .dat (encQs v), .mt o ((((plcB Pl.isOurs G).take i).foldl (istep G v) st).map encO), .dat (.int 1), .unk, .unk, .unk, .unk, .unk, .unk, .unk])
      (fun i x => [.dat (encG G), .dat (.str "ours"), .dat (encS st), .dat (encQs v), .mt o ((((plcB Pl.isOurs G).take i).foldl (istep G v) st).map encO), .dat (.int 1), .dat (encN x), .unk, .unk, .unk, .unk, .unk, .unk])
      (fun B' sg' H' h => h) (fun i x hx => bg_name 6 sc_better.nd) ?_ ?_ PassesOwn.never rfl)
    · intro B' hB hout i x hx D' sg' H' _ _ hnx _ h3
      have hxm : x ∈ plcB Pl.isOurs G := List.mem_of_getElem? hx
      obtain ⟨pl, hpx, hpo⟩ := mem_plcB.mp hxm
      have hok : pl.Ok G.length := hG.ok pl (List.mem_of_getElem? hpx)
      have hSi : SOk .o G (((plcB Pl.isOurs G).take i).foldl (istep G v) st) := ifold_ok hS fun j hj => List.mem_of_mem_take hj
      rw [take_fold hx] at hnx
      generalize hse : ((plcB Pl.isOurs G).take i).foldl (istep G v) st = si at h3 hSi hnx
      have h4 := hSi.ok x pl hpx
      rw [if_pos (show pl.isSide .o = true from hpo)] at h4
      obtain ⟨b0, hb0, hb0l⟩ := h4
      have hgl : (goalsOf v pl).length = pl.tgs.length := by unfold goalsOf; rw [List.length_map]
      have hgm : ∀ q ∈ goalsOf v pl, Sm q := fun q hq => by
        unfold goalsOf at hq
        obtain ⟨t, ht, rfl⟩ := List.mem_map.mp hq
        have hl : t < v.length := by rw [hv]; exact hok.tg t ht
        rw [List.getD_eq_getElem?_getD, List.getElem?_eq_getElem hl]
        exact hsm _ (List.getElem_mem hl)
      -- goals
      refine ss_cons (s_lcD (xs := pl.tgs) (enc := encN) 7 h3 [("goal", 8)] (fun _ => true) (fun t => encQ (v.getD t 0)) (fun t => [.dat (encG G), .dat (.str "ours"), .dat (encS st), .dat (encQs v), .mt o (si.map encO), .dat (.int 1), .dat (encN x), .unk, .dat (encN t), .unk, .unk, .unk, .unk])
        (evi_list (ev_call fT hr (eva_cons (ev_var 0 rfl) (eva_cons (ev_var 6 rfl) eva_nil)) ⟨G, x, pl, rfl, hG, hpx, rfl⟩)) (blkOk_by (N := n_better) (sc := defScope s_better) (by decide +kernel)) sc_better.nd rfl (few_le hok) (by simp)
        (fun D s H C cl fp t ht => bg_name 8 sc_better.nd) (fun D s H C cl fp t ht => evts_nil) (fun D s H C cl fp t ht _ => ev_qs (ev_var 3 rfl) (ev_var 8 rfl) (by
          have hl : t < v.length := by rw [hv]; exact hok.tg t ht
          rw [List.getD_eq_getElem?_getD, List.getElem?_eq_getElem hl]; rfl)) (fun sg4 H4 s4 h4 => ?_) (sw_true rfl rfl rfl (by decide +kernel)))
      rw [filter_yes, show (pl.tgs.map fun t => encQ (v.getD t 0)) = (goalsOf v pl).map encQ by unfold goalsOf; rw [List.map_map]; rfl] at h4
      -- best
      refine ss_cons (s_set 9 h4 (ev_ixl (n := x) (evL_var 4 rfl).toR (ev_var 6 rfl) rfl (by rw [List.getElem?_map, hb0]; rfl)) (fun sg5 H5 s5 h5 => ?_) sc_better.nd)
      refine ss_cons (s_for (xs := (goalsOf v pl).zipIdx) (enc := encI encQ) h5 ((evi_enum (ev_var 7 rfl) me).cast (zi_enc _ encQ))
        (fun i => [.dat (encG G), .dat (.str "ours"), .dat (encS st), .dat (encQs v), .mt o (si.map encO), .dat (.int 1), .dat (encN x), .dat (encQs (goalsOf v pl)), .unk, .dat (encN (((goalsOf v pl).zipIdx.take i).foldl (bstep (goalsOf v pl)) b0)), .unk, .unk, .unk])
        (fun i y => [.dat (encG G), .dat (.str "ours"), .dat (encS st), .dat (encQs v), .mt o (si.map encO), .dat (.int 1), .dat (encN x), .dat (encQs (goalsOf v pl)), .unk, .dat (encN (((goalsOf v pl).zipIdx.take i).foldl (bstep (goalsOf v pl)) b0)), .dat (encN y.2), .dat (encQ y.1), .unk])
        (fun B' sg' H' h => h) (fun i x hx => bg_pair rfl (bg_name 10 sc_better.nd) (bg_name 11 sc_better.nd)) ?_ ?_ PassesOwn.never rfl)
      · intro B2 hB2 hout2 m y hy D2 sg6 H6 _ _ hnx2 _ h6
        have hym : y ∈ (goalsOf v pl).zipIdx := List.mem_of_getElem? hy
        have hbl : ((goalsOf v pl).zipIdx.take m).foldl (bstep (goalsOf v pl)) b0 < (goalsOf v pl).length := bfold_lt (by rw [hgl]; exact hb0l) fun z hz => List.mem_of_mem_take hz
        rw [take_fold hy] at hnx2
        generalize hbe : ((goalsOf v pl).zipIdx.take m).foldl (bstep (goalsOf v pl)) b0 = bm at h6 hbl hnx2
        have hgb : (goalsOf v pl)[bm]? = some ((goalsOf v pl).getD bm 0) := by
          rw [List.getD_eq_getElem?_getD, List.getElem?_eq_getElem hbl]; rfl
        have hy1 : Sm y.1 := by
          have := mem_zipIdx.mp (show (y.1, y.2) ∈ (goalsOf v pl).zipIdx from hym)
          exact hgm _ (List.mem_of_getElem? this)
        have hb1 : Sm ((goalsOf v pl).getD bm 0) := hgm _ (List.mem_of_getElem? hgb)
        have hcm : CMul (if y.1 < (goalsOf v pl).getD bm 0 then (-1 : Int) else if (goalsOf v pl).getD bm 0 < y.1 then 1 else 0) 1 := .inr (by decide)
        refine ss_cons (s_set 12 h6 (ev_mulS hcm (ev_call fC hr (eva_cons (ev_var 11 rfl) (eva_cons (ev_qs (ev_var 7 rfl) (ev_var 9 rfl) hgb) eva_nil)) ⟨_, _, rfl, hy1, hb1, rfl⟩) (ev_var 5 rfl)) (fun sg7 H7 s7 h7 => ?_) sc_better.nd)
        refine ss_one (s_if h7 (evt_cmp op_gt c_gt (ev_var 12 rfl) ev_int) (fun H8 _ h8 z => ?_) fun H8 _ h8 z => ?_)
        · have z := of_decide_eq_true z
          have hlt : (goalsOf v pl).getD bm 0 < y.1 := by
            by_cases c1 : y.1 < (goalsOf v pl).getD bm 0
            · rw [if_pos c1] at z; omega
            · rw [if_neg c1] at z
              by_cases c2 : (goalsOf v pl).getD bm 0 < y.1
              · exact c2
              · rw [if_neg c2] at z; omega
          refine ss_one (s_set 9 h8 (ev_var 10 rfl) (fun sg9 H9 s9 h9 => ?_) sc_better.nd)
          refine hnx2 _ _ ?_
          have e : bstep (goalsOf v pl) bm y = y.2 := by unfold bstep; rw [if_pos hlt]
          rw [e]
          exact h9.wk (by repeat (first | apply Wk.nil | apply Wk.same | apply Wk.drop))
        · have z := of_decide_eq_false z
          have hlt : ¬ (goalsOf v pl).getD bm 0 < y.1 := fun c2 => by
            have c1 : ¬ y.1 < (goalsOf v pl).getD bm 0 := fun c => absurd (rle_lt (Rat.le_of_lt c) c2) Rat.lt_irrefl
            rw [if_neg c1, if_pos c2] at z
            omega
          refine ss_nil (hnx2 _ _ ?_)
          have e : bstep (goalsOf v pl) bm y = bm := by unfold bstep; rw [if_neg hlt]
          rw [e]
          exact h8.wk (by repeat (first | apply Wk.nil | apply Wk.same | apply Wk.drop))
      · intro sg6 H6 h6
        rw [List.take_length] at h6
        have hil : x < (si.map encO).length := by rw [List.length_map, hSi.len]; exact (List.getElem?_eq_some_iff.mp hpx).1
        refine ss_one (s_put 4 h6 rfl (ev_var 9 rfl) (ev_var 6 rfl) rfl hil (fun H7 h7 => ?_))
        refine hnx _ _ ?_
        have e1 : G.getD x .lose = pl := by rw [List.getD_eq_getElem?_getD, hpx]; rfl
        have e2 : (si.getD x none).getD 0 = b0 := by rw [List.getD_eq_getElem?_getD, hb0]; rfl
        have e : (istep G v si x).map encO = (si.map encO).set x (encN ((goalsOf v pl).zipIdx.foldl (bstep (goalsOf v pl)) b0)) := by
          unfold istep
          rw [e1, e2, List.map_set]; rfl
        rw [e]
        exact h7.wk (by repeat (first | apply Wk.nil | apply Wk.same | apply Wk.drop))
    · intro sg' H' h3
      rw [List.take_length] at h3
      exact ss_one (s_retM 4 h3 rfl (k o))
def F_improved (ds es : List PyData) : Prop := ∃ (G : Game) (st : Strat) (v : List Rat), ds = [encG G, encS st, encQs v] ∧ GOk G ∧ SOk .o G st ∧ v.length = G.length ∧ (∀ q ∈ v, Sm q) ∧ es = (impr G v st).map encO
theorem fn_improved (Fn : Dfn K mg "improved" s_improved ["game", "ours", "numbers"]) (fB : Fnc P w K mg base 2 "better" (PureSpF K F_better)) : Fnc P w K mg base 3 "improved" (PureSpF K F_improved) := by
  refine pure_defF Fn sc_improved (fun ds d h => ?_) (fun f cdv A outer s H E M ds d hr h sg hsr D k => ?_)
  · obtain ⟨G, sd, v, rfl, _⟩ := h; rfl
  · obtain ⟨G, st, v, rfl, hG, hS, hv, hsm, rfl⟩ := h
    exact ss_one (s_retF hsr (evf_call fB hr (eva_cons (ev_var 0 rfl) (eva_cons ev_str (eva_cons (ev_var 1 rfl) (eva_cons (ev_var 2 rfl) eva_nil)))) ⟨G, st, v, rfl, hG, hS, hv, hsm, rfl⟩) k)
end
end K51
set_option Elab.async false
set_option linter.all false
/-! the elimination: plain Lean -/
namespace K51
abbrev Row := Nat → Rat
/-- the multiple of a row -/
def scl (q : Rat) (l : Row) : Row := fun j => q * l j
/-- a row less as much of another one -/
def elim (l : Row) (p : Nat) (o : Row) : Row := if l p = 0 then l else fun j => l j - l p * o j
/-- a row of the system with its multipliers -/
def init (n : Nat) (A : Row) (i : Nat) : Row := fun j => if j ≤ n then A j else if j = n + 1 + i then 1 else 0
abbrev MSt := List Row × List (Nat × Row)
def mstart (n : Nat) (As : List Row) : MSt := (As.zipIdx.map fun Ai => init n Ai.1 Ai.2, [])
def having (W : List Row) (p : Nat) : List Nat := (W.zipIdx.filter fun li => !decide (li.1 p = 0)).map (·.2)
def pivot (W : List Row) (p h : Nat) : Row := scl (1 / (W.getD h (fun _ => 0)) p) (W.getD h (fun _ => 0))
def mstep (s : MSt) (p : Nat) : MSt :=
  match having s.1 p with
  | [] => s
  | h :: _ => ((s.1.take h ++ s.1.drop (h + 1)).map (fun o => elim o p (pivot s.1 p h)), s.2.map (fun ao => (ao.1, elim ao.2 p (pivot s.1 p h))) ++ [(p, pivot s.1 p h)])
def mrun (n : Nat) (As : List Row) (k : Nat) : MSt := (List.range k).foldl mstep (mstart n As)
/-- all numbers of the rows are small -/
def RowSz (k w : Nat) (l : Row) : Prop := ∀ j, j < w → Sz k (l j)
def MSz (k w : Nat) (s : MSt) : Prop := (∀ l ∈ s.1, RowSz k w l) ∧ ∀ al ∈ s.2, RowSz k w al.2
def solv (n : Nat) (S : List (Nat × Row)) : List Rat := S.foldl (fun v al => v.set al.1 (al.2 n)) (List.replicate n 0)
theorem having_mem {W : List Row} {p h : Nat} : h ∈ having W p ↔ ∃ l, W[h]? = some l ∧ l p ≠ 0 := by
  unfold having
  rw [List.mem_map]
  constructor
  · rintro ⟨⟨l, j⟩, h1, rfl⟩
    obtain ⟨h2, h3⟩ := List.mem_filter.mp h1
    exact ⟨l, mem_zipIdx.mp h2, by simpa using h3⟩
  · rintro ⟨l, h1, h2⟩
    exact ⟨(l, h), List.mem_filter.mpr ⟨mem_zipIdx.mpr h1, by simpa using h2⟩, rfl⟩
theorem mstep_nil {s : MSt} {p : Nat} (h : having s.1 p = []) : mstep s p = s := by unfold mstep; rw [h]
theorem mstep_cons {s : MSt} {p h : Nat} {t : List Nat} (e : having s.1 p = h :: t) :
    mstep s p = ((s.1.take h ++ s.1.drop (h + 1)).map (fun o => elim o p (pivot s.1 p h)), s.2.map (fun ao => (ao.1, elim ao.2 p (pivot s.1 p h))) ++ [(p, pivot s.1 p h)]) := by
  unfold mstep; rw [e]
theorem mrun_succ {n : Nat} {As : List Row} {k : Nat} : mrun n As (k + 1) = mstep (mrun n As k) k := by
  unfold mrun
  rw [List.range_succ, List.foldl_append]; rfl
theorem mstep_len {s : MSt} {p : Nat} : (mstep s p).1.length ≤ s.1.length ∧ (mstep s p).2.length ≤ s.2.length + 1 := by
  cases e : having s.1 p with
  | nil => rw [mstep_nil e]; exact ⟨Nat.le_refl _, Nat.le_succ _⟩
  | cons h t =>
    rw [mstep_cons e]
    constructor
    · simp only [List.length_map, List.length_append, List.length_take, List.length_drop]; omega
    · simp
theorem mrun_len {n : Nat} {As : List Row} : ∀ k, (mrun n As k).1.length ≤ As.length ∧ (mrun n As k).2.length ≤ k
  | 0 => by simp [mrun, mstart]
  | k + 1 => by
    rw [mrun_succ]
    have h := mstep_len (s := mrun n As k) (p := k)
    have ih := mrun_len (n := n) (As := As) k
    omega
theorem Sz.inv {k : Nat} {q : Rat} (hq : q ≠ 0) (h : Sz k q) : Sz k (1 / q) := by
  rw [Rat.div_def, Rat.one_mul]
  have hn : q.num ≠ 0 := fun z => hq (Rat.num_eq_zero.mp z)
  constructor
  · rw [Rat.num_inv, Int.natAbs_mul]
    have : q.num.sign.natAbs = 1 := by rw [Int.natAbs_sign]; simp [hn]
    rw [this, Nat.one_mul, Int.natAbs_natCast]; exact h.2
  · rw [Rat.den_inv, if_neg hn]; exact h.1
theorem Sz.zero {k : Nat} (hk : 0 < k) : Sz k 0 := ⟨by simpa using Nat.two_pow_pos k, by show (1 : Nat) < _; exact Nat.one_lt_two_pow (by omega)⟩
theorem Sz.one {k : Nat} (hk : 0 < k) : Sz k 1 := ⟨by show (1 : Nat) < _; exact Nat.one_lt_two_pow (by omega), by show (1 : Nat) < _; exact Nat.one_lt_two_pow (by omega)⟩
end K51
set_option Elab.async false
set_option linter.all false
set_option maxRecDepth 100000
set_option maxHeartbeats 1000000
set_option exponentiation.threshold 20000
namespace K51
open PySem PySem.Spec PyProof.Rows L2
def encF (n : Nat) (l : Row) : PyData := .list ((List.range n).map fun j => encQ (l j))
def encRow (n m : Nat) (l : Row) : PyData := .tuple [encF n l, encQ (l n), .list ((List.range m).map fun j => encQ (l (n + 1 + j)))]
def encEq (n : Nat) (l : Row) : PyData := .tuple [encF n l, encQ (l n)]
def encSol (n m : Nat) (al : Nat × Row) : PyData := .tuple [encN al.1, encRow n m al.2]
theorem eqv_q (p q : Rat) : PyData.eqv (encQ p) (encQ q) = decide (p = q) := by
  show (p.num == q.num && ((((p.den : Nat) : Int) == ((q.den : Nat) : Int)) && true)) = decide (p = q)
  rw [Bool.and_true, Bool.eq_iff_iff]
  simp only [Bool.and_eq_true, beq_iff_eq, decide_eq_true_eq]
  constructor
  · rintro ⟨h1, h2⟩; exact Rat.ext h1 (by omega)
  · rintro rfl; exact ⟨rfl, rfl⟩
theorem shaped_q (q : Rat) : SeqAt.shaped (encQ q) = true := rfl
section
variable {P : Program} {w : World} {K : PySem.W.Frag} {mg : Str → Option Value} {base : Heap} {X : Cx} {M : Mem} {r : List Sl} {a b : Expr} {pos p q : Pos} {j : Nat}
theorem c_eqQ {x y : Rat} : CmpOk X M (rEqD X.K) (encQ x) (encQ y) (decide (x = y)) := eqv_q x y ▸ c_eqD (shaped_q x) (shaped_q y)
theorem c_neQ {x y : Rat} : CmpOk X M (rNeD X.K) (encQ x) (encQ y) (!decide (x = y)) := eqv_q x y ▸ c_neD (shaped_q x) (shaped_q y)
theorem rng_get {n i : Nat} {α : Type} (f : Nat → α) (h : i < n) : ((List.range n).map f)[i]? = some (f i) := by
  rw [List.getElem?_map, List.getElem?_range h]; rfl
/-- line[0], line[1], line[2], line[0][place] -/
theorem ev_r0 {n m : Nat} {l : Row} (h : Ev X M r a (encRow n m l)) : Ev X M r (.Subscript a (.Constant (.int 0) j p) pos) (encF n l) := ev_ixt (n := 0) h ev_int rfl rfl
theorem ev_r1 {n m : Nat} {l : Row} (h : Ev X M r a (encRow n m l)) : Ev X M r (.Subscript a (.Constant (.int 1) j p) pos) (encQ (l n)) := ev_ixt (n := 1) h ev_int rfl rfl
theorem ev_r2 {n m : Nat} {l : Row} (h : Ev X M r a (encRow n m l)) : Ev X M r (.Subscript a (.Constant (.int 2) j p) pos) (.list ((List.range m).map fun j => encQ (l (n + 1 + j)))) := ev_ixt (n := 2) h ev_int rfl rfl
theorem ev_fi {n i : Nat} {l : Row} (h : Ev X M r a (encF n l)) (hi : Ev X M r b (encN i)) (e : i < n) (hs : PlainIx b := by exact fun _ _ => rfl) : Ev X M r (.Subscript a b pos) (encQ (l i)) := ev_ixl h.toR hi rfl (rng_get _ e) hs
def F_scaled (ds : List PyData) (d : PyData) : Prop := ∃ (n m : Nat) (l : Row) (q : Rat), ds = [encRow n m l, encQ q] ∧ n ≤ 1000 ∧ m ≤ 1000 ∧ RowSz 3000 (n + 1 + m) l ∧ Sm q ∧ d = encRow n m (scl q l)
theorem fn_scaled (Fn : Dfn K mg "scaled" s_scaled ["line", "by"]) (fT : Fnc P w K mg base 2 "times" (PureSp K (F_op (· * ·) fun _ _ => True))) : Fnc P w K mg base 3 "scaled" (PureSp K F_scaled) := by
  refine pure_def Fn sc_scaled (fun ds d h => ?_) (fun f cdv A outer s H E M ds d hr h sg hsr D k => ?_)
  · obtain ⟨n, m, l, q, rfl, _⟩ := h; rfl
  · obtain ⟨n, m, l, q, rfl, hn, hm, hl, hq, rfl⟩ := h
    refine ss_one (s_ret hsr (ev_tup (eva_cons (EvF.toE (evf_lc' (xs := List.range n) (enc := fun j => encQ (l j)) [("one", 2)] (fun j => encQ (q * l j)) (fun j => [.dat (encRow n m l), .dat (encQ q), .dat (encQ (l j))])
        (evi_list (ev_r0 (ev_var 0 rfl))) (blkOk_by (N := n_scaled) (sc := defScope s_scaled) (by decide +kernel)) sc_scaled.nd rfl (by rw [List.length_range]; omega) (by simp) (fun D s H C cl fp x hx => bg_name 2 sc_scaled.nd)
        (fun D s H C cl fp x hx => ev_call fT hr (eva_cons (ev_var 1 rfl) (eva_cons (ev_var 2 rfl) eva_nil)) ⟨_, _, rfl, hq, hl x (by have := List.mem_range.mp hx; omega), trivial, rfl⟩)))
      (eva_cons (ev_call fT hr (eva_cons (ev_var 1 rfl) (eva_cons (ev_r1 (ev_var 0 rfl)) eva_nil)) ⟨_, _, rfl, hq, hl n (by omega), trivial, rfl⟩)
      (eva_cons (EvF.toE (evf_lc' (xs := List.range m) (enc := fun j => encQ (l (n + 1 + j))) [("one", 2)] (fun j => encQ (q * l (n + 1 + j))) (fun j => [.dat (encRow n m l), .dat (encQ q), .dat (encQ (l (n + 1 + j)))])
        (evi_list (ev_r2 (ev_var 0 rfl))) (blkOk_by (N := n_scaled) (sc := defScope s_scaled) (by decide +kernel)) sc_scaled.nd rfl (by rw [List.length_range]; omega) (by simp) (fun D s H C cl fp x hx => bg_name 2 sc_scaled.nd)
        (fun D s H C cl fp x hx => ev_call fT hr (eva_cons (ev_var 1 rfl) (eva_cons (ev_var 2 rfl) eva_nil)) ⟨_, _, rfl, hq, hl _ (by have := List.mem_range.mp hx; omega), trivial, rfl⟩))) eva_nil))) (by simp)) k)
def F_without (ds : List PyData) (d : PyData) : Prop := ∃ (n m : Nat) (l o : Row) (p : Nat), ds = [encRow n m l, encN p, encRow n m o] ∧ n ≤ 1000 ∧ m ≤ 1000 ∧ p < n ∧ RowSz 1000 (n + 1 + m) l ∧ RowSz 1000 (n + 1 + m) o ∧ d = encRow n m (elim l p o)
theorem zip_rng {n : Nat} {f g : Nat → PyData} : (((List.range n).map f).zip ((List.range n).map g)).map (fun di => PyData.tuple [di.1, di.2]) = (List.range n).map fun j => .tuple [f j, g j] := by
  apply List.ext_getElem?
  intro i
  by_cases h : i < n
  · have e1 := rng_get f h
    have e2 := rng_get g h
    have e3 : (((List.range n).map f).zip ((List.range n).map g))[i]? = some (f i, g i) := by
      rw [List.getElem?_zip_eq_some]; exact ⟨e1, e2⟩
    rw [List.getElem?_map, e3, rng_get _ h]; rfl
  · rw [List.getElem?_eq_none (by simp; omega), List.getElem?_eq_none (by simp; omega)]
theorem fn_without (Fn : Dfn K mg "without" s_without ["line", "place", "other"]) (fM : Fnc P w K mg base 2 "minus" (PureSp K (F_op (· - ·) fun _ _ => True))) (fS : Fnc P w K mg base 3 "scaled" (PureSp K F_scaled)) (mz : mg "zip" = none)
    {aZ : Addr} (mZ : mg "NOUGHT" = some (.ref aZ)) (dZ : ∀ H : Hp, Dp K H (.ref aZ) (encQ 0)) : Fnc P w K mg base 4 "without" (PureSp K F_without) := by
  refine pure_def Fn sc_without (fun ds d h => ?_) (fun f cdv A outer s H E M ds d hr h sg hsr D k => ?_)
  · obtain ⟨n, m, l, o, q, rfl, _⟩ := h; rfl
  · obtain ⟨n, m, l, o, q, rfl, hn, hm, hq, hl, ho, rfl⟩ := h
    have hr2 : Room 2 (CxD P w K mg base n_without "without" s_without f cdv A outer s H E).A := hr.mono (by decide)
    have hlq : Sz 1000 (l q) := hl q (by omega)
    have hpr : ∀ j, j < n + 1 + m → Sm (l q * o j) := fun j hj => (hlq.mul (ho j hj)).mono (by decide)
    refine ss_cons (s_if hsr (evt_cmp (op_eqD hr.units) c_eqQ (ev_fi (ev_r0 (ev_var 0 rfl)) (ev_var 1 rfl) hq) (ev_glob mZ dZ)) (fun H2 _ h2 z => ?_) fun H2 _ h2 z => ?_)
    · have z := of_decide_eq_true z
      have e : elim l q o = l := by unfold elim; rw [if_pos z]
      rw [e] at k
      exact ss_one (s_ret h2 (ev_var 0 rfl) k)
    · have z := of_decide_eq_false z
      have e : elim l q o = fun j => l j - l q * o j := by unfold elim; rw [if_neg z]
      rw [e] at k
      refine ss_nil (ss_cons (s_set 3 h2 (ev_call fS hr (eva_cons (ev_var 2 rfl) (eva_cons (ev_fi (ev_r0 (ev_var 0 rfl)) (ev_var 1 rfl) hq) eva_nil)) ⟨n, m, o, _, rfl, hn, hm, fun j hj => (ho j hj).mono (by decide), hlq.mono (by decide), rfl⟩) (fun sg3 H3 _ h3 => ?_) sc_without.nd))
      refine ss_cons (s_lcD (xs := List.range n) (enc := fun j => .tuple [encQ (l j), encQ (scl (l q) o j)]) 4 h3 [("one", 5), ("two", 6)] (fun _ => true) (fun j => encQ (l j - l q * o j))
        (fun j => [.dat (encRow n m l), .dat (encN q), .dat (encRow n m o), .dat (encRow n m (scl (l q) o)), .unk, .dat (encQ (l j)), .dat (encQ (scl (l q) o j)), .unk])
        ((evi_zip (ev_r0 (ev_var 0 rfl)) (ev_r0 (ev_var 3 rfl)) mz).cast zip_rng) (blkOk_by (N := n_without) (sc := defScope s_without) (by decide +kernel)) sc_without.nd rfl (by rw [List.length_range]; omega) (by simp)
        (fun D s H C cl fp x hx => bg_pair rfl (bg_name 5 sc_without.nd) (bg_name 6 sc_without.nd)) (fun D s H C cl fp t ht => evts_nil)
        (fun D s H C cl fp x hx _ => ev_call fM hr2 (eva_cons (ev_var 5 rfl) (eva_cons (ev_var 6 rfl) eva_nil)) ⟨_, _, rfl, (hl x (by have := List.mem_range.mp hx; omega)).mono (by decide), hpr x (by have := List.mem_range.mp hx; omega), trivial, rfl⟩)
        (fun sg4 H4 _ h4 => ?_) (sw_true rfl rfl rfl (by decide +kernel)))
      rw [filter_yes] at h4
      refine ss_cons (s_lcD (xs := List.range m) (enc := fun j => .tuple [encQ (l (n + 1 + j)), encQ (scl (l q) o (n + 1 + j))]) 7 h4 [("one", 5), ("two", 6)] (fun _ => true) (fun j => encQ (l (n + 1 + j) - l q * o (n + 1 + j)))
        (fun j => [.dat (encRow n m l), .dat (encN q), .dat (encRow n m o), .dat (encRow n m (scl (l q) o)), .dat (.list ((List.range n).map fun j => encQ (l j - l q * o j))), .dat (encQ (l (n + 1 + j))), .dat (encQ (scl (l q) o (n + 1 + j))), .unk])
        ((evi_zip (ev_r2 (ev_var 0 rfl)) (ev_r2 (ev_var 3 rfl)) mz).cast zip_rng) (blkOk_by (N := n_without) (sc := defScope s_without) (by decide +kernel)) sc_without.nd rfl (by rw [List.length_range]; omega) (by simp)
        (fun D s H C cl fp x hx => bg_pair rfl (bg_name 5 sc_without.nd) (bg_name 6 sc_without.nd)) (fun D s H C cl fp t ht => evts_nil)
        (fun D s H C cl fp x hx _ => ev_call fM hr2 (eva_cons (ev_var 5 rfl) (eva_cons (ev_var 6 rfl) eva_nil)) ⟨_, _, rfl, (hl _ (by have := List.mem_range.mp hx; omega)).mono (by decide), hpr _ (by have := List.mem_range.mp hx; omega), trivial, rfl⟩)
        (fun sg5 H5 _ h5 => ?_) (sw_true rfl rfl rfl (by decide +kernel)))
      rw [filter_yes] at h5
      exact ss_one (s_ret h5 (ev_tup (eva_cons (ev_var 4 rfl) (eva_cons (ev_call fM hr2 (eva_cons (ev_r1 (ev_var 0 rfl)) (eva_cons (ev_r1 (ev_var 3 rfl)) eva_nil)) ⟨_, _, rfl, (hl n (by omega)).mono (by decide), hpr n (by omega), trivial, rfl⟩) (eva_cons (ev_var 7 rfl) eva_nil))) (by simp)) k)
end
end K51
set_option Elab.async false
set_option linter.all false
set_option maxRecDepth 100000
set_option maxHeartbeats 1000000
set_option exponentiation.threshold 20000
namespace K51
open PySem PySem.Spec PyProof.Rows L2
theorem cutD_take {ds : List PyData} {h : Nat} : cutD ds none (some (h : Int)) = ds.take h := by
  unfold cutD
  rw [HT.sIx_none, show HT.sIx ds.length ds.length (some (h : Int)) = min h ds.length from HT.sIx_nat _ _ _, Nat.sub_zero, List.drop_zero]
  by_cases hh : h ≤ ds.length
  · rw [Nat.min_eq_left hh]
  · rw [Nat.min_eq_right (by omega), List.take_of_length_le (Nat.le_refl _), List.take_of_length_le (by omega)]
theorem cutD_drop {ds : List PyData} {h : Nat} : cutD ds (some (h : Int)) none = ds.drop h := by
  unfold cutD
  rw [HT.sIx_none, show HT.sIx ds.length 0 (some (h : Int)) = min h ds.length from HT.sIx_nat _ _ _]
  by_cases hh : h ≤ ds.length
  · rw [Nat.min_eq_left hh, List.take_of_length_le (by rw [List.length_drop]; exact Nat.le_refl _)]
  · rw [Nat.min_eq_right (by omega), Nat.sub_self, List.take_zero, List.drop_of_length_le (by omega)]
section
variable {P : Program} {w : World} {K : PySem.W.Frag} {mg : Str → Option Value} {base : Heap} {X : Cx} {M : Mem} {r : List Sl} {a b : Expr} {pos p q : Pos} {j : Nat}
def encM (n m : Nat) (s : MSt) : PyData := .tuple [.list (s.2.map (encSol n m)), .list (s.1.map (encRow n m))]
def F_reduced (ds : List PyData) (d : PyData) : Prop := ∃ (n : Nat) (As : List Row), ds = [encN n, .list (As.map (encEq n))] ∧ n ≤ 100 ∧ As.length ≤ 100 ∧ (∀ k, k ≤ n → MSz 1000 (n + 1 + As.length) (mrun n As k)) ∧ d = encM n As.length (mrun n As n)
theorem zi_get {α : Type} {l : List α} {i : Nat} {x : α × Nat} (h : l.zipIdx[i]? = some x) : l[i]? = some x.1 ∧ x.2 = i := by
  rw [List.getElem?_zipIdx] at h
  obtain ⟨b, e1, e2⟩ := Option.map_eq_some_iff.mp h
  subst e2
  exact ⟨e1, by simp⟩
theorem encRow_init {n m i : Nat} {A : Row} : encRow n m (init n A i) = .tuple [encF n A, encQ (A n), .list ((List.range m).map fun j => encQ (if j = i then 1 else 0))] := by
  unfold encRow encF
  have e1 : ((List.range n).map fun j => encQ (init n A i j)) = (List.range n).map fun j => encQ (A j) := by
    apply List.map_congr_left
    intro j hj
    have := List.mem_range.mp hj
    unfold init
    rw [if_pos (by omega)]
  have e2 : init n A i n = A n := by unfold init; rw [if_pos (Nat.le_refl n)]
  have e3 : ((List.range m).map fun j => encQ (init n A i (n + 1 + j))) = (List.range m).map fun j => encQ (if j = i then 1 else 0) := by
    apply List.map_congr_left
    intro j hj
    unfold init
    rw [if_neg (by omega)]
    by_cases e : j = i
    · rw [if_pos (by omega), if_pos e]
    · rw [if_neg (by omega), if_neg e]
  rw [e1, e2, e3]
theorem fn_reduced (Fn : Dfn K mg "reduced" s_reduced ["count", "rows"]) (fS : Fnc P w K mg base 3 "scaled" (PureSp K F_scaled)) (fW : Fnc P w K mg base 4 "without" (PureSp K F_without)) (fD : Fnc P w K mg base 2 "divided" (PureSp K (F_op (· / ·) fun _ q => q ≠ 0)))
    (ml : mg "list" = none) (me : mg "enumerate" = none) (mr : mg "range" = none) (mn : mg "len" = none)
    {aZ aO : Addr} (mZ : mg "NOUGHT" = some (.ref aZ)) (dZ : ∀ H : Hp, Dp K H (.ref aZ) (encQ 0)) (mO : mg "ONE" = some (.ref aO)) (dO : ∀ H : Hp, Dp K H (.ref aO) (encQ 1)) : Fnc P w K mg base 5 "reduced" (PureSp K F_reduced) := by
  refine pure_def Fn sc_reduced (fun ds d h => ?_) (fun f cdv A outer s H E M ds d hr h sg hsr D k => ?_)
  · obtain ⟨n, As, rfl, _⟩ := h; rfl
  · obtain ⟨n, As, rfl, hn, hm, hsz, rfl⟩ := h
    have hr3 : Room 3 (CxD P w K mg base n_reduced "reduced" s_reduced f cdv A outer s H E).A := hr.mono (by decide)
    have hr2 : Room 2 (CxD P w K mg base n_reduced "reduced" s_reduced f cdv A outer s H E).A := hr.mono (by decide)
    generalize hmm : As.length = m at *
    refine ss_cons (s_setF 2 hsr (evf_lst eva_nil (by simp)) (fun o sg1 H1 s1 h1 => ?_) sc_reduced.nd)
    refine ss_cons (s_for (xs := As.zipIdx) (enc := encI (encEq n)) h1 ((evi_enum (ev_var 1 rfl) me).cast (zi_enc As (encEq n)))
      (fun i => [.dat (encN n), .dat (.list (As.map (encEq n))), .mt o (((As.zipIdx.take i).map fun Ai => init n Ai.1 Ai.2).map (encRow n m)), .unk, .unk, .unk, .unk, .unk, .unk, .unk, .unk, .unk])
      (fun i Ai => [.dat (encN n), .dat (.list (As.map (encEq n))), .mt o (((As.zipIdx.take i).map fun Ai => init n Ai.1 Ai.2).map (encRow n m)), .dat (encN Ai.2), .dat (encF n Ai.1), .dat (encQ (Ai.1 n)), .unk, .unk, .unk, .unk, .unk, .unk])
      (fun B' sg' H' h => h) (fun i x hx => bg_pair rfl (bg_name 3 sc_reduced.nd) (bg_pair rfl (bg_name 4 sc_reduced.nd) (bg_name 5 sc_reduced.nd))) ?_ ?_ PassesOwn.never rfl)
    · intro B' hB hout i Ai hx D' sg' H' _ _ hnx _ h2
      obtain ⟨hA, hi⟩ := zi_get hx
      refine ss_one (s_app 2 h2 rfl (d := encRow n m (init n Ai.1 Ai.2)) (Ev.cast (ev_tup (eva_cons (EvF.toE (evf_list (ev_var 4 rfl).toR ml)) (eva_cons (ev_var 5 rfl) (eva_cons
        (EvF.toE (evf_lc' (xs := List.range m) (enc := encN) [("k", 6)] (fun j => encQ (if j = Ai.2 then 1 else 0)) (fun j => [.dat (encN n), .dat (.list (As.map (encEq n))), .mt o (((As.zipIdx.take i).map fun Ai => init n Ai.1 Ai.2).map (encRow n m)), .dat (encN Ai.2), .dat (encF n Ai.1), .dat (encQ (Ai.1 n)), .dat (encN j), .unk, .unk, .unk, .unk, .unk])
          ((evi_range (ev_len (ev_var 1 rfl).toR mn) (by omega) (by rw [List.length_map, hmm]; omega) mr).cast (by rw [List.length_map, hmm, Int.toNat_natCast])) (blkOk_by (N := n_reduced) (sc := defScope s_reduced) (by decide +kernel)) sc_reduced.nd rfl (by rw [List.length_range]; omega) (by simp)
          (fun D s H C cl fp x hx => bg_name 6 sc_reduced.nd) (fun D s H C cl fp x hx => ev_if (z := decide (x = Ai.2)) ((evt_cmp op_eq c_eqI (ev_var 6 rfl) (ev_var 3 rfl)).cast (by
            rw [Bool.eq_iff_iff, decide_eq_true_eq, decide_eq_true_eq]; omega)) (fun z => by rw [if_pos (of_decide_eq_true z)]; exact ev_glob mO dO) (fun z => by rw [if_neg (of_decide_eq_false z)]; exact ev_glob mZ dZ)))) eva_nil))) (by simp)) encRow_init.symm)
        (by simp only [List.length_map, List.length_take, List.length_zipIdx]; omega) (fun H3 h3 => ?_))
      refine hnx _ _ ?_
      have e : ((As.zipIdx.take (i + 1)).map fun Ai => init n Ai.1 Ai.2).map (encRow n m) = ((As.zipIdx.take i).map fun Ai => init n Ai.1 Ai.2).map (encRow n m) ++ [encRow n m (init n Ai.1 Ai.2)] := by
        rw [List.take_add_one, hx]; simp
      rw [e]
      exact h3.wk (by repeat (first | apply Wk.nil | apply Wk.same | apply Wk.drop))
    · intro sg' H' h2
      rw [List.take_length] at h2
      have h3 := h2.fix (i := 2) rfl
      refine ss_cons (s_set 7 h3 (EvF.toE (evf_lst eva_nil (by simp))) (fun sg4 H4 _ h4 => ?_) sc_reduced.nd)
      refine ss_cons (s_for (xs := List.range n) (enc := encN) h4 ((evi_range (ev_var 0 rfl) (by omega) (by omega) mr).cast (by rw [Int.toNat_natCast]))
        (fun i => [.dat (encN n), .dat (.list (As.map (encEq n))), .dat (.list ((mrun n As i).1.map (encRow n m))), .unk, .unk, .unk, .unk, .dat (.list ((mrun n As i).2.map (encSol n m))), .unk, .unk, .unk, .unk])
        (fun i x => [.dat (encN n), .dat (.list (As.map (encEq n))), .dat (.list ((mrun n As i).1.map (encRow n m))), .dat (encN x), .unk, .unk, .unk, .dat (.list ((mrun n As i).2.map (encSol n m))), .unk, .unk, .unk, .unk])
        (fun B' sg' H' h => h.wk (by repeat (first | apply Wk.nil | apply Wk.same | apply Wk.drop))) (fun i x hx => bg_name 3 sc_reduced.nd) ?_ ?_ PassesOwn.never rfl)
      · intro B' hB hout i x hx D' sg' H' _ _ hnx _ h5
        have hxi : x = i ∧ i < n := by
          have hl := (List.getElem?_eq_some_iff.mp hx).1
          rw [List.length_range] at hl
          rw [List.getElem?_range hl] at hx
          exact ⟨(Option.some.inj hx).symm, hl⟩
        obtain ⟨rfl, hxn⟩ := hxi
        have hsz0 := hsz x (by omega)
        have hsz1 := hsz (x + 1) (by omega)
        have hlen := mrun_len (n := n) (As := As) x
        rw [hmm] at hlen
        rw [mrun_succ] at hnx hsz1
        generalize hst : mrun n As x = st at h5 hnx hsz0 hsz1 hlen
        obtain ⟨W, S⟩ := st
        simp only at h5 hlen hsz0
        -- having
        refine ss_cons (s_lcD (xs := W.zipIdx) (enc := encI (encRow n m)) 8 h5 [("k", 6), ("line", 9)] (fun li => !decide (li.1 x = 0)) (fun li => encN li.2)
          (fun li => [.dat (encN n), .dat (.list (As.map (encEq n))), .dat (.list (W.map (encRow n m))), .dat (encN x), .unk, .unk, .dat (encN li.2), .dat (.list (S.map (encSol n m))), .unk, .dat (encRow n m li.1), .unk, .unk])
          ((evi_enum (ev_var 2 rfl) me).cast (zi_enc W (encRow n m))) (blkOk_by (N := n_reduced) (sc := defScope s_reduced) (by decide +kernel)) sc_reduced.nd rfl (by rw [List.length_zipIdx]; omega) (by simp)
          (fun D s H C cl fp li hli => bg_pair rfl (bg_name 6 sc_reduced.nd) (bg_name 9 sc_reduced.nd))
          (fun D s H C cl fp li hli => evts_one (evt_cmp (op_neD hr.units) c_neQ (ev_fi (ev_r0 (ev_var 9 rfl)) (ev_var 3 rfl) hxn) (ev_glob mZ dZ)))
          (fun D s H C cl fp li hli _ => ev_var 6 rfl) (fun sg6 H6 _ h6 => ?_) (sw_true rfl rfl rfl (by decide +kernel)))
        have ehv : ((W.zipIdx.filter fun li => !decide (li.1 x = 0)).map fun li => encN li.2) = (having W x).map encN := by unfold having; rw [List.map_map]; rfl
        rw [ehv] at h6
        refine ss_one (s_if h6 (evt_list (ev_var 8 rfl).toR) (fun H7 _ h7 z => ?_) fun H7 _ h7 z => ?_)
        · obtain ⟨hh, ht, ehh⟩ : ∃ hh ht, having W x = hh :: ht := by
            cases e : having W x with
            | nil => rw [e] at z; cases z
            | cons a b => exact ⟨a, b, rfl⟩
          obtain ⟨l0, hl0, hne⟩ := having_mem.mp (show hh ∈ having W x by rw [ehh]; exact List.mem_cons_self)
          have hg0 : W.getD hh (fun _ => 0) = l0 := by rw [List.getD_eq_getElem?_getD, hl0]; rfl
          have hpv : pivot W x hh = scl (1 / l0 x) l0 := by unfold pivot; rw [hg0]
          rw [mstep_cons (s := (W, S)) ehh] at hnx hsz1
          simp only [hpv] at hnx hsz1
          have hl0s : RowSz 1000 (n + 1 + m) l0 := hsz0.1 l0 (List.mem_of_getElem? hl0)
          have hqs : Sz 1000 (1 / l0 x) := (hl0s x (by omega)).inv hne
          generalize hlp : scl (1 / l0 x) l0 = lp at hnx hsz1
          have hlps : RowSz 1000 (n + 1 + m) lp := hsz1.2 (x, lp) (List.mem_append_right _ (List.mem_singleton.mpr rfl))
          -- line = waiting[having[0]]
          have eh0 : ∀ {r' : List Sl}, True := fun {_} => trivial
          refine ss_cons (s_set 9 h7 (ev_ixl (n := hh) (ev_var 2 rfl).toR (ev_ixl (n := 0) (d := encN hh) (ev_var 8 rfl).toR ev_int rfl (by rw [ehh]; rfl)) rfl (by rw [List.getElem?_map, hl0]; rfl)) (fun sg8 H8 _ h8 => ?_) sc_reduced.nd)
          refine ss_cons (s_set 9 h8 (ev_call fS hr3 (eva_cons (ev_var 9 rfl) (eva_cons (ev_call fD hr2 (eva_cons (ev_glob mO dO) (eva_cons (ev_fi (ev_r0 (ev_var 9 rfl)) (ev_var 3 rfl) hxn) eva_nil)) ⟨1, l0 x, rfl, Sz.one (by decide), (hl0s x (by omega)).mono (by decide), hne, rfl⟩) eva_nil))
            ⟨n, m, l0, 1 / l0 x, rfl, by omega, by omega, fun j hj => (hl0s j hj).mono (by decide), hqs.mono (by decide), rfl⟩) (fun sg9 H9 _ h9 => ?_) sc_reduced.nd)
          rw [hlp] at h9
          refine ss_cons (s_set 2 h9 (EvF.toE (EvF.cast (evf_cat (ds1 := (W.map (encRow n m)).take hh) (ds2 := (W.map (encRow n m)).drop (hh + 1))
            (EvF.toL (EvF.cast (evf_slice (ev_var 2 rfl).toR evo_none (evo_some (ev_ixl (n := 0) (d := encN hh) (ev_var 8 rfl).toR ev_int rfl (by rw [ehh]; rfl)))) cutD_take))
            (EvF.toL (EvF.cast (evf_slice (ev_var 2 rfl).toR (evo_some (ev_add (ev_ixl (n := 0) (d := encN hh) (ev_var 8 rfl).toR ev_int rfl (by rw [ehh]; rfl)) ev_int)) evo_none) (show cutD _ (some (((hh + 1 : Nat)) : Int)) none = _ from cutD_drop)))
            (by simp only [List.length_take, List.length_drop, List.length_map]; omega)) (show _ = (W.take hh ++ W.drop (hh + 1)).map (encRow n m) by rw [List.map_append, List.map_take, List.map_drop]))) (fun sgA HA _ hA => ?_) sc_reduced.nd)
          have hWs : ∀ l ∈ W.take hh ++ W.drop (hh + 1), RowSz 1000 (n + 1 + m) l := fun l hl => by
            rcases List.mem_append.mp hl with z | z
            · exact hsz0.1 l (List.mem_of_mem_take z)
            · exact hsz0.1 l (List.mem_of_mem_drop z)
          refine ss_cons (s_lcD (xs := W.take hh ++ W.drop (hh + 1)) (enc := encRow n m) 2 hA [("other", 10)] (fun _ => true) (fun o => encRow n m (elim o x lp))
            (fun o => [.dat (encN n), .dat (.list (As.map (encEq n))), .dat (.list ((W.take hh ++ W.drop (hh + 1)).map (encRow n m))), .dat (encN x), .unk, .unk, .unk, .dat (.list (S.map (encSol n m))), .dat (.list ((having W x).map encN)), .dat (encRow n m lp), .dat (encRow n m o), .unk])
            (evi_list (ev_var 2 rfl)) (blkOk_by (N := n_reduced) (sc := defScope s_reduced) (by decide +kernel)) sc_reduced.nd rfl (by simp only [List.length_append, List.length_take, List.length_drop]; omega) (by simp)
            (fun D s H C cl fp o ho => bg_name 10 sc_reduced.nd) (fun D s H C cl fp o ho => evts_nil)
            (fun D s H C cl fp o ho _ => ev_call fW hr (eva_cons (ev_var 10 rfl) (eva_cons (ev_var 3 rfl) (eva_cons (ev_var 9 rfl) eva_nil))) ⟨n, m, o, lp, x, rfl, by omega, by omega, hxn, hWs o ho, hlps, rfl⟩)
            (fun sgB HB _ hB2 => ?_) (sw_true rfl rfl rfl (by decide +kernel)))
          rw [filter_yes] at hB2
          refine ss_one (s_set 7 hB2 (EvF.toE (evf_cat
            (EvF.toL (evf_lc' (xs := S) (enc := encSol n m) [("at", 11), ("other", 10)] (fun ao => encSol n m (ao.1, elim ao.2 x lp))
              (fun ao => [.dat (encN n), .dat (.list (As.map (encEq n))), .dat (.list ((W.take hh ++ W.drop (hh + 1)).map fun o => encRow n m (elim o x lp))), .dat (encN x), .unk, .unk, .unk, .dat (.list (S.map (encSol n m))), .dat (.list ((having W x).map encN)), .dat (encRow n m lp), .dat (encRow n m ao.2), .dat (encN ao.1)])
              (evi_list (ev_var 7 rfl)) (blkOk_by (N := n_reduced) (sc := defScope s_reduced) (by decide +kernel)) sc_reduced.nd rfl (by omega) (by simp)
              (fun D s H C cl fp ao hao => bg_pair rfl (bg_name 11 sc_reduced.nd) (bg_name 10 sc_reduced.nd))
              (fun D s H C cl fp ao hao => ev_tup (eva_cons (ev_var 11 rfl) (eva_cons (ev_call fW hr (eva_cons (ev_var 10 rfl) (eva_cons (ev_var 3 rfl) (eva_cons (ev_var 9 rfl) eva_nil))) ⟨n, m, ao.2, lp, x, rfl, by omega, by omega, hxn, hsz0.2 ao hao, hlps, rfl⟩) eva_nil)) (by simp))))
            (EvF.toL (evf_lst (eva_cons (ev_tup (eva_cons (ev_var 3 rfl) (eva_cons (ev_var 9 rfl) eva_nil)) (by simp)) eva_nil) (by simp))) (by simp only [List.length_map, List.length_cons, List.length_nil]; omega))) (fun sgC HC _ hC => ?_) sc_reduced.nd)
          refine hnx _ _ ?_
          have e1 : ((W.take hh ++ W.drop (hh + 1)).map fun o => elim o x lp).map (encRow n m) = (W.take hh ++ W.drop (hh + 1)).map fun o => encRow n m (elim o x lp) := by rw [List.map_map]; rfl
          have e2 : (S.map (fun ao => (ao.1, elim ao.2 x lp)) ++ [(x, lp)]).map (encSol n m) = (S.map fun ao => encSol n m (ao.1, elim ao.2 x lp)) ++ [.tuple [encN x, encRow n m lp]] := by rw [List.map_append, List.map_map]; rfl
          show SR _ _ _ [.dat (encN n), .dat (.list (As.map (encEq n))), .dat (.list (((W.take hh ++ W.drop (hh + 1)).map fun o => elim o x lp).map (encRow n m))), .unk, .unk, .unk, .unk, .dat (.list ((S.map (fun ao => (ao.1, elim ao.2 x lp)) ++ [(x, lp)]).map (encSol n m))), .unk, .unk, .unk, .unk] _ _
          rw [e1, e2]
          exact hC.wk (by repeat (first | apply Wk.nil | apply Wk.same | apply Wk.drop))
        · have ehh : having W x = [] := by
            cases e : having W x with
            | nil => rfl
            | cons a b => rw [e] at z; cases z
          rw [mstep_nil (s := (W, S)) ehh] at hnx
          exact ss_nil (hnx _ _ (h7.wk (by repeat (first | apply Wk.nil | apply Wk.same | apply Wk.drop))))
      · intro sg' H' h5
        rw [List.length_range] at h5
        exact ss_one (s_ret h5 (ev_tup (eva_cons (ev_var 7 rfl) (eva_cons (ev_var 2 rfl) eva_nil)) (by simp)) k)
end
end K51
set_option Elab.async false
set_option linter.all false
/-! what a place reaches: plain Lean -/
namespace K51
inductive Rch (G : Game) (i : Nat) : Nat → Prop
  | refl : Rch G i i
  | step {j t : Nat} {p : Pl} : Rch G i j → G[j]? = some p → t ∈ p.tgs → Rch G i t
theorem Rch.lt {G : Game} (h : GOk G) {i j : Nat} (r : Rch G i j) (hi : i < G.length) : j < G.length := by
  induction r with
  | refl => exact hi
  | step _ e ht _ => exact (h.ok _ (List.mem_of_getElem? e)).tg _ ht
theorem Rch.trans {G : Game} {i j k : Nat} (r : Rch G i j) (s : Rch G j k) : Rch G i k := by
  induction s with
  | refl => exact r
  | step _ e ht ih => exact .step ih e ht
open Classical in
noncomputable def rl (G : Game) (i : Nat) : List Nat := (List.range G.length).filter fun j => decide (Rch G i j)
open Classical in
theorem mem_rl {G : Game} (h : GOk G) {i j : Nat} (hi : i < G.length) : j ∈ rl G i ↔ Rch G i j := by
  unfold rl
  rw [List.mem_filter, List.mem_range, decide_eq_true_eq]
  exact ⟨fun z => z.2, fun z => ⟨z.lt h hi, z⟩⟩
/-- the search's state: seen, waiting -/
abbrev SSt := List Nat × List Nat
def radd (s : SSt) (t : Nat) : SSt := if t ∈ s.1 then s else (t :: s.1, s.2 ++ [t])
structure RInv (G : Game) (i : Nat) (s : SSt) : Prop where
  nd : s.1.Nodup
  lt : ∀ x ∈ s.1, x < G.length
  rc : ∀ x ∈ s.1, Rch G i x
  mem : i ∈ s.1
  sub : ∀ x ∈ s.2, x ∈ s.1
  cl : ∀ x ∈ s.1, x ∉ s.2 → ∀ p, G[x]? = some p → ∀ t ∈ p.tgs, t ∈ s.1
  wl : s.2.length ≤ s.1.length
theorem rinv_start {G : Game} {i : Nat} (hi : i < G.length) : RInv G i ([i], [i]) :=
  ⟨by simp, by simpa using hi, fun x hx => by rw [List.mem_singleton.mp hx]; exact .refl, by simp, fun x hx => hx, fun x hx hn => absurd hx hn, by simp⟩
def rmu (G : Game) (s : SSt) : Nat := 2 * (G.length - s.1.length) + s.2.length
theorem nodup_len {n : Nat} {l : List Nat} (nd : l.Nodup) (h : ∀ x ∈ l, x < n) : l.length ≤ n := by
  have := nd.length_le_of_subset (l₂ := List.range n) fun x hx => List.mem_range.mpr (h x hx)
  simpa using this
/-- inside one turn: u popped, the targets behind some still to come -/
structure RMid (G : Game) (i u : Nat) (ts : List Nat) (s : SSt) : Prop where
  nd : s.1.Nodup
  lt : ∀ x ∈ s.1, x < G.length
  rc : ∀ x ∈ s.1, Rch G i x
  mem : i ∈ s.1
  sub : ∀ x ∈ s.2, x ∈ s.1
  cl : ∀ x ∈ s.1, x ∉ s.2 → x ≠ u → ∀ p, G[x]? = some p → ∀ t ∈ p.tgs, t ∈ s.1
  dn : ∀ t ∈ ts, t ∈ s.1
  wl : s.2.length ≤ s.1.length
theorem RMid.add {G : Game} {i u : Nat} {ts : List Nat} {s : SSt} (h : RMid G i u ts s) {t : Nat} (ht : t < G.length) (hr : Rch G i t) : RMid G i u (ts ++ [t]) (radd s t) := by
  unfold radd
  by_cases hm : t ∈ s.1
  · rw [if_pos hm]
    exact ⟨h.nd, h.lt, h.rc, h.mem, h.sub, h.cl, fun x hx => (List.mem_append.mp hx).elim (h.dn x) fun z => by rw [List.mem_singleton.mp z]; exact hm, h.wl⟩
  · rw [if_neg hm]
    refine ⟨List.nodup_cons.mpr ⟨hm, h.nd⟩, ?_, ?_, List.mem_cons_of_mem _ h.mem, ?_, ?_, ?_, by simpa using h.wl⟩
    · intro x hx
      rcases List.mem_cons.mp hx with rfl | hx
      · exact ht
      · exact h.lt x hx
    · intro x hx
      rcases List.mem_cons.mp hx with rfl | hx
      · exact hr
      · exact h.rc x hx
    · intro x hx
      rcases List.mem_append.mp hx with hx | hx
      · exact List.mem_cons_of_mem _ (h.sub x hx)
      · rw [List.mem_singleton.mp hx]; exact List.mem_cons_self
    · intro x hx hn hu p hp y hy
      rcases List.mem_cons.mp hx with rfl | hx
      · exact absurd (List.mem_append_right _ (List.mem_singleton.mpr rfl)) hn
      · exact List.mem_cons_of_mem _ (h.cl x hx (fun z => hn (List.mem_append_left _ z)) hu p hp y hy)
    · intro x hx
      rcases List.mem_append.mp hx with hx | hx
      · exact List.mem_cons_of_mem _ (h.dn x hx)
      · rw [List.mem_singleton.mp hx]; exact List.mem_cons_self
theorem RInv.pop {G : Game} {i u : Nat} {L W : List Nat} (h : RInv G i (L, W ++ [u])) : RMid G i u [] (L, W) :=
  ⟨h.nd, h.lt, h.rc, h.mem, fun x hx => h.sub x (List.mem_append_left _ hx), fun x hx hn hu => h.cl x hx fun z => (List.mem_append.mp z).elim hn fun z => hu (List.mem_singleton.mp z), fun x hx => (by cases hx), by have := h.wl; simp only [List.length_append, List.length_singleton] at this; show W.length ≤ L.length; omega⟩
theorem RMid.all {G : Game} {i u : Nat} {p : Pl} {s : SSt} (hp : G[u]? = some p) (h : RMid G i u p.tgs s) : RInv G i s :=
  ⟨h.nd, h.lt, h.rc, h.mem, h.sub, fun x hx hn q hq t ht => by
    by_cases hu : x = u
    · subst hu
      rw [hp] at hq; cases hq
      exact h.dn t ht
    · exact h.cl x hx hn hu q hq t ht, h.wl⟩
theorem rmid_take {G : Game} (hG : GOk G) {i u : Nat} {p : Pl} (hp : G[u]? = some p) (hu : Rch G i u) {L W : List Nat} (h : RMid G i u [] (L, W)) : ∀ k, RMid G i u (p.tgs.take k) ((p.tgs.take k).foldl radd (L, W))
  | 0 => h
  | k + 1 => by
    rw [List.take_add_one]
    cases e : p.tgs[k]? with
    | none => rw [Option.toList_none, List.append_nil]; exact rmid_take hG hp hu h k
    | some t =>
      rw [Option.toList_some, List.foldl_append]
      have ht : t ∈ p.tgs := List.mem_of_getElem? e
      exact (rmid_take hG hp hu h k).add ((hG.ok p (List.mem_of_getElem? hp)).tg t ht) (.step hu hp ht)
theorem radd_mu {G : Game} {s : SSt} {t : Nat} (nd : s.1.Nodup) (lt : ∀ x ∈ s.1, x < G.length) (ht : t < G.length) : rmu G (radd s t) ≤ rmu G s := by
  unfold radd
  by_cases hm : t ∈ s.1
  · rw [if_pos hm]; exact Nat.le_refl _
  · rw [if_neg hm]
    have h1 : (t :: s.1).length ≤ G.length := nodup_len (List.nodup_cons.mpr ⟨hm, nd⟩) fun x hx => (List.mem_cons.mp hx).elim (fun z => z ▸ ht) (lt x)
    unfold rmu
    simp only [List.length_cons, List.length_append, List.length_nil] at *
    omega
theorem rmu_take {G : Game} (hG : GOk G) {i u : Nat} {p : Pl} (hp : G[u]? = some p) (hu : Rch G i u) {L W : List Nat} (h : RMid G i u [] (L, W)) : ∀ k, rmu G ((p.tgs.take k).foldl radd (L, W)) ≤ rmu G (L, W)
  | 0 => Nat.le_refl _
  | k + 1 => by
    rw [List.take_add_one]
    cases e : p.tgs[k]? with
    | none => rw [Option.toList_none, List.append_nil]; exact rmu_take hG hp hu h k
    | some t =>
      rw [Option.toList_some, List.foldl_append]
      have ht : t ∈ p.tgs := List.mem_of_getElem? e
      have m := rmid_take hG hp hu h k
      exact Nat.le_trans (radd_mu m.nd m.lt ((hG.ok p (List.mem_of_getElem? hp)).tg t ht)) (rmu_take hG hp hu h k)
theorem rmu_pop {G : Game} {L W : List Nat} {u : Nat} : rmu G (L, W) < rmu G (L, W ++ [u]) := by
  unfold rmu
  simp only [List.length_append, List.length_cons, List.length_nil]
  omega
theorem RInv.fin {G : Game} {i : Nat} {L : List Nat} (h : RInv G i (L, [])) : ∀ x, x ∈ L ↔ Rch G i x := fun x => by
  refine ⟨h.rc x, fun r => ?_⟩
  induction r with
  | refl => exact h.mem
  | step _ e ht ih => exact h.cl _ ih (by simp) _ e _ ht
/-- the sorted list of the same members -/
theorem sorted_eq {ns ks : List Int} (h1 : ns.Pairwise (· < ·)) (h2 : ks.Pairwise (· < ·)) (h : ∀ x, x ∈ ns ↔ x ∈ ks) : ns = ks := by
  have n1 : ns.Nodup := h1.imp fun z e => by omega
  have n2 : ks.Nodup := h2.imp fun z e => by omega
  refine List.Perm.eq_of_pairwise (fun a b _ _ x y => ?_) h1 h2 ((List.perm_ext_iff_of_nodup n1 n2).mpr h)
  have x' : a < b := x
  have y' : b < a := y
  omega
theorem rl_sorted {G : Game} {i : Nat} : ((rl G i).map fun n : Nat => (n : Int)).Pairwise (· < ·) := by
  rw [List.pairwise_map]
  unfold rl
  exact (List.Pairwise.filter _ List.pairwise_lt_range).imp fun z => by omega
end K51
set_option Elab.async false
set_option linter.all false
/-! the equations of a chain: plain Lean -/
namespace K51
/-- one branch in a row -/
def mbr (U : List Nat) (ks : List Rat) (s : List Rat × Rat) (b : Rat × Nat) : List Rat × Rat :=
  if b.2 ∈ U then (s.1.set (U.idxOf b.2) (s.1.getD (U.idxOf b.2) 0 - b.1), s.2) else (s.1, s.2 + b.1 * ks.getD b.2 0)
def mini (U : List Nat) (gs : List Rat) (u : Nat) : List Rat × Rat := (U.map fun o => if o = u then 1 else 0, gs.getD u 0)
def mrow (U : List Nat) (gs ks : List Rat) (u : Nat) (bs : List (Rat × Nat)) : List Rat × Rat := bs.foldl (mbr U ks) (mini U gs u)
def rowOf (n : Nat) (s : List Rat × Rat) : Row := fun j => if j < n then s.1.getD j 0 else s.2
def brsAt (G : Game) (u : Nat) : List (Rat × Nat) := (G.getD u .lose).brs
def mrows (G : Game) (U : List Nat) (gs ks : List Rat) : List Row := U.map fun u => rowOf U.length (mrow U gs ks u (brsAt G u))
def OnlyOk (n : Nat) (As : List Row) : Prop := n ≤ 100 ∧ As.length ≤ 100 ∧ (∀ k, k ≤ n → MSz 1000 (n + 1 + As.length) (mrun n As k)) ∧ (mrun n As n).1 = [] ∧ (mrun n As n).2.length = n
structure MeansOk (G : Game) (U : List Nat) (gs ks : List Rat) : Prop where
  ok : GOk G
  few : U.length ≤ 12
  lt : ∀ u ∈ U, u < G.length
  gl : gs.length = G.length
  kl : ks.length = G.length
  ksz : ∀ t, Sz 100 (ks.getD t 0)
  bsz : ∀ u ∈ U, ∀ b ∈ brsAt G u, Sz 100 b.1
  psz : ∀ u ∈ U, ∀ k, (∀ q ∈ (mrow U gs ks u ((brsAt G u).take k)).1, Sm q) ∧ Sm (mrow U gs ks u ((brsAt G u).take k)).2
  only : OnlyOk U.length (mrows G U gs ks)
def meansV (G : Game) (U : List Nat) (gs ks : List Rat) : List Rat := solv U.length (mrun U.length (mrows G U gs ks) U.length).2
theorem mbr_len {U : List Nat} {ks : List Rat} {s : List Rat × Rat} {b : Rat × Nat} : (mbr U ks s b).1.length = s.1.length := by
  unfold mbr
  split
  · exact List.length_set ..
  · rfl
theorem mfold_len {U : List Nat} {ks : List Rat} : ∀ {bs : List (Rat × Nat)} {s : List Rat × Rat}, (bs.foldl (mbr U ks) s).1.length = s.1.length
  | [], s => rfl
  | b :: bs, s => by
    show (bs.foldl (mbr U ks) (mbr U ks s b)).1.length = _
    rw [mfold_len, mbr_len]
theorem mrow_len {U : List Nat} {gs ks : List Rat} {u : Nat} {bs : List (Rat × Nat)} : (mrow U gs ks u bs).1.length = U.length := by
  unfold mrow mini
  rw [mfold_len, List.length_map]
/-! a chain's chances, as they are found -/
def goalsL (G : Game) : List Nat := plcB Pl.isFin G
noncomputable def nearL (G : Game) : List Nat := (List.range G.length).filter fun i => ((goalsL G).map fun g => decide (g ∈ rl G i)).any id
noncomputable def unkL (G : Game) : List Nat := (nearL G).filter fun i => !decide (i ∈ goalsL G)
def baseL (G : Game) : List Rat := (List.range G.length).map fun i => if i ∈ goalsL G then 1 else 0
def nilL (G : Game) : List Rat := G.map fun _ => 0
noncomputable def solL (G : Game) : List Rat := meansV G (unkL G) (nilL G) (baseL G)
def fset (f : List Rat) (uq : Nat × Rat) : List Rat := f.set uq.1 uq.2
theorem fset_len : ∀ {l : List (Nat × Rat)} {f : List Rat}, (l.foldl fset f).length = f.length
  | [], f => rfl
  | a :: l, f => by
    show (l.foldl fset (fset f a)).length = _
    rw [fset_len]; exact List.length_set ..
noncomputable def chv (G : Game) : List Rat := ((unkL G).zip (solL G)).foldl fset (baseL G)
theorem chv_len {G : Game} : (chv G).length = G.length := by unfold chv; rw [fset_len]; simp [baseL]
def ChOk (G : Game) : Prop := MeansOk G (unkL G) (nilL G) (baseL G)
/-- the numbers of a game under two strategies -/
def chain (G : Game) (s t : Strat) : Game := withS .t (withS .o G s) t
noncomputable def fin (G : Game) (s t : Strat) : List Rat := chv (chain G s t)
theorem chain_len {G : Game} {s t : Strat} : (chain G s t).length = G.length := by unfold chain; rw [withS_length, withS_length]
theorem fin_len {G : Game} {s t : Strat} : (fin G s t).length = G.length := by unfold fin; rw [chv_len, chain_len]
theorem sok_t {G : Game} {s t : Strat} (h : SOk .t G t) : SOk .t (withS .o G s) t := by
  refine ⟨by rw [withS_length]; exact h.len, fun i p hp => ?_⟩
  have hl : i < G.length := by
    have := (List.getElem?_eq_some_iff.mp hp).1
    rwa [withS_length] at this
  rw [withS_get (List.getElem?_eq_getElem hl)] at hp
  cases hp
  have q := h.ok i _ (List.getElem?_eq_getElem hl)
  generalize G[i] = pl at *
  unfold put
  cases pl <;> exact q
/-- the strategies tried, one by one -/
noncomputable def gaIt (G : Game) (t : Strat) : Nat → Strat
  | 0 => firstS .o G
  | k + 1 => impr G (fin G (gaIt G t k) t) (gaIt G t k)
theorem first_ok {G : Game} (h : GOk G) : SOk .o G (firstS .o G) := by
  refine ⟨by simp [firstS], fun i p hp => ?_⟩
  have e : (firstS .o G)[i]? = some (if p.isSide .o = true then some 0 else none) := by unfold firstS; rw [List.getElem?_map, hp]; rfl
  rw [e]
  by_cases hs : p.isSide .o = true
  · rw [if_pos hs, if_pos hs]
    refine ⟨0, rfl, ?_⟩
    have hok := h.ok p (List.mem_of_getElem? hp)
    cases p with
    | ours ts => exact List.length_pos_iff.mpr hok.1
    | _ => cases hs
  · rw [if_neg hs, if_neg hs]
theorem gaIt_ok {G : Game} {t : Strat} (h : GOk G) : ∀ k, SOk .o G (gaIt G t k)
  | 0 => first_ok h
  | k + 1 => impr_ok (gaIt_ok h k)
/-- what the walk asks of the numbers -/
structure GaOk (G : Game) (t : Strat) : Prop where
  ok : GOk G
  st : SOk .t G t
  ch : ∀ s, SOk .o G s → ChOk (chain G s t)
  sz : ∀ s, SOk .o G s → ∀ q ∈ fin G s t, Sm q
  mu : ∃ mu : Nat → Nat, ∀ k, gaIt G t (k + 1) ≠ gaIt G t k → mu (k + 1) < mu k
end K51
set_option Elab.async false
set_option linter.all false
set_option maxRecDepth 100000
set_option maxHeartbeats 1000000
set_option exponentiation.threshold 20000
namespace K51
open PySem PySem.Spec PyProof.Rows L2
def svst (n : Nat) (v : List Rat) (al : Nat × Row) : List Rat := v.set al.1 (al.2 n)
theorem solv_eq {n : Nat} {S : List (Nat × Row)} : solv n S = S.foldl (svst n) (List.replicate n 0) := rfl
theorem svf_len {n : Nat} : ∀ {S : List (Nat × Row)} {v : List Rat}, (S.foldl (svst n) v).length = v.length
  | [], v => rfl
  | a :: S, v => by
    show (S.foldl (svst n) (svst n v a)).length = v.length
    rw [svf_len]; unfold svst; rw [List.length_set]
theorem solv_len {n : Nat} {S : List (Nat × Row)} : (solv n S).length = n := by rw [solv_eq, svf_len, List.length_replicate]
theorem mstep_idx {s : MSt} {p n : Nat} (hp : p < n) (h : ∀ al ∈ s.2, al.1 < n) : ∀ al ∈ (mstep s p).2, al.1 < n := by
  cases e : having s.1 p with
  | nil => rw [mstep_nil e]; exact h
  | cons hh t =>
    rw [mstep_cons e]
    intro al hal
    rcases List.mem_append.mp hal with z | z
    · obtain ⟨x, hx, rfl⟩ := List.mem_map.mp z
      exact h x hx
    · rw [List.mem_singleton.mp z]; exact hp
theorem mrun_idx {n : Nat} {As : List Row} : ∀ k, k ≤ n → ∀ al ∈ (mrun n As k).2, al.1 < n
  | 0, _ => by intro al h; simp [mrun, mstart] at h
  | k + 1, hk => by rw [mrun_succ]; exact mstep_idx (by omega) (mrun_idx k (by omega))
section
variable {P : Program} {w : World} {K : PySem.W.Frag} {mg : Str → Option Value} {base : Heap} {X : Cx} {M : Mem} {r : List Sl} {a b : Expr} {pos p q : Pos} {j : Nat}
def F_solution (ds : List PyData) (d : PyData) : Prop := ∃ (n m : Nat) (S : List (Nat × Row)), ds = [encN n, .list (S.map (encSol n m))] ∧ n ≤ 1000 ∧ (∀ al ∈ S, al.1 < n) ∧ d = encQs (solv n S)
theorem fn_solution_of (Fn : Dfn K mg "solution_of" s_solution_of ["count", "solved"]) (mr : mg "range" = none)
    {aZ : Addr} (mZ : mg "NOUGHT" = some (.ref aZ)) (dZ : ∀ H : Hp, Dp K H (.ref aZ) (encQ 0)) : Fnc P w K mg base 1 "solution_of" (PureSp K F_solution) := by
  refine pure_def Fn sc_solution_of (fun ds d h => ?_) (fun f cdv A outer s H E M ds d hr h sg hsr D k => ?_)
  · obtain ⟨n, m, S, rfl, _⟩ := h; rfl
  · obtain ⟨n, m, S, rfl, hn, hS, rfl⟩ := h
    refine ss_cons (s_lcF (xs := List.range n) (enc := encN) 2 hsr [("place", 3)] (fun _ => true) (fun _ => encQ 0) (fun j => [.dat (encN n), .dat (.list (S.map (encSol n m))), .unk, .dat (encN j), .unk])
      ((evi_range (ev_var 0 rfl) (by omega) (by omega) mr).cast (by rw [Int.toNat_natCast])) (blkOk_by (N := n_solution_of) (sc := defScope s_solution_of) (by decide +kernel)) sc_solution_of.nd rfl (by rw [List.length_range]; omega) (by simp)
      (fun D s H C cl fp x hx => bg_name 3 sc_solution_of.nd) (fun D s H C cl fp t ht => evts_nil) (fun D s H C cl fp x hx _ => ev_glob mZ dZ) (fun o sg2 H2 s2 h2 => ?_) (sw_true rfl rfl rfl (by decide +kernel)))
    have e0 : ((List.range n).filter (fun _ => true)).map (fun _ => encQ 0) = (List.replicate n (0 : Rat)).map encQ := by
      rw [filter_yes]
      apply List.ext_getElem (by simp)
      intro i h1 h2
      simp
    rw [e0] at h2
    refine ss_cons (s_for (xs := S) (enc := encSol n m) h2 (evi_list (ev_var 1 rfl))
      (fun i => [.dat (encN n), .dat (.list (S.map (encSol n m))), .mt o (((S.take i).foldl (svst n) (List.replicate n 0)).map encQ), .unk, .unk])
      (fun i al => [.dat (encN n), .dat (.list (S.map (encSol n m))), .mt o (((S.take i).foldl (svst n) (List.replicate n 0)).map encQ), .dat (encN al.1), .dat (encRow n m al.2)])
      (fun B' sg' H' h => h) (fun i x hx => bg_pair rfl (bg_name 3 sc_solution_of.nd) (bg_name 4 sc_solution_of.nd)) ?_ ?_ PassesOwn.never rfl)
    · intro B' hB hout i al hx D' sg' H' _ _ hnx _ h3
      rw [take_fold hx] at hnx
      have hl : al.1 < (((S.take i).foldl (svst n) (List.replicate n 0)).map encQ).length := by
        rw [List.length_map, svf_len, List.length_replicate]; exact hS al (List.mem_of_getElem? hx)
      refine ss_one (s_put 2 h3 rfl (ev_r1 (ev_var 4 rfl)) (ev_var 3 rfl) rfl hl (fun H4 h4 => ?_))
      refine hnx _ _ ?_
      have e : (svst n ((S.take i).foldl (svst n) (List.replicate n 0)) al).map encQ = (((S.take i).foldl (svst n) (List.replicate n 0)).map encQ).set al.1 (encQ (al.2 n)) := by
        unfold svst; rw [List.map_set]
      rw [e]
      exact h4.wk (by repeat (first | apply Wk.nil | apply Wk.same | apply Wk.drop))
    · intro sg' H' h3
      rw [List.take_length] at h3
      exact ss_one (s_ret (h3.fix (i := 2) rfl) (ev_var 2 rfl) k)
def F_only (ds : List PyData) (d : PyData) : Prop := ∃ (n : Nat) (As : List Row), ds = [encN n, .list (As.map (encEq n))] ∧ OnlyOk n As ∧ d = encQs (solv n (mrun n As n).2)
theorem fn_only_solution (Fn : Dfn K mg "only_solution" s_only_solution ["count", "rows"]) (fR : Fnc P w K mg base 5 "reduced" (PureSp K F_reduced)) (fS : Fnc P w K mg base 1 "solution_of" (PureSp K F_solution)) (mn : mg "len" = none) (ma : mg "any" = none)
    {aZ : Addr} (mZ : mg "NOUGHT" = some (.ref aZ)) (dZ : ∀ H : Hp, Dp K H (.ref aZ) (encQ 0)) : Fnc P w K mg base 6 "only_solution" (PureSp K F_only) := by
  refine pure_def Fn sc_only_solution (fun ds d h => ?_) (fun f cdv A outer s H E M ds d hr h sg hsr D k => ?_)
  · obtain ⟨n, As, rfl, _⟩ := h; rfl
  · obtain ⟨n, As, rfl, ⟨hn, hm, hsz, hW, hS⟩, rfl⟩ := h
    have hr1 : Room 1 (CxD P w K mg base n_only_solution "only_solution" s_only_solution f cdv A outer s H E).A := hr.mono (by decide)
    have hidx := mrun_idx (n := n) (As := As) n (Nat.le_refl _)
    refine ss_cons (s_unp 2 3 hsr (ev_call fR hr (eva_cons (ev_var 0 rfl) (eva_cons (ev_var 1 rfl) eva_nil)) ⟨n, As, rfl, hn, hm, hsz, rfl⟩) (fun sg2 H2 s2 h2 => ?_) sc_only_solution.nd rfl)
    generalize hst : mrun n As n = st at h2 hW hS k hidx
    obtain ⟨W, S⟩ := st
    simp only at hW hS hidx k h2
    subst hW
    refine ss_cons (s_if (z := false) h2 (EvT.cast (EvW.toT (evw_or (z2 := false) (evt_cmp op_lt c_lt (ev_len (ev_var 2 rfl).toR mn) (ev_var 0 rfl)) fun _ => evw_or1 (evt_val (ev_any (bs := [])
      (EvF.toR (evf_lc' (xs := ([] : List Row)) (enc := encRow n As.length) [("line", 4)] (fun _ => .bool false) (fun _ => [.dat (encN n), .dat (.list (As.map (encEq n))), .unk, .unk, .unk]) (evi_list (ev_var 3 rfl)) (blkOk_by (N := n_only_solution) (sc := defScope s_only_solution) (by decide +kernel)) sc_only_solution.nd rfl (by simp) (js := [4]) (by simp)
        (fun D s H C cl fp x hx => by cases hx) (fun D s H C cl fp x hx => by cases hx))) ma)))) (by rw [List.length_map, hS, Bool.or_false]; exact decide_eq_false (by omega))) (fun H3 _ h3 z => by cases z) fun H3 _ h3 z => ?_)
    refine ss_nil (ss_one (s_ret h3 (ev_call fS hr1 (eva_cons (ev_var 0 rfl) (eva_cons (ev_var 2 rfl) eva_nil)) ⟨n, As.length, S, rfl, by omega, hidx, rfl⟩) k))
end
end K51
set_option Elab.async false
set_option linter.all false
set_option maxRecDepth 100000
set_option maxHeartbeats 1000000
set_option exponentiation.threshold 20000
namespace K51
open PySem PySem.Spec PyProof.Rows L2
section
variable {P : Program} {w : World} {K : PySem.W.Frag} {mg : Str → Option Value} {base : Heap} {X : Cx} {M : Mem} {r : List Sl} {a b : Expr} {pos p q : Pos} {j : Nat}
/-- pure_def, the code's place known -/
theorem pure_defC {x : Str} {st : Stmt} {N ps : List Str} {k : Nat} {F : List PyData → PyData → Prop} (Fn : Dfn K mg x st ps) (S : FnScope N ps (defScope st)) (hlen : ∀ ds d, F ds d → ds.length = ps.length)
    (hbody : ∀ (f : Addr) (cdv : Value) (A : Around) (outer : List Env) (s : Shared) (H : Hp) (E : XK) (M : Mem) (ds : List PyData) (d : PyData), PySem.W.kdsCode K cdv = true → Room k (CxD P w K mg base N x st f cdv A outer s H E).A → F ds d →
      ∀ sg, SR K ⟨H, M⟩ M (start0 N ds) sg H → ∀ D : Ends, (∀ v H', Same H H' → Dp K (hid M H') v d → D.rt v H') → wpSs (CxD P w K mg base N x st f cdv A outer s H E) (defBody st) D sg H) :
    Fnc P w K mg base (k + 1) x (PureSp K F) := by
  obtain ⟨f, fd, h1, h2, h3⟩ := Fn.ex
  have kp := h2.kp
  obtain ⟨oc, od, kV, doc, pm, an, cdv, ct, osl, rfl, lk, hcd⟩ := h2.ex
  refine ⟨f, _, ps, h1, kp, h3, fn_of lk hcd S (fun vs H Q E h => ?_) (fun A outer s H vs Q E hr h => ?_)⟩
  · obtain ⟨M, ds, d, _, h5, h6, _⟩ := h
    rw [dpa_len h5]
    exact hlen ds d h6
  · obtain ⟨M, ds, d, h4, h5, h6, h7⟩ := h
    refine ⟨_, PSs.nox ss_wp, ?_⟩
    exact hbody f cdv A outer s H E M ds d (kdsCode_of hcd) hr h6 _ (sr_start h4 h5) _ h7
variable {B : Bs} {sg : L2.St} {H : Hp} {D : Ends} {α : Type} {tg iter : Expr} {d : PyData} {ds : List PyData} {Q : VK}
/-- x.pop() -/
theorem e_pop (i : Nat) {x : Str} {px ap cp : Pos} {o : Addr} (hsr : SR X.K B M r sg H) (hm : r[i]? = some (.mt o (ds ++ [d]))) (k : ∀ v H1, hid M H1 = hid M H → SR X.K B M (r.set i (.mt o ds)) sg H1 → Dp X.K (hid M H1) v d → Q v H1)
    (hN : X.N[i]? = some x := by rfl) (hv : Vis X.env.scope x := by first | exact Or.inl rfl | exact Or.inr (Or.inl rfl) | exact Or.inr (Or.inr rfl)) (hd : (x == ("__debug__" : Str)) = false := by decide) (hcd : (x == ("__classdict__" : Str)) = false := by decide)
    (hbase : attributeBase (.Name x px) "pop" X.env (eval (.Name x px) X.env) = eval (.Name x px) X.env := by rfl) (hline : (ap.endLine == cp.line) = true := by rfl) : wpE X (.Call (.Attribute (.Name x px) "pop" ap) [] [] cp) sg H Q := by
  refine e_of (pe_bm0 PySem.F.plainAttrs_list PySem.F.slot_list_pop PySem.F.type_list_pop mt_pop (pe_var hN hv hd hcd) hbase hline) ?_
  obtain ⟨h1, h2, h3, xs, h4, h5⟩ := hsr.mt hm
  have hl := dpa_len h5
  rw [List.length_append, List.length_singleton] at hl
  obtain ⟨y, e1, e2⟩ := dpa_get h5 (i := ds.length) (d := d) (by rw [List.getElem?_append_right (Nat.le_refl _), Nat.sub_self]; rfl)
  refine ⟨_, h1, .inl ⟨rfl, xs, .inl (.inl h4)⟩, o, xs, y, rfl, rfl, h4, by rw [show xs.length - 1 = ds.length by omega]; exact e1, ?_⟩
  have h6 := dpa_dropLast h5
  rw [List.dropLast_concat] at h6
  exact k y _ (hid_upd h2) (hsr.chg hm h6) (by rw [hid_upd h2]; exact e2)
/-- for over a list whose making changes one's own lists -/
theorem s_forL {xs : List α} {enc : α → PyData} {js : List Nat} {body : List Stmt} {r2 : List Sl} (he : ∀ Q : VK, (∀ v H1, SR X.K B M r2 sg H1 → Dp X.K (hid M H1) v (.list (xs.map enc)) → Q v H1) → wpE X iter sg H Q) (hout : ∀ m ∈ B.M0, B.H0 m ≠ none)
    (R : Nat → List Sl) (R' : Nat → α → List Sl)
    (h0 : ∀ B' sg' H', SR X.K B' M r2 sg' H' → SR X.K B' M (R 0) sg' H')
    (hg : ∀ i x, xs[i]? = some x → BG X M tg js (R i) (enc x) (R' i x))
    (hb : ∀ (B' : Bs), B.le B' → ∀ i x, xs[i]? = some x → ∀ (D' : Ends) sg' H', (∀ v H'', D.rt v H'' → D'.rt v H'') → (∀ sg'' H'', D.nx sg'' H'' → D'.bk sg'' H'') → (∀ sg'' H'', SR X.K B' M (R (i + 1)) sg'' H'' → D'.nx sg'' H'') → (∀ sg'' H'', SR X.K B' M (R (i + 1)) sg'' H'' → D'.ct sg'' H'') →
      SR X.K B' M (R' i x) sg' H' → wpSs X body D' sg' H')
    (hd : ∀ sg' H', SR X.K B M (R xs.length) sg' H' → D.nx sg' H') (hp : PassesOwn (model X.prog X.w) X.A X.env X.xe) (hc : X.calm = true) (nf : (r2.all fun s => !s.isFr) = true)
    (hs : ∀ x, foldedSetIterable iter X.env x = pure x := by intro _; rfl) : wpS X (.For tg iter body [] pos) D sg H := by
  refine s_forC (xs := xs) (enc := enc) (r2 := r2) (pi_list e_wp) hout (fun R hR => ?_) R R' h0 hg hb hd hp hc nf hs
  refine he _ fun v H1 s1 q1 => ?_
  obtain ⟨a, ys, rfl, h1, h2⟩ := dp_list q1
  refine ⟨a, rfl, ⟨ys, L2.Same.seq hid_le h1⟩, ?_⟩
  refine hR _ H1 (fun H => SqL X.K H a ys) (YAt ys) s1 (by rw [← dpa_len h2]; exact walk_list) (fun H' s => L2.Same.seq s h1) fun i Hc v H' _ y d M' e s _ => ?_
  obtain ⟨rfl, y⟩ := y
  obtain ⟨x, e1, e2⟩ := dpa_get h2 e
  rw [y] at e1; cases e1
  exact ⟨Same.refl _, dp_mono s e2⟩
def inL (L : List Nat) : Int → Bool := fun j => L.any fun n => decide (j = (n : Int))
theorem inL_mem {L : List Nat} {n : Nat} : inL L (n : Int) = decide (n ∈ L) := by
  unfold inL
  rw [Bool.eq_iff_iff, List.any_eq_true, decide_eq_true_eq]
  constructor
  · rintro ⟨x, h1, h2⟩
    have : n = x := by have := of_decide_eq_true h2; omega
    rw [this]; exact h1
  · intro h; exact ⟨n, h, decide_eq_true rfl⟩
theorem inL_iff {L : List Nat} {k : Int} : inL L k = true ↔ ∃ n ∈ L, k = (n : Int) := by
  unfold inL
  rw [List.any_eq_true]
  constructor
  · rintro ⟨x, h1, h2⟩; exact ⟨x, h1, of_decide_eq_true h2⟩
  · rintro ⟨x, h1, h2⟩; exact ⟨x, h1, decide_eq_true h2⟩
theorem inL_cons {L : List Nat} {n : Nat} : (fun j => inL L j || decide (j = (n : Int))) = inL (n :: L) := by
  funext j
  unfold inL
  rw [List.any_cons, Bool.or_comm]
theorem inL_one {n : Nat} : (fun j => decide (j = (n : Int))) = inL [n] := by
  funext j
  unfold inL
  rw [List.any_cons, List.any_nil, Bool.or_false]
def F_reached (ds : List PyData) (d : PyData) : Prop := ∃ (G : Game) (i : Nat), ds = [encG G, encN i] ∧ GOk G ∧ i < G.length ∧ d = encNs (rl G i)
theorem fn_reached (Fn : Dfn K mg "reached" s_reached ["game", "place"]) (fT : Fnc P w K mg base 1 "targets" (PureSp K F_targets)) (ms : mg "sorted" = none) : Fnc P w K mg base 2 "reached" (PureSp K F_reached) := by
  refine pure_defC Fn sc_reached (fun ds d h => ?_) (fun f cdv A outer s H E M ds d hcd hr h sg hsr D k => ?_)
  · obtain ⟨G, i, rfl, _⟩ := h; rfl
  · obtain ⟨G, i, rfl, hG, hi, rfl⟩ := h
    have hN12 := hG.few
    refine ss_cons (s_set1 2 hsr (fun D => ev_var 1 rfl) (fun o sg1 H1 no s1 h1 => ?_) sc_reached.nd hcd)
    refine ss_cons (s_setF 3 h1 (evf_lst (eva_cons (ev_var 1 rfl) eva_nil) (by simp)) (fun o2 sg2 H2 s2 h2 => ?_) sc_reached.nd)
    rw [inL_one] at h2
    refine ss_cons (s_while (α := SSt) h2 (RInv G i) (fun s => [.dat (encG G), .dat (encN i), .obj o (SetO w o (inL s.1) s.1.length), .mt o2 (s.2.map encN), .unk]) (fun s => !(s.2.map encN).isEmpty) (rmu G) ([i], [i]) (rinv_start hi) rfl
      (fun s _ => evt_list (evL_var 3 rfl).toR) ?_ ?_ PassesOwn.never)
    · rintro ⟨L, W⟩ hI hne D' sg' H' _ _ hnx _ h3
      have hWne : W ≠ [] := fun z => by rw [z] at hne; cases hne
      obtain ⟨W', u, rfl⟩ : ∃ W' u, W = W' ++ [u] := ⟨W.dropLast, W.getLast hWne, (List.dropLast_concat_getLast hWne).symm⟩
      have huL : u ∈ L := hI.sub u (List.mem_append_right _ (List.mem_singleton.mpr rfl))
      have hul : u < G.length := hI.lt u huL
      have hp : G[u]? = some G[u] := List.getElem?_eq_getElem hul
      generalize G[u] = pu at hp
      have hur : Rch G i u := hI.rc u huL
      have hmid := hI.pop
      refine ss_one (s_forL (M := o2 :: o :: M) (xs := pu.tgs) (enc := encN) (r2 := [.dat (encG G), .dat (encN i), .obj o (SetO w o (inL L) L.length), .mt o2 (W'.map encN), .unk]) (fun Q kk => ?_) h3.out
        (fun n => [.dat (encG G), .dat (encN i), .obj o (SetO w o (inL ((pu.tgs.take n).foldl radd (L, W')).1) ((pu.tgs.take n).foldl radd (L, W')).1.length), .mt o2 (((pu.tgs.take n).foldl radd (L, W')).2.map encN), .unk])
        (fun n t => [.dat (encG G), .dat (encN i), .obj o (SetO w o (inL ((pu.tgs.take n).foldl radd (L, W')).1) ((pu.tgs.take n).foldl radd (L, W')).1.length), .mt o2 (((pu.tgs.take n).foldl radd (L, W')).2.map encN), .dat (encN t)])
        (fun B' sg' H' h => h) (fun i x hx => bg_name 4 sc_reached.nd) ?_ ?_ PassesOwn.never rfl rfl)
      · obtain ⟨ff, ffd, fps, f1, f2, f3, f4⟩ := fT.ex
        refine e_of (pe_call f4 hr (by rfl) f1 f2 f3 .nil pass0 (pa_cons e_wp (pa_cons e_wp pa_nil))) ?_
        refine Ev.run (ev_var 0 rfl) h3 fun v H4 s4 q4 => ?_
        have h4 := h3.mono s4
        refine e_pop 3 (d := encN u) (ds := W'.map encN) h4 (by rw [List.map_append]; rfl) fun v2 H5 eh h5 q5 => ?_
        refine ⟨_, _, _, h5.there, .cons (by rw [eh]; exact q4) (.cons q5 .nil), ⟨G, u, pu, rfl, hG, hp, rfl⟩, fun v3 H6 s6 q6 => ?_⟩
        exact kk v3 H6 (h5.mono s6) q6
      · intro B' hB n t ht D2 sg5 H5 _ _ hnx2 _ h5
        have hm := rmid_take hG hp hur hmid n
        have hm1 := rmid_take hG hp hur hmid (n + 1)
        have htl : t < G.length := (hG.ok pu (List.mem_of_getElem? hp)).tg t (List.mem_of_getElem? ht)
        rw [take_fold ht] at hnx2 hm1
        generalize hse : (pu.tgs.take n).foldl radd (L, W') = st at h5 hnx2 hm hm1
        refine ss_one (s_if h5 (evt_sni 2 rfl (ev_var 4 rfl)) (fun H6 _ h6 z => ?_) fun H6 _ h6 z => ?_)
        · have hnot : t ∉ st.1 := fun c => by rw [inL_mem, decide_eq_true c] at z; cases z
          have hlen : st.1.length ≤ G.length := nodup_len hm.nd hm.lt
          refine ss_cons (s_sadd 2 h6 rfl (ev_var 4 rfl) (by have : scanBound = 4096 := rfl; omega) (fun H7 h7 => ?_))
          rw [if_neg (by rw [inL_mem, decide_eq_false hnot]; simp), inL_cons] at h7
          have hlW : (st.2.map encN).length ≤ 1000000 := by
            rw [List.length_map]
            have := hm.wl
            omega
          refine ss_one (s_app 3 h7 rfl (ev_var 4 rfl) hlW (fun H8 h8 => ?_))
          refine hnx2 _ _ ?_
          have e : radd st t = (t :: st.1, st.2 ++ [t]) := by unfold radd; rw [if_neg hnot]
          rw [e, List.map_append]
          exact h8.wk (by repeat (first | apply Wk.nil | apply Wk.same | apply Wk.drop))
        · have hin : t ∈ st.1 := by
            rw [inL_mem] at z
            exact Decidable.byContradiction fun c => by rw [decide_eq_false c] at z; cases z
          have e : radd st t = st := by unfold radd; rw [if_pos hin]
          rw [e] at hnx2
          exact ss_nil (hnx2 _ _ (h6.wk (by repeat (first | apply Wk.nil | apply Wk.same | apply Wk.drop))))
      · intro sg5 H5 h5
        have hm := rmid_take hG hp hur hmid pu.tgs.length
        have hmu := rmu_take hG hp hur hmid pu.tgs.length
        rw [List.take_length] at h5 hm hmu
        exact hnx _ _ _ (hm.all hp) (Nat.lt_of_le_of_lt hmu rmu_pop) h5
    · rintro ⟨L, W⟩ hI hne sg' H' h3
      have hW : W = [] := by
        cases W with
        | nil => rfl
        | cons a b => cases hne
      subst hW
      have hfin := hI.fin
      refine ss_one (s_ret h3 (EvF.toE (EvF.cast (evf_sortedO (ks := (rl G i).map fun n : Nat => (n : Int)) 2 rfl (by have := nodup_len hI.nd hI.lt; omega) (fun ns h1 h2 h4 => sorted_eq h1 rl_sorted fun x => ?_) ms) (by rw [List.map_map]; rfl))) k)
      rw [h2, inL_iff, List.mem_map]
      constructor
      · rintro ⟨n, hn, rfl⟩
        exact ⟨n, (mem_rl hG hi).mpr ((hfin n).mp hn), rfl⟩
      · rintro ⟨n, hn, rfl⟩
        exact ⟨n, (hfin n).mpr ((mem_rl hG hi).mp hn), rfl⟩
end
end K51
set_option Elab.async false
set_option linter.all false
set_option maxRecDepth 100000
set_option maxHeartbeats 1000000
set_option exponentiation.threshold 20000
namespace K51
open PySem PySem.Spec PyProof.Rows L2
section
variable {P : Program} {w : World} {K : PySem.W.Frag} {mg : Str → Option Value} {base : Heap} {X : Cx} {M : Mem} {r : List Sl} {a b : Expr} {pos p q : Pos} {j : Nat}
variable {B : Bs} {sg : L2.St} {H : Hp} {D : Ends} {α : Type} {tg iter elt e c : Expr} {ifs : List Expr} {scope : Scope} {d : PyData} {ds : List PyData} {Q : VK} {ns : List Nat} {i : Nat}
theorem castN (ns : List Nat) : ns.map encN = (ns.map fun n : Nat => (n : Int)).map PyData.int := by rw [List.map_map]; rfl
theorem memN {ns : List Nat} {i : Nat} : decide ((i : Int) ∈ ns.map fun n : Nat => (n : Int)) = decide (i ∈ ns) := by
  rw [Bool.eq_iff_iff, decide_eq_true_eq, decide_eq_true_eq, List.mem_map]
  constructor
  · rintro ⟨n, h1, h2⟩
    have : n = i := by omega
    rw [← this]; exact h1
  · intro h; exact ⟨i, h, rfl⟩
theorem idxN {ns : List Nat} {i : Nat} : (ns.map fun n : Nat => (n : Int)).idxOf (i : Int) = ns.idxOf i := by
  induction ns with
  | nil => rfl
  | cons n ns ih =>
    rw [List.map_cons, List.idxOf_cons, List.idxOf_cons, ih]
    have : ((n : Int) == (i : Int)) = (n == i) := by
      rw [Bool.eq_iff_iff, beq_iff_eq, beq_iff_eq]; omega
    rw [this]
theorem ev_inN (ha : Ev X M r a (encN i)) (hb : EvR X M r b (ns.map encN)) (hm : behindInMarks .In b = false := by rfl) : Ev X M r (.Compare a [.In] [b] pos) (.bool (decide (i ∈ ns))) := (ev_in ha (hb.cast (castN ns)) hm).cast (by rw [memN])
theorem evt_inN (ha : Ev X M r a (encN i)) (hb : EvR X M r b (ns.map encN)) (hm : behindInMarks .In b = false := by rfl) : EvT X M r (.Compare a [.In] [b] pos) (decide (i ∈ ns)) := (evt_in (rr := rEq) ha (hb.cast (castN ns)) hm).cast memN
theorem evt_ninN (ha : Ev X M r a (encN i)) (hb : EvR X M r b (ns.map encN)) (hm : behindInMarks .NotIn b = false := by rfl) : EvT X M r (.Compare a [.NotIn] [b] pos) (!decide (i ∈ ns)) := (evt_nin ha (hb.cast (castN ns)) hm).cast (by rw [memN])
/-- name = [..], one's own list, its newness told -/
theorem s_lcN {xs : List α} {enc : α → PyData} {js : List Nat} (i : Nat) {y : Str} {py spos : Pos} (hsr : SR X.K B M r sg H) (own : List (Str × Nat)) (pp : α → Bool) (f : α → PyData) (r' : α → List Sl)
    (hI : EvI X M r tg iter (xs.map enc)) (ok : BlkOk X.N X.env.scope scope own) (hN : X.N.Nodup) (hc : X.calm = true) (hz : xs.length ≤ 1000000) (hjs : ∀ j ∈ js, j ∈ own.map (·.2))
    (hg : ∀ (D : Addr) (s : Shared) (H : Hp) (C : Addr) (cl : List (Str × Addr)) (fp : List Addr), ∀ x ∈ xs, BG (X.blk s H scope (compEnvC scope cl C X.env) fp) (D :: M) tg js (wipeR r (own.map (·.2))) (enc x) (r' x))
    (ht : ∀ (D : Addr) (s : Shared) (H : Hp) (C : Addr) (cl : List (Str × Addr)) (fp : List Addr), ∀ x ∈ xs, EvTs (X.blk s H scope (compEnvC scope cl C X.env) fp) (D :: M) (r' x) ifs (pp x))
    (he : ∀ (D : Addr) (s : Shared) (H : Hp) (C : Addr) (cl : List (Str × Addr)) (fp : List Addr), ∀ x ∈ xs, pp x = true → Ev (X.blk s H scope (compEnvC scope cl C X.env) fp) (D :: M) (r' x) elt (f x))
    (k : ∀ p sg' H', p ∉ M → SR X.K B (p :: M) (r.set i (.mt p ((xs.filter pp).map f))) sg' H' → D.nx sg' H')
    (hsw : swapsWith (.ListComp elt [⟨tg, iter, ifs, 0⟩] scope pos) (some (.Name y py)) spos.line X.env = pure true) (hi : X.N[i]? = some y := by rfl) (hyl : X.env.scope.names.lookup y = some .local := by rfl)
    (hs : ∀ x, foldedSetIterable iter X.env x = pure x := by intro _; rfl) : wpS X (.Assign [.Name y py] (.ListComp elt [⟨tg, iter, ifs, 0⟩] scope pos) spos) D sg H := by
  obtain ⟨wi, h1, h2⟩ := hI
  refine s_of (ps_setLc (own := own) hc hN hi hyl hsw h1 ok blk_g blk_ts blk_e hs) ?_
  show tLc wi (blkG X scope tg) (blkTs X scope ifs) (blkE X scope elt) (own.map (·.2)) sg H (fun x H1 => gName i x sg H1 D.nx)
  refine lc_read pp f r' h2 hz hjs hg ht he hsr fun p ys H' s1 n1 e1 q1 => ?_
  exact k p _ H' (hsr.new n1) (hsr.setMt s1 n1 e1 q1)
def F_all (ds : List PyData) (d : PyData) : Prop := ∃ (G : Game), ds = [encG G] ∧ GOk G ∧ d = .list ((List.range G.length).map fun i => encNs (rl G i))
theorem fn_all_reached (Fn : Dfn K mg "all_reached" s_all_reached ["chain"]) (fR : Fnc P w K mg base 2 "reached" (PureSp K F_reached)) (mr : mg "range" = none) (mn : mg "len" = none) : Fnc P w K mg base 3 "all_reached" (PureSp K F_all) := by
  refine pure_def Fn sc_all_reached (fun ds d h => ?_) (fun f cdv A outer s H E M ds d hr h sg hsr D k => ?_)
  · obtain ⟨G, rfl, _⟩ := h; rfl
  · obtain ⟨G, rfl, hG, rfl⟩ := h
    have hN12 := hG.few
    exact ss_one (s_ret hsr (EvF.toE (evf_lc' (xs := List.range G.length) (enc := encN) [("place", 1)] (fun i => encNs (rl G i)) (fun j => [.dat (encG G), .dat (encN j)])
      ((evi_range (ev_len (ev_var 0 rfl).toR mn) (by omega) (by rw [List.length_map]; omega) mr).cast (by rw [List.length_map, Int.toNat_natCast])) (blkOk_by (N := n_all_reached) (sc := defScope s_all_reached) (by decide +kernel)) sc_all_reached.nd rfl (by rw [List.length_range]; omega) (by simp)
      (fun D s H C cl fp x hx => bg_name 1 sc_all_reached.nd) (fun D s H C cl fp x hx => ev_call fR hr (eva_cons (ev_var 0 rfl) (eva_cons (ev_var 1 rfl) eva_nil)) ⟨G, x, rfl, hG, List.mem_range.mp hx, rfl⟩))) k)
/-! means: the known numbers may be a list of the caller's own -/
def MeansSp (K : PySem.W.Frag) : Sp := fun vs H Q _ => ∃ (M : Mem) (G : Game) (U : List Nat) (gs ks : List Rat) (v1 v2 v3 : V) (o : Addr) (xs : List V), (∀ m ∈ M, H m ≠ none) ∧ vs = [v1, v2, v3, .ref o] ∧
  Dp K (hid M H) v1 (encG G) ∧ Dp K (hid M H) v2 (encNs U) ∧ Dp K (hid M H) v3 (encQs gs) ∧ H o = some (.lst xs) ∧ DpAll K (hid M H) xs (ks.map encQ) ∧ MeansOk G U gs ks ∧
  ∀ v H', Same H H' → Dp K (hid M H') v (encQs (meansV G U gs ks)) → Q v H'
theorem ev_means {e1 e2 e3 : Expr} {G : Game} {U : List Nat} {gs ks : List Rat} {k : Nat} (hf : Fnc X.prog X.w X.K X.mg X.base k "means" (MeansSp X.K)) (hr : Room k X.A) (h0 : Ev X M r e (encG G)) (h1 : Ev X M r e1 (encNs U)) (h2 : Ev X M r e2 (encQs gs)) (h3 : EvL X M r e3 (ks.map encQ)) (h : MeansOk G U gs ks)
    (hg : Gl X "means" := by rfl) (st0 : starEach [e, e1, e2, e3] X.env = (false, eval e X.env) :: starEach [e1, e2, e3] X.env := by rfl) (st1 : starEach [e1, e2, e3] X.env = (false, eval e1 X.env) :: starEach [e2, e3] X.env := by rfl)
    (st2 : starEach [e2, e3] X.env = (false, eval e2 X.env) :: starEach [e3] X.env := by rfl) (st3 : starEach [e3] X.env = (false, eval e3 X.env) :: starEach [] X.env := by rfl) (hpl : (backTo pos (starEach [e1, e2, e3] X.env)).any (·.1) = false := by rfl) :
    Ev X M r (.Call (.Name "means" p) [e, e1, e2, e3] [] pos) (encQs (meansV G U gs ks)) := fun B sg H Q hs kk => by
  obtain ⟨f, fd, ps, g1, g2, g3, g4⟩ := hf.ex
  refine e_of (pe_call g4 hr hg g1 g2 g3 .nil pass0 (pa_cons e_wp (pa_cons e_wp (pa_cons e_wp (pa_cons e_wp pa_nil st3) st2) st1) st0) (he := st0) (hpl := hpl)) ?_
  refine h0 B sg H _ hs fun v0 H0 s0 q0 => ?_
  refine h1 B sg H0 _ (hs.mono s0) fun v1 H1 s1 q1 => ?_
  refine h2 B sg H1 _ ((hs.mono s0).mono s1) fun v2 H2 s2 q2 => ?_
  refine h3 B sg H2 _ (((hs.mono s0).mono s1).mono s2) fun o xs H3 s3 e3 q3 => ?_
  refine ⟨M, G, U, gs, ks, v0, v1, v2, o, xs, ((((hs.mono s0).mono s1).mono s2).mono s3).there, rfl, dp_mono (hid_mono (s1.trans (s2.trans s3))) q0, dp_mono (hid_mono (s2.trans s3)) q1, dp_mono (hid_mono s3) q2, e3, q3, h, fun v H' s q => ?_⟩
  exact kk v H' ((((s0.trans s1).trans s2).trans s3).trans s) q
theorem sr_rd {K : PySem.W.Frag} {N : List Str} {M : Mem} {H : Hp} {vs : List V} {ds : List PyData} {o : Addr} {xs : List V} {ks : List PyData} (hN : vs.length < N.length) (hM : ∀ m ∈ M, H m ≠ none) (h : DpAll K (hid M H) vs ds) (ho : H o = some (.lst xs)) (hk : DpAll K (hid M H) xs ks) :
    SR K ⟨H, M⟩ M (ds.map Sl.dat ++ Sl.rd ks :: List.replicate (N.length - (ds.length + 1)) Sl.unk) (L2.start N (vs ++ [.ref o])) H := by
  have hl := dpa_len h
  have ad : ∀ (i : Nat) (s : Sl), (ds.map Sl.dat ++ Sl.rd ks :: List.replicate (N.length - (ds.length + 1)) Sl.unk)[i]? = some s → s.ad = none ∧ SlotOk K ⟨H, M⟩ M (L2.start N (vs ++ [.ref o]))[i]? H s := fun i s hs => by
    by_cases hi : i < ds.length
    · rw [List.getElem?_append_left (by simpa using hi), List.getElem?_map] at hs
      obtain ⟨d, e1, rfl⟩ := Option.map_eq_some_iff.mp hs
      obtain ⟨v, e2, e3⟩ := dpa_get h e1
      refine ⟨rfl, v, ?_, e3⟩
      unfold L2.start
      rw [List.getElem?_append_left (by simp [hl]; omega), List.getElem?_map, List.getElem?_append_left (by omega), e2]
      rfl
    · rw [List.getElem?_append_right (by simpa using Nat.le_of_not_lt hi), List.length_map] at hs
      by_cases hi' : i = ds.length
      · subst hi'
        rw [Nat.sub_self, List.getElem?_cons_zero, Option.some.injEq] at hs
        subst hs
        refine ⟨rfl, o, xs, ?_, fun z => z, ho, hk⟩
        unfold L2.start
        rw [List.getElem?_append_left (by simp [hl]), List.getElem?_map, List.getElem?_append_right (by omega), hl, Nat.sub_self]
        rfl
      · rw [show i - ds.length = (i - ds.length - 1) + 1 by omega, List.getElem?_cons_succ, List.getElem?_replicate] at hs
        split at hs
        · cases hs; exact ⟨rfl, trivial⟩
        · cases hs
  refine ⟨Same.refl _, fun _ z => z, hM, hM, ?_, fun i s hs => (ad i s hs).2, fun i j s t o h1 h2 h3 h4 => ?_⟩
  · unfold L2.start
    simp [hl]
  · rw [(ad i s h1).1] at h3; cases h3
theorem fn_means (Fn : Dfn K mg "means" s_means ["chain", "unknown", "gains", "known"]) (fB : Fnc P w K mg base 1 "branches" (PureSp K F_branches)) (fM : Fnc P w K mg base 2 "minus" (PureSp K (F_op (· - ·) fun _ _ => True))) (fP : Fnc P w K mg base 2 "plus" (PureSp K (F_op (· + ·) fun _ _ => True)))
    (fT : Fnc P w K mg base 2 "times" (PureSp K (F_op (· * ·) fun _ _ => True))) (fO : Fnc P w K mg base 6 "only_solution" (PureSp K F_only)) (mn : mg "len" = none)
    {aZ aO : Addr} (mZ : mg "NOUGHT" = some (.ref aZ)) (dZ : ∀ H : Hp, Dp K H (.ref aZ) (encQ 0)) (mO : mg "ONE" = some (.ref aO)) (dO : ∀ H : Hp, Dp K H (.ref aO) (encQ 1)) : Fnc P w K mg base 7 "means" (MeansSp K) := by
  obtain ⟨f, fd, f1, f2, f3⟩ := Fn.ex
  refine ⟨f, fd, _, f1, f2.kp, f3, f2.ok sc_means (fun vs H Q E h => ?_) (fun cdv A outer s H vs Q E hr h => ?_)⟩
  · obtain ⟨M, G, U, gs, ks, v1, v2, v3, o, xs, h1, rfl, _⟩ := h
    rfl
  · obtain ⟨M, G, U, gs, ks, v1, v2, v3, o, xs, hM, rfl, q1, q2, q3, ho, hk, hO, k⟩ := h
    refine ⟨_, ss_wp, ?_⟩
    have hsr := sr_rd (K := K) (N := n_means) (M := M) (H := H) (vs := [v1, v2, v3]) (ds := [encG G, encNs U, encQs gs]) (o := o) (xs := xs) (ks := ks.map encQ) (show 3 < 12 by decide) hM (.cons q1 (.cons q2 (.cons q3 .nil))) ho hk
    show wpSs (CxD P w K mg base n_means "means" s_means f cdv A outer s H E) (defBody s_means) _ _ _
    have hr6 : Room 6 (CxD P w K mg base n_means "means" s_means f cdv A outer s H E).A := hr
    have hr2 : Room 2 (CxD P w K mg base n_means "means" s_means f cdv A outer s H E).A := hr.mono (by decide)
    have hr1 : Room 1 (CxD P w K mg base n_means "means" s_means f cdv A outer s H E).A := hr.mono (by decide)
    have hfew := hO.few
    refine ss_cons (s_setF 4 hsr (evf_lst eva_nil (by simp)) (fun o1 sg1 H1 s1 h1 => ?_) sc_means.nd)
    refine ss_cons (s_for (xs := U) (enc := encN) h1 (evi_list (ev_var 1 rfl))
      (fun i => [.dat (encG G), .dat (encNs U), .dat (encQs gs), .rd (ks.map encQ), .mt o1 (((mrows G U gs ks).take i).map (encEq U.length)), .unk, .unk, .unk, .unk, .unk, .unk, .unk])
      (fun i u => [.dat (encG G), .dat (encNs U), .dat (encQs gs), .rd (ks.map encQ), .mt o1 (((mrows G U gs ks).take i).map (encEq U.length)), .dat (encN u), .unk, .unk, .unk, .unk, .unk, .unk])
      (fun B' sg' H' h => h) (fun i x hx => bg_name 5 sc_means.nd) ?_ ?_ PassesOwn.never rfl)
    · intro B' hB hout i u hx D' sg' H' _ _ hnx _ h2
      have hu : u ∈ U := List.mem_of_getElem? hx
      have hul := hO.lt u hu
      have hgu : gs[u]? = some (gs.getD u 0) := by
        rw [List.getD_eq_getElem?_getD, List.getElem?_eq_getElem (by rw [hO.gl]; exact hul)]; rfl
      have hpu : G[u]? = some (G.getD u .lose) := by
        rw [List.getD_eq_getElem?_getD, List.getElem?_eq_getElem hul]; rfl
      have hbs := hO.bsz u hu
      have hps := hO.psz u hu
      have hlb : (brsAt G u).length ≤ 6 := by
        have hok := hO.ok.ok _ (List.mem_of_getElem? hpu)
        unfold brsAt
        generalize G.getD u .lose = pl at hok
        cases pl with
        | draw bs => exact hok.2.1
        | _ => simp [Pl.brs]
      have htk : ((mrows G U gs ks).take (i + 1)).map (encEq U.length) = ((mrows G U gs ks).take i).map (encEq U.length) ++ [encEq U.length (rowOf U.length (mrow U gs ks u (brsAt G u)))] := by
        rw [List.take_add_one, show (mrows G U gs ks)[i]? = some (rowOf U.length (mrow U gs ks u (brsAt G u))) by unfold mrows; rw [List.getElem?_map, hx]; rfl, List.map_append]; rfl
      rw [htk] at hnx
      have hlt : (((mrows G U gs ks).take i).map (encEq U.length)).length ≤ 1000000 := by
        unfold mrows; simp only [List.length_map, List.length_take]; omega
      generalize ((mrows G U gs ks).take i).map (encEq U.length) = rs at h2 hnx hlt
      refine ss_cons (s_lcN (xs := U) (enc := encN) 6 h2 [("other", 7)] (fun _ => true) (fun o => encQ (if o = u then 1 else 0)) (fun o => [.dat (encG G), .dat (encNs U), .dat (encQs gs), .rd (ks.map encQ), .mt o1 rs, .dat (encN u), .unk, .dat (encN o), .unk, .unk, .unk, .unk])
        (evi_list (ev_var 1 rfl)) (blkOk_by (N := n_means) (sc := defScope s_means) (by decide +kernel)) sc_means.nd rfl (by omega) (by simp)
        (fun D s H C cl fp x hx => bg_name 7 sc_means.nd) (fun D s H C cl fp t ht => evts_nil)
        (fun D s H C cl fp x hx _ => ev_if (z := decide (x = u)) ((evt_cmp op_eq c_eqI (ev_var 7 rfl) (ev_var 5 rfl)).cast (by
            rw [Bool.eq_iff_iff, decide_eq_true_eq, decide_eq_true_eq]; omega)) (fun z => by rw [if_pos (of_decide_eq_true z)]; exact ev_glob mO dO) (fun z => by rw [if_neg (of_decide_eq_false z)]; exact ev_glob mZ dZ))
        (fun o2 sg3 H3 no h3 => ?_) (sw_true rfl rfl rfl (by decide +kernel)))
      rw [filter_yes] at h3
      refine ss_cons (s_set 8 h3 (ev_qs (ev_var 2 rfl) (ev_var 5 rfl) hgu) (fun sg4 H4 s4 h4 => ?_) sc_means.nd)
      have e0 : (U.map fun o => encQ (if o = u then 1 else 0)) = (mrow U gs ks u ((brsAt G u).take 0)).1.map encQ := by
        show _ = (U.map fun o => if o = u then (1 : Rat) else 0).map encQ
        rw [List.map_map]; rfl
      have e0' : gs.getD u 0 = (mrow U gs ks u ((brsAt G u).take 0)).2 := rfl
      rw [e0, e0'] at h4
      refine ss_cons (s_for (xs := brsAt G u) (enc := encB) h4 (evi_list (Ev.cast (ev_call fB hr1 (eva_cons (ev_var 0 rfl) (eva_cons (ev_var 5 rfl) eva_nil)) ⟨G, u, _, rfl, hO.ok, hpu, rfl⟩) rfl))
        (fun i => [.dat (encG G), .dat (encNs U), .dat (encQs gs), .rd (ks.map encQ), .mt o1 rs, .dat (encN u), .mt o2 ((mrow U gs ks u ((brsAt G u).take i)).1.map encQ), .unk, .dat (encQ (mrow U gs ks u ((brsAt G u).take i)).2), .unk, .unk, .unk])
        (fun i b => [.dat (encG G), .dat (encNs U), .dat (encQs gs), .rd (ks.map encQ), .mt o1 rs, .dat (encN u), .mt o2 ((mrow U gs ks u ((brsAt G u).take i)).1.map encQ), .unk, .dat (encQ (mrow U gs ks u ((brsAt G u).take i)).2), .dat (encQ b.1), .dat (encN b.2), .unk])
        (fun B' sg' H' h => h.wk (by repeat (first | apply Wk.nil | apply Wk.same | apply Wk.drop))) (fun i x hx => bg_pair rfl (bg_name 9 sc_means.nd) (bg_name 10 sc_means.nd)) ?_ ?_ PassesOwn.never rfl)
      · intro B2 hB2 hout2 m y hy D2 sg6 H6 _ _ hnx2 _ h6
        have hym : y ∈ brsAt G u := List.mem_of_getElem? hy
        have hsz := hps m
        have hlm : (mrow U gs ks u ((brsAt G u).take m)).1.length = U.length := mrow_len
        have hstep : mrow U gs ks u ((brsAt G u).take (m + 1)) = mbr U ks (mrow U gs ks u ((brsAt G u).take m)) y := take_fold hy
        rw [hstep] at hnx2
        generalize hse : mrow U gs ks u ((brsAt G u).take m) = st at h6 hsz hlm hnx2
        have hy1 : Sz 100 y.1 := hbs y hym
        refine ss_one (s_if h6 (evt_inN (ev_var 10 rfl) (ev_var 1 rfl).toR) (fun H7 _ h7 z => ?_) fun H7 _ h7 z => ?_)
        · have z := of_decide_eq_true z
          have hix : U.idxOf y.2 < U.length := List.idxOf_lt_length_of_mem z
          have e : mbr U ks st y = (st.1.set (U.idxOf y.2) (st.1.getD (U.idxOf y.2) 0 - y.1), st.2) := by unfold mbr; rw [if_pos z]
          rw [e] at hnx2
          have hgx : st.1[U.idxOf y.2]? = some (st.1.getD (U.idxOf y.2) 0) := by
            rw [List.getD_eq_getElem?_getD, List.getElem?_eq_getElem (by rw [hlm]; exact hix)]; rfl
          refine ss_cons (s_set 11 h7 (Ev.cast (ev_index (EvR.cast (ev_var 1 rfl).toR (castN U)) (ev_var 10 rfl) (List.mem_map.mpr ⟨y.2, z, rfl⟩)) (show _ = encN (U.idxOf y.2) by rw [idxN])) (fun sg8 H8 _ h8 => ?_) sc_means.nd)
          refine ss_one (s_put 6 h8 rfl (ev_call fM hr2 (eva_cons (ev_ixl (n := U.idxOf y.2) (evL_var 6 rfl).toR (ev_var 11 rfl) rfl (by rw [List.getElem?_map, hgx]; rfl)) (eva_cons (ev_var 9 rfl) eva_nil)) ⟨_, _, rfl, hsz.1 _ (List.mem_of_getElem? hgx), hy1.mono (by decide), trivial, rfl⟩) (ev_var 11 rfl) rfl (by rw [List.length_map, hlm]; exact hix) (fun H9 h9 => ?_))
          refine hnx2 _ _ ?_
          rw [List.map_set]
          exact h9.wk (by repeat (first | apply Wk.nil | apply Wk.same | apply Wk.drop))
        · have z := of_decide_eq_false z
          have e : mbr U ks st y = (st.1, st.2 + y.1 * ks.getD y.2 0) := by unfold mbr; rw [if_neg z]
          rw [e] at hnx2
          have hyl : y.2 < G.length := by
            have hok := hO.ok.ok _ (List.mem_of_getElem? hpu)
            unfold brsAt at hym
            generalize G.getD u .lose = pl at hok hym
            cases pl with
            | draw bs => exact (hok.2.2.1 y hym).1
            | reward am t =>
              have : y = (1, t) := by simpa [Pl.brs] using hym
              rw [this]; exact hok.1
            | _ => simp [Pl.brs] at hym
          have hky : (ks.map encQ)[y.2]? = some (encQ (ks.getD y.2 0)) := by
            rw [List.getElem?_map, List.getD_eq_getElem?_getD, List.getElem?_eq_getElem (by rw [hO.kl]; exact hyl)]; rfl
          refine ss_one (s_set 8 h7 (ev_call fP hr2 (eva_cons (ev_var 8 rfl) (eva_cons (ev_call fT hr2 (eva_cons (ev_var 9 rfl) (eva_cons (ev_ixl (n := y.2) (evL_rd 3 rfl).toR (ev_var 10 rfl) rfl hky) eva_nil)) ⟨_, _, rfl, hy1.mono (by decide), (hO.ksz y.2).mono (by decide), trivial, rfl⟩) eva_nil)) ⟨_, _, rfl, hsz.2, (hy1.mul (hO.ksz y.2)).mono (by decide), trivial, rfl⟩) (fun sg8 H8 _ h8 => ?_) sc_means.nd)
          refine hnx2 _ _ ?_
          exact h8.wk (by repeat (first | apply Wk.nil | apply Wk.same | apply Wk.drop))
      · intro sg6 H6 h6
        rw [List.take_length] at h6
        have h7 := h6.fix1 no (i := 6) rfl
        have hlm : (mrow U gs ks u (brsAt G u)).1.length = U.length := mrow_len
        generalize mrow U gs ks u (brsAt G u) = st at h7 hlm hnx
        refine ss_one (s_app 4 h7 rfl (Ev.cast (ev_tup (eva_cons (ev_var 6 rfl) (eva_cons (ev_var 8 rfl) eva_nil)) (by simp)) (show _ = encEq U.length (rowOf U.length st) from ?_)) hlt (fun H8 h8 => ?_))
        · unfold encEq encF
          have e1 : ((List.range U.length).map fun j => encQ (rowOf U.length st j)) = st.1.map encQ := by
            apply List.ext_getElem (by simp [hlm])
            intro n g1 g2
            simp only [List.length_map] at g2
            rw [List.getElem_map, List.getElem_map, List.getElem_range]
            unfold rowOf
            rw [if_pos (by omega), List.getD_eq_getElem?_getD, List.getElem?_eq_getElem g2]; rfl
          have e2 : rowOf U.length st U.length = st.2 := by unfold rowOf; rw [if_neg (Nat.lt_irrefl _)]
          rw [e1, e2]
        · refine hnx _ _ ?_
          exact h8.wk (by repeat (first | apply Wk.nil | apply Wk.same | apply Wk.drop))
    · intro sg' H' h2
      have hall : (mrows G U gs ks).take U.length = mrows G U gs ks := List.take_of_length_le (by unfold mrows; rw [List.length_map]; exact Nat.le_refl _)
      rw [hall] at h2
      refine ss_one (s_ret (h2.fix (i := 4) rfl) (ev_call fO hr6 (eva_cons (Ev.cast (ev_len (ev_var 1 rfl).toR mn) (show _ = encN U.length by rw [List.length_map])) (eva_cons (ev_var 4 rfl) eva_nil)) ⟨U.length, mrows G U gs ks, rfl, hO.only, rfl⟩) k)
end
end K51
set_option Elab.async false
set_option linter.all false
set_option maxRecDepth 100000
set_option maxHeartbeats 1000000
set_option exponentiation.threshold 20000
namespace K51
open PySem PySem.Spec PyProof.Rows L2
def scAt (sts : List Stmt) (n : Nat) : Scope := match sts[n]? with
  | some (.Assign _ (.ListComp _ _ sc _) _) => sc
  | _ => defScope s_number
/-- a block's scope within a def, its free names as cells -/
def relab (sc sc' : Scope) : Scope := { sc with names := sc.names.map fun (n, k) => if (k == .free && sc'.kind == .function && sc'.names.lookup n == some .cell) then (n, .cell) else (n, k) }
abbrev sc_near : Scope := relab (scAt (defBody s_chances) 2) (defScope s_chances)
section
variable {P : Program} {w : World} {K : PySem.W.Frag} {mg : Str → Option Value} {base : Heap} {X : Cx} {M : Mem} {r : List Sl} {a b : Expr} {pos p q : Pos} {j : Nat}
theorem zip_enc {α β : Type} {f : α → PyData} {g : β → PyData} : ∀ {us : List α} {qs : List β}, ((us.map f).zip (qs.map g)).map (fun di => PyData.tuple [di.1, di.2]) = (us.zip qs).map fun uq => PyData.tuple [f uq.1, g uq.2] := fun {us qs} => by
  rw [List.zip_map, List.map_map]; rfl
def F_chances (ds es : List PyData) : Prop := ∃ (G : Game), ds = [encG G, encNs (goalsL G)] ∧ ChOk G ∧ es = (chv G).map encQ
theorem fn_chances (Fn : Dfn K mg "chances" s_chances ["chain", "goals"]) (fA : Fnc P w K mg base 3 "all_reached" (PureSp K F_all)) (fM : Fnc P w K mg base 7 "means" (MeansSp K)) (mn : mg "len" = none) (mr : mg "range" = none) (ma : mg "any" = none) (mz : mg "zip" = none)
    {aZ aO : Addr} (mZ : mg "NOUGHT" = some (.ref aZ)) (dZ : ∀ H : Hp, Dp K H (.ref aZ) (encQ 0)) (mO : mg "ONE" = some (.ref aO)) (dO : ∀ H : Hp, Dp K H (.ref aO) (encQ 1)) : Fnc P w K mg base 8 "chances" (PureSpF K F_chances) := by
  refine pure_defF Fn sc_chances (fun ds d h => ?_) (fun f cdv A outer s H E M ds d hr h sg hsr D k => ?_)
  · obtain ⟨G, rfl, _⟩ := h; rfl
  · obtain ⟨G, rfl, hC, rfl⟩ := h
    have hG := hC.ok
    have hN12 := hG.few
    have hgl : (goalsL G).length ≤ 12 := Nat.le_trans plcB_len hN12
    have hr3 : Room 3 (CxD P w K mg base n_chances "chances" s_chances f cdv A outer s H E).A := hr.mono (by decide)
    have hnl : (nearL G).length ≤ 12 := by
      unfold nearL; exact Nat.le_trans (List.length_filter_le _ _) (by rw [List.length_range]; exact hN12)
    refine ss_cons (s_set 2 hsr (ev_call fA hr3 (eva_cons (ev_var 0 rfl) eva_nil) ⟨G, rfl, hG, rfl⟩) (fun sg1 H1 s1 h1 => ?_) sc_chances.nd)
    refine ss_cons (s_lcF (xs := List.range G.length) (enc := encN) 3 h1 [("place", 4)] (fun _ => true) (fun i => encQ (if i ∈ goalsL G then 1 else 0)) (fun i => [.dat (encG G), .dat (encNs (goalsL G)), .dat (.list ((List.range G.length).map fun i => encNs (rl G i))), .unk, .dat (encN i), .unk, .unk, .unk, .unk, .unk])
      ((evi_range (ev_len (ev_var 0 rfl).toR mn) (by omega) (by rw [List.length_map]; omega) mr).cast (by rw [List.length_map, Int.toNat_natCast])) (blkOk_by (N := n_chances) (sc := defScope s_chances) (by decide +kernel)) sc_chances.nd rfl (by rw [List.length_range]; omega) (by simp)
      (fun D s H C cl fp x hx => bg_name 4 sc_chances.nd) (fun D s H C cl fp t ht => evts_nil)
      (fun D s H C cl fp x hx _ => ev_if (z := decide (x ∈ goalsL G)) (evt_inN (ev_var 4 rfl) (ev_var 1 rfl).toR) (fun z => by rw [if_pos (of_decide_eq_true z)]; exact ev_glob mO dO) (fun z => by rw [if_neg (of_decide_eq_false z)]; exact ev_glob mZ dZ))
      (fun o sg2 H2 s2 h2 => ?_) (sw_true rfl rfl rfl (by decide +kernel)))
    have e0 : ((List.range G.length).filter (fun _ => true)).map (fun i => encQ (if i ∈ goalsL G then 1 else 0)) = (baseL G).map encQ := by
      rw [filter_yes]; unfold baseL; rw [List.map_map]; rfl
    rw [e0] at h2
    refine ss_cons (s_lcD (xs := List.range G.length) (enc := encN) 5 h2 [("place", 4)] (fun i => ((goalsL G).map fun g => decide (g ∈ rl G i)).any id) encN (fun i => [.dat (encG G), .dat (encNs (goalsL G)), .dat (.list ((List.range G.length).map fun i => encNs (rl G i))), .mt o ((baseL G).map encQ), .dat (encN i), .unk, .unk, .unk, .unk, .unk])
      ((evi_range (ev_len (ev_var 0 rfl).toR mn) (by omega) (by rw [List.length_map]; omega) mr).cast (by rw [List.length_map, Int.toNat_natCast])) (blkOk_by (N := n_chances) (sc := defScope s_chances) (by decide +kernel)) sc_chances.nd rfl (by rw [List.length_range]; omega) (by simp)
      (fun D s H C cl fp x hx => bg_name 4 sc_chances.nd)
      (fun D s H C cl fp x hx => evts_one (evt_val (ev_any (EvF.toR (EvF.cast (evf_lc' (xs := goalsL G) (enc := encN) [("goal", 6)] (fun g => .bool (decide (g ∈ rl G x))) (fun g => [.dat (encG G), .dat (encNs (goalsL G)), .dat (.list ((List.range G.length).map fun i => encNs (rl G i))), .mt o ((baseL G).map encQ), .dat (encN x), .unk, .dat (encN g), .unk, .unk, .unk])
        (evi_list (ev_var 1 rfl)) (blkOk_by (N := n_chances) (sc := sc_near) (by decide +kernel)) sc_chances.nd rfl (by omega) (by simp)
        (fun D s H C cl fp g hg => bg_name 6 sc_chances.nd) (fun D s H C cl fp g hg => ev_inN (ev_var 6 rfl) (Ev.toR (ev_ixl (n := x) (ev_var 2 rfl).toR (ev_var 4 rfl) rfl (rng_get _ (List.mem_range.mp hx)))))) (by rw [List.map_map]; rfl))) ma)))
      (fun D s H C cl fp x hx _ => ev_var 4 rfl) (fun sg3 H3 s3 h3 => ?_) (sw_true rfl rfl rfl (by decide +kernel)))
    refine ss_cons (s_lcD (xs := nearL G) (enc := encN) 7 h3 [("place", 4)] (fun i => !decide (i ∈ goalsL G)) encN (fun i => [.dat (encG G), .dat (encNs (goalsL G)), .dat (.list ((List.range G.length).map fun i => encNs (rl G i))), .mt o ((baseL G).map encQ), .dat (encN i), .dat (encNs (nearL G)), .unk, .unk, .unk, .unk])
      (evi_list (ev_var 5 rfl)) (blkOk_by (N := n_chances) (sc := defScope s_chances) (by decide +kernel)) sc_chances.nd rfl (by omega) (by simp)
      (fun D s H C cl fp x hx => bg_name 4 sc_chances.nd) (fun D s H C cl fp x hx => evts_one (evt_ninN (ev_var 4 rfl) (ev_var 1 rfl).toR))
      (fun D s H C cl fp x hx _ => ev_var 4 rfl) (fun sg4 H4 s4 h4 => ?_) (sw_true rfl rfl rfl (by decide +kernel)))
    refine ss_cons (s_set 8 h4 (ev_means fM hr (ev_var 0 rfl) (Ev.cast (ev_var 7 rfl) (show _ = encNs (unkL G) from rfl)) (Ev.cast (EvF.toE (evf_lc' (xs := G) (enc := encPl) [("place", 4)] (fun _ => encQ 0) (fun pl => [.dat (encG G), .dat (encNs (goalsL G)), .dat (.list ((List.range G.length).map fun i => encNs (rl G i))), .mt o ((baseL G).map encQ), .dat (encPl pl), .dat (encNs (nearL G)), .unk, .dat (encNs (unkL G)), .unk, .unk])
      (evi_list (ev_var 0 rfl)) (blkOk_by (N := n_chances) (sc := defScope s_chances) (by decide +kernel)) sc_chances.nd rfl (by omega) (by simp) (fun D s H C cl fp x hx => bg_name 4 sc_chances.nd) (fun D s H C cl fp x hx => ev_glob mZ dZ))) (show _ = encQs (nilL G) by unfold nilL encQs; rw [List.map_map]; rfl)) (evL_var 3 rfl) hC) (fun sg5 H5 s5 h5 => ?_) sc_chances.nd)
    refine ss_cons (s_for (xs := (unkL G).zip (solL G)) (enc := fun uq => .tuple [encN uq.1, encQ uq.2]) h5 ((evi_zip (ev_var 7 rfl) (ev_var 8 rfl) mz).cast zip_enc)
      (fun i => [.dat (encG G), .unk, .unk, .mt o (((((unkL G).zip (solL G)).take i).foldl fset (baseL G)).map encQ), .unk, .unk, .unk, .unk, .unk, .unk])
      (fun i uq => [.dat (encG G), .unk, .unk, .mt o (((((unkL G).zip (solL G)).take i).foldl fset (baseL G)).map encQ), .dat (encN uq.1), .unk, .unk, .unk, .unk, .dat (encQ uq.2)])
      (fun B' sg' H' h => h.wk (by repeat (first | apply Wk.nil | apply Wk.same | apply Wk.drop))) (fun i x hx => bg_pair rfl (bg_name 4 sc_chances.nd) (bg_name 9 sc_chances.nd)) ?_ ?_ PassesOwn.never rfl)
    · intro B' hB hout i uq hx D' sg' H' _ _ hnx _ h6
      rw [take_fold hx] at hnx
      have hu : uq.1 ∈ unkL G := (List.of_mem_zip (show (uq.1, uq.2) ∈ _ from List.mem_of_getElem? hx)).1
      have hl : uq.1 < (((((unkL G).zip (solL G)).take i).foldl fset (baseL G)).map encQ).length := by
        rw [List.length_map, fset_len]
        simpa [baseL] using hC.lt _ hu
      refine ss_one (s_put 3 h6 rfl (ev_var 9 rfl) (ev_var 4 rfl) rfl hl (fun H7 h7 => ?_))
      refine hnx _ _ ?_
      have e : (fset ((((unkL G).zip (solL G)).take i).foldl fset (baseL G)) uq).map encQ = (((((unkL G).zip (solL G)).take i).foldl fset (baseL G)).map encQ).set uq.1 (encQ uq.2) := by
        unfold fset; rw [List.map_set]
      rw [e]
      exact h7.wk (by repeat (first | apply Wk.nil | apply Wk.same | apply Wk.drop))
    · intro sg' H' h6
      rw [List.take_length] at h6
      exact ss_one (s_retM 3 h6 rfl (k o))
def F_finishing (ds es : List PyData) : Prop := ∃ (G : Game) (s t : Strat), ds = [encG G, encS s, encS t] ∧ GOk G ∧ SOk .o G s ∧ SOk .t G t ∧ ChOk (chain G s t) ∧ es = (fin G s t).map encQ
theorem fn_finishing (Fn : Dfn K mg "finishing" s_finishing ["game", "ours", "theirs"]) (fW : Fnc P w K mg base 2 "with_strategy" (PureSp K F_with)) (fP : Fnc P w K mg base 1 "places_of" (PureSp K F_places)) (fC : Fnc P w K mg base 8 "chances" (PureSpF K F_chances)) : Fnc P w K mg base 9 "finishing" (PureSpF K F_finishing) := by
  refine pure_defF Fn sc_finishing (fun ds d h => ?_) (fun f cdv A outer s H E M ds d hr h sg hsr D k => ?_)
  · obtain ⟨G, s, t, rfl, _⟩ := h; rfl
  · obtain ⟨G, so, st, rfl, hG, hS, hT, hC, rfl⟩ := h
    have hr2 : Room 2 (CxD P w K mg base n_finishing "finishing" s_finishing f cdv A outer s H E).A := hr.mono (by decide)
    have hr1 : Room 1 (CxD P w K mg base n_finishing "finishing" s_finishing f cdv A outer s H E).A := hr.mono (by decide)
    refine ss_cons (s_set 3 hsr (ev_call fW hr2 (eva_cons (ev_call fW hr2 (eva_cons (ev_var 0 rfl) (eva_cons ev_str (eva_cons (ev_var 1 rfl) eva_nil))) ⟨G, .o, so, rfl, hG, hS, rfl⟩) (eva_cons ev_str (eva_cons (ev_var 2 rfl) eva_nil))) ⟨withS .o G so, .t, st, rfl, withS_ok hG hS, sok_t hT, rfl⟩) (fun sg1 H1 s1 h1 => ?_) sc_finishing.nd)
    refine ss_one (s_retF h1 (evf_call fC hr (eva_cons (ev_var 3 rfl) (eva_cons (Ev.cast (ev_call fP hr1 (eva_cons (ev_var 3 rfl) (eva_cons ev_str eva_nil)) ⟨chain G so st, _, rfl, hC.ok, rfl⟩) (show _ = encNs (goalsL (chain G so st)) by rw [plc_fin]; rfl)) eva_nil)) ⟨chain G so st, rfl, hC, rfl⟩) k)
theorem eqv_o (x y : Option Nat) : PyData.eqv (encO x) (encO y) = decide (x = y) := by
  cases x with
  | none => cases y <;> rfl
  | some x =>
    cases y with
    | none => rfl
    | some y =>
      show ((x : Int) == (y : Int)) = _
      rw [Bool.eq_iff_iff, beq_iff_eq, decide_eq_true_eq, Option.some.injEq]
      omega
end
end K51
set_option Elab.async false
set_option linter.all false
set_option maxRecDepth 100000
set_option maxHeartbeats 1000000
set_option exponentiation.threshold 20000
namespace K51
open PySem PySem.Spec PyProof.Rows L2
section
variable {α : Type} {enc : α → PyData}
theorem lay_map (h : ∀ x, (enc x).canLay0 = true) : ∀ xs : List α, PyData.canLayAll0 (xs.map enc) = true
  | [] => rfl
  | x :: xs => by
    show PyData.canLayAll0 (enc x :: xs.map enc) = true
    rw [PyData.canLayAll0, h x, lay_map h xs]; rfl
theorem depth_map {k : Nat} (h : ∀ x, (enc x).depth ≤ k) : ∀ xs : List α, PyData.depthAll (xs.map enc) ≤ k
  | [] => Nat.zero_le _
  | x :: xs => by
    show PyData.depthAll (enc x :: xs.map enc) ≤ k
    rw [PyData.depthAll]
    exact Nat.max_le.mpr ⟨h x, depth_map h xs⟩
theorem shaped_map {k : Nat} (h1 : ∀ x, (enc x).canLay0 = true) (h2 : ∀ x, (enc x).depth ≤ k) (hk : k + 1 ≤ 64) (xs : List α) : SeqAt.shaped (.list (xs.map enc)) = true := by
  unfold SeqAt.shaped
  rw [Bool.and_eq_true, decide_eq_true_eq]
  refine ⟨?_, ?_⟩
  · rw [PyData.canLay0]; exact lay_map h1 xs
  · rw [PyData.depth]
    have := depth_map h2 xs
    omega
theorem eqv_map [DecidableEq α] (h : ∀ x y, PyData.eqv (enc x) (enc y) = decide (x = y)) : ∀ xs ys : List α, PyData.eqv (.list (xs.map enc)) (.list (ys.map enc)) = decide (xs = ys) := by
  have aux : ∀ xs ys : List α, PyData.eqvAll (xs.map enc) (ys.map enc) = decide (xs = ys) := by
    intro xs
    induction xs with
    | nil =>
      intro ys
      cases ys with
      | nil => simp [PyData.eqvAll]
      | cons y ys => simp [PyData.eqvAll]
    | cons x xs ih =>
      intro ys
      cases ys with
      | nil => simp [PyData.eqvAll]
      | cons y ys =>
        rw [List.map_cons, List.map_cons, PyData.eqvAll, h, ih]
        rw [Bool.eq_iff_iff]
        simp
  intro xs ys
  rw [PyData.eqv]; exact aux xs ys
end
theorem lay_o (o : Option Nat) : (encO o).canLay0 = true := by cases o <;> rfl
theorem dep_o (o : Option Nat) : (encO o).depth ≤ 1 := by cases o <;> simp [encO, PyData.depth]
theorem lay_q (q : Rat) : (encQ q).canLay0 = true := rfl
theorem dep_q (q : Rat) : (encQ q).depth ≤ 2 := by simp [encQ, PyData.depth, PyData.depthAll]
theorem shaped_s (s : Strat) : SeqAt.shaped (encS s) = true := shaped_map lay_o dep_o (by decide) s
theorem shaped_qs (v : List Rat) : SeqAt.shaped (encQs v) = true := shaped_map lay_q dep_q (by decide) v
theorem eqv_s (s t : Strat) : PyData.eqv (encS s) (encS t) = decide (s = t) := eqv_map eqv_o s t
theorem eqv_qs (s t : List Rat) : PyData.eqv (encQs s) (encQs t) = decide (s = t) := eqv_map eqv_q s t
section
variable {P : Program} {w : World} {K : PySem.W.Frag} {mg : Str → Option Value} {base : Heap} {X : Cx} {M : Mem} {r : List Sl} {a b : Expr} {pos p q : Pos} {j : Nat}
theorem c_neS' {s t : Strat} : CmpOk X M (rNeD X.K) (encS s) (encS t) (!decide (s = t)) := eqv_s s t ▸ c_neD (shaped_s s) (shaped_s t)
theorem c_eqQs {s t : List Rat} : CmpOk X M (rEqD X.K) (encQs s) (encQs t) (decide (s = t)) := eqv_qs s t ▸ c_eqD (shaped_qs s) (shaped_qs t)
/-- leaves do not go through a list -/
theorem leaf_q {K : PySem.W.Frag} {M : Mem} {H : Hp} {o : Addr} {ys : List V} (ho : H o = some (.lst ys)) : ∀ {v : V} {q : Rat}, Dp K (hid M H) v (encQ q) → Dp K (hid (o :: M) H) v (encQ q) := fun {v q} h => by
  obtain ⟨a, xs, rfl, s, d⟩ := dp_tup h
  refine Dp.tup (xs := xs) ?_ ?_
  · · rcases s with (s | ⟨c, s⟩) | s
      · refine .inl (.inl ?_)
        have hb := hid_le _ _ s
        by_cases e : a = o
        · rw [e, ho] at hb; cases hb
        · rw [hid_out fun z => (List.mem_cons.mp z).elim e fun z => by rw [hid_in z] at s; cases s]; exact hb
      · refine .inl (.inr ⟨c, ?_⟩)
        have hb := hid_le _ _ s
        by_cases e : a = o
        · rw [e, ho] at hb; cases hb
        · rw [hid_out fun z => (List.mem_cons.mp z).elim e fun z => by rw [hid_in z] at s; cases s]; exact hb
      · exact .inr s
  · · cases d with
      | cons d1 d2 =>
        cases d2 with
        | cons d2 d3 =>
          cases d3
          rw [dp_int d1, dp_int d2]
          exact .cons (.int _) (.cons (.int _) .nil)
theorem leaf_qs {K : PySem.W.Frag} {M : Mem} {H : Hp} {o : Addr} {ys : List V} (ho : H o = some (.lst ys)) : ∀ {qs : List Rat} {vs : List V}, DpAll K (hid M H) vs (qs.map encQ) → DpAll K (hid (o :: M) H) vs (qs.map encQ)
  | [], _, .nil => .nil
  | q :: qs, _, .cons h t => .cons (leaf_q ho h) (leaf_qs ho t)
theorem leaf_os {K : PySem.W.Frag} {H H' : Hp} : ∀ {s : Strat} {vs : List V}, DpAll K H vs (s.map encO) → DpAll K H' vs (s.map encO)
  | [], _, .nil => .nil
  | none :: s, _, .cons h t => .cons (by rw [dp_non h]; exact .non) (leaf_os t)
  | some i :: s, _, .cons h t => .cons (by rw [dp_int h]; exact .int _) (leaf_os t)
def Stop (G : Game) (t : Strat) (k : Nat) : Prop := (∀ j, j < k → gaIt G t (j + 1) ≠ gaIt G t j) ∧ gaIt G t (k + 1) = gaIt G t k
theorem stop_uniq {G : Game} {t : Strat} {k l : Nat} (h1 : Stop G t k) (h2 : Stop G t l) : k = l := by
  rcases Nat.lt_trichotomy k l with h | h | h
  · exact absurd h1.2 (h2.1 k h)
  · exact h
  · exact absurd h2.2 (h1.1 l h)
def GaSp (K : PySem.W.Frag) : Sp := fun vs H Q _ => ∃ (M : Mem) (G : Game) (t : Strat), (∀ m ∈ M, H m ≠ none) ∧ DpAll K (hid M H) vs [encG G, encS t] ∧ GaOk G t ∧
  ∀ (k : Nat) (c p1 p2 : Addr) (xs1 xs2 : List V) (H' : Hp), Stop G t k → Same H H' → H p1 = none → H p2 = none → H c = none → H' p1 = some (.lst xs1) → H' p2 = some (.lst xs2) → H' c = some (.tup [.ref p1, .ref p2]) →
    DpAll K (hid (p1 :: p2 :: M) H') xs1 ((fin G (gaIt G t k) t).map encQ) → DpAll K (hid (p1 :: p2 :: M) H') xs2 ((gaIt G t k).map encO) → Q (.ref c) H'
theorem fn_greatest (Fn : Dfn K mg "greatest_against" s_greatest_against ["game", "theirs"]) (fF : Fnc P w K mg base 9 "finishing" (PureSpF K F_finishing)) (fI : Fnc P w K mg base 3 "improved" (PureSpF K F_improved)) (f1 : Fnc P w K mg base 1 "first_choices" (PureSpF K F_first)) : Fnc P w K mg base 10 "greatest_against" (GaSp K) := by
  obtain ⟨f, fd, g1, g2, g3⟩ := Fn.ex
  refine ⟨f, fd, _, g1, g2.kp, g3, g2.ok sc_greatest_against (fun vs H Q E h => ?_) (fun cdv A outer s H vs Q E hr h => ?_)⟩
  · obtain ⟨M, G, t, h1, h2, _⟩ := h
    rw [dpa_len h2]; rfl
  · obtain ⟨M, G, t, hM, hd, hO, k⟩ := h
    refine ⟨_, ss_wp, ?_⟩
    have hsr := sr_start (N := n_greatest_against) hM hd
    have hr9 : Room 9 (CxD P w K mg base n_greatest_against "greatest_against" s_greatest_against f cdv A outer s H E).A := hr
    have hr3 : Room 3 (CxD P w K mg base n_greatest_against "greatest_against" s_greatest_against f cdv A outer s H E).A := hr9.mono (by decide)
    have hr1 : Room 1 (CxD P w K mg base n_greatest_against "greatest_against" s_greatest_against f cdv A outer s H E).A := hr9.mono (by decide)
    show wpSs (CxD P w K mg base n_greatest_against "greatest_against" s_greatest_against f cdv A outer s H E) (defBody s_greatest_against) _ _ _
    have hG := hO.ok
    have hit : ∀ k, SOk .o G (gaIt G t k) := fun k => gaIt_ok hG k
    have hfin : ∀ k, F_finishing [encG G, encS (gaIt G t k), encS t] ((fin G (gaIt G t k) t).map encQ) := fun k => ⟨G, _, t, rfl, hG, hit k, hO.st, hO.ch _ (hit k), rfl⟩
    have himp : ∀ k, F_improved [encG G, encS (gaIt G t k), .list ((fin G (gaIt G t k) t).map encQ)] ((gaIt G t (k + 1)).map encO) := fun k => ⟨G, _, _, rfl, hG, hit k, fin_len, hO.sz _ (hit k), rfl⟩
    obtain ⟨mu, hmu⟩ := hO.mu
    refine ss_cons (s_setR 2 hsr (evf_call f1 hr1 (eva_cons (ev_var 0 rfl) (eva_cons ev_str eva_nil)) ⟨G, .o, rfl, hG, rfl⟩) (fun sg1 H1 s1 h1 => ?_) sc_greatest_against.nd)
    refine ss_cons (s_setR 3 h1 (evf_call fF hr9 (eva_cons (ev_var 0 rfl) (eva_cons (ev_fr 2 rfl) (eva_cons (ev_var 1 rfl) eva_nil))) (hfin 0)) (fun sg2 H2 s2 h2 => ?_) sc_greatest_against.nd)
    refine ss_cons (s_setR 4 h2 (evf_call fI hr3 (eva_cons (ev_var 0 rfl) (eva_cons (ev_fr 2 rfl) (eva_cons (ev_fr 3 rfl) eva_nil))) (himp 0)) (fun sg3 H3 s3 h3 => ?_) sc_greatest_against.nd)
    refine ss_cons (s_while (α := Nat) h3 (fun k => ∀ j, j < k → gaIt G t (j + 1) ≠ gaIt G t j) (fun k => [.dat (encG G), .dat (encS t), .fr ((gaIt G t k).map encO), .fr ((fin G (gaIt G t k) t).map encQ), .fr ((gaIt G t (k + 1)).map encO)])
      (fun k => !decide (gaIt G t (k + 1) = gaIt G t k)) mu 0 (fun j hj => absurd hj (Nat.not_lt_zero _)) rfl
      (fun k _ => evt_cmp (op_neD hr.units) c_neS' (ev_fr 4 rfl) (ev_fr 2 rfl)) ?_ ?_ PassesOwn.never)
    · intro n hn hne D' sg' H' _ _ hnx _ h4
      have hne : gaIt G t (n + 1) ≠ gaIt G t n := by
        intro e
        rw [decide_eq_true e] at hne; cases hne
      refine ss_cons (s_mvR 2 4 h4 rfl (fun sg5 H5 s5 h5 => ?_) sc_greatest_against.nd)
      refine ss_cons (s_setR 3 h5 (evf_call fF hr9 (eva_cons (ev_var 0 rfl) (eva_cons (ev_fr 2 rfl) (eva_cons (ev_var 1 rfl) eva_nil))) (hfin (n + 1))) (fun sg6 H6 s6 h6 => ?_) sc_greatest_against.nd)
      refine ss_one (s_setR 4 h6 (evf_call fI hr3 (eva_cons (ev_var 0 rfl) (eva_cons (ev_fr 2 rfl) (eva_cons (ev_fr 3 rfl) eva_nil))) (himp (n + 1))) (fun sg7 H7 s7 h7 => ?_) sc_greatest_against.nd)
      refine hnx _ _ (n + 1) (fun j hj => ?_) (hmu n hne) h7
      by_cases e : j = n
      · rw [e]; exact hne
      · exact hn j (by omega)
    · intro n hn hne sg' H' h4
      have he : gaIt G t (n + 1) = gaIt G t n := by
        refine Decidable.byContradiction fun e => ?_
        rw [decide_eq_false e] at hne; cases hne
      refine ss_one (s_of (ps_ret (pe_tup (pa_cons (pe_var (show (_ : List Str)[3]? = some _ from rfl) (Or.inl rfl)) (pa_cons (pe_var (show (_ : List Str)[2]? = some _ from rfl) (Or.inl rfl)) pa_nil)))) ?_)
      obtain ⟨o1, xs1, a1, a2, a3, a4, a5⟩ := h4.frS (i := 3) rfl
      obtain ⟨o2, xs2, b1, b2, b3, b4, b5⟩ := h4.frS (i := 2) rfl
      refine ⟨_, a1, _, b1, (by show 2 ≤ sizeLine; decide), fun c hc => ?_⟩
      have sc := same_upd (o := HO.tup [.ref o1, .ref o2]) hc
      have c1 : upd H' c (HO.tup [.ref o1, .ref o2]) o1 = some (.lst xs1) := sc _ _ a4
      have c2 : upd H' c (HO.tup [.ref o1, .ref o2]) o2 = some (.lst xs2) := sc _ _ b4
      refine k n c o1 o2 xs1 xs2 _ ⟨hn, he⟩ (h4.same.trans sc) a3 b3 (h4.same.free hc) c1 c2 upd_same ?_ (leaf_os b5)
      exact leaf_qs c1 (leaf_qs c2 (dpa_mono (hid_sub fun m hm => List.mem_cons_of_mem _ hm) (dpa_mono (hid_mono sc) a5)))
end
end K51
set_option Elab.async false
set_option linter.all false
set_option maxRecDepth 100000
set_option maxHeartbeats 1000000
set_option exponentiation.threshold 20000
namespace K51
open PySem PySem.Spec PyProof.Rows L2
section
variable {P : Program} {w : World} {K : PySem.W.Frag} {mg : Str → Option Value} {base : Heap} {X : Cx} {M : Mem} {r : List Sl} {a b : Expr} {pos p q : Pos} {i j : Int}
theorem ev_min (ha : Ev X M r a (.int i)) (hb : Ev X M r b (.int j)) (hm : X.mg "min" = none) (hc : X.calm = true := by rfl) (hg : Gl X "min" := by rfl)
    (hst : starEach [a, b] X.env = (false, eval a X.env) :: starEach [b] X.env := by rfl) (hst2 : starEach [b] X.env = (false, eval b X.env) :: starEach [] X.env := by rfl) (hpl : (backTo pos (starEach [b] X.env)).any (·.1) = false := by rfl) :
    Ev X M r (.Call (.Name "min" p) [a, b] [] pos) (.int (if j < i then j else i)) := fun B sg H Q hs k => by
  refine e_of (pe_callB (call_min2 hc) hg hm (by decide +kernel) (pa_cons e_wp (pa_cons e_wp pa_nil hst2) hst) (he := hst) (hpl := hpl)) ?_
  refine ha B sg H _ hs fun v H1 s1 q1 => ?_
  refine hb B sg H1 _ (hs.mono s1) fun u H2 s2 q2 => ?_
  rw [dp_int q1, dp_int q2]
  exact ⟨i, j, rfl, k _ H2 (s1.trans s2) (.int _)⟩
theorem ev_pow (hc : CPow i j) (ha : Ev X M r a (.int i)) (hb : Ev X M r b (.int j)) : Ev X M r (.BinOp a .Pow b pos) (.int (i ^ j.toNat)) := ev_op op_pow (c_rI (g := fun i j => i ^ j.toNat) hc) ha hb
theorem ev_fdivS (hc : CDiv i j) (ha : Ev X M r a (.int i)) (hb : Ev X M r b (.int j)) : Ev X M r (.BinOp a .FloorDiv b pos) (.int (i / j)) := ev_op op_fdiv (c_rI (g := fun i j => i / j) hc) ha hb
def NewPool (K : PySem.W.Frag) : Sp := fun vs H Q _ => ∃ (M : Mem) (ns : List Int), (∀ m ∈ M, H m ≠ none) ∧ DpAll K (hid M H) vs [.list (ns.map PyData.int)] ∧ ns.length ≤ 1000 ∧
  ∀ (p : Addr) (ps : List Int) (H' : Hp), 300 ≤ ps.length → ps.length ≤ 9000 → Same H H' → H p = none → H' p = some (.lst (ps.map V.int)) → Q (.ref p) H'
theorem cmul_c {i j : Int} (h : -(2 ^ 64) < j ∧ j < 2 ^ 64) : CMul i j := .inr h
theorem fn_law_pool (Fn : Dfn K mg "_law_pool" s_law_pool ["_law_script"]) (mr : mg "range" = none) (mn : mg "len" = none) (mm : mg "min" = none) (mi : mg "int" = none) : Fnc P w K mg base 1 "_law_pool" (NewPool K) := by
  obtain ⟨f, fd, g1, g2, g3⟩ := Fn.ex
  refine ⟨f, fd, _, g1, g2.kp, g3, g2.ok sc_law_pool (fun vs H Q E h => ?_) (fun cdv A outer s H vs Q E hr h => ?_)⟩
  · obtain ⟨M, ns, h1, h2, _⟩ := h
    rw [dpa_len h2]; rfl
  · obtain ⟨M, ns, hM, hd, hn, k⟩ := h
    refine ⟨_, ss_wp, ?_⟩
    have hsr := sr_start (N := n_law_pool) hM hd
    show wpSs (CxD P w K mg base n_law_pool "_law_pool" s_law_pool f cdv A outer s H E) (defBody s_law_pool) _ _ _
    have nd := sc_law_pool.nd
    refine ss_cons (s_setF 1 hsr (evf_lst eva_nil (by simp)) (fun o sg1 H1 s1 h1 => ?_) nd)
    refine ss_cons (s_set 2 h1 ev_int (fun sg2 H2 s2 h2 => ?_) nd)
    have hmin : (if (63 : Int) < (ns.map PyData.int).length then (63 : Int) else (ns.map PyData.int).length) = ((min ns.length 63 : Nat) : Int) := by
      rw [List.length_map]
      split <;> omega
    refine ss_cons (s_forN (n := min ns.length 63) h2 ((ev_min (ev_len (ev_var 0 rfl).toR mn) ev_int mm).cast (by rw [hmin])) (by omega)
      (fun i sg' H' => ∃ o M' ps st, ps.length ≤ 60 * i ∧ SR K ⟨H, M⟩ M' [.dat (.list (ns.map PyData.int)), .mt o (pInts ps), .dat (.int st), .unk, .unk, .unk, .unk, .unk] sg' H')
      (fun H' h => ⟨o, _, [], 17, by simp, h⟩) ?_ ?_ mr PassesOwn.never rfl)
    · rintro i hi sg' H' D' ⟨o, M', ps, st, hl, h3⟩ _ _ hnx _
      have hni : i < ns.length := by omega
      refine BG.run (bg_name 3 nd) h3 (.int _) fun sg3 h4 => ?_
      generalize hc : ns[i] = c
      have hci : (ns.map PyData.int)[i]? = some (.int c) := by rw [List.getElem?_map, List.getElem?_eq_getElem hni, hc]; rfl
      refine ss_cons (s_set 4 h4 (ev_ixl (n := i) (ev_var 0 rfl).toR (ev_var 3 rfl) rfl hci) (fun sg5 H5 _ h5 => ?_) nd)
      refine ss_cons (s_set 2 h5 (ev_mod (by decide) (ev_intOf (ev_add (ev_add (ev_mulS (cmul_c (by decide)) (ev_var 2 rfl) ev_int) (ev_mulS (cmul_c (by decide)) (ev_var 4 rfl) ev_int)) (ev_var 3 rfl)) mi) ev_int) (fun sg6 H6 _ h6 => ?_) nd)
      generalize ((st * 69621 + c * 48271 + (i : Int)) % 2147483647) = st2 at h6
      refine ss_one (s_if h6 (evt_cmp op_ge c_ge (ev_var 4 rfl) (ev_pow (i := 10) (j := 18) (by unfold CPow; decide) ev_int ev_int)) (fun H7 _ h7 _ => ?_) fun H7 _ h7 _ => ?_)
      · refine ss_one (s_forN (n := 60) h7 ev_int (by omega)
          (fun j sg' H' => ∃ ps c, ps.length ≤ 60 * i + j ∧ SR K ⟨H, M⟩ M' [.dat (.list (ns.map PyData.int)), .mt o (pInts ps), .dat (.int st2), .unk, .dat (.int c), .unk, .unk, .unk] sg' H')
          (fun H' h => ⟨ps, c, by omega, h.wk (by repeat (first | apply Wk.nil | apply Wk.same | apply Wk.drop))⟩) ?_ ?_ mr PassesOwn.never rfl)
        · rintro j hj sg8 H8 D8 ⟨ps8, c8, hl8, h8⟩ _ _ hnx8 _
          refine BG.run (bg_name 5 nd) h8 (.int _) fun sg9 h9 => ?_
          refine ss_cons (s_app 1 h9 rfl (ev_mod (by decide) (ev_intOf (ev_var 4 rfl) mi) ev_int) (by rw [List.length_map]; omega) (fun HA hA => ?_))
          refine ss_one (s_set 4 hA (ev_fdivS (by unfold CDiv; decide) (ev_var 4 rfl) ev_int) (fun sgB HB _ hB => ?_) nd)
          refine hnx8 _ _ ⟨ps8 ++ [c8 % 60], c8 / 60, by rw [List.length_append, List.length_singleton]; omega, ?_⟩
          have e : pInts (ps8 ++ [c8 % 60]) = pInts ps8 ++ [.int (c8 % 60)] := by unfold pInts; rw [List.map_append]; rfl
          rw [e]
          exact hB.wk (by repeat (first | apply Wk.nil | apply Wk.same | apply Wk.drop))
        · rintro sg8 H8 ⟨ps8, c8, hl8, h8⟩
          exact hnx _ _ ⟨o, M', ps8, st2, by omega, h8.wk (by repeat (first | apply Wk.nil | apply Wk.same | apply Wk.drop))⟩
      · refine ss_cons (s_set 6 h7 (ev_mod (by decide) (ev_intOf (ev_add (ev_add (ev_mulS (cmul_c (by decide)) (ev_var 4 rfl) ev_int) (ev_mulS (cmul_c (by decide)) (ev_var 3 rfl) ev_int)) ev_int) mi) ev_int) (fun sg8 H8 _ h8 => ?_) nd)
        refine ss_cons (s_set 7 h8 (ev_mod (by decide) (ev_intOf (ev_add (ev_add (ev_mulS (cmul_c (by decide)) (ev_var 6 rfl) ev_int) (ev_mulS (cmul_c (by decide)) (ev_var 4 rfl) ev_int)) (ev_var 3 rfl)) mi) ev_int) (fun sg9 H9 _ h9 => ?_) nd)
        refine ss_one (s_setF 1 h9 (evf_cat (evL_var 1 rfl) (EvF.toL (evf_lst (eva_cons (ev_mod (by decide) (ev_intOf (ev_fdivS (by unfold CDiv; decide) (ev_var 6 rfl) ev_int) mi) ev_int) (eva_cons (ev_mod (by decide) (ev_intOf (ev_var 7 rfl) mi) ev_int) eva_nil)) (by simp))) (by simp only [List.length_map, List.length_cons, List.length_nil]; omega)) (fun o2 sgA HA _ hA => ?_) nd)
        obtain ⟨x, y, hB⟩ : ∃ x y : Int, SR K ⟨H, M⟩ (o2 :: M') [.dat (.list (ns.map PyData.int)), .mt o2 (pInts ps ++ [.int x, .int y]), .dat (.int st2), .unk, .unk, .unk, .unk, .unk] sgA HA :=
          ⟨_, _, hA.wk (by repeat (first | apply Wk.nil | apply Wk.same | apply Wk.drop))⟩
        refine hnx _ _ ⟨o2, o2 :: M', ps ++ [x, y], st2, by simp only [List.length_append, List.length_cons, List.length_nil]; omega, ?_⟩
        have e : pInts (ps ++ [x, y]) = pInts ps ++ [.int x, .int y] := by unfold pInts; rw [List.map_append]; rfl
        rw [e]
        exact hB
    · rintro sg' H' ⟨o, M', ps, st, hl, h3⟩
      refine ss_cons (s_forN (n := 300) h3 ev_int (by omega)
          (fun j sg' H' => ∃ ps st, ps.length ≤ 5000 + j ∧ j ≤ ps.length ∧ SR K ⟨H, M⟩ M' [.dat (.list (ns.map PyData.int)), .mt o (pInts ps), .dat (.int st), .unk, .unk, .unk, .unk, .unk] sg' H')
          (fun H' h => ⟨ps, st, by omega, by omega, h.wk (by repeat (first | apply Wk.nil | apply Wk.same | apply Wk.drop))⟩) ?_ ?_ mr PassesOwn.never rfl)
      · rintro j hj sg8 H8 D8 ⟨ps8, st8, hl8, hg8, h8⟩ _ _ hnx8 _
        refine BG.run (bg_name 5 nd) h8 (.int _) fun sg9 h9 => ?_
        refine ss_cons (s_set 2 h9 (ev_mod (by decide) (ev_intOf (ev_add (ev_mulS (cmul_c (by decide)) (ev_var 2 rfl) ev_int) ev_int) mi) ev_int) (fun sgA HA _ hA => ?_) nd)
        generalize ((st8 * 48271 + 11) % 2147483647) = st9 at hA
        refine ss_one (s_app 1 hA rfl (ev_mod (by decide) (ev_intOf (ev_fdivS (by unfold CDiv; decide) (ev_var 2 rfl) ev_int) mi) ev_int) (by rw [List.length_map]; omega) (fun HB hB => ?_))
        refine hnx8 _ _ ⟨ps8 ++ [st9 / 97 % 60], st9, by rw [List.length_append, List.length_singleton]; omega, by rw [List.length_append, List.length_singleton]; omega, ?_⟩
        have e : pInts (ps8 ++ [st9 / 97 % 60]) = pInts ps8 ++ [.int (st9 / 97 % 60)] := by unfold pInts; rw [List.map_append]; rfl
        rw [e]
        exact hB.wk (by repeat (first | apply Wk.nil | apply Wk.same | apply Wk.drop))
      · rintro sg8 H8 ⟨ps8, st8, hl8, hg8, h8⟩
        refine ss_one (s_retM 1 h8 rfl (fun xs H' s n e q => ?_))
        have := dpa_ints q
        subst this
        exact k o ps8 H' hg8 (by omega) s n e
end
end K51
set_option Elab.async false
set_option linter.all false
set_option maxRecDepth 100000
set_option maxHeartbeats 1000000
set_option exponentiation.threshold 20000
namespace K51
open PySem PySem.Spec PyProof.Rows L2
/-! Euclid's steps -/
def est (s : Nat × Nat) : Nat × Nat := if s.2 = 0 then s else (s.2, s.1 % s.2)
def eu : Nat → Nat × Nat → Nat × Nat
  | 0, s => s
  | n + 1, s => est (eu n s)
theorem eu_succ : ∀ n s, eu (n + 1) s = eu n (est s)
  | 0, s => rfl
  | n + 1, s => by
    show est (eu (n + 1) s) = est (eu n (est s))
    rw [eu_succ n s]
theorem est_zero {s : Nat × Nat} (h : s.2 = 0) : est s = s := by unfold est; rw [if_pos h]
theorem eu_zero : ∀ n {s : Nat × Nat}, s.2 = 0 → eu n s = s
  | 0, s, _ => rfl
  | n + 1, s, h => by rw [eu_succ, est_zero h]; exact eu_zero n h
theorem eu_add : ∀ m n s, eu (m + n) s = eu m (eu n s)
  | 0, n, s => by rw [Nat.zero_add]; rfl
  | m + 1, n, s => by
    rw [show m + 1 + n = (m + n) + 1 by omega]
    show est (eu (m + n) s) = est (eu m (eu n s))
    rw [eu_add m n s]
theorem eu_end : ∀ (k : Nat) (s : Nat × Nat), s.2 ≤ s.1 → s.1 < 2 ^ k → (eu (2 * k) s).2 = 0
  | 0, s, h, hk => by
    have : s.1 = 0 := by simpa using hk
    show s.2 = 0
    omega
  | k + 1, s, h, hk => by
    by_cases h2 : s.2 = 0
    · rw [eu_zero _ h2]; exact h2
    · have e1 : est s = (s.2, s.1 % s.2) := by unfold est; rw [if_neg h2]
      rw [show 2 * (k + 1) = (2 * k) + 1 + 1 by omega, eu_succ, eu_succ, e1]
      have hlt : s.1 % s.2 < s.2 := Nat.mod_lt _ (by omega)
      have hhalf : 2 * (s.1 % s.2) ≤ s.1 := by
        have := Nat.div_add_mod s.1 s.2
        have h3 : 1 ≤ s.1 / s.2 := (Nat.one_le_div_iff (by omega)).mpr h
        have h4 : s.2 * 1 ≤ s.2 * (s.1 / s.2) := Nat.mul_le_mul_left _ h3
        omega
      by_cases h3 : s.1 % s.2 = 0
      · rw [est_zero (s := (s.2, s.1 % s.2)) h3, eu_zero _ (s := (s.2, s.1 % s.2)) h3]
        exact h3
      · have e2 : est (s.2, s.1 % s.2) = (s.1 % s.2, s.2 % (s.1 % s.2)) := by unfold est; rw [if_neg h3]
        rw [e2]
        refine eu_end k _ (Nat.le_of_lt (Nat.mod_lt _ (by omega))) ?_
        show s.1 % s.2 < 2 ^ k
        rw [Nat.pow_succ] at hk
        omega
theorem est_gcd (s : Nat × Nat) : Nat.gcd (est s).1 (est s).2 = Nat.gcd s.1 s.2 := by
  unfold est
  split
  · rfl
  · show Nat.gcd s.2 (s.1 % s.2) = _
    rw [Nat.gcd_comm s.2, ← Nat.gcd_rec, Nat.gcd_comm]
theorem eu_gcd : ∀ n s, Nat.gcd (eu n s).1 (eu n s).2 = Nat.gcd s.1 s.2
  | 0, s => rfl
  | n + 1, s => (est_gcd _).trans (eu_gcd n s)
def Lt2 (i : Int) : Prop := i.natAbs < 2 ^ 2000
theorem eu_5000 {a : Nat} {m : Int} (hm : 0 < m) (h : Lt2 m) : (eu 5000 (a, m.natAbs)).2 = 0 := by
  have e : (eu (2 * 2000) (est (a, m.natAbs))).2 = 0 := by
    have e1 : est (a, m.natAbs) = (m.natAbs, a % m.natAbs) := by unfold est; rw [if_neg (show m.natAbs ≠ 0 by omega)]
    rw [e1]
    exact eu_end 2000 _ (Nat.le_of_lt (Nat.mod_lt _ (by omega))) h
  have e3 : (eu (2 * 2000 + 1) (a, m.natAbs)).2 = 0 := by rw [eu_succ]; exact e
  rw [show (5000 : Nat) = 999 + (2 * 2000 + 1) from rfl, eu_add 999 (2 * 2000 + 1), eu_zero 999 e3]
  exact e3
section
variable {P : Program} {w : World} {K : PySem.W.Frag} {mg : Str → Option Value} {base : Heap} {X : Cx} {M : Mem} {r : List Sl} {a b : Expr} {pos p q : Pos} {i j : Int}
def StreamSp (K : PySem.W.Frag) : Sp := fun vs H Q _ => ∃ (M : Mem) (ns : List Int), (∀ m ∈ M, H m ≠ none) ∧ DpAll K (hid M H) vs [.list (ns.map PyData.int)] ∧ ns.length ≤ 1000 ∧
  ∀ (p : Addr) (ps : List Int) (H' : Hp), PoolOk ps → Same H H' → H p = none → H' p = some (.lst (ps.map V.int)) → Q (.ref p) H'
theorem fn_law_stream (Fn : Dfn K mg "_law_stream" s_law_stream ["_law_script"]) (fP : Fnc P w K mg base 1 "_law_pool" (NewPool K)) : Fnc P w K mg base 2 "_law_stream" (StreamSp K) := by
  obtain ⟨f, fd, g1, g2, g3⟩ := Fn.ex
  obtain ⟨ff, ffd, fps, f1, f2, f3, f4⟩ := fP.ex
  refine ⟨f, fd, _, g1, g2.kp, g3, g2.ok sc_law_stream (fun vs H Q E h => ?_) (fun cdv A outer s H vs Q E hr h => ?_)⟩
  · obtain ⟨M, ns, h1, h2, _⟩ := h
    rw [dpa_len h2]; rfl
  · obtain ⟨M, ns, hM, hd, hn, k⟩ := h
    refine ⟨_, ss_wp, ?_⟩
    have hsr := sr_start (N := n_law_stream) hM hd
    have hr1 : Room 1 (CxD P w K mg base n_law_stream "_law_stream" s_law_stream f cdv A outer s H E).A := hr
    show wpSs (CxD P w K mg base n_law_stream "_law_stream" s_law_stream f cdv A outer s H E) (defBody s_law_stream) _ _ _
    refine ss_one (s_of (ps_ret (pe_op op_cat e_wp (pe_call f4 hr1 (by rfl) f1 f2 f3 .nil pass0 (pa_cons e_wp pa_nil)))) ?_)
    refine (show EvF _ _ _ _ [.int 0] from evf_lst (eva_cons ev_int eva_nil) (by simp)) _ _ _ _ hsr fun p xs H1 s1 n1 e1 q1 => ?_
    refine Ev.run (ev_var 0 rfl) (hsr.mono s1) fun v H2 s2 q2 => ?_
    refine ⟨M, ns, ((hsr.mono s1).mono s2).there, .cons q2 .nil, hn, fun p2 ps H3 l1 l2 s3 n3 e3 => ?_⟩
    have hx : xs = [V.int 0] := by
      have := dpa_ints (ns := [0]) q1
      exact this
    subst hx
    refine ⟨p, p2, [V.int 0], ps.map V.int, rfl, rfl, s3 _ _ (s2 _ _ e1), e3, ?_, fun o ho => ?_⟩
    · rw [List.length_map, sizeLine_eq]; simp only [List.length_cons, List.length_nil]; omega
    · have sS := ((s1.trans s2).trans s3)
      exact k o (0 :: ps) _ ⟨by simp only [List.length_cons]; omega, by simp only [List.length_cons]; omega⟩ (sS.trans (same_upd ho)) (sS.free ho) upd_same
def C_pick (ds : List PyData) : Prop := ∃ m : Nat, ds = [.int m] ∧ 0 < m
def P_pick (ds : List PyData) (d : PyData) : Prop := ∀ m : Nat, ds = [.int m] → ∃ r : Nat, d = .int r ∧ r < m
theorem fn_law_pick (Fn : Dfn K mg "_law_pick" s_law_pick ["_law_pool_here", "_law_many"]) (mn : mg "len" = none) (mi : mg "int" = none) : Fnc P w K mg base 1 "_law_pick" (PoolSp K C_pick P_pick) := by
  refine pool_def Fn sc_law_pick (fun ds h => ?_) (by decide) (fun f cdv A outer s H E B M o ps ds hr hC hp sg hsr D k => ?_)
  · obtain ⟨m, rfl, _⟩ := h; rfl
  · obtain ⟨m, rfl, hm⟩ := hC
    obtain ⟨hp2, hp3⟩ := hp
    obtain ⟨x, h0⟩ : ∃ x, ps[0]? = some x := ⟨_, List.getElem?_eq_getElem (by omega)⟩
    have hL : (0 : Int) < ((pInts ps).length : Int) - 1 := by rw [List.length_map]; omega
    obtain ⟨z, hz1, hz2⟩ : ∃ z : Nat, (1 + x % (((pInts ps).length : Int) - 1)) = (z : Int) ∧ z < ps.length := by
      have h1 := Int.emod_nonneg x (show ((pInts ps).length : Int) - 1 ≠ 0 by omega)
      have h2 := Int.emod_lt_of_pos x hL
      refine ⟨(1 + x % (((pInts ps).length : Int) - 1)).toNat, by omega, ?_⟩
      rw [List.length_map] at *
      omega
    refine ss_cons (s_put (d := .int (z : Int)) (n := 0) (m := 0) 0 hsr rfl (Ev.cast (ev_add ev_int (ev_mod hL (ev_intOf (ev_ixl (n := 0) (d := .int x) (evL_var 0 rfl).toR ev_int rfl (by rw [List.getElem?_map, h0]; rfl)) mi) (ev_sub (ev_len (evL_var 0 rfl).toR mn) ev_int))) (by rw [hz1])) ev_int rfl (by rw [List.length_map]; omega) (fun H1 h1 => ?_))
    have e : (pInts ps).set 0 (.int (z : Int)) = pInts (ps.set 0 (z : Int)) := by unfold pInts; rw [List.map_set]
    rw [e] at h1
    have hp' : PoolOk (ps.set 0 (z : Int)) := ⟨by rw [List.length_set]; exact hp2, by rw [List.length_set]; exact hp3⟩
    have g0 : (ps.set 0 (z : Int))[0]? = some (z : Int) := List.getElem?_set_self (by omega)
    obtain ⟨y, gz⟩ : ∃ y, (ps.set 0 (z : Int))[z]? = some y := ⟨_, List.getElem?_eq_getElem (by rw [List.length_set]; exact hz2)⟩
    generalize ps.set 0 (z : Int) = ps' at h1 hp' g0 gz
    have hm' : (0 : Int) < (m : Int) := by omega
    have h2 := Int.emod_nonneg y (show (m : Int) ≠ 0 by omega)
    have h3 := Int.emod_lt_of_pos y hm'
    refine ss_one (s_retE h1 (ev_mod hm' (ev_intOf (ev_ixl (n := z) (d := .int y) (evL_var 0 rfl).toR (ev_ixl (n := 0) (d := .int z) (evL_var 0 rfl).toR ev_int rfl (by rw [List.getElem?_map, g0]; rfl)) rfl (by rw [List.getElem?_map, gz]; rfl)) mi) (ev_var 1 rfl)) (fun v H2 h4 q => k v H2 ps' _ _ _ h4 hp' q fun m' e => ?_))
    have : m' = m := by
      have e2 : PyData.int (m : Int) = .int (m' : Int) := (List.cons.inj e).1
      have e3 : (m : Int) = (m' : Int) := PyData.int.inj e2
      omega
    subst this
    exact ⟨(y % (m' : Int)).toNat, by rw [Int.toNat_of_nonneg h2], by omega⟩
end
end K51
set_option Elab.async false
set_option linter.all false
set_option maxRecDepth 100000
set_option maxHeartbeats 1000000
set_option exponentiation.threshold 20000
namespace K51
open PySem PySem.Spec PyProof.Rows L2
section
variable {P : Program} {w : World} {K : PySem.W.Frag} {mg : Str → Option Value} {base : Heap} {X : Cx} {M : Mem} {r : List Sl} {a b : Expr} {pos p q : Pos} {i j : Int}
def F_lowest (ds : List PyData) (d : PyData) : Prop := ∃ n m : Int, ds = [.int n, .int m] ∧ 0 < m ∧ Lt2 n ∧ Lt2 m ∧ d = encQ (Rat.divInt n m)
theorem abs_nat (n : Int) : (if n < 0 then -n else n) = ((n.natAbs : Nat) : Int) := by split <;> omega
theorem fn_law_lowest (Fn : Dfn K mg "_law_lowest" s_law_lowest ["_law_n", "_law_d"]) (mr : mg "range" = none) (ma : mg "abs" = none) (mi : mg "int" = none) : Fnc P w K mg base 1 "_law_lowest" (PureSp K F_lowest) := by
  refine pure_def Fn sc_law_lowest (fun ds d h => ?_) (fun f cdv A outer s H E M ds d hr h sg hsr D k => ?_)
  · obtain ⟨n, m, rfl, _⟩ := h; rfl
  · obtain ⟨n, m, rfl, hm, hn2, hm2, rfl⟩ := h
    have nd := sc_law_lowest.nd
    have hmm : ((m.natAbs : Nat) : Int) = m := Int.natAbs_of_nonneg (by omega)
    refine ss_cons (s_if hsr (evt_cmp op_lt c_lt (ev_var 1 rfl) ev_int) (fun H1 _ h1 z => ?_) fun H1 _ h1 z => ?_)
    · have z := of_decide_eq_true z
      omega
    · refine ss_nil ?_
      refine ss_cons (s_par 2 3 h1 (eva_cons (ev_abs (ev_var 0 rfl) ma) (eva_cons (ev_var 1 rfl) eva_nil)) (fun sg2 H2 s2 h2 => ?_) nd rfl)
      rw [abs_nat] at h2
      -- behind the loop
      have hfin : ∀ (B : Bs) sg' H' (c : Nat) (D' : Ends), c = Nat.gcd n.natAbs m.natAbs → SR K B M [.dat (.int n), .dat (.int m), .dat (encN c), .dat (encN 0), .unk] sg' H' → (∀ v H'', SR K B M [.dat (.int n), .dat (.int m), .dat (encN c), .dat (encN 0), .unk] sg' H'' → Dp K (hid M H'') v (encQ (Rat.divInt n m)) → D'.rt v H'') →
          wpSs (CxD P w K mg base n_law_lowest "_law_lowest" s_law_lowest f cdv A outer s H E) ((defBody s_law_lowest).drop 3) D' sg' H' := by
        intro B sg' H' c D' hc h3 hk
        have hmn : m.natAbs ≠ 0 := Int.natAbs_ne_zero.mpr (by omega)
        have hg : 0 < (c : Int) := by
          have := Nat.gcd_pos_of_pos_right n.natAbs (Nat.pos_of_ne_zero hmn)
          omega
        have hg2 : ((c : Nat) : Int).natAbs < 2 ^ 2000 := by
          rw [Int.natAbs_natCast, hc]; exact gcd_lt hmn hm2
        have hcd : ∀ i : Int, CDivW i ((c : Nat) : Int) := fun i => wide_div hg hg2 (by decide) (by decide)
        obtain ⟨f1, f2⟩ := frac_pos (n := n) hm
        rw [← hc] at f1 f2
        refine ss_one (s_retE h3 (Ev.cast (ev_tup (eva_cons (ev_fdiv (hcd n) (ev_var 0 rfl) (ev_var 2 rfl)) (eva_cons (ev_fdiv (hcd m) (ev_var 1 rfl) (ev_var 2 rfl)) eva_nil)) (by simp)) ?_) hk)
        rw [← f1, ← f2]
      have hgc : ∀ i, (eu i (n.natAbs, m.natAbs)).2 = 0 → (eu i (n.natAbs, m.natAbs)).1 = Nat.gcd n.natAbs m.natAbs := fun i h => by
        have := eu_gcd i (n.natAbs, m.natAbs)
        rw [h, Nat.gcd_zero_right] at this
        exact this
      have hrt : ∀ {B : Bs} (hB : Bs.le ⟨H, M⟩ B) (c : Nat) sg', (∀ v H'', SR K B M [.dat (.int n), .dat (.int m), .dat (encN c), .dat (encN 0), .unk] sg' H'' → Dp K (hid M H'') v (encQ (Rat.divInt n m)) → D.rt v H'') :=
        fun hB c sg' v H'' h q => k v H'' (hB.1.trans h.same) q
      refine ss_cons (s_for (xs := List.range 5000) (enc := encN) h2 ((evi_range ev_int (by omega) (by omega) mr).cast rfl)
        (fun i => [.dat (.int n), .dat (.int m), .dat (encN (eu i (n.natAbs, m.natAbs)).1), .dat (encN (eu i (n.natAbs, m.natAbs)).2), .unk])
        (fun i x => [.dat (.int n), .dat (.int m), .dat (encN (eu i (n.natAbs, m.natAbs)).1), .dat (encN (eu i (n.natAbs, m.natAbs)).2), .dat (encN x)])
        (fun B' sg' H' h => by
          have h3 : SR K B' M [.dat (.int n), .dat (.int m), .dat (encN n.natAbs), .dat (.int m), .unk] sg' H' := h
          rw [← hmm] at h3
          show SR K B' M [.dat (.int n), .dat (.int m), .dat (encN n.natAbs), .dat (encN m.natAbs), .unk] sg' H'
          rw [← hmm]
          exact h3) (fun i x hx => bg_name 4 nd) ?_ ?_ PassesOwn.never rfl)
      · intro B' hB hout i x hx D' sg' H' hrtt hbk hnx _ h3
        have hgi := hgc i
        have hstep : eu (i + 1) (n.natAbs, m.natAbs) = est (eu i (n.natAbs, m.natAbs)) := rfl
        rw [hstep] at hnx
        generalize eu i (n.natAbs, m.natAbs) = st at h3 hgi hnx
        obtain ⟨a, b⟩ := st
        simp only at h3 hgi
        refine ss_cons (s_if h3 (evt_cmp op_eq c_eqI (ev_var 3 rfl) ev_int) (fun H4 _ h4 z => ?_) fun H4 _ h4 z => ?_)
        · have z : b = 0 := by have := of_decide_eq_true z; omega
          subst z
          refine ss_one (s_break (hbk _ _ ?_))
          have h5 := (h4.wk (r' := [.dat (.int n), .dat (.int m), .dat (encN a), .dat (encN 0), .unk]) (by repeat (first | apply Wk.nil | apply Wk.same | apply Wk.drop))).unbase hB hout
          exact hfin _ _ _ a _ (hgi rfl) h5 (hrt (Bs.le_refl _) _ _)
        · have z : b ≠ 0 := by have := of_decide_eq_false z; omega
          refine ss_nil (ss_one (s_par 2 3 h4 (eva_cons (ev_var 3 rfl) (eva_cons (ev_mod (by omega) (ev_intOf (ev_var 2 rfl) mi) (ev_var 3 rfl)) eva_nil)) (fun sg5 H5 s5 h5 => ?_) nd rfl))
          refine hnx _ _ ?_
          have e : est (a, b) = (b, a % b) := by unfold est; rw [if_neg z]
          rw [e]
          exact h5.wk (by repeat (first | apply Wk.nil | apply Wk.same | apply Wk.drop))
      · intro sg' H' h3
        rw [List.length_range] at h3
        have h0 := eu_5000 (a := n.natAbs) hm hm2
        have hgi := hgc 5000 h0
        rw [h0, hgi] at h3
        exact hfin _ _ _ _ _ rfl h3 (hrt (Bs.le_refl _) _ _)
end
end K51
set_option Elab.async false
set_option linter.all false
set_option maxRecDepth 100000
set_option maxHeartbeats 1000000
set_option exponentiation.threshold 20000
namespace K51
open PySem PySem.Spec PyProof.Rows L2
section
variable {P : Program} {w : World} {K : PySem.W.Frag} {mg : Str → Option Value} {base : Heap} {X : Cx} {M : Mem} {r : List Sl} {e a b c : Expr} {pos p q : Pos} {i j : Int} {B : Bs} {sg : L2.St} {H : Hp} {D : Ends} {R : List Int → List Sl} {P1 P2 : PyData → Prop}
/-- a and b, as a test, a known to hold -/
theorem evpt_and (ha : ∀ ps, PoolOk ps → EvT X M (R ps) a true) (hb : EvPT X M R b) : EvPT X M R (.BoolOp .And [a, b] pos) := fun B sg H ps Q hs hp k => by
  refine t_of (PW.pt (pw_and t_wp (pw_and1 t_wp))) ?_
  refine ha ps hp B sg H _ hs fun H1 s1 => ?_
  exact iteT (hb B sg H1 ps Q (hs.mono s1) hp k)
/-- x.append(e) -/
theorem s_appP (i : Nat) {x : Str} {p ap cp : Pos} {o : Addr} {ds : List PyData} {ps : List Int} (hsr : SR X.K B M (R ps) sg H) (hp : PoolOk ps) (hm : ∀ ps, (R ps)[i]? = some (.mt o ds)) (he : EvP X M R e P1) (hz : ds.length ≤ 1000000) (k : ∀ H' ps' d, P1 d → PoolOk ps' → SR X.K B M ((R ps').set i (.mt o (ds ++ [d]))) sg H' → D.nx sg H')
    (hN : X.N[i]? = some x := by rfl) (hv : Vis X.env.scope x := by first | exact Or.inl rfl | exact Or.inr (Or.inl rfl) | exact Or.inr (Or.inr rfl)) (hd : (x == ("__debug__" : Str)) = false := by decide) (hcd : (x == ("__classdict__" : Str)) = false := by decide)
    (hbase : attributeBase (.Name x p) "append" X.env (eval (.Name x p) X.env) = eval (.Name x p) X.env := by rfl)
    (hfew : ((backTo cp (starEach [e] X.env)).all (fun x => !x.1) && (backToKw cp (keywordEach [] X.env)).all (fun x => x.1.isSome)
      && decide ([e].length + ([] : List Keyword).length + (if ([] : List Keyword).isEmpty then 0 else 1) < 30)) = true := by rfl)
    (hline : (ap.endLine == cp.line) = true := by rfl) (hst : starEach [e] X.env = (false, eval e X.env) :: starEach [] X.env := by rfl) (hplain : (backTo cp (starEach [] X.env)).any (·.1) = false := by rfl)
    (hsw : swapsWith (.Call (.Attribute (.Name x p) "append" ap) [e] [] cp) none pos.line X.env = pure false := by rfl) : wpS X (.Expr (.Call (.Attribute (.Name x p) "append" ap) [e] [] cp) pos) D sg H := by
  refine s_of (ps_expr (pe_bm PySem.F.plainAttrs_list PySem.F.slot_list_append PySem.F.type_list_append mt_append (pe_var hN hv hd hcd) (pa_cons e_wp pa_nil hst) hbase hfew hline hst hplain) hsw) ?_
  obtain ⟨h1, h2, h3, xs, h4, h5⟩ := hsr.mt (hm ps)
  refine ⟨_, h1, .inl ⟨rfl, xs, .inl (.inl h4)⟩, ?_⟩
  refine he B sg H ps _ hsr hp fun v H1 ps1 d s1 hs1 hp1 q1 p1 => ?_
  obtain ⟨w1, w2, w3, ys, w4, w5⟩ := hs1.mt (hm ps1)
  refine ⟨o, ys, v, rfl, rfl, w4, by rw [dpa_len w5, sizeLine_eq]; omega, ?_⟩
  exact k _ ps1 d p1 hp1 (hs1.chg (hm ps1) (dpa_app w5 (.cons q1 .nil)))
def kL : List (_root_.Fin 6) := [1, 2, 0, 0, 1, 2, 0, 3, 4, 5]
def kD : List PyData := kL.map fun f => .str (tagStr f)
def C_place (ds : List PyData) : Prop := ∃ m : Nat, ds = [.int m, .list kD] ∧ 0 < m ∧ m ≤ 12
def P_place (ds : List PyData) (d : PyData) : Prop := ∀ m : Nat, ds = [.int m, .list kD] → ∃ pl : Pl, d = encPl pl ∧ pl.Ok m
theorem encQ_nat (k : Nat) : encQ (k : Rat) = .tuple [.int k, .int 1] := by
  unfold encQ
  rw [Rat.num_natCast, Rat.den_natCast]; rfl
theorem all_nats {ds : List PyData} {m : Nat} (h : ∀ d ∈ ds, ∃ r : Nat, d = .int r ∧ r < m) : ∃ ts : List Nat, ds = ts.map encN ∧ ts.length = ds.length ∧ ∀ t ∈ ts, t < m := by
  induction ds with
  | nil => exact ⟨[], rfl, rfl, fun t ht => by cases ht⟩
  | cons d ds ih =>
    obtain ⟨ts, h1, h2, h3⟩ := ih fun x hx => h x (List.mem_cons_of_mem _ hx)
    obtain ⟨r, h4, h5⟩ := h d List.mem_cons_self
    refine ⟨r :: ts, by rw [h1, h4]; rfl, by simp [h2], fun t ht => ?_⟩
    rcases List.mem_cons.mp ht with rfl | ht
    · exact h5
    · exact h3 t ht
theorem all_one {ds : List PyData} {m : Nat} (h : ∀ d ∈ ds, ∃ n : Int, d = .int (1 + n) ∧ ∃ r : Nat, n = (r : Int) ∧ r < m) : ∃ ts : List Nat, ds = ts.map encN ∧ ts.length = ds.length ∧ ∀ t ∈ ts, 0 < t ∧ t ≤ m := by
  induction ds with
  | nil => exact ⟨[], rfl, rfl, fun t ht => by cases ht⟩
  | cons d ds ih =>
    obtain ⟨ts, h1, h2, h3⟩ := ih fun x hx => h x (List.mem_cons_of_mem _ hx)
    obtain ⟨n, h4, r, rfl, h5⟩ := h d List.mem_cons_self
    refine ⟨(1 + r) :: ts, by rw [h1, h4]; simp [encN], by simp [h2], fun t ht => ?_⟩
    rcases List.mem_cons.mp ht with rfl | ht
    · omega
    · exact h3 t ht
/-- the draw's branches from shares and goals -/
def drawB (ss ts : List Nat) : List (Rat × Nat) := (ss.zip ts).map fun st => (Rat.divInt (st.1 : Nat) (ss.sum : Nat), st.2)
theorem sumQ_div {S : Nat} (hS : 0 < S) : ∀ ss : List Nat, sumQ (ss.map fun s => Rat.divInt (s : Nat) (S : Nat)) * (S : Rat) = ((ss.sum : Nat) : Rat)
  | [] => by simp [sumQ]
  | s :: ss => by
    have ih := sumQ_div hS ss
    have h0 : (S : Rat) ≠ 0 := by
      intro z
      have : ((S : Nat) : Rat).num = 0 := by rw [z]; rfl
      rw [Rat.num_natCast] at this; omega
    have e : Rat.divInt (s : Nat) (S : Nat) * (S : Rat) = (s : Rat) := by
      rw [divInt_ne (by omega)]
      have e1 : ((s : Nat) : Int) = ((s : Nat) : Int) := rfl
      show ((((s : Nat) : Int) : Rat) / (((S : Nat) : Int) : Rat)) * (S : Rat) = (s : Rat)
      rw [Rat.intCast_natCast, Rat.intCast_natCast]
      grind
    rw [List.map_cons, List.sum_cons]
    show (Rat.divInt (s : Nat) (S : Nat) + sumQ (ss.map fun s => Rat.divInt (s : Nat) (S : Nat))) * (S : Rat) = _
    rw [Rat.add_mul, ih, e, Rat.natCast_add]
theorem sum_pos {ss : List Nat} (h : ss ≠ []) (hp : ∀ s ∈ ss, 0 < s) : 0 < ss.sum := by
  cases ss with
  | nil => exact absurd rfl h
  | cons s ss => rw [List.sum_cons]; have := hp s List.mem_cons_self; omega
theorem sum_le {ss : List Nat} {m : Nat} (hp : ∀ s ∈ ss, s ≤ m) : ss.sum ≤ m * ss.length := by
  induction ss with
  | nil => simp
  | cons s ss ih =>
    rw [List.sum_cons, List.length_cons, Nat.mul_succ]
    have := hp s List.mem_cons_self
    have := ih fun x hx => hp x (List.mem_cons_of_mem _ hx)
    omega
theorem natR_pos {n : Nat} (h : 0 < n) : (0 : Rat) < (n : Rat) := by
  have : ((n : Int) : Rat) > ((0 : Int) : Rat) := Rat.intCast_lt_intCast.mpr (by omega)
  rw [Rat.intCast_natCast] at this
  exact this
theorem div_mul_nat {a : Nat} {S : Nat} (hS : 0 < S) : Rat.divInt (a : Nat) (S : Nat) * (S : Rat) = (a : Rat) := by
  have h0 : (S : Rat) ≠ 0 := by have := natR_pos hS; grind
  rw [divInt_ne (by omega), Rat.intCast_natCast, Rat.intCast_natCast]
  grind
theorem draw_ok {ss ts : List Nat} {m : Nat} (hl : ss.length = ts.length) (h1 : ss ≠ []) (h6 : ss.length ≤ 6) (hs : ∀ s ∈ ss, 0 < s ∧ s ≤ 3) (ht : ∀ t ∈ ts, t < m) : (Pl.draw (drawB ss ts)).Ok m := by
  have hS : 0 < ss.sum := sum_pos h1 fun s h => (hs s h).1
  have hS2 : ss.sum ≤ 3 * ss.length := sum_le fun s h => (hs s h).2
  have hSr := natR_pos hS
  have hlen : (drawB ss ts).length = ss.length := by unfold drawB; rw [List.length_map, List.length_zip]; omega
  have hmem : ∀ b ∈ drawB ss ts, ∃ s t, s ∈ ss ∧ t ∈ ts ∧ b = (Rat.divInt (s : Nat) (ss.sum : Nat), t) := fun b hb => by
    unfold drawB at hb
    obtain ⟨⟨s, t⟩, hst, rfl⟩ := List.mem_map.mp hb
    exact ⟨s, t, (List.of_mem_zip hst).1, (List.of_mem_zip hst).2, rfl⟩
  refine ⟨fun z => ?_, by omega, fun b hb => ?_, ?_, ss.sum, hS, by omega, fun b hb => ?_⟩
  · rw [z] at hlen
    exact h1 (List.length_eq_zero_iff.mp hlen.symm)
  · obtain ⟨s, t, h1, h2, rfl⟩ := hmem b hb
    refine ⟨ht t h2, ?_⟩
    have e := div_mul_nat (a := s) hS
    have hsr := natR_pos (hs s h1).1
    show 0 < Rat.divInt (s : Nat) (ss.sum : Nat)
    rw [← e] at hsr
    generalize Rat.divInt (s : Nat) (ss.sum : Nat) = q at hsr
    generalize (ss.sum : Rat) = S at hsr hSr
    refine Decidable.byContradiction fun z => ?_
    have z' : q ≤ 0 := Rat.not_lt.mp z
    have := Rat.mul_le_mul_of_nonneg_right z' (Rat.le_of_lt hSr)
    rw [Rat.zero_mul] at this
    exact absurd (rlt_le hsr this) Rat.lt_irrefl
  · have e := sumQ_div hS ss
    have e2 : (drawB ss ts).map (·.1) = ss.map fun s => Rat.divInt (s : Nat) (ss.sum : Nat) := by
      unfold drawB
      rw [List.map_map]
      have : ((fun x : Rat × Nat => x.1) ∘ fun st : Nat × Nat => (Rat.divInt (st.1 : Nat) (ss.sum : Nat), st.2)) = (fun s : Nat => Rat.divInt (s : Nat) (ss.sum : Nat)) ∘ Prod.fst := rfl
      rw [this, ← List.map_map, List.map_fst_zip (by omega)]
    rw [e2]
    generalize sumQ (ss.map fun s => Rat.divInt (s : Nat) (ss.sum : Nat)) = q at e
    generalize ((ss.sum : Nat) : Rat) = S at e hSr
    clear hmem hlen e2 hs ht
    have h0 : S ≠ 0 := fun z => by rw [z] at hSr; exact absurd hSr Rat.lt_irrefl
    have : q * S * (1 / S) = 1 := by rw [e]; grind
    grind
  · obtain ⟨s, t, h1, h2, rfl⟩ := hmem b hb
    exact ⟨s, div_mul_nat hS, by have := (hs s h1).2; omega⟩
theorem sum_nats (ss : List Nat) : (ss.map fun n : Nat => (n : Int)).sum = ((ss.sum : Nat) : Int) := by
  induction ss with
  | nil => rfl
  | cons s ss ih => rw [List.map_cons, List.sum_cons, List.sum_cons, ih]; omega
theorem lt2_of {i : Int} {n : Nat} (h : i.natAbs ≤ n) (hn : n < 1000000) : Lt2 i := by
  have : (2 : Nat) ^ 20 ≤ 2 ^ 2000 := Nat.pow_le_pow_right (by decide) (by decide)
  unfold Lt2
  have h3 : (2 : Nat) ^ 20 = 1048576 := by decide
  omega
def wL : List Nat := [2, 2, 3, 1, 2, 6]
theorem wL_ok {m : Nat} {d : PyData} (h : (wL.map encN)[m]? = some d) : ∃ n : Nat, d = encN n ∧ 0 < n ∧ n ≤ 6 := by
  rw [List.getElem?_map] at h
  obtain ⟨n, h1, rfl⟩ := Option.map_eq_some_iff.mp h
  have := List.mem_of_getElem? h1
  refine ⟨n, rfl, ?_⟩
  revert this
  unfold wL
  simp only [List.mem_cons, List.not_mem_nil, or_false]
  omega
theorem fin_in : ∀ f : _root_.Fin 6, tagStr f ∈ (["finish", "lose"] : List Str) → f = 4 ∨ f = 5 := by decide +kernel
theorem fin_out : ∀ f : _root_.Fin 6, ¬ tagStr f ∈ (["finish", "lose"] : List Str) → f = 0 ∨ f = 1 ∨ f = 2 ∨ f = 3 := by decide +kernel
theorem fn_law_place (Fn : Dfn K mg "_law_place" s_law_place ["_law_pool_here", "_law_many", "_law_kinds"]) (fP : Fnc P w K mg base 1 "_law_pick" (PoolSp K C_pick P_pick)) (fL : Fnc P w K mg base 1 "_law_lowest" (PureSp K F_lowest)) (mn : mg "len" = none) (mr : mg "range" = none) (ms : mg "sum" = none) : Fnc P w K mg base 2 "_law_place" (PoolSp K C_place P_place) := by
  refine pool_def Fn sc_law_place (fun ds h => ?_) (by decide) (fun f cdv A outer s H E B M o ps ds hr hC hp sg hsr D k => ?_)
  · obtain ⟨m, rfl, _⟩ := h; rfl
  · obtain ⟨m, rfl, hm, hm12⟩ := hC
    have nd := sc_law_place.nd
    refine ss_cons (s_setP (R := fun ps => [.mt o (pInts ps), .dat (.int m), .dat (.list kD), .unk, .unk, .unk, .unk, .unk, .unk]) 3 hsr hp (evp_ix (n := 10) (ds := kD) (fun ps _ => ev_var 2 rfl)
      ((evp_call 0 o fP hr (fun _ => rfl) (fun _ _ => rfl) (fun ps _ => eva_cons (ev_len (ev_var 2 rfl).toR mn) eva_nil) ⟨10, rfl, by decide⟩).imp fun d h => h 10 rfl) rfl) (fun sg1 H1 ps1 d1 hd1 hp1 h1 => ?_) nd)
    obtain ⟨m1, hd1⟩ := hd1
    obtain ⟨fk, rfl⟩ : ∃ fk, d1 = .str (tagStr fk) := by
      unfold kD at hd1
      rw [List.getElem?_map] at hd1
      obtain ⟨n, h1, rfl⟩ := Option.map_eq_some_iff.mp hd1
      exact ⟨n, rfl⟩
    refine ss_cons (s_if h1 (evt_inS (ns := ["finish", "lose"]) (ev_var 3 rfl) (EvF.toR (evf_lst (eva_cons ev_str (eva_cons ev_str eva_nil)) (by simp)))) (fun H2 _ h2 z => ?_) fun H2 _ h2 z => ?_)
    · have hz : fk = 4 ∨ fk = 5 := fin_in fk (of_decide_eq_true z)
      refine ss_one (s_retE h2 (ev_tup (eva_cons (ev_var 3 rfl) eva_nil) (by simp)) (fun v H3 h3 q => k v H3 _ _ _ _ h3 hp1 q fun m' e => ?_))
      rcases hz with rfl | rfl
      · exact ⟨.finish, rfl, trivial⟩
      · exact ⟨.lose, rfl, trivial⟩
    · have hz : fk = 0 ∨ fk = 1 ∨ fk = 2 ∨ fk = 3 := fin_out fk (of_decide_eq_false z)
      clear z
      refine ss_nil (ss_cons (s_if h2 (evt_cmp op_eq c_eqS (ev_var 3 rfl) ev_str) (fun H3 _ h3 z => ?_) fun H3 _ h3 z => ?_))
      · have z := of_decide_eq_true z
        refine ss_one (s_retP (R := fun ps => [.mt o (pInts ps), .dat (.int m), .dat (.list kD), .dat (.str (tagStr fk)), .unk, .unk, .unk, .unk, .unk]) (P1 := P_place [.int m, .list kD]) h3 hp1
          ((evp_tup (evpa_cons (EvP.of fun _ _ => ev_str) (evpa_cons (evp_tup (evpa_cons (evp_call 0 o fP hr (fun _ => rfl) (fun _ _ => rfl) (fun ps _ => eva_cons ev_int eva_nil) ⟨3, rfl, by decide⟩) (evpa_cons (EvP.of fun _ _ => ev_int) evpa_nil)) (by simp) ?_) (evpa_cons (evp_call 0 o fP hr (fun _ => rfl) (fun _ _ => rfl) (fun ps _ => eva_cons (ev_var 1 rfl) eva_nil) ⟨m, rfl, hm⟩) evpa_nil))) (by simp) ?_).imp ?_)
          (fun v H4 ps4 d4 h4 hp4 q4 p4 => k v H4 ps4 d4 _ _ h4 hp4 q4 p4))
        · rintro ds ⟨_, _, rfl, _, _, _, rfl, _, rfl⟩; simp
        · rintro ds ⟨_, _, rfl, _, _, _, rfl, _, _, _, rfl, _, rfl⟩; simp
        · rintro d ⟨_, rfl, _, _, rfl, rfl, _, _, rfl, ⟨_, rfl, _, _, rfl, h5, _, _, rfl, rfl, rfl⟩, _, _, rfl, h6, rfl⟩ m' e
          have : m' = m := by
            have e3 : (m : Int) = (m' : Int) := PyData.int.inj (List.cons.inj e).1
            omega
          subst this
          obtain ⟨r1, rfl, hr1⟩ := h5 3 rfl
          obtain ⟨r2, rfl, hr2⟩ := h6 m' rfl
          refine ⟨.reward (r1 : Rat) r2, ?_, hr2, r1, by omega, rfl⟩
          show _ = PyData.tuple [.str "reward", encQ (r1 : Rat), encN r2]
          rw [encQ_nat]
      · have z := of_decide_eq_false z
        have hz : fk = 0 ∨ fk = 1 ∨ fk = 2 := by
          rcases hz with h | h | h | h
          · exact .inl h
          · exact .inr (.inl h)
          · exact .inr (.inr h)
          · subst h; exact absurd rfl z
        clear z
        refine ss_nil (ss_cons (s_setP (R := fun ps => [.mt o (pInts ps), .dat (.int m), .dat (.list kD), .dat (.str (tagStr fk)), .unk, .unk, .unk, .unk, .unk]) 4 h3 hp1 (evp_ix (n := 6) (ds := wL.map encN) (fun ps _ => EvF.toE (evf_lst (eva_cons ev_int (eva_cons ev_int (eva_cons ev_int (eva_cons ev_int (eva_cons ev_int (eva_cons ev_int eva_nil)))))) (by decide)))
          ((evp_call 0 o fP hr (fun _ => rfl) (fun _ _ => rfl) (fun ps _ => eva_cons ev_int eva_nil) ⟨6, rfl, by decide⟩).imp fun d h => h 6 rfl) rfl) (fun sg4 H4 ps4 d4 hd4 hp4 h4 => ?_) nd))
        obtain ⟨_, hd4⟩ := hd4
        obtain ⟨wd, rfl, hw0, hw6⟩ := wL_ok hd4
        refine ss_cons (s_setP (R := fun ps => [.mt o (pInts ps), .dat (.int m), .dat (.list kD), .dat (.str (tagStr fk)), .dat (encN wd), .unk, .unk, .unk, .unk]) 5 h4 hp4 (evp_lc (xs := List.range wd) (enc := encN) (js := [6]) 0 [("_law_k", 6)] (P_pick [.int m]) (fun x ps => [.mt o (pInts ps), .dat (.int m), .dat (.list kD), .dat (.str (tagStr fk)), .dat (encN wd), .unk, .dat (encN x), .unk, .unk])
          (fun _ => rfl) (fun _ _ => rfl) (fun _ _ => rfl) rfl (fun _ _ _ => rfl) (fun _ => rfl) (fun ps => (evi_range (ev_var 4 rfl) (by omega) (by omega) mr).cast (by rw [Int.toNat_natCast])) (blkOk_by (N := n_law_place) (sc := defScope s_law_place) (by decide +kernel)) nd rfl (by rw [List.length_range]; omega) (by simp)
          (fun D s H C cl fp x hx ps => bg_name 6 nd) (fun D s H C cl fp x hx => evp_call 0 o fP hr (fun _ => rfl) (fun _ _ => rfl) (fun ps _ => eva_cons (ev_var 1 rfl) eva_nil) ⟨m, rfl, hm⟩)
          ) (fun sg5 H5 ps5 d5 hd5 hp5 h5 => ?_) nd)
        obtain ⟨ds5, rfl, hl5, ha5⟩ := hd5
        obtain ⟨ts, rfl, hlt, htm⟩ := all_nats (m := m) fun d hd => ha5 d hd m rfl
        rw [List.length_map, List.length_range] at hl5
        refine ss_cons (s_if h5 (evt_cmp op_ne c_neS (ev_var 3 rfl) ev_str) (fun H6 _ h6 z => ?_) fun H6 _ h6 z => ?_)
        · refine ss_one (s_retE h6 (ev_tup (eva_cons (ev_var 3 rfl) (eva_cons (ev_var 5 rfl) eva_nil)) (by simp)) (fun v H7 h7 q => k v H7 _ _ _ _ h7 hp5 q fun m' e => ?_))
          have : m' = m := by
            have e3 : (m : Int) = (m' : Int) := PyData.int.inj (List.cons.inj e).1
            omega
          subst this
          have hne : ts ≠ [] := fun z => by rw [z] at hl5; simp at hl5; omega
          rcases hz with rfl | rfl | rfl
          · cases z
          · exact ⟨.ours ts, rfl, hne, by omega, htm⟩
          · exact ⟨.theirs ts, rfl, hne, by omega, htm⟩
        · have hfk : fk = 0 := by
            rcases hz with h | rfl | rfl
            · exact h
            · cases z
            · cases z
          subst hfk
          refine ss_nil (ss_cons (s_setP (R := fun ps => [.mt o (pInts ps), .dat (.int m), .dat (.list kD), .dat (.str (tagStr 0)), .dat (encN wd), .dat (encNs ts), .unk, .unk, .unk]) 7 h6 hp5 (evp_lc (xs := ts) (enc := encN) (js := [8]) 0 [("_law_goal", 8)] (fun d => ∃ n : Int, d = .int (1 + n) ∧ ∃ r : Nat, n = (r : Int) ∧ r < 3) (fun x ps => [.mt o (pInts ps), .dat (.int m), .dat (.list kD), .dat (.str (tagStr 0)), .dat (encN wd), .dat (encNs ts), .unk, .unk, .dat (encN x)])
            (fun _ => rfl) (fun _ _ => rfl) (fun _ _ => rfl) rfl (fun _ _ _ => rfl) (fun _ => rfl) (fun ps => evi_list (ev_var 5 rfl)) (blkOk_by (N := n_law_place) (sc := defScope s_law_place) (by decide +kernel)) nd rfl (by omega) (by simp)
            (fun D s H C cl fp x hx ps => bg_name 8 nd) (fun D s H C cl fp x hx => evp_add1 (PI := fun n => ∃ r : Nat, n = (r : Int) ∧ r < 3) (EvP.imp (evp_call 0 o fP hr (fun _ => rfl) (fun _ _ => rfl) (fun ps _ => eva_cons ev_int eva_nil) ⟨3, rfl, by decide⟩) fun d h => by obtain ⟨r, h1, h2⟩ := h 3 rfl; exact ⟨r, h1, r, rfl, h2⟩))
            ) (fun sg7 H7 ps7 d7 hd7 hp7 h7 => ?_) nd))
          obtain ⟨ds7, rfl, hl7, ha7⟩ := hd7
          obtain ⟨ss, rfl, hls, hsm⟩ := all_one (m := 3) ha7
          rw [List.length_map] at hl7
          have hll : ss.length = ts.length := hl7
          have hne : ss ≠ [] := fun z => by rw [z] at hll; simp at hll; omega
          have hS : 0 < ss.sum := sum_pos hne fun s h => (hsm s h).1
          have hS2 : ss.sum ≤ 3 * ss.length := sum_le fun s h => (hsm s h).2
          refine ss_one (s_retE (d := encPl (.draw (drawB ss ts))) h7 (Ev.cast (ev_tup (eva_cons ev_str (eva_cons (EvF.toE (evf_lc' (xs := List.range wd) (enc := encN) [("_law_k", 6)] (fun i => .tuple [encQ (Rat.divInt ((ss.getD i 0 : Nat) : Int) ((ss.sum : Nat) : Int)), encN (ts.getD i 0)]) (fun i => [.mt o (pInts ps7), .dat (.int m), .dat (.list kD), .dat (.str (tagStr 0)), .dat (encN wd), .dat (encNs ts), .dat (encN i), .dat (encNs ss), .unk])
            ((evi_range (ev_var 4 rfl) (by omega) (by omega) mr).cast (by rw [Int.toNat_natCast])) (blkOk_by (N := n_law_place) (sc := defScope s_law_place) (by decide +kernel)) nd rfl (by rw [List.length_range]; omega) (by simp)
            (fun D s H C cl fp x hx => bg_name 6 nd) (fun D s H C cl fp x hx => ?_))) eva_nil)) (by simp)) ?_) (fun v H8 h8 q => k v H8 _ _ _ _ h8 hp7 q fun m' e => ?_))
          · have hxw := List.mem_range.mp hx
            have g1 : ss[x]? = some (ss.getD x 0) := by rw [List.getD_eq_getElem?_getD, List.getElem?_eq_getElem (by omega)]; rfl
            have g2 : ts[x]? = some (ts.getD x 0) := by rw [List.getD_eq_getElem?_getD, List.getElem?_eq_getElem (by omega)]; rfl
            have g3 := hsm _ (List.mem_of_getElem? g1)
            exact ev_tup (eva_cons (ev_call fL hr (eva_cons (ev_ns (ev_var 7 rfl) (ev_var 6 rfl) g1) (eva_cons (Ev.cast (ev_sum (EvR.cast (ev_var 7 rfl).toR (castN ss)) ms) (by rw [sum_nats])) eva_nil)) ⟨_, _, rfl, by omega, lt2_of (n := 3) (by omega) (by decide), lt2_of (n := 18) (by omega) (by decide), rfl⟩) (eva_cons (ev_ns (ev_var 5 rfl) (ev_var 6 rfl) g2) eva_nil)) (by simp)
          · show _ = PyData.tuple [.str "draw", .list ((drawB ss ts).map encB)]
            have e : ((List.range wd).map fun i => PyData.tuple [encQ (Rat.divInt ((ss.getD i 0 : Nat) : Int) ((ss.sum : Nat) : Int)), encN (ts.getD i 0)]) = (drawB ss ts).map encB := by
              apply List.ext_getElem?
              intro i
              unfold drawB
              by_cases hi : i < wd
              · rw [rng_get _ hi, List.map_map, List.getElem?_map]
                have g1 : ss[i]? = some (ss.getD i 0) := by rw [List.getD_eq_getElem?_getD, List.getElem?_eq_getElem (by omega)]; rfl
                have g2 : ts[i]? = some (ts.getD i 0) := by rw [List.getD_eq_getElem?_getD, List.getElem?_eq_getElem (by omega)]; rfl
                have g3 : (ss.zip ts)[i]? = some (ss.getD i 0, ts.getD i 0) := by rw [List.getElem?_zip_eq_some]; exact ⟨g1, g2⟩
                rw [g3]; rfl
              · rw [List.getElem?_eq_none (by simp; omega), List.getElem?_eq_none (by simp; omega)]
            rw [e]
          · have : m' = m := by
              have e3 : (m : Int) = (m' : Int) := PyData.int.inj (List.cons.inj e).1
              omega
            subst this
            exact ⟨_, rfl, draw_ok hll hne (by omega) hsm htm⟩
end
end K51
set_option Elab.async false
set_option linter.all false
set_option maxRecDepth 100000
set_option maxHeartbeats 1000000
set_option exponentiation.threshold 20000
namespace K51
open PySem PySem.Spec PyProof.Rows L2
section
variable {P : Program} {w : World} {K : PySem.W.Frag} {mg : Str → Option Value} {base : Heap} {X : Cx} {M : Mem} {r : List Sl} {e a b c : Expr} {pos p q : Pos} {i j : Int} {B : Bs} {sg : L2.St} {H : Hp} {D : Ends} {R : List Int → List Sl} {P1 P2 : PyData → Prop}
theorem star_c {c : Const} {j : Nat} {p : Pos} {es : List Expr} {env : Env} : starEach (.Constant c j p :: es) env = (false, eval (.Constant c j p) env) :: starEach es env := by rfl
theorem eva_str {z : Str} {j : Nat} {p : Pos} {es : List Expr} {ds : List PyData} (h : EvA X M r es ds) : EvA X M r (.Constant (.str z) j p :: es) (.str z :: ds) := eva_cons ev_str h star_c
abbrev k_o : PyData := .str "ours"
abbrev k_t : PyData := .str "theirs"
abbrev k_d : PyData := .str "draw"
abbrev k_r : PyData := .str "reward"
abbrev k_f : PyData := .str "finish"
abbrev k_l : PyData := .str "lose"
def kE : List PyData := [k_o, k_t, k_d, k_d, k_o, k_t, k_d, k_r, k_f, k_l]
theorem tag0 : tagStr 0 = "draw" := rfl
theorem tag1 : tagStr 1 = "ours" := rfl
theorem tag2 : tagStr 2 = "theirs" := rfl
theorem tag3 : tagStr 3 = "reward" := rfl
theorem tag4 : tagStr 4 = "finish" := rfl
theorem tag5 : tagStr 5 = "lose" := rfl
theorem kD_eq : kE = kD := by
  unfold kD kL kE
  simp only [List.map_cons, List.map_nil, tag0, tag1, tag2, tag3, tag4, tag5]
theorem cutD_neg {ds : List PyData} {k : Nat} (h : 0 < k) (hl : k ≤ ds.length) : cutD ds none (some (-(k : Int))) = ds.take (ds.length - k) := by
  unfold cutD
  have : HT.sIx ds.length ds.length (some (-(k : Int))) = ds.length - k := by
    show (if -(k : Int) < 0 then (-(k : Int) + (ds.length : Int)).toNat else _) = _
    rw [if_pos (by omega)]
    omega
  rw [HT.sIx_none, this, Nat.sub_zero, List.drop_zero]
def C_game (ds : List PyData) : Prop := ds = [.int 7]
def P_game (ds : List PyData) (d : PyData) : Prop := ∃ G : Game, d = encG G ∧ GOk G
theorem all_pls {ds : List PyData} {m : Nat} (h : ∀ d ∈ ds, ∃ pl : Pl, d = encPl pl ∧ pl.Ok m) : ∃ G : Game, ds = G.map encPl ∧ G.length = ds.length ∧ ∀ pl ∈ G, pl.Ok m := by
  induction ds with
  | nil => exact ⟨[], rfl, rfl, fun t ht => by cases ht⟩
  | cons d ds ih =>
    obtain ⟨ts, h1, h2, h3⟩ := ih fun x hx => h x (List.mem_cons_of_mem _ hx)
    obtain ⟨r, h4, h5⟩ := h d List.mem_cons_self
    refine ⟨r :: ts, by rw [h1, h4]; rfl, by simp [h2], fun t ht => ?_⟩
    rcases List.mem_cons.mp ht with rfl | ht
    · exact h5
    · exact h3 t ht
theorem fn_law_game (Fn : Dfn K mg "_law_game" s_law_game ["_law_pool_here", "_law_most"]) (fP : Fnc P w K mg base 1 "_law_pick" (PoolSp K C_pick P_pick)) (fL : Fnc P w K mg base 2 "_law_place" (PoolSp K C_place P_place)) (mn : mg "len" = none) (mr : mg "range" = none) : Fnc P w K mg base 3 "_law_game" (PoolSp K C_game P_game) := by
  refine pool_def Fn sc_law_game (fun ds h => ?_) (by decide) (fun f cdv A outer s H E B M o ps ds hr hC hp sg hsr D k => ?_)
  · rw [h]; rfl
  · unfold C_game at hC; subst hC
    have nd := sc_law_game.nd
    have hr1 : Room 1 (CxD P w K mg base n_law_game "_law_game" s_law_game f cdv A outer s H E).A := hr.mono (by decide)
    have hfin : ∀ (m : Nat) (D' : Ends) (ps : List Int) (sg : L2.St) (H' : Hp), 0 < m → m ≤ 12 → PoolOk ps → SR K B M [.mt o (pInts ps), .dat (.int 7), .dat (.int m), .unk, .unk, .unk] sg H' → (∀ v H'', D.rt v H'' → D'.rt v H'') →
        wpSs (CxD P w K mg base n_law_game "_law_game" s_law_game f cdv A outer s H E) ((defBody s_law_game).drop 2) D' sg H' := by
      intro m D' ps sg H' hm hm12 hp h1 hrt
      refine ss_cons ?_
      refine s_set (d := .list kD) 3 h1 ?_ ?_ nd
      · refine EvF.toE ?_
        rw [← kD_eq]
        refine evf_lst ?_ (by decide)
        refine eva_str ?_; refine eva_str ?_; refine eva_str ?_; refine eva_str ?_; refine eva_str ?_; refine eva_str ?_; refine eva_str ?_; refine eva_str ?_; refine eva_str ?_; refine eva_str ?_
        exact eva_nil
      intro sg2 H2 _ h2
      refine ss_cons (s_lcP (R := fun ps => [.mt o (pInts ps), .dat (.int 7), .dat (.int m), .dat (.list kD), .unk, .unk]) (xs := List.range m) (enc := encN) (js := [5]) 0 4 hp h2 [("_law_k", 5)] (P_place [.int m, .list kD]) (fun x ps => [.mt o (pInts ps), .dat (.int 7), .dat (.int m), .dat (.list kD), .unk, .dat (encN x)])
          (fun _ => rfl) (fun _ _ => rfl) (fun _ _ => rfl) rfl (fun _ _ _ => rfl) (fun _ => rfl) ((evi_range (ev_var 2 rfl) (by omega) (by omega) mr).cast (by rw [Int.toNat_natCast])) (blkOk_by (N := n_law_game) (sc := defScope s_law_game) (by decide +kernel)) nd rfl (by rw [List.length_range]; omega) (by simp)
          (fun D s H C cl fp x hx ps => bg_name 5 nd) (fun D s H C cl fp x hx => evp_call 0 o fL hr (fun _ => rfl) (fun _ _ => rfl) (fun ps _ => eva_cons (ev_var 2 rfl) (eva_cons (ev_var 3 rfl) eva_nil)) ⟨m, rfl, hm, hm12⟩)
          (fun sg3 H3 ps3 ds3 hp3 hl3 ha3 h3 => ?_) (sw_true rfl rfl rfl (by decide +kernel)))
      obtain ⟨G, rfl, hlG, hok⟩ := all_pls (m := m) fun d hd => ha3 d hd m rfl
      rw [List.length_map, List.length_range] at hl3
      have hG : GOk G := ⟨by omega, by omega, by rw [hl3]; exact hok⟩
      have hdone : ∀ (ps : List Int) (sg : L2.St) (H' : Hp) (D3 : Ends), PoolOk ps → SR K B M [.mt o (pInts ps), .dat (.int 7), .dat (.int m), .dat (.list kD), .dat (encG G), .unk] sg H' → (∀ v H'', D.rt v H'' → D3.rt v H'') →
          wpSs (CxD P w K mg base n_law_game "_law_game" s_law_game f cdv A outer s H E) ((defBody s_law_game).drop 5) D3 sg H' := fun ps sg H' D3 hp h hrt => by
        exact ss_one (s_retE h (ev_var 4 rfl) (fun v H8 h8 q => hrt _ _ (k v H8 ps _ _ _ h8 hp q ⟨G, rfl, hG⟩)))
      by_cases hm2 : 2 < m
      · refine ss_cons (s_ifP (R := fun ps => [.mt o (pInts ps), .dat (.int 7), .dat (.int m), .dat (.list kD), .dat (encG G), .unk]) h3 hp3
          (evpt_and (fun ps _ => (evt_cmp op_gt c_gt (ev_var 2 rfl) ev_int).cast (decide_eq_true (by omega))) (evpt_cmp op_gt (PI := fun _ => True) (EvP.imp (evp_call 0 o fP hr1 (fun _ => rfl) (fun _ _ => rfl) (fun ps _ => eva_cons ev_int eva_nil) ⟨5, rfl, by decide⟩) fun d h => by
            obtain ⟨r, h1, h2⟩ := h 5 rfl
            exact ⟨r, h1, trivial⟩))) (fun H4 ps4 h4 hp4 => ?_) fun H4 ps4 h4 hp4 => ss_nil (hdone _ _ _ _ hp4 h4 hrt))
        have hGl : 2 ≤ (G.map encPl).length := by rw [List.length_map]; omega
        refine ss_one (s_set 4 h4 (Ev.cast (EvF.toE (evf_cat (ds1 := (G.map encPl).take ((G.map encPl).length - 2)) (ds2 := [encPl .finish, encPl .lose]) (EvF.toL (EvF.cast (evf_slice (ev_var 4 rfl).toR evo_none (evo_some (ev_neg ev_int))) (cutD_neg (k := 2) (by decide) hGl)))
          (EvF.toL (evf_lst (eva_cons (ev_tup (ds := [.str "finish"]) (eva_cons ev_str eva_nil) (by simp)) (eva_cons (ev_tup (ds := [.str "lose"]) (eva_cons ev_str eva_nil) (by simp)) eva_nil)) (by simp))) (by simp only [List.length_take, List.length_map, List.length_cons, List.length_nil]; omega)))
          (show _ = encG (G.take (G.length - 2) ++ [.finish, .lose]) by unfold encG; rw [List.map_append, List.map_take, List.length_map]; rfl)) (fun sg5 H5 _ h5 => ?_) nd)
        have hG2 : GOk (G.take (G.length - 2) ++ [.finish, .lose]) := by
          have hl : (G.take (G.length - 2) ++ [Pl.finish, .lose]).length = m := by simp only [List.length_append, List.length_take, List.length_cons, List.length_nil]; omega
          refine ⟨by omega, by omega, fun pl hpl => ?_⟩
          rw [hl]
          rcases List.mem_append.mp hpl with h | h
          · exact hok pl (List.mem_of_mem_take h)
          · rcases List.mem_cons.mp h with rfl | h
            · trivial
            · rw [List.mem_singleton.mp h]; trivial
        exact ss_one (s_retE h5 (ev_var 4 rfl) (fun v H8 h8 q => hrt _ _ (k v H8 ps4 _ _ _ h8 hp4 q ⟨_, rfl, hG2⟩)))
      · refine ss_cons (s_if (z := false) h3 (EvT.cast (EvW.toT (evw_and (z2 := false) (z1 := false) ((evt_cmp op_gt c_gt (ev_var 2 rfl) ev_int).cast (decide_eq_false (by omega))) fun z => by cases z)) rfl) (fun H4 _ h4 z => by cases z) fun H4 _ h4 z => ss_nil (hdone _ _ _ _ hp3 h4 hrt))
    refine ss_cons (s_setP (R := fun ps => [.mt o (pInts ps), .dat (.int 7), .unk, .unk, .unk, .unk]) 2 hsr hp (evp_add1 (PI := fun n => ∃ r : Nat, n = (r : Int) ∧ r < 7) (EvP.imp (evp_call 0 o fP hr1 (fun _ => rfl) (fun _ _ => rfl) (fun ps _ => eva_cons (ev_var 1 rfl) eva_nil) ⟨7, rfl, by decide⟩) fun d h => by
      obtain ⟨r, h1, h2⟩ := h 7 rfl; exact ⟨r, h1, r, rfl, h2⟩)) (fun sg1 H1 ps1 d1 hd1 hp1 h1 => ?_) nd)
    obtain ⟨_, rfl, r1, rfl, hr7⟩ := hd1
    refine ss_cons (s_ifP (R := fun ps => [.mt o (pInts ps), .dat (.int 7), .dat (.int (1 + (r1 : Int))), .unk, .unk, .unk]) h1 hp1 (evpt_eq (PI := fun _ => True) (EvP.imp (evp_call 0 o fP hr1 (fun _ => rfl) (fun _ _ => rfl) (fun ps _ => eva_cons ev_int eva_nil) ⟨30, rfl, by decide⟩) fun d h => by
            obtain ⟨r, h1, h2⟩ := h 30 rfl
            exact ⟨r, h1, trivial⟩)) (fun H2 ps2 h2 hp2 => ?_) fun H2 ps2 h2 hp2 => ss_nil ?_)
    · refine ss_one (s_set (d := .int ((12 : Nat) : Int)) 2 h2 (Ev.cast (ev_add (ev_var 1 rfl) ev_int) (by rfl)) (fun sg3 H3 _ h3 => ?_) nd)
      exact hfin 12 D ps2 _ _ (by decide) (by decide) hp2 h3 (fun _ _ z => z)
    · have e : (1 + (r1 : Int)) = ((1 + r1 : Nat) : Int) := by omega
      rw [e] at h2
      exact hfin (1 + r1) D ps2 _ _ (by omega) (by omega) hp2 h2 (fun _ _ z => z)
def C_strat (ds : List PyData) : Prop := ∃ G : Game, ds = [encG G, .str "theirs"] ∧ GOk G
def P_strat (ds : List PyData) (d : PyData) : Prop := ∀ G : Game, ds = [encG G, .str "theirs"] → ∃ s : Strat, d = encS s ∧ SOk .t G s
/-- name = a new list, its newness told -/
theorem s_setFN (i : Nat) {x : Str} {px : Pos} {ds : List PyData} (hsr : SR X.K B M r sg H) (he : EvF X M r e ds) (k : ∀ p sg' H', p ∉ M → SR X.K B (p :: M) (r.set i (.mt p ds)) sg' H' → D.nx sg' H') (hN : X.N.Nodup) (hi : X.N[i]? = some x := by rfl)
    (hx : Loc X.env.scope x := by first | exact Or.inl rfl | exact Or.inr rfl) (hs : swapsWith e (some (.Name x px)) pos.line X.env = pure false := by rfl) (hf : X.fn x = true ∨ X.env.scope.names.lookup x = some .local := by first | exact .inl rfl | exact .inr rfl) : wpS X (.Assign [.Name x px] e pos) D sg H := by
  refine s_of (ps_set hN hi hx e_wp hs hf) ?_
  refine he B sg H _ hsr fun p xs H1 s1 n1 e1 q1 => ?_
  exact k p _ H1 (hsr.new n1) (hsr.setMt s1 n1 e1 q1)
theorem encQ_inj {p q : Rat} (h : encQ p = encQ q) : p = q := by
  have := eqv_q p q
  rw [h] at this
  have h2 := eqv_q q q
  rw [decide_eq_true rfl] at h2
  rw [h2] at this
  exact of_decide_eq_true this.symm
theorem encN_inj {p q : Nat} (h : encN p = encN q) : p = q := by
  have : (p : Int) = (q : Int) := PyData.int.inj h
  omega
theorem map_inj {α : Type} {f : α → PyData} (hf : ∀ a b, f a = f b → a = b) : ∀ {l m : List α}, l.map f = m.map f → l = m
  | [], [], _ => rfl
  | [], _ :: _, h => by cases h
  | _ :: _, [], h => by cases h
  | a :: l, b :: m, h => by
    rw [List.map_cons, List.map_cons] at h
    have h2 := List.cons.inj h
    rw [hf a b h2.1, map_inj hf h2.2]
theorem encB_inj (a b : Rat × Nat) (h : encB a = encB b) : a = b := by
  have h2 := List.cons.inj (PyData.tuple.inj h)
  have h3 := (List.cons.inj h2.2).1
  exact Prod.ext (encQ_inj h2.1) (encN_inj h3)
theorem tag_inj : ∀ a b : _root_.Fin 6, tagStr a = tagStr b → a = b := by decide +kernel
theorem encPl_inj (p q : Pl) (h : encPl p = encPl q) : p = q := by
  have h2 := List.cons.inj (PyData.tuple.inj h)
  have h3 : p.tag = q.tag := tag_inj _ _ (PyData.str.inj h2.1)
  have h4 : p.rest = q.rest := h2.2
  cases p with
  | draw bs => cases q with
    | draw cs => rw [map_inj encB_inj (PyData.list.inj (List.cons.inj h4).1)]
    | _ => cases h3
  | ours bs => cases q with
    | ours cs => rw [map_inj (fun a b h => encN_inj h) (PyData.list.inj (List.cons.inj h4).1)]
    | _ => cases h3
  | theirs bs => cases q with
    | theirs cs => rw [map_inj (fun a b h => encN_inj h) (PyData.list.inj (List.cons.inj h4).1)]
    | _ => cases h3
  | reward am t => cases q with
    | reward bm u =>
      have h5 := List.cons.inj h4
      rw [encQ_inj h5.1, encN_inj (List.cons.inj h5.2).1]
    | _ => cases h3
  | finish => cases q with
    | finish => rfl
    | _ => cases h3
  | lose => cases q with
    | lose => rfl
    | _ => cases h3
theorem encG_inj {G G' : Game} (h : encG G = encG G') : G = G' := map_inj encPl_inj (PyData.list.inj h)
/-- what is found so far -/
structure SPre (G : Game) (i : Nat) (s : Strat) : Prop where
  len : s.length = i
  ok : ∀ (j : Nat) (p : Pl), j < i → G[j]? = some p → if p.isSide .t = true then ∃ b, s[j]? = some (some b) ∧ b < p.tgs.length else s[j]? = some none
theorem SPre.add {G : Game} {i : Nat} {s : Strat} {p : Pl} {o : Option Nat} (h : SPre G i s) (hp : G[i]? = some p) (ho : if p.isSide .t = true then ∃ b, o = some b ∧ b < p.tgs.length else o = none) : SPre G (i + 1) (s ++ [o]) := by
  refine ⟨by rw [List.length_append, h.len]; rfl, fun j q hj hq => ?_⟩
  by_cases e : j = i
  · subst e
    rw [hp] at hq; cases hq
    have e2 : (s ++ [o])[j]? = some o := by rw [List.getElem?_append_right (by rw [h.len]; exact Nat.le_refl _), h.len, Nat.sub_self]; rfl
    by_cases hs : p.isSide .t = true
    · rw [if_pos hs] at ho ⊢
      obtain ⟨b, rfl, hb⟩ := ho
      exact ⟨b, e2, hb⟩
    · rw [if_neg hs] at ho ⊢
      subst ho; exact e2
  · have hj' : j < i := by omega
    have q1 := h.ok j q hj' hq
    have e2 : (s ++ [o])[j]? = s[j]? := List.getElem?_append_left (by rw [h.len]; exact hj')
    rw [e2]; exact q1
theorem SPre.fin {G : Game} {s : Strat} (h : SPre G G.length s) : SOk .t G s :=
  ⟨h.len, fun j p hj => h.ok j p (List.getElem?_eq_some_iff.mp hj).1 hj⟩
theorem fn_law_strategy (Fn : Dfn K mg "_law_strategy" s_law_strategy ["_law_pool_here", "_law_game_here", "_law_side"]) (fP : Fnc P w K mg base 1 "_law_pick" (PoolSp K C_pick P_pick)) (mn : mg "len" = none) : Fnc P w K mg base 2 "_law_strategy" (PoolSp K C_strat P_strat) := by
  refine pool_def Fn sc_law_strategy (fun ds h => ?_) (by decide) (fun f cdv A outer s H E B M o ps ds hr hC hp sg hsr D k => ?_)
  · obtain ⟨G, rfl, _⟩ := h; rfl
  · obtain ⟨G, rfl, hG⟩ := hC
    have nd := sc_law_strategy.nd
    have hN12 := hG.few
    refine ss_cons (s_setFN 3 hsr (evf_lst eva_nil (by simp)) (fun o2 sg1 H1 no h1 => ?_) nd)
    refine ss_cons (s_forB (β := List Int × Strat) (xs := G) (enc := encPl) (js := [4]) h1 (evi_list (ev_var 1 rfl)) (fun i b => PoolOk b.1 ∧ SPre G i b.2) (fun i b => [.mt o (pInts b.1), .dat (encG G), .dat (.str "theirs"), .mt o2 (b.2.map encO), .unk])
      (fun i pl b => [.mt o (pInts b.1), .dat (encG G), .dat (.str "theirs"), .mt o2 (b.2.map encO), .dat (encPl pl)]) (ps, []) ⟨hp, rfl, fun j p hj => absurd hj (Nat.not_lt_zero _)⟩ (fun B' sg' H' h => h) (fun i x b hx => bg_name 4 nd) ?_ ?_ PassesOwn.never rfl)
    · rintro B' hB hout i pl ⟨ps2, st⟩ hx ⟨hp2, hst⟩ D' sg' H' _ _ hnx _ h2
      have hok : pl.Ok G.length := hG.ok pl (List.mem_of_getElem? hx)
      have hl : (st.map encO).length ≤ 1000000 := by
        rw [List.length_map, hst.len]
        have := (List.getElem?_eq_some_iff.mp hx).1
        omega
      refine ss_one (s_if h2 (evt_cmp op_eq c_eqS (ev_k0 (ev_var 4 rfl)) (ev_var 2 rfl)) (fun H3 _ h3 z => ?_) fun H3 _ h3 z => ?_)
      · have hs : pl.isSide .t = true := (kd_side pl .t).symm.trans z
        have hpos : 0 < pl.tgs.length := by
          cases pl with
          | theirs ts => exact List.length_pos_iff.mpr hok.1
          | _ => cases hs
        refine ss_one (s_appP (R := fun ps => [.mt o (pInts ps), .dat (encG G), .dat (.str "theirs"), .mt o2 (st.map encO), .dat (encPl pl)]) 3 h3 hp2 (fun _ => rfl) (evp_call 0 o fP hr (fun _ => rfl) (fun _ _ => rfl) (fun ps _ => eva_cons (Ev.cast (ev_len (ds := pl.tgs.map encN) (ev_side1 (ev_var 4 rfl) hs).toR mn) (by rw [List.length_map])) eva_nil) ⟨pl.tgs.length, rfl, hpos⟩) hl (fun H4 ps4 d4 p4 hp4 h4 => ?_))
        obtain ⟨b, rfl, hb⟩ := p4 _ rfl
        refine hnx _ _ (ps4, st ++ [some b]) ⟨hp4, hst.add hx (by rw [if_pos hs]; exact ⟨b, rfl, hb⟩)⟩ ?_
        have e : (st ++ [some b]).map encO = st.map encO ++ [encN b] := by rw [List.map_append]; rfl
        show SR _ _ _ [.mt o (pInts ps4), .dat (encG G), .dat (.str "theirs"), .mt o2 ((st ++ [some b]).map encO), .unk] _ _
        rw [e]
        exact h4.wk (by repeat (first | apply Wk.nil | apply Wk.same | apply Wk.drop))
      · have hs : ¬ pl.isSide .t = true := by
          have := (kd_side pl .t).symm.trans z
          rw [this]; simp
        refine ss_one (s_app 3 h3 rfl ev_non hl (fun H4 h4 => ?_))
        refine hnx _ _ (ps2, st ++ [none]) ⟨hp2, hst.add hx (by rw [if_neg hs])⟩ ?_
        have e : (st ++ [none]).map encO = st.map encO ++ [.none] := by rw [List.map_append]; rfl
        show SR _ _ _ [.mt o (pInts ps2), .dat (encG G), .dat (.str "theirs"), .mt o2 ((st ++ [none]).map encO), .unk] _ _
        rw [e]
        exact h4.wk (by repeat (first | apply Wk.nil | apply Wk.same | apply Wk.drop))
    · rintro sg' H' ⟨ps2, st⟩ ⟨hp2, hst⟩ h2
      have h3 := h2.fix1 no (i := 3) rfl
      refine ss_one (s_retE h3 (ev_var 3 rfl) (fun v H8 h8 q => k v H8 ps2 _ _ _ h8 hp2 q fun G' e => ?_))
      have e2 := (List.cons.inj e).1
      have : encG G = encG G' := e2
      exact ⟨st, rfl, by rw [← encG_inj this]; exact hst.fin⟩
end
end K51
set_option Elab.async false
set_option linter.all false
set_option maxRecDepth 100000
set_option maxHeartbeats 1000000
set_option exponentiation.threshold 20000
namespace K51
open PySem PySem.Spec PyProof.Rows L2
def tyD : PyData → String
  | .none => "NoneType"
  | .bool _ => "bool"
  | .int _ => "int"
  | .str _ => "str"
  | .list _ => "list"
  | .tuple _ => "tuple"
  | .dict _ => "dict"
theorem sql_ty {K : PySem.W.Frag} {H : Hp} {a : Addr} {xs : List V} (h : SqL K H a xs) : TyX K H (.ref a) (.type "list") := by
  rcases h with (h | ⟨o, h⟩) | ⟨o, its, n, h1, h2, _⟩
  · exact .base (.lst h)
  · exact .base (.frz h)
  · exact .kList h1 h2
theorem sqt_ty {K : PySem.W.Frag} {H : Hp} {a : Addr} {xs : List V} (h : SqT K H a xs) : TyX K H (.ref a) (.type "tuple") := by
  rcases h with (h | ⟨o, h⟩) | ⟨o, its, n, h1, h2, _⟩
  · exact .base (.tup h)
  · exact .fTuple h
  · exact .kTuple h1 h2
theorem dp_ty {K : PySem.W.Frag} {H : Hp} {v : V} {d : PyData} (h : Dp K H v d) : TyX K H v (.type (tyD d)) := by
  cases h with
  | non => exact .base .non
  | bl b => exact .base (.bl b)
  | int i => exact .base (.int i)
  | str s => exact .base (.str s)
  | lst q _ => exact sql_ty q
  | tup q _ => exact sqt_ty q
section
variable {P : Program} {w : World} {K : PySem.W.Frag} {mg : Str → Option Value} {base : Heap} {X : Cx} {M : Mem} {r : List Sl} {e a b c : Expr} {pos p q p1 p2 : Pos} {i j : Int} {B : Bs} {sg : L2.St} {H : Hp} {D : Ends} {d : PyData}
theorem ev_isi {T : Str} {tn : String} {z : Bool} (ha : Ev X M r a d) (hi : X.mg "isinstance" = none) (hT : X.mg T = none) (hz : kitB (tyD d) tn = some z) (hb : bootBuiltins T = some (.type tn) := by decide +kernel) (hgT : Gl X T := by rfl) (hg : Gl X "isinstance" := by rfl)
    (hnT : T ≠ "__name__" := by decide) (hdT : (T == ("__debug__" : Str)) = false := by decide) (hst : starEach [a, .Name T p1] X.env = (false, eval a X.env) :: starEach [.Name T p1] X.env := by rfl) (hst2 : starEach [.Name T p1] X.env = (false, eval (.Name T p1) X.env) :: starEach [] X.env := by rfl)
    (hpl : (backTo pos (starEach [.Name T p1] X.env)).any (·.1) = false := by rfl) : Ev X M r (.Call (.Name "isinstance" p) [a, .Name T p1] [] pos) (.bool z) := fun B sg H Q hs k => by
  refine e_of (pe_callB call_isi hg hi (by decide +kernel) (pa_cons e_wp (pa_cons (pe_bltn (v := .ty tn) hgT hT hb rfl hnT hdT) pa_nil hst2) hst) (he := hst) (hpl := hpl)) ?_
  refine ha B sg H _ hs fun v H1 s1 q1 => ?_
  exact ⟨v, .ty tn, .type (tyD d), .type tn, z, rfl, .ty tn, dp_ty (dp_mono hid_le q1), kit_ty hz, k _ H1 s1 (.bl z)⟩
theorem evt_ch {op op' : CmpOp} {rr rr' : R2} {d1 d2 d3 : PyData} {z1 z2 : Bool} (ho : OpR X (compareOp op) rr) (ho' : OpR X (compareOp op') rr') (c1 : CmpOk X M rr d1 d2 z1) (c2 : CmpOk X M rr' d2 d3 z2) (ha : Ev X M r a d1) (hb : Ev X M r b d2) (hc : Ev X M r c d3)
    (hm : lastMarks [op, op'] [b, c] = false := by with_unfolding_all rfl) : EvT X M r (.Compare a [op, op'] [b, c] pos) (z1 && z2) := evt_chain ho ho' c1 c2 ha hb hc (pt_chain ho ho' e_wp e_wp e_wp hm)
def F_isst (ds : List PyData) (d : PyData) : Prop := ∃ (G : Game) (sd : Side) (s : Strat), ds = [encG G, .str sd.str, encS s] ∧ GOk G ∧ SOk sd G s ∧ d = .bool true
theorem fn_law_is_strategy (Fn : Dfn K mg "_law_is_strategy" s_law_is_strategy ["_law_game_here", "_law_side", "_law_strategy_here"]) (mi : mg "isinstance" = none) (ml : mg "list" = none) (mt : mg "int" = none) (mb : mg "bool" = none) (mn : mg "len" = none) (mr : mg "range" = none) : Fnc P w K mg base 1 "_law_is_strategy" (PureSp K F_isst) := by
  refine pure_def Fn sc_law_is_strategy (fun ds d h => ?_) (fun f cdv A outer s H E M ds d hr h sg hsr D k => ?_)
  · obtain ⟨G, sd, s, rfl, _⟩ := h; rfl
  · obtain ⟨G, sd, st, rfl, hG, hS, rfl⟩ := h
    have nd := sc_law_is_strategy.nd
    have hN12 := hG.few
    refine ss_cons (s_if (z := false) hsr (EvT.cast (EvW.toT (evw_or (z1 := !true) (z2 := false) (evt_not (evt_val (ev_isi (tn := "list") (z := true) (ev_var 2 rfl) mi ml (by show kitB "list" "list" = _; decide +kernel)))) fun _ => evw_or1 ((evt_cmp op_ne c_neI (ev_len (ev_var 2 rfl).toR mn) (ev_len (ev_var 0 rfl).toR mn)).cast (by
      rw [List.length_map, List.length_map, hS.len, decide_eq_true rfl]; rfl)))) rfl) (fun _ _ _ z => by cases z) fun H1 _ h1 _ => ss_nil ?_)
    refine ss_cons (s_for (xs := List.range G.length) (enc := encN) h1 ((evi_range (ev_len (ev_var 0 rfl).toR mn) (by omega) (by rw [List.length_map]; omega) mr).cast (by rw [List.length_map, Int.toNat_natCast]))
      (fun _ => [.dat (encG G), .dat (.str sd.str), .dat (encS st), .unk]) (fun _ x => [.dat (encG G), .dat (.str sd.str), .dat (encS st), .dat (encN x)]) (fun B' sg' H' h => h) (fun i x hx => bg_name 3 nd) ?_ ?_ PassesOwn.never rfl)
    · intro B' hB hout i x hx D' sg' H' _ _ hnx _ h2
      have hxl : x < G.length := List.mem_range.mp (List.mem_of_getElem? hx)
      have hgx : G[x]? = some G[x] := List.getElem?_eq_getElem hxl
      generalize G[x] = pl at hgx
      have hsx := hS.ok x pl hgx
      have hdone : ∀ sg'' H'', SR K B' M [.dat (encG G), .dat (.str sd.str), .dat (encS st), .dat (encN x)] sg'' H'' → D'.nx sg'' H'' := fun sg'' H'' h => hnx _ _ (h.wk (by repeat (first | apply Wk.nil | apply Wk.same | apply Wk.drop)))
      refine ss_one (s_if (z := !pl.isSide sd) h2 ((evt_cmp op_ne c_neS (ev_k0 (ev_g (ev_var 0 rfl) (ev_var 3 rfl) hgx)) (ev_var 1 rfl)).cast (by rw [kd_side])) (fun H3 _ h3 z => ?_) fun H3 _ h3 z => ?_)
      · have hs : ¬ pl.isSide sd = true := by
          intro e; rw [e] at z; cases z
        rw [if_neg hs] at hsx
        refine ss_one (s_if (z := false) h3 (evt_notN (ev_s (ev_var 2 rfl) (ev_var 3 rfl) hsx)) (fun _ _ _ z => by cases z) fun H4 _ h4 _ => ss_nil (hdone _ _ h4))
      · have hs : pl.isSide sd = true := by
          cases e : pl.isSide sd with
          | true => rfl
          | false => rw [e] at z; cases z
        rw [if_pos hs] at hsx
        obtain ⟨b, hb, hbl⟩ := hsx
        refine ss_one (s_if (z := false) h3 (EvT.cast (EvW.toT (evw_or (z1 := !true) (z2 := false) (evt_not (evt_val (ev_isi (tn := "int") (d := encN b) (z := true) (ev_s (ev_var 2 rfl) (ev_var 3 rfl) hb) mi mt (by show kitB "int" "int" = _; decide +kernel)))) fun _ => evw_or1 (evt_val (ev_isi (tn := "bool") (d := encN b) (z := false) (ev_s (ev_var 2 rfl) (ev_var 3 rfl) hb) mi mb (by show kitB "int" "bool" = _; decide +kernel))))) rfl)
          (fun _ _ _ z => by cases z) fun H4 _ h4 _ => ?_)
        refine ss_one (s_if (z := false) h4 (EvT.cast (evt_not (evt_ch op_le op_lt c_le c_lt ev_int (ev_s (ev_var 2 rfl) (ev_var 3 rfl) hb) (ev_len (ds := pl.tgs.map encN) (ev_side1 (ev_g (ev_var 0 rfl) (ev_var 3 rfl) hgx) hs).toR mn))) ?_) (fun _ _ _ z => by cases z) fun H5 _ h5 _ => ss_nil (hdone _ _ h5))
        rw [List.length_map, decide_eq_true (show (0 : Int) ≤ (b : Int) by omega), decide_eq_true (show (b : Int) < (pl.tgs.length : Int) by omega)]; rfl
    · intro sg' H' h2
      exact ss_one (s_ret h2 ev_bl k)
def F_isnum (ds : List PyData) (d : PyData) : Prop := ∃ q : Rat, ds = [encQ q] ∧ d = .bool true
theorem fn_law_is_number (Fn : Dfn K mg "_law_is_number" s_law_is_number ["_law_value"]) (mi : mg "isinstance" = none) (mu : mg "tuple" = none) (mt : mg "int" = none) (mb : mg "bool" = none) (mn : mg "len" = none) : Fnc P w K mg base 1 "_law_is_number" (PureSp K F_isnum) := by
  refine pure_def Fn sc_law_is_number (fun ds d h => ?_) (fun f cdv A outer s H E M ds d hr h sg hsr D k => ?_)
  · obtain ⟨q, rfl, _⟩ := h; rfl
  · obtain ⟨q, rfl, rfl⟩ := h
    have hq := den_pos q
    refine ss_cons (s_if (z := false) hsr (EvT.cast (EvW.toT (evw_or (z1 := !true) (z2 := false) (evt_not (evt_val (ev_isi (tn := "tuple") (z := true) (ev_var 0 rfl) mi mu (by show kitB "tuple" "tuple" = _; decide +kernel)))) fun _ => evw_or1 (EvT.cast (evt_cmp op_ne c_neI (ev_lent (ev_var 0 rfl) mn) ev_int) rfl))) rfl) (fun _ _ _ z => by cases z) fun H1 _ h1 _ => ss_nil ?_)
    refine ss_cons (s_if (z := false) h1 (EvT.cast (EvW.toT (evw_or (z1 := !true) (evt_not (evt_val (ev_isi (tn := "int") (z := true) (ev_q0 (ev_var 0 rfl)) mi mt (by show kitB "int" "int" = _; decide +kernel)))) fun _ => evw_or (z1 := !true) (evt_not (evt_val (ev_isi (tn := "int") (z := true) (ev_q1 (ev_var 0 rfl)) mi mt (by show kitB "int" "int" = _; decide +kernel)))) fun _ => evw_or1 (evt_cmp op_lt c_lt (ev_q1 (ev_var 0 rfl)) ev_int))) (by
      rw [decide_eq_false (show ¬ ((q.den : Int) < 1) by omega)]; rfl)) (fun _ _ _ z => by cases z) fun H2 _ h2 _ => ss_nil ?_)
    exact ss_one (s_ret h2 (Ev.cast (ev_and (z1 := !false) (z2 := !false) (ev_not (ev_isi (tn := "bool") (z := false) (ev_q0 (ev_var 0 rfl)) mi mb (by show kitB "int" "bool" = _; decide +kernel))) fun _ => ev_one (ev_not (ev_isi (tn := "bool") (z := false) (ev_q1 (ev_var 0 rfl)) mi mb (by show kitB "int" "bool" = _; decide +kernel)))) rfl) k)
def F_isnums (ds : List PyData) (d : PyData) : Prop := ∃ v : List Rat, ds = [encQs v] ∧ v.length ≤ 1000 ∧ d = .bool true
theorem fn_law_is_numbers (Fn : Dfn K mg "_law_is_numbers" s_law_is_numbers ["_law_numbers"]) (fN : Fnc P w K mg base 1 "_law_is_number" (PureSp K F_isnum)) (mi : mg "isinstance" = none) (ml : mg "list" = none) (ma : mg "all" = none) : Fnc P w K mg base 2 "_law_is_numbers" (PureSp K F_isnums) := by
  refine pure_def Fn sc_law_is_numbers (fun ds d h => ?_) (fun f cdv A outer s H E M ds d hr h sg hsr D k => ?_)
  · obtain ⟨q, rfl, _⟩ := h; rfl
  · obtain ⟨v, rfl, hv, rfl⟩ := h
    have nd := sc_law_is_numbers.nd
    refine ss_one (s_ret hsr (Ev.cast (ev_and (z1 := true) (z2 := (v.map fun _ => true).all id) (ev_isi (tn := "list") (z := true) (ev_var 0 rfl) mi ml (by show kitB "list" "list" = _; decide +kernel)) fun _ => ev_one (ev_all (bs := v.map fun _ => true) (EvF.toR (EvF.cast (evf_lc' (xs := v) (enc := encQ) [("_law_one", 1)] (fun _ => .bool true) (fun q => [.dat (encQs v), .dat (encQ q)])
      (evi_list (ev_var 0 rfl)) (blkOk_by (N := n_law_is_numbers) (sc := defScope s_law_is_numbers) (by decide +kernel)) nd rfl (by omega) (by simp) (fun D s H C cl fp x hx => bg_name 1 nd) (fun D s H C cl fp x hx => ev_call fN hr (eva_cons (ev_var 1 rfl) eva_nil) ⟨x, rfl, rfl⟩)) (by rw [List.map_map]; rfl))) ma)) (by simp)) k)
def F_less (ds : List PyData) (d : PyData) : Prop := ∃ p q : Rat, ds = [encQ p, encQ q] ∧ Sm p ∧ Sm q ∧ d = .bool (decide (p < q))
theorem fn_law_less (Fn : Dfn K mg "_law_less" s_law_less ["_law_a", "_law_b"]) : Fnc P w K mg base 1 "_law_less" (PureSp K F_less) := by
  refine pure_def Fn sc_law_less (fun ds d h => ?_) (fun f cdv A outer s H E M ds d hr h sg hsr D k => ?_)
  · obtain ⟨p, q, rfl, _⟩ := h; rfl
  · obtain ⟨p, q, rfl, hp, hq, rfl⟩ := h
    have l1 : (p < q) ↔ p.num * (q.den : Nat) < q.num * (p.den : Nat) := Rat.lt_iff p q
    refine ss_one (s_ret hsr (Ev.cast (ev_cmp op_lt c_lt (ev_mul (mulw hp.1 (den_abs hq.2) (by decide)) (ev_q0 (ev_var 0 rfl)) (ev_q1 (ev_var 1 rfl))) (ev_mul (mulw hq.1 (den_abs hp.2) (by decide)) (ev_q0 (ev_var 1 rfl)) (ev_q1 (ev_var 0 rfl)))) ?_) k)
    congr 1
    rw [Bool.eq_iff_iff, decide_eq_true_eq, decide_eq_true_eq]
    exact l1.symm
end
end K51
set_option Elab.async false
set_option linter.all false
set_option maxRecDepth 100000
set_option maxHeartbeats 1000000
set_option exponentiation.threshold 20000
namespace K51
open PySem PySem.Spec PyProof.Rows L2
section
variable {P : Program} {w : World} {K : PySem.W.Frag} {mg : Str → Option Value} {base : Heap} {X : Cx} {M : Mem} {r : List Sl} {e a b c : Expr} {pos p q p1 p2 : Pos} {B : Bs} {sg : L2.St} {H : Hp} {D : Ends} {d : PyData}
theorem tag_out : ∀ f : _root_.Fin 6, (decide (tagStr f ∈ (["ours", "theirs"] : List Str))) = decide (f = 1 ∨ f = 2) := by decide +kernel
theorem fn_law_targets (Fn : Dfn K mg "_law_targets" s_law_targets ["_law_game_here", "_law_place_here"]) (ml : mg "list" = none) : Fnc P w K mg base 1 "_law_targets" (PureSp K F_targets) := by
  refine pure_def Fn sc_law_targets (fun ds d h => ?_) (fun f cdv A outer s H E M ds d hr h sg hsr D k => ?_)
  · obtain ⟨G, i, pl, rfl, _⟩ := h; rfl
  · obtain ⟨G, i, pl, rfl, hG, hi, rfl⟩ := h
    have nd := sc_law_targets.nd
    have hok : pl.Ok G.length := hG.ok pl (List.mem_of_getElem? hi)
    refine ss_cons (s_set 2 hsr (ev_g (ev_var 0 rfl) (ev_var 1 rfl) hi) (fun sg1 H1 _ h1 => ?_) nd)
    refine ss_cons (s_if h1 (evt_kd (ev_var 2 rfl) (kd_draw pl)) (fun H2 _ h2 z => ?_) fun H2 _ h2 z => ?_)
    · cases pl with
      | draw bs =>
        refine ss_one (s_ret h2 ((evf_lc' (xs := bs) (enc := encB) [("_law_branch", 3)] (fun b => encN b.2) (fun b => [.dat (encG G), .dat (encN i), .dat (encPl (.draw bs)), .dat (encB b)])
          (evi_list (ev_ixt (n := 1) (ev_var 2 rfl) ev_int rfl rfl)) (blkOk_by (N := n_law_targets) (sc := defScope s_law_targets) (by decide +kernel)) nd rfl (by have := few_le hok; simpa [Pl.tgs] using this) (by simp)
          (fun D s H C cl fp x hx => bg_name 3 nd) (fun D s H C cl fp x hx => ev_ixt (n := 1) (ev_var 3 rfl) ev_int rfl rfl)).toE.cast ?_) k)
        simp [encNs, Pl.tgs]
      | _ => cases z
    · refine ss_nil (ss_cons (s_if h2 (EvT.cast (evt_inS (ns := ["ours", "theirs"]) (ev_k0 (ev_var 2 rfl)) (EvF.toR (evf_lst (eva_cons ev_str (eva_cons ev_str eva_nil)) (by simp)))) (tag_out pl.tag)) (fun H3 _ h3 z3 => ?_) fun H3 _ h3 z3 => ?_))
      · cases pl with
        | ours ts => exact ss_one (s_ret h3 (evf_list (ev_ixt (n := 1) (ev_var 2 rfl) ev_int rfl rfl).toR ml).toE k)
        | theirs ts => exact ss_one (s_ret h3 (evf_list (ev_ixt (n := 1) (ev_var 2 rfl) ev_int rfl rfl).toR ml).toE k)
        | _ => exact absurd (of_decide_eq_true z3) (by simp [Pl.tag])
      · refine ss_nil (ss_cons (s_if h3 (evt_kd (ev_var 2 rfl) (kd_reward pl)) (fun H4 _ h4 z4 => ?_) fun H4 _ h4 z4 => ?_))
        · cases pl with
          | reward am t => exact ss_one (s_ret h4 (evf_lst (eva_cons (ev_ixt (n := 2) (ev_var 2 rfl) ev_int rfl rfl) eva_nil) (by simp)).toE k)
          | _ => cases z4
        · refine ss_nil (ss_one (s_ret h4 (evf_lst eva_nil (by simp)).toE ?_))
          have : pl.tgs = [] := by
            cases pl with
            | draw _ => cases z
            | ours _ => exact absurd (.inl rfl) (of_decide_eq_false z3)
            | theirs _ => exact absurd (.inr rfl) (of_decide_eq_false z3)
            | reward _ _ => cases z4
            | finish => rfl
            | lose => rfl
          unfold encNs at k
          rw [this] at k
          exact k
theorem put_side {sd : Side} {pl : Pl} {b : Nat} (h : pl.isSide sd = true) (hb : b < pl.tgs.length) : put sd pl (some b) = .draw [(1, pl.tgs[b])] := by
  unfold put
  rw [if_pos h]
  show Pl.draw [(1, pl.tgs.getD b 0)] = _
  rw [List.getD_eq_getElem?_getD, List.getElem?_eq_getElem hb]; rfl
theorem put_not {sd : Side} {pl : Pl} {o : Option Nat} (h : ¬ pl.isSide sd = true) : put sd pl o = pl := by unfold put; rw [if_neg h]
def gls (pl : Pl) (s t : Strat) (i : Nat) : List Nat := (put .t (put .o pl (s.getD i none)) (t.getD i none)).tgs
def F_goals (ds : List PyData) (d : PyData) : Prop := ∃ (G : Game) (i : Nat) (pl : Pl) (s t : Strat), ds = [encG G, encN i, encS s, encS t] ∧ GOk G ∧ SOk .o G s ∧ SOk .t G t ∧ G[i]? = some pl ∧ d = encNs (gls pl s t i)
theorem fn_law_goals (Fn : Dfn K mg "_law_goals" s_law_goals ["_law_game_here", "_law_place_here", "_law_ours", "_law_theirs"]) (fT : Fnc P w K mg base 1 "_law_targets" (PureSp K F_targets)) : Fnc P w K mg base 2 "_law_goals" (PureSp K F_goals) := by
  refine pure_def Fn sc_law_goals (fun ds d h => ?_) (fun f cdv A outer s H E M ds d hr h sg hsr D k => ?_)
  · obtain ⟨G, i, pl, s, t, rfl, _⟩ := h; rfl
  · obtain ⟨G, i, pl, so, st, rfl, hG, hS, hT, hi, rfl⟩ := h
    have nd := sc_law_goals.nd
    refine ss_cons (s_set 4 hsr (ev_call fT hr (eva_cons (ev_var 0 rfl) (eva_cons (ev_var 1 rfl) eva_nil)) ⟨G, i, pl, rfl, hG, hi, rfl⟩) (fun sg1 H1 _ h1 => ?_) nd)
    have hsi := hS.ok i pl hi
    have hti := hT.ok i pl hi
    refine ss_cons (s_if h1 (evt_kd (ev_g (ev_var 0 rfl) (ev_var 1 rfl) hi) (kd_ours pl)) (fun H2 _ h2 z => ?_) fun H2 _ h2 z => ?_)
    · have hs : pl.isSide .o = true := z
      rw [if_pos hs] at hsi
      obtain ⟨b, hb, hbl⟩ := hsi
      have e : gls pl so st i = [pl.tgs[b]] := by
        unfold gls
        rw [show so.getD i none = some b by rw [List.getD_eq_getElem?_getD, hb]; rfl, put_side hs hbl, put_not (by simp [Pl.isSide, Pl.isTheirs])]
        rfl
      rw [e] at k
      exact ss_one (s_ret h2 (evf_lst (eva_cons (ev_ns (ev_var 4 rfl) (ev_s (ev_var 2 rfl) (ev_var 1 rfl) hb) (List.getElem?_eq_getElem hbl)) eva_nil) (by simp)).toE k)
    · have hns : ¬ pl.isSide .o = true := fun e => by
        have e' : pl.isOurs = true := e
        rw [e'] at z; cases z
      refine ss_nil (ss_cons (s_if h2 (evt_kd (ev_g (ev_var 0 rfl) (ev_var 1 rfl) hi) (kd_theirs pl)) (fun H3 _ h3 z3 => ?_) fun H3 _ h3 z3 => ?_))
      · have hs : pl.isSide .t = true := z3
        rw [if_pos hs] at hti
        obtain ⟨b, hb, hbl⟩ := hti
        have e : gls pl so st i = [pl.tgs[b]] := by
          unfold gls
          rw [put_not hns, show st.getD i none = some b by rw [List.getD_eq_getElem?_getD, hb]; rfl, put_side hs hbl]
          rfl
        rw [e] at k
        exact ss_one (s_ret h3 (evf_lst (eva_cons (ev_ns (ev_var 4 rfl) (ev_s (ev_var 3 rfl) (ev_var 1 rfl) hb) (List.getElem?_eq_getElem hbl)) eva_nil) (by simp)).toE k)
      · have hnt : ¬ pl.isSide .t = true := fun e => by
          have e' : pl.isTheirs = true := e
          rw [e'] at z3; cases z3
        have e : gls pl so st i = pl.tgs := by unfold gls; rw [put_not hns, put_not hnt]
        rw [e] at k
        exact ss_nil (ss_one (s_ret h3 (ev_var 4 rfl) k))
def F_counted (ds : List PyData) (d : PyData) : Prop := ∃ (G : Game) (i : Nat) (pl : Pl) (t : Strat), ds = [encG G, encN i, .str "theirs", encS t] ∧ GOk G ∧ SOk .t G t ∧ G[i]? = some pl ∧ d = encNs (put .t pl (t.getD i none)).tgs
theorem fn_law_counted (Fn : Dfn K mg "_law_counted" s_law_counted ["_law_game_here", "_law_place_here", "_law_side", "_law_strategy_here"]) (fT : Fnc P w K mg base 1 "_law_targets" (PureSp K F_targets)) : Fnc P w K mg base 2 "_law_counted" (PureSp K F_counted) := by
  refine pure_def Fn sc_law_counted (fun ds d h => ?_) (fun f cdv A outer s H E M ds d hr h sg hsr D k => ?_)
  · obtain ⟨G, i, pl, t, rfl, _⟩ := h; rfl
  · obtain ⟨G, i, pl, st, rfl, hG, hT, hi, rfl⟩ := h
    have nd := sc_law_counted.nd
    refine ss_cons (s_set 4 hsr (ev_call fT hr (eva_cons (ev_var 0 rfl) (eva_cons (ev_var 1 rfl) eva_nil)) ⟨G, i, pl, rfl, hG, hi, rfl⟩) (fun sg1 H1 _ h1 => ?_) nd)
    have hti := hT.ok i pl hi
    refine ss_cons (s_if h1 ((evt_cmp op_eq c_eqS (ev_k0 (ev_g (ev_var 0 rfl) (ev_var 1 rfl) hi)) (ev_var 2 rfl)).cast (kd_side pl .t)) (fun H2 _ h2 z => ?_) fun H2 _ h2 z => ?_)
    · rw [if_pos z] at hti
      obtain ⟨b, hb, hbl⟩ := hti
      rw [show st.getD i none = some b by rw [List.getD_eq_getElem?_getD, hb]; rfl, put_side z hbl] at k
      exact ss_one (s_ret h2 (evf_lst (eva_cons (ev_ns (ev_var 4 rfl) (ev_s (ev_var 3 rfl) (ev_var 1 rfl) hb) (List.getElem?_eq_getElem hbl)) eva_nil) (by simp)).toE k)
    · rw [put_not (by rw [z]; simp)] at k
      exact ss_nil (ss_one (s_ret h2 (ev_var 4 rfl) k))
/-- what the law asks of numbers -/
structure NumOk (G : Game) (v : List Rat) : Prop where
  len : v.length = G.length
  sz : ∀ q ∈ v, Sz 160 q
  ge : ∀ q ∈ v, 0 ≤ q
  le : ∀ q ∈ v, q ≤ 1
  fin : ∀ (i : Nat) (pl : Pl), G[i]? = some pl → pl.isFin = true → v.getD i 0 = 1
  los : ∀ (i : Nat) (pl : Pl), G[i]? = some pl → pl.isLose = true → v.getD i 0 = 0
theorem NumOk.at {G : Game} {v : List Rat} (h : NumOk G v) {i : Nat} (hi : i < G.length) : v[i]? = some (v.getD i 0) ∧ v.getD i 0 ∈ v := by
  have e : v[i]? = some (v.getD i 0) := by rw [List.getD_eq_getElem?_getD, List.getElem?_eq_getElem (by rw [h.len]; exact hi)]; rfl
  exact ⟨e, List.mem_of_getElem? e⟩
theorem NumOk.sm {G : Game} {v : List Rat} (h : NumOk G v) {q : Rat} (hq : q ∈ v) : Sm q := (h.sz q hq).mono (by decide)
def F_arenum (ds : List PyData) (d : PyData) : Prop := ∃ (G : Game) (v : List Rat), ds = [encG G, encQs v] ∧ GOk G ∧ NumOk G v ∧ d = .bool true
theorem not_lt_true {p q : Rat} (h : q ≤ p) : decide (p < q) = false := decide_eq_false (Rat.not_lt.mpr h)
theorem ev_one_q : Ev X M r (.Tuple [.Constant (.int 1) 0 p1, .Constant (.int 1) 0 p2] 0 pos) (encQ 1) := ev_tup (eva_cons ev_int (eva_cons ev_int eva_nil)) (by simp)
theorem ev_zero_q : Ev X M r (.Tuple [.Constant (.int 0) 0 p1, .Constant (.int 1) 0 p2] 0 pos) (encQ 0) := ev_tup (eva_cons ev_int (eva_cons ev_int eva_nil)) (by simp)
theorem fn_law_are_numbers (Fn : Dfn K mg "_law_are_numbers" s_law_are_numbers ["_law_game_here", "_law_numbers"]) (fN : Fnc P w K mg base 2 "_law_is_numbers" (PureSp K F_isnums)) (fL : Fnc P w K mg base 1 "_law_less" (PureSp K F_less)) (mn : mg "len" = none) (mr : mg "range" = none) : Fnc P w K mg base 3 "_law_are_numbers" (PureSp K F_arenum) := by
  refine pure_def Fn sc_law_are_numbers (fun ds d h => ?_) (fun f cdv A outer s H E M ds d hr h sg hsr D k => ?_)
  · obtain ⟨G, v, rfl, _⟩ := h; rfl
  · obtain ⟨G, v, rfl, hG, hV, rfl⟩ := h
    have nd := sc_law_are_numbers.nd
    have hN12 := hG.few
    have hr1 : Room 1 (CxD P w K mg base n_law_are_numbers "_law_are_numbers" s_law_are_numbers f cdv A outer s H E).A := hr.mono (by decide)
    have h1s : Sm (1 : Rat) := Sz.one (by decide)
    have h0s : Sm (0 : Rat) := Sz.zero (by decide)
    refine ss_cons (s_if (z := false) hsr (EvT.cast (EvW.toT (evw_or (z1 := !true) (z2 := false) (evt_not (evt_val (ev_call fN hr (eva_cons (ev_var 1 rfl) eva_nil) ⟨v, rfl, by rw [hV.len]; omega, rfl⟩))) fun _ => evw_or1 ((evt_cmp op_ne c_neI (ev_len (ev_var 1 rfl).toR mn) (ev_len (ev_var 0 rfl).toR mn)).cast (by
      rw [List.length_map, List.length_map, hV.len, decide_eq_true rfl]; rfl)))) rfl) (fun _ _ _ z => by cases z) fun H1 _ h1 _ => ss_nil ?_)
    refine ss_cons (s_for (xs := List.range G.length) (enc := encN) h1 ((evi_range (ev_len (ev_var 0 rfl).toR mn) (by omega) (by rw [List.length_map]; omega) mr).cast (by rw [List.length_map, Int.toNat_natCast]))
      (fun _ => [.dat (encG G), .dat (encQs v), .unk]) (fun _ x => [.dat (encG G), .dat (encQs v), .dat (encN x)]) (fun B' sg' H' h => h) (fun i x hx => bg_name 2 nd) ?_ ?_ PassesOwn.never rfl)
    · intro B' hB hout i x hx D' sg' H' _ _ hnx _ h2
      have hxl : x < G.length := List.mem_range.mp (List.mem_of_getElem? hx)
      obtain ⟨pl, hgx⟩ : ∃ pl, G[x]? = some pl := ⟨_, List.getElem?_eq_getElem hxl⟩
      obtain ⟨hv, hm⟩ := hV.at hxl
      have hf := hV.fin x pl hgx
      have hl := hV.los x pl hgx
      generalize v.getD x 0 = q at hv hm hf hl
      refine ss_cons (s_if (z := false) h2 (EvT.cast (EvW.toT (evw_or (evt_val (ev_call fL hr1 (eva_cons (ev_qs (ev_var 1 rfl) (ev_var 2 rfl) hv) (eva_cons ev_zero_q eva_nil)) ⟨q, 0, rfl, hV.sm hm, h0s, rfl⟩)) fun _ => evw_or1 (evt_val (ev_call fL hr1 (eva_cons ev_one_q (eva_cons (ev_qs (ev_var 1 rfl) (ev_var 2 rfl) hv) eva_nil)) ⟨1, q, rfl, h1s, hV.sm hm, rfl⟩)))) (by
        rw [not_lt_true (hV.ge q hm), not_lt_true (hV.le q hm)]; rfl)) (fun _ _ _ z => by cases z) fun H3 _ h3 _ => ss_nil ?_)
      refine ss_one (s_if (z := false) h3 (EvT.cast (EvW.toT (evw_or (EvW.toT (evw_and (evt_kd (ev_g (ev_var 0 rfl) (ev_var 2 rfl) hgx) (kd_fin pl)) fun _ => evw_and1 (evt_cmp (op_neD hr.units) c_neQ (ev_qs (ev_var 1 rfl) (ev_var 2 rfl) hv) ev_one_q))) fun _ => evw_or1 (EvW.toT (evw_and (evt_kd (ev_g (ev_var 0 rfl) (ev_var 2 rfl) hgx) (kd_lose pl)) fun _ => evw_and1 (evt_cmp (op_neD hr.units) c_neQ (ev_qs (ev_var 1 rfl) (ev_var 2 rfl) hv) ev_zero_q))))) ?_) (fun _ _ _ z => by cases z) fun H4 _ h4 _ => ss_nil (hnx _ _ (h4.wk (by repeat (first | apply Wk.nil | apply Wk.same | apply Wk.drop)))))
      cases e1 : pl.isFin with
      | true =>
        have e2 : pl.isLose = false := by cases pl <;> first | rfl | cases e1
        rw [e2, hf e1]; rfl
      | false =>
        cases e2 : pl.isLose with
        | true => rw [hl e2]; rfl
        | false => rfl
    · intro sg' H' h2
      exact ss_one (s_ret h2 ev_bl k)
end
end K51
set_option Elab.async false
set_option linter.all false
set_option maxRecDepth 100000
set_option maxHeartbeats 1000000
set_option exponentiation.threshold 20000
namespace K51
open PySem PySem.Spec PyProof.Rows L2
theorem Sz.add2 {j k : Nat} {p q : Rat} (h1 : Sz j p) (h2 : Sz k q) : Sz (j + k + 1) (p + q) := by
  rw [Rat.add_def']
  have a1 : (p.num * q.den).natAbs < 2 ^ (j + k) := natAbs_mul_lt h1.1 (by simpa using h2.2)
  have a2 : (q.num * p.den).natAbs < 2 ^ (j + k) := by
    have := natAbs_mul_lt (y := (p.den : Int)) h2.1 (by simpa using h1.2)
    rwa [Nat.add_comm] at this
  exact mkRat_sz (Nat.mul_ne_zero p.den_nz q.den_nz) (natAbs_add_lt a1 a2) (Nat.lt_of_lt_of_le (pow_add_lt h1.2 h2.2) (Nat.pow_le_pow_right (by decide) (Nat.le_succ _)))
section
variable {X : Cx}
/-- + of lists that are read -/
def rCatR (K : PySem.W.Frag) : R2 := fun x y H Q => ∃ l b xs zs, x = .ref l ∧ y = .ref b ∧ SqL K H l xs ∧ SqL K H b zs ∧ xs.length + zs.length ≤ sizeLine ∧ ∀ p, H p = none → Q (.ref p) (upd H p (.lst (xs ++ zs)))
theorem op_catR : OpR X (binaryOp .Add) (rCatR X.K) := by
  intro pins s σ H x y v u Q I rx ry h
  obtain ⟨l, b, xs, zs, rfl, rfl, hH, hB, hz, q⟩ := h
  cases rx
  cases ry
  obtain ⟨its, r, ⟨⟨cls, dd, data, sl⟩, n, ho, hc, hdd, hd⟩, _⟩ := I.list hH
  obtain ⟨its2, r2, ⟨⟨cls2, dd2, data2, sl2⟩, n2, ho2, hc2, hdd2, hd2⟩, _⟩ := I.list hB
  simp only at hc hd hc2 hd2
  subst hc hd hc2 hd2
  have hl := r.length
  have hl2 := r2.length
  refine concat_meets ⟨_, ho, rfl⟩ ⟨_, ho2, rfl⟩ noFill_list_add seq_list_add PySem.F.slot_list_add PySem.F.entry_list_add (PySem.F.args_list_add_2 _ _) (list_addW l b its.toArray its2.toArray n n2 dd dd2 sl sl2 (by rw [List.size_toArray, List.size_toArray]; omega)) ⟨ho, ho2, ?_⟩
  have ea : its.toArray ++ its2.toArray = (its ++ its2).toArray := by simp
  rw [ea]
  exact ⟨.ref _, _, I.lnew (t' := s.toks) (r.append r2) (by rw [List.length_append]; omega), rfl, q _ I.fresh⟩
variable {M : Mem} {r : List Sl} {a b : Expr} {pos : Pos} {ds1 ds2 : List PyData}
theorem evf_catR (ha : EvR X M r a ds1) (hb : EvR X M r b ds2) (hz : ds1.length + ds2.length ≤ 100000) : EvF X M r (.BinOp a .Add b pos) (ds1 ++ ds2) := fun B sg H Q hs k => by
  refine e_of (pe_op op_catR e_wp e_wp) ?_
  refine ha B sg H _ hs fun p xs H1 s1 e1 q1 => ?_
  refine hb B sg H1 _ (hs.mono s1) fun q ys H2 s2 e2 q2 => ?_
  refine ⟨p, q, xs, ys, rfl, rfl, L2.Same.seq s2 e1, e2, ?_, fun o ho => ?_⟩
  · rw [dpa_len q1, dpa_len q2, sizeLine_eq]; omega
  · exact k o _ _ ((s1.trans s2).trans (same_upd ho)) ((s1.trans s2).free ho) upd_same (by
      rw [hid_upd List.mem_cons_self, hid_cons ho]; exact dpa_app (dpa_mono (hid_mono s2) q1) q2)
end
end K51
set_option Elab.async false
set_option linter.all false
set_option maxRecDepth 100000
set_option maxHeartbeats 1000000
set_option exponentiation.threshold 20000
namespace K51
open PySem PySem.Spec PyProof.Rows L2
/-! the law's own search, its own mean -/
def rstp (f : Nat → List Nat) (n : Nat) (fd : List Nat) : List Nat := fd ++ (List.range n).filter fun k => !decide (k ∈ fd) && ((f k).map fun g => decide (g ∈ fd)).any id
def rit (G : Game) (s t : Strat) : Nat → List Nat
  | 0 => (List.range G.length).filter fun k => (G.getD k .lose).isFin
  | i + 1 => rstp (fun k => gls (G.getD k .lose) s t k) G.length (rit G s t i)
def lmean (bs : List (Rat × Nat)) (v : List Rat) : Rat := bs.foldl (fun f b => f + b.1 * v.getD b.2 0) 0
theorem rit_len {G : Game} {s t : Strat} : ∀ i, (rit G s t i).length ≤ G.length * (i + 1)
  | 0 => by
    unfold rit
    exact Nat.le_trans (List.length_filter_le _ _) (by rw [List.length_range]; omega)
  | i + 1 => by
    show (rstp _ _ (rit G s t i)).length ≤ _
    unfold rstp
    rw [List.length_append]
    refine Nat.le_trans (Nat.add_le_add (rit_len (G := G) (s := s) (t := t) i) (List.length_filter_le _ _)) ?_
    rw [List.length_range, Nat.mul_succ G.length (i + 1)]
    exact Nat.le_refl _
/-- a chance is small -/
theorem frac_sz {q : Rat} {W z : Nat} (hW : 0 < W) (hW1 : W ≤ 100) (hz : z ≤ 100) (e : q * (W : Rat) = (z : Rat)) : Sz 7 q := by
  have hWr := natR_pos hW
  have h0 : (W : Rat) ≠ 0 := by grind
  have : q = Rat.divInt (z : Int) (W : Int) := by
    rw [divInt_ne (by omega), Rat.intCast_natCast, Rat.intCast_natCast]
    grind
  rw [this, Rat.divInt_ofNat]
  exact mkRat_sz (by omega) (by rw [Int.natAbs_natCast]; show z < 128; omega) (by show W < 128; omega)
theorem Pl.Ok.brsz {n : Nat} {p : Pl} (h : p.Ok n) : ∀ b ∈ p.brs, Sz 7 b.1 := by
  intro b hb
  cases p with
  | draw bs =>
    obtain ⟨_, _, _, _, W, hW, hW1, hh⟩ := h
    obtain ⟨z, e, hz⟩ := hh b hb
    exact frac_sz hW hW1 hz e
  | reward am t =>
    have : b = (1, t) := by simpa [Pl.brs] using hb
    rw [this]; exact Sz.one (by decide)
  | _ => simp [Pl.brs] at hb
section
variable {P : Program} {w : World} {K : PySem.W.Frag} {mg : Str → Option Value} {base : Heap} {X : Cx} {M : Mem} {r : List Sl} {e a b c : Expr} {pos p q p1 p2 : Pos} {B : Bs} {sg : L2.St} {H : Hp} {D : Ends} {d : PyData}
theorem lt2_sz {i : Int} {k : Nat} (h : i.natAbs < 2 ^ k) (hk : k ≤ 2000) : Lt2 i := Nat.lt_of_lt_of_le h (Nat.pow_le_pow_right (by decide) hk)
def F_ladd (ds : List PyData) (d : PyData) : Prop := ∃ (p q : Rat) (j k : Nat), ds = [encQ p, encQ q] ∧ Sz j p ∧ Sz k q ∧ 0 < j ∧ 0 < k ∧ j + k + 1 ≤ 2000 ∧ d = encQ (p + q)
theorem fn_law_add (Fn : Dfn K mg "_law_add" s_law_add ["_law_a", "_law_b"]) (fN : Fnc P w K mg base 1 "_law_lowest" (PureSp K F_lowest)) : Fnc P w K mg base 2 "_law_add" (PureSp K F_ladd) := by
  refine pure_def Fn sc_law_add (fun ds d h => ?_) (fun f cdv A outer s H E M ds d hr h sg hsr D k => ?_)
  · obtain ⟨p, q, _, _, rfl, _⟩ := h; rfl
  · obtain ⟨p, q, i, j, rfl, hp, hq, hi0, hj0, hij, rfl⟩ := h
    have e := add_frac p q
    have l1 : (p.num * (q.den : Nat)).natAbs < 2 ^ (i + j) := natAbs_mul_lt hp.1 (den_abs hq.2)
    have l2 : (q.num * (p.den : Nat)).natAbs < 2 ^ (i + j) := by
      have := natAbs_mul_lt hq.1 (den_abs hp.2)
      rwa [Nat.add_comm] at this
    have l3 : (((p.den : Nat) : Int) * (q.den : Nat)).natAbs < 2 ^ (i + j) := natAbs_mul_lt (den_abs hp.2) (den_abs hq.2)
    refine ss_one (s_ret hsr (ev_call fN hr (eva_cons (ev_add (ev_mul (mulw hp.1 (den_abs hq.2) (by omega)) (ev_q0 (ev_var 0 rfl)) (ev_q1 (ev_var 1 rfl))) (ev_mul (mulw hq.1 (den_abs hp.2) (by omega)) (ev_q0 (ev_var 1 rfl)) (ev_q1 (ev_var 0 rfl))))
      (eva_cons (ev_mul (mulw (den_abs hp.2) (den_abs hq.2) (by omega)) (ev_q1 (ev_var 0 rfl)) (ev_q1 (ev_var 1 rfl))) eva_nil))
      ⟨_, _, rfl, Int.mul_pos (den_pos p) (den_pos q), lt2_sz (natAbs_add_lt l1 l2) hij, lt2_sz l3 (by omega), rfl⟩) ?_)
    rw [e]
    exact k
def F_lmul (ds : List PyData) (d : PyData) : Prop := ∃ (p q : Rat), ds = [encQ p, encQ q] ∧ Sz 7 p ∧ Sz 160 q ∧ d = encQ (p * q)
theorem fn_law_mul (Fn : Dfn K mg "_law_mul" s_law_mul ["_law_a", "_law_b"]) (fN : Fnc P w K mg base 1 "_law_lowest" (PureSp K F_lowest)) : Fnc P w K mg base 2 "_law_mul" (PureSp K F_lmul) := by
  refine pure_def Fn sc_law_mul (fun ds d h => ?_) (fun f cdv A outer s H E M ds d hr h sg hsr D k => ?_)
  · obtain ⟨p, q, rfl, _⟩ := h; rfl
  · obtain ⟨p, q, rfl, hp, hq, rfl⟩ := h
    have e := mul_frac p q
    have l1 : (p.num * q.num).natAbs < 2 ^ (7 + 160) := natAbs_mul_lt hp.1 hq.1
    have l3 : (((p.den : Nat) : Int) * (q.den : Nat)).natAbs < 2 ^ (7 + 160) := natAbs_mul_lt (den_abs hp.2) (den_abs hq.2)
    refine ss_one (s_ret hsr (ev_call fN hr (eva_cons (ev_mul (mulw hp.1 hq.1 (by decide)) (ev_q0 (ev_var 0 rfl)) (ev_q0 (ev_var 1 rfl)))
      (eva_cons (ev_mul (mulw (den_abs hp.2) (den_abs hq.2) (by decide)) (ev_q1 (ev_var 0 rfl)) (ev_q1 (ev_var 1 rfl))) eva_nil))
      ⟨_, _, rfl, Int.mul_pos (den_pos p) (den_pos q), lt2_sz l1 (by decide), lt2_sz l3 (by decide), rfl⟩) ?_)
    rw [e]
    exact k
def F_lmean (ds : List PyData) (d : PyData) : Prop := ∃ (G : Game) (i : Nat) (bs : List (Rat × Nat)) (v : List Rat), ds = [encG G, encN i, encQs v] ∧ GOk G ∧ NumOk G v ∧ G[i]? = some (.draw bs) ∧ d = encQ (lmean bs v)
theorem fn_law_mean (Fn : Dfn K mg "_law_mean" s_law_mean ["_law_game_here", "_law_place_here", "_law_numbers"]) (fA : Fnc P w K mg base 2 "_law_add" (PureSp K F_ladd)) (fM : Fnc P w K mg base 2 "_law_mul" (PureSp K F_lmul)) : Fnc P w K mg base 3 "_law_mean" (PureSp K F_lmean) := by
  refine pure_def Fn sc_law_mean (fun ds d h => ?_) (fun f cdv A outer s H E M ds d hr h sg hsr D k => ?_)
  · obtain ⟨G, i, bs, v, rfl, _⟩ := h; rfl
  · obtain ⟨G, i, bs, v, rfl, hG, hV, hi, rfl⟩ := h
    have nd := sc_law_mean.nd
    have hok : (Pl.draw bs).Ok G.length := hG.ok _ (List.mem_of_getElem? hi)
    have hbz := hok.brsz
    have hb6 : bs.length ≤ 6 := hok.2.1
    have hvb : ∀ b ∈ bs, v[b.2]? = some (v.getD b.2 0) ∧ Sz 160 (v.getD b.2 0) := fun b hb => by
      have h := hV.at (hok.2.2.1 b hb).1
      exact ⟨h.1, hV.sz _ h.2⟩
    refine ss_cons (s_set 3 hsr ev_zero_q (fun sg1 H1 _ h1 => ?_) nd)
    refine ss_cons (s_for (xs := bs) (enc := encB) h1 (evi_list (ev_ixt (n := 1) (ev_g (ev_var 0 rfl) (ev_var 1 rfl) hi) ev_int rfl rfl))
      (fun i' => [.dat (encG G), .dat (encN i), .dat (encQs v), .dat (encQ (lmean (bs.take i') v)), .unk, .unk]) (fun i' b => [.dat (encG G), .dat (encN i), .dat (encQs v), .dat (encQ (lmean (bs.take i') v)), .dat (encQ b.1), .dat (encN b.2)])
      (fun B' sg' H' h => h) (fun i x hx => bg_pair rfl (bg_name 4 nd) (bg_name 5 nd)) ?_ ?_ PassesOwn.never rfl)
    · intro B' hB hout m y hy D' sg' H' _ _ hnx _ h2
      have hym := List.mem_of_getElem? hy
      obtain ⟨g1, g2⟩ := hvb y hym
      have hml : m < bs.length := (List.getElem?_eq_some_iff.mp hy).1
      have hsz : ∀ m, Sz (168 * m + 1) (lmean (bs.take m) v) := by
        intro m
        induction m with
        | zero => exact Sz.zero (by decide)
        | succ m ih =>
          rw [List.take_add_one]
          cases e : bs[m]? with
          | none => rw [Option.toList_none, List.append_nil]; exact ih.mono (by omega)
          | some b =>
            rw [Option.toList_some]
            unfold lmean at ih ⊢
            rw [List.foldl_append]
            have hb := List.mem_of_getElem? e
            exact (Sz.add2 ih ((hbz b hb).mul (hvb b hb).2)).mono (by omega)
      have hm := hsz m
      have hstep : lmean (bs.take (m + 1)) v = lmean (bs.take m) v + y.1 * v.getD y.2 0 := by unfold lmean; exact take_fold hy
      rw [hstep] at hnx
      generalize lmean (bs.take m) v = q at h2 hm hnx
      have hy7 : Sz 7 y.1 := hbz y hym
      refine ss_one (s_set 3 h2 (ev_call fA hr (eva_cons (ev_var 3 rfl) (eva_cons (ev_call fM hr (eva_cons (ev_var 4 rfl) (eva_cons (ev_qs (ev_var 2 rfl) (ev_var 5 rfl) g1) eva_nil)) ⟨_, _, rfl, hy7, g2, rfl⟩) eva_nil)) ⟨_, _, 168 * m + 1, 7 + 160, rfl, hm, hy7.mul g2, by omega, by omega, by omega, rfl⟩) (fun sg3 H3 _ h3 => ?_) nd)
      exact hnx _ _ (h3.wk (by repeat (first | apply Wk.nil | apply Wk.same | apply Wk.drop)))
    · intro sg' H' h2
      rw [List.take_length] at h2
      exact ss_one (s_ret h2 (ev_var 3 rfl) k)
def F_reaching (ds : List PyData) (d : PyData) : Prop := ∃ (G : Game) (s t : Strat), ds = [encG G, encS s, encS t] ∧ GOk G ∧ SOk .o G s ∧ SOk .t G t ∧ d = encNs (rit G s t G.length)
theorem gls_len {pl : Pl} {s t : Strat} {i n : Nat} (h : pl.Ok n) : (gls pl s t i).length ≤ 6 := by
  unfold gls
  have h2 : ∀ {sd : Side} {p : Pl} {o : Option Nat}, p.tgs.length ≤ 6 → (put sd p o).tgs.length ≤ 6 := fun {sd p o} hp => by
    unfold put
    split
    · simp [Pl.tgs]
    · exact hp
  exact h2 (h2 h.few)
theorem fn_law_reaching (Fn : Dfn K mg "_law_reaching" s_law_reaching ["_law_game_here", "_law_ours", "_law_theirs"]) (fG : Fnc P w K mg base 2 "_law_goals" (PureSp K F_goals)) (mn : mg "len" = none) (mr : mg "range" = none) (ma : mg "any" = none) : Fnc P w K mg base 3 "_law_reaching" (PureSp K F_reaching) := by
  refine pure_def Fn sc_law_reaching (fun ds d h => ?_) (fun f cdv A outer s H E M ds d hr h sg hsr D k => ?_)
  · obtain ⟨G, s, t, rfl, _⟩ := h; rfl
  · obtain ⟨G, so, st, rfl, hG, hS, hT, rfl⟩ := h
    have nd := sc_law_reaching.nd
    have hN12 := hG.few
    have hgx : ∀ x, x < G.length → G[x]? = some (G.getD x .lose) := fun x hx => by
      rw [List.getD_eq_getElem?_getD, List.getElem?_eq_getElem hx]; rfl
    refine ss_cons (s_set 3 hsr (EvF.toE (evf_lc (xs := List.range G.length) (enc := encN) [("_law_k", 4)] (fun x => (G.getD x .lose).isFin) encN (fun x => [.dat (encG G), .dat (encS so), .dat (encS st), .unk, .dat (encN x), .unk, .unk, .unk])
      ((evi_range (ev_len (ev_var 0 rfl).toR mn) (by omega) (by rw [List.length_map]; omega) mr).cast (by rw [List.length_map, Int.toNat_natCast])) (blkOk_by (N := n_law_reaching) (sc := defScope s_law_reaching) (by decide +kernel)) nd rfl (by rw [List.length_range]; omega) (by simp)
      (fun D s H C cl fp x hx => bg_name 4 nd) (fun D s H C cl fp x hx => evts_one (evt_kd (ev_g (ev_var 0 rfl) (ev_var 4 rfl) (hgx x (List.mem_range.mp hx))) (kd_fin _)))
      (fun D s H C cl fp x hx _ => ev_var 4 rfl))) (fun sg1 H1 _ h1 => ?_) nd)
    refine ss_cons (s_for (xs := List.range G.length) (enc := encN) h1 ((evi_range (ev_len (ev_var 0 rfl).toR mn) (by omega) (by rw [List.length_map]; omega) mr).cast (by rw [List.length_map, Int.toNat_natCast]))
      (fun i => [.dat (encG G), .dat (encS so), .dat (encS st), .dat (encNs (rit G so st i)), .unk, .unk, .unk, .unk]) (fun i x => [.dat (encG G), .dat (encS so), .dat (encS st), .dat (encNs (rit G so st i)), .unk, .dat (encN x), .unk, .unk]) (fun B' sg' H' h => h) (fun i x hx => bg_name 5 nd) ?_ ?_ PassesOwn.never rfl)
    · intro B' hB hout i x hx D' sg' H' _ _ hnx _ h2
      have hil : i < G.length := by
        have := (List.getElem?_eq_some_iff.mp hx).1
        rwa [List.length_range] at this
      have hfl : (rit G so st i).length ≤ 12 * 13 := Nat.le_trans (rit_len i) (Nat.mul_le_mul hN12 (by omega))
      have hstep : rit G so st (i + 1) = rstp (fun k => gls (G.getD k .lose) so st k) G.length (rit G so st i) := rfl
      rw [hstep] at hnx
      generalize rit G so st i = fd at h2 hnx hfl
      refine ss_cons (s_setFN 6 h2 (evf_lst eva_nil (by simp)) (fun o sg3 H3 no h3 => ?_) nd)
      refine ss_cons (s_for (xs := List.range G.length) (enc := encN) h3 ((evi_range (ev_len (ev_var 0 rfl).toR mn) (by omega) (by rw [List.length_map]; omega) mr).cast (by rw [List.length_map, Int.toNat_natCast]))
        (fun i => [.dat (encG G), .dat (encS so), .dat (encS st), .dat (encNs fd), .unk, .unk, .mt o ((((List.range G.length).take i).filter fun k => !decide (k ∈ fd) && ((gls (G.getD k .lose) so st k).map fun g => decide (g ∈ fd)).any id).map encN), .unk])
        (fun i x => [.dat (encG G), .dat (encS so), .dat (encS st), .dat (encNs fd), .dat (encN x), .unk, .mt o ((((List.range G.length).take i).filter fun k => !decide (k ∈ fd) && ((gls (G.getD k .lose) so st k).map fun g => decide (g ∈ fd)).any id).map encN), .unk])
        (fun B' sg' H' h => h.wk (by repeat (first | apply Wk.nil | apply Wk.same | apply Wk.drop))) (fun i x hx => bg_name 4 nd) ?_ ?_ PassesOwn.never rfl)
      · intro B2 hB2 hout2 m y hy D2 sg4 H4 _ _ hnx2 _ h4
        have hyl : y < G.length := List.mem_range.mp (List.mem_of_getElem? hy)
        have hlen : ((((List.range G.length).take m).filter fun k => !decide (k ∈ fd) && ((gls (G.getD k .lose) so st k).map fun g => decide (g ∈ fd)).any id).map encN).length ≤ 1000000 := by
          rw [List.length_map]
          refine Nat.le_trans (List.length_filter_le _ _) ?_
          rw [List.length_take, List.length_range]; omega
        have htk : (List.range G.length).take (m + 1) = (List.range G.length).take m ++ [y] := by rw [List.take_add_one, hy]; rfl
        rw [htk, List.filter_append] at hnx2
        generalize hA : ((List.range G.length).take m).filter (fun k => !decide (k ∈ fd) && ((gls (G.getD k .lose) so st k).map fun g => decide (g ∈ fd)).any id) = Ls at h4 hnx2 hlen
        have hgy := hgx y hyl
        generalize hpl : G.getD y .lose = pl at hgy
        have hok : pl.Ok G.length := hG.ok pl (List.mem_of_getElem? hgy)
        refine ss_one (s_if h4 (EvW.toT (evw_and (evt_ninN (ev_var 4 rfl) (ev_var 3 rfl).toR) fun _ => evw_and1 (evt_val (ev_any (bs := (gls pl so st y).map fun g => decide (g ∈ fd)) (EvF.toR (EvF.cast (evf_lc' (xs := gls pl so st y) (enc := encN) [("_law_goal", 7)] (fun g => .bool (decide (g ∈ fd))) (fun g => [.dat (encG G), .dat (encS so), .dat (encS st), .dat (encNs fd), .dat (encN y), .unk, .mt o (Ls.map encN), .dat (encN g)])
          (evi_list (ev_call fG hr (eva_cons (ev_var 0 rfl) (eva_cons (ev_var 4 rfl) (eva_cons (ev_var 1 rfl) (eva_cons (ev_var 2 rfl) eva_nil)))) ⟨G, y, pl, so, st, rfl, hG, hS, hT, hgy, rfl⟩)) (blkOk_by (N := n_law_reaching) (sc := defScope s_law_reaching) (by decide +kernel)) nd rfl (by have := gls_len (s := so) (t := st) (i := y) hok; omega) (by simp)
          (fun D s H C cl fp g hg => bg_name 7 nd) (fun D s H C cl fp g hg => ev_inN (ev_var 7 rfl) (ev_var 3 rfl).toR)) (by rw [List.map_map]; rfl))) ma)))) (fun H5 _ h5 z => ?_) fun H5 _ h5 z => ?_)
        · rw [List.filter_cons_of_pos (by rw [hpl]; exact z), List.filter_nil] at hnx2
          refine ss_one (s_app 6 h5 rfl (ev_var 4 rfl) hlen (fun H6 h6 => ?_))
          refine hnx2 _ _ ?_
          rw [List.map_append]
          exact h6.wk (by repeat (first | apply Wk.nil | apply Wk.same | apply Wk.drop))
        · rw [List.filter_cons_of_neg (by rw [hpl, z]; simp), List.filter_nil, List.append_nil] at hnx2
          exact ss_nil (hnx2 _ _ (h5.wk (by repeat (first | apply Wk.nil | apply Wk.same | apply Wk.drop))))
      · intro sg4 H4 h4
        rw [List.length_range] at h4
        have hall : (List.range G.length).take G.length = List.range G.length := List.take_of_length_le (by rw [List.length_range]; exact Nat.le_refl _)
        rw [hall] at h4
        have h5 := h4.fix1 no (i := 6) rfl
        refine ss_one (s_set 3 h5 (Ev.cast (EvF.toE (evf_catR (ev_var 3 rfl).toR (ev_var 6 rfl).toR (by
          rw [List.length_map, List.length_map]
          have := List.length_filter_le (fun k => !decide (k ∈ fd) && ((gls (G.getD k .lose) so st k).map fun g => decide (g ∈ fd)).any id) (List.range G.length)
          rw [List.length_range] at this
          omega))) (show _ = encNs (rstp (fun k => gls (G.getD k .lose) so st k) G.length fd) by unfold rstp encNs; rw [List.map_append])) (fun sg6 H6 _ h6 => ?_) nd)
        exact hnx _ _ (h6.wk (by repeat (first | apply Wk.nil | apply Wk.same | apply Wk.drop)))
    · intro sg' H' h2
      rw [List.length_range] at h2
      exact ss_one (s_ret h2 (ev_var 3 rfl) k)
end
end K51
set_option Elab.async false
set_option linter.all false
set_option maxRecDepth 100000
set_option maxHeartbeats 1000000
set_option exponentiation.threshold 20000
namespace K51
open PySem PySem.Spec PyProof.Rows L2
section
variable {P : Program} {w : World} {K : PySem.W.Frag} {mg : Str → Option Value} {base : Heap} {X : Cx} {M : Mem} {r : List Sl} {e a b c : Expr} {pos p q p1 p2 : Pos} {B : Bs} {sg : L2.St} {H : Hp} {D : Ends} {d : PyData}
/-- if, both ways joined -/
theorem s_ifJ {a b : List Stmt} {z : Bool} (Pj : L2.St → Hp → Prop) (hsr : SR X.K B M r sg H) (hc : EvT X M r c z) (ha : ∀ H' (D' : Ends), SR X.K B M r sg H' → z = true → (∀ sg H, Pj sg H → D'.nx sg H) → wpSs X a D' sg H') (hb : ∀ H' (D' : Ends), SR X.K B M r sg H' → z = false → (∀ sg H, Pj sg H → D'.nx sg H) → wpSs X b D' sg H') (hj : ∀ sg H, Pj sg H → D.nx sg H) : wpS X (.If c a b pos) D sg H :=
  s_if hsr hc (fun H' _ h z => ha H' D h z hj) fun H' _ h z => hb H' D h z hj
/-- what the law asks of chances -/
structure ChancesOk (G : Game) (v : List Rat) (s t : Strat) : Prop where
  num : NumOk G v
  out : ∀ i, i < G.length → i ∉ rit G s t G.length → v.getD i 0 = 0
  drw : ∀ (i : Nat) (bs : List (Rat × Nat)), i ∈ rit G s t G.length → G[i]? = some (.draw bs) → v.getD i 0 = lmean bs v
  one : ∀ (i : Nat) (pl : Pl), i ∈ rit G s t G.length → G[i]? = some pl → pl.isDraw = false → pl.isFin = false → ∃ g, (gls pl s t i)[0]? = some g ∧ g < G.length ∧ v.getD i 0 = v.getD g 0
def F_arech (ds : List PyData) (d : PyData) : Prop := ∃ (G : Game) (v : List Rat) (s t : Strat), ds = [encG G, encQs v, encS s, encS t] ∧ GOk G ∧ SOk .o G s ∧ SOk .t G t ∧ ChancesOk G v s t ∧ d = .bool true
theorem fn_law_are_chances (Fn : Dfn K mg "_law_are_chances" s_law_are_chances ["_law_game_here", "_law_numbers", "_law_ours", "_law_theirs"]) (fN : Fnc P w K mg base 3 "_law_are_numbers" (PureSp K F_arenum)) (fR : Fnc P w K mg base 3 "_law_reaching" (PureSp K F_reaching)) (fM : Fnc P w K mg base 3 "_law_mean" (PureSp K F_lmean)) (fG : Fnc P w K mg base 2 "_law_goals" (PureSp K F_goals)) (mn : mg "len" = none) (mr : mg "range" = none) : Fnc P w K mg base 4 "_law_are_chances" (PureSp K F_arech) := by
  refine pure_def Fn sc_law_are_chances (fun ds d h => ?_) (fun f cdv A outer s H E M ds d hr h sg hsr D k => ?_)
  · obtain ⟨G, v, s, t, rfl, _⟩ := h; rfl
  · obtain ⟨G, v, so, st, rfl, hG, hS, hT, hC, rfl⟩ := h
    have nd := sc_law_are_chances.nd
    have hN12 := hG.few
    have hV := hC.num
    have hr2 : Room 2 (CxD P w K mg base n_law_are_chances "_law_are_chances" s_law_are_chances f cdv A outer s H E).A := hr.mono (by decide)
    refine ss_cons (s_if (z := !true) hsr (evt_not (evt_val (ev_call fN hr (eva_cons (ev_var 0 rfl) (eva_cons (ev_var 1 rfl) eva_nil)) ⟨G, v, rfl, hG, hV, rfl⟩))) (fun _ _ _ z => by cases z) fun H1 _ h1 _ => ss_nil ?_)
    refine ss_cons (s_set 4 h1 (ev_call fR hr (eva_cons (ev_var 0 rfl) (eva_cons (ev_var 2 rfl) (eva_cons (ev_var 3 rfl) eva_nil))) ⟨G, so, st, rfl, hG, hS, hT, rfl⟩) (fun sg2 H2 _ h2 => ?_) nd)
    refine ss_cons (s_for (xs := List.range G.length) (enc := encN) h2 ((evi_range (ev_len (ev_var 0 rfl).toR mn) (by omega) (by rw [List.length_map]; omega) mr).cast (by rw [List.length_map, Int.toNat_natCast]))
      (fun _ => [.dat (encG G), .dat (encQs v), .dat (encS so), .dat (encS st), .dat (encNs (rit G so st G.length)), .unk]) (fun _ x => [.dat (encG G), .dat (encQs v), .dat (encS so), .dat (encS st), .dat (encNs (rit G so st G.length)), .dat (encN x)]) (fun B' sg' H' h => h) (fun i x hx => bg_name 5 nd) ?_ ?_ PassesOwn.never rfl)
    · intro B' hB hout i x hx D' sg' H' _ _ hnx _ h3
      have hxl : x < G.length := List.mem_range.mp (List.mem_of_getElem? hx)
      obtain ⟨pl, hgx⟩ : ∃ pl, G[x]? = some pl := ⟨_, List.getElem?_eq_getElem hxl⟩
      obtain ⟨hv, hm⟩ := hV.at hxl
      have hout' := hC.out x hxl
      have hdrw := hC.drw x
      have hone := hC.one x pl
      generalize hq : v.getD x 0 = q at hv hm hout' hdrw hone
      have hdone : ∀ sg'' H'', SR K B' M [.dat (encG G), .dat (encQs v), .dat (encS so), .dat (encS st), .dat (encNs (rit G so st G.length)), .dat (encN x)] sg'' H'' → D'.nx sg'' H'' := fun sg'' H'' h => hnx _ _ (h.wk (by repeat (first | apply Wk.nil | apply Wk.same | apply Wk.drop)))
      refine ss_one (s_if h3 (evt_ninN (ev_var 5 rfl) (ev_var 4 rfl).toR) (fun H4 _ h4 z => ?_) fun H4 _ h4 z => ?_)
      · have hno : x ∉ rit G so st G.length := fun c => by rw [decide_eq_true c] at z; cases z
        refine ss_one (s_if (z := false) h4 (EvT.cast (evt_cmp (op_neD hr.units) c_neQ (ev_qs (ev_var 1 rfl) (ev_var 5 rfl) hv) ev_zero_q) (by rw [hout' hno]; rfl)) (fun _ _ _ z => by cases z) fun H5 _ h5 _ => ss_nil (hdone _ _ h5))
      · have hin : x ∈ rit G so st G.length := Decidable.byContradiction fun c => by rw [decide_eq_false c] at z; cases z
        refine ss_one (s_if h4 (evt_kd (ev_g (ev_var 0 rfl) (ev_var 5 rfl) hgx) (kd_draw pl)) (fun H5 _ h5 z5 => ?_) fun H5 _ h5 z5 => ?_)
        · cases pl with
          | draw bs =>
            have hd := hdrw bs hin hgx
            refine ss_one (s_if (z := false) h5 (EvT.cast (evt_cmp (op_neD hr.units) c_neQ (ev_qs (ev_var 1 rfl) (ev_var 5 rfl) hv) (ev_call fM hr (eva_cons (ev_var 0 rfl) (eva_cons (ev_var 5 rfl) (eva_cons (ev_var 1 rfl) eva_nil))) ⟨G, x, bs, v, rfl, hG, hV, hgx, rfl⟩)) (by rw [hd, decide_eq_true rfl]; rfl)) (fun _ _ _ z => by cases z) fun H6 _ h6 _ => ss_nil (hdone _ _ h6))
          | _ => cases z5
        · refine ss_one (s_if (z := !pl.isFin && false) h5 (EvW.toT (evw_and (evt_kdn (ev_g (ev_var 0 rfl) (ev_var 5 rfl) hgx) (kd_fin pl)) fun z6 => evw_and1 ?_)) (fun _ _ _ z => by rw [Bool.and_false] at z; cases z) fun H6 _ h6 _ => ss_nil (hdone _ _ h6))
          have hfin : pl.isFin = false := by
            cases e : pl.isFin with
            | false => rfl
            | true => rw [e] at z6; cases z6
          obtain ⟨g, hg0, hgl, hgv⟩ := hone hin hgx z5 hfin
          have hvg := (hV.at hgl).1
          exact EvT.cast (evt_cmp (op_neD hr.units) c_neQ (ev_qs (ev_var 1 rfl) (ev_var 5 rfl) hv) (ev_qs (ev_var 1 rfl) (ev_ns (ns := gls pl so st x) (i := 0) (ev_call fG hr2 (eva_cons (ev_var 0 rfl) (eva_cons (ev_var 5 rfl) (eva_cons (ev_var 2 rfl) (eva_cons (ev_var 3 rfl) eva_nil)))) ⟨G, x, pl, so, st, rfl, hG, hS, hT, hgx, rfl⟩) ev_int hg0) hvg)) (by rw [hgv, decide_eq_true rfl]; rfl)
    · intro sg' H' h3
      exact ss_one (s_ret h3 ev_bl k)
/-- what the law asks of upper numbers -/
structure UpperOk (G : Game) (v : List Rat) (t : Strat) : Prop where
  num : NumOk G v
  drw : ∀ (i : Nat) (bs : List (Rat × Nat)), G[i]? = some (.draw bs) → lmean bs v ≤ v.getD i 0
  all : ∀ (i : Nat) (pl : Pl), G[i]? = some pl → pl.isDraw = false → ∀ g ∈ (put .t pl (t.getD i none)).tgs, g < G.length ∧ v.getD g 0 ≤ v.getD i 0
theorem lmean_sm {G : Game} {v : List Rat} {i : Nat} {bs : List (Rat × Nat)} (hG : GOk G) (hV : NumOk G v) (hi : G[i]? = some (.draw bs)) : Sm (lmean bs v) := by
  have hok : (Pl.draw bs).Ok G.length := hG.ok _ (List.mem_of_getElem? hi)
  have hbz := hok.brsz
  have hb6 : bs.length ≤ 6 := hok.2.1
  have aux : ∀ (cs : List (Rat × Nat)) (q : Rat) (j : Nat), (∀ b ∈ cs, b ∈ bs) → Sz j q → Sz (168 * cs.length + j) (cs.foldl (fun f b => f + b.1 * v.getD b.2 0) q) := by
    intro cs
    induction cs with
    | nil => intro q j _ h; exact h.mono (by simp)
    | cons b cs ih =>
      intro q j hm h
      have hb := hm b List.mem_cons_self
      have h3 := hV.at (hok.2.2.1 b hb).1
      exact (ih _ (j + (7 + 160) + 1) (fun x hx => hm x (List.mem_cons_of_mem _ hx)) (Sz.add2 h ((hbz b hb).mul (hV.sz _ h3.2)))).mono (by rw [List.length_cons]; omega)
  exact (aux bs 0 1 (fun b hb => hb) (Sz.zero (by decide))).mono (by omega)
def F_upper (ds : List PyData) (d : PyData) : Prop := ∃ (G : Game) (v : List Rat) (t : Strat), ds = [encG G, encQs v, encS t] ∧ GOk G ∧ SOk .t G t ∧ UpperOk G v t ∧ d = .bool true
theorem put_few {sd : Side} {p : Pl} {o : Option Nat} (hp : p.tgs.length ≤ 6) : (put sd p o).tgs.length ≤ 6 := by
  unfold put
  split
  · simp [Pl.tgs]
  · exact hp
theorem fn_law_upper (Fn : Dfn K mg "_law_upper" s_law_upper ["_law_game_here", "_law_numbers", "_law_theirs"]) (fN : Fnc P w K mg base 3 "_law_are_numbers" (PureSp K F_arenum)) (fS : Fnc P w K mg base 1 "_law_is_strategy" (PureSp K F_isst)) (fC : Fnc P w K mg base 2 "_law_counted" (PureSp K F_counted)) (fM : Fnc P w K mg base 3 "_law_mean" (PureSp K F_lmean)) (fL : Fnc P w K mg base 1 "_law_less" (PureSp K F_less)) (mn : mg "len" = none) (mr : mg "range" = none) (ma : mg "any" = none) : Fnc P w K mg base 4 "_law_upper" (PureSp K F_upper) := by
  refine pure_def Fn sc_law_upper (fun ds d h => ?_) (fun f cdv A outer s H E M ds d hr h sg hsr D k => ?_)
  · obtain ⟨G, v, t, rfl, _⟩ := h; rfl
  · obtain ⟨G, v, st, rfl, hG, hT, hU, rfl⟩ := h
    have nd := sc_law_upper.nd
    have hN12 := hG.few
    have hV := hU.num
    have hr2 : Room 2 (CxD P w K mg base n_law_upper "_law_upper" s_law_upper f cdv A outer s H E).A := hr.mono (by decide)
    have hr1 : Room 1 (CxD P w K mg base n_law_upper "_law_upper" s_law_upper f cdv A outer s H E).A := hr.mono (by decide)
    refine ss_cons (s_if (z := !true || !true) hsr (EvW.toT (evw_or (evt_not (evt_val (ev_call fN hr (eva_cons (ev_var 0 rfl) (eva_cons (ev_var 1 rfl) eva_nil)) ⟨G, v, rfl, hG, hV, rfl⟩))) fun _ => evw_or1 (evt_not (evt_val (ev_call fS hr1 (eva_cons (ev_var 0 rfl) (eva_cons ev_str (eva_cons (ev_var 2 rfl) eva_nil))) ⟨G, .t, st, rfl, hG, hT, rfl⟩))))) (fun _ _ _ z => by cases z) fun H1 _ h1 _ => ss_nil ?_)
    refine ss_cons (s_for (xs := List.range G.length) (enc := encN) h1 ((evi_range (ev_len (ev_var 0 rfl).toR mn) (by omega) (by rw [List.length_map]; omega) mr).cast (by rw [List.length_map, Int.toNat_natCast]))
      (fun _ => [.dat (encG G), .dat (encQs v), .dat (encS st), .unk, .unk, .unk, .unk]) (fun _ x => [.dat (encG G), .dat (encQs v), .dat (encS st), .dat (encN x), .unk, .unk, .unk]) (fun B' sg' H' h => h) (fun i x hx => bg_name 3 nd) ?_ ?_ PassesOwn.never rfl)
    · intro B' hB hout i x hx D' sg' H' _ _ hnx _ h3
      have hxl : x < G.length := List.mem_range.mp (List.mem_of_getElem? hx)
      obtain ⟨pl, hgx⟩ : ∃ pl, G[x]? = some pl := ⟨_, List.getElem?_eq_getElem hxl⟩
      have hok : pl.Ok G.length := hG.ok pl (List.mem_of_getElem? hgx)
      obtain ⟨hv, hm⟩ := hV.at hxl
      have hdrw := hU.drw x
      have hall := hU.all x pl hgx
      generalize hq : v.getD x 0 = q at hv hm hdrw hall
      have hpl : ∀ g ∈ (put .t pl (st.getD x none)).tgs, g < G.length := by
        have hti := hT.ok x pl hgx
        exact (put_ok hok fun hs => by
          rw [if_pos hs] at hti
          obtain ⟨b, h1, h2⟩ := hti
          exact ⟨b, by rw [List.getD_eq_getElem?_getD, h1]; rfl, h2⟩).tg
      refine ss_cons (s_lcD (xs := (put .t pl (st.getD x none)).tgs) (enc := encN) 4 h3 [("_law_goal", 5)] (fun _ => true) (fun g => encQ (v.getD g 0)) (fun g => [.dat (encG G), .dat (encQs v), .dat (encS st), .dat (encN x), .unk, .dat (encN g), .unk])
        (evi_list (ev_call fC hr2 (eva_cons (ev_var 0 rfl) (eva_cons (ev_var 3 rfl) (eva_cons ev_str (eva_cons (ev_var 2 rfl) eva_nil)))) ⟨G, x, pl, st, rfl, hG, hT, hgx, rfl⟩)) (blkOk_by (N := n_law_upper) (sc := defScope s_law_upper) (by decide +kernel)) nd rfl (by have := put_few (sd := .t) (o := st.getD x none) hok.few; omega) (by simp)
        (fun D s H C cl fp g hx => bg_name 5 nd) (fun D s H C cl fp g hx => evts_nil) (fun D s H C cl fp g hx _ => ev_qs (ev_var 1 rfl) (ev_var 5 rfl) (hV.at (hpl g hx)).1) (fun sg4 H4 _ h4 => ?_) (sw_true rfl rfl rfl (by decide +kernel)))
      rw [filter_yes, show ((put .t pl (st.getD x none)).tgs.map fun g => encQ (v.getD g 0)) = ((put .t pl (st.getD x none)).tgs.map fun g => v.getD g 0).map encQ by rw [List.map_map]; rfl] at h4
      refine ss_cons (s_ifJ (fun sg' H' => ∃ ls : List Rat, (∀ q' ∈ ls, Sm q' ∧ q' ≤ q) ∧ ls.length ≤ 6 ∧ SR K B' M [.dat (encG G), .dat (encQs v), .dat (encS st), .dat (encN x), .dat (encQs ls), .unk, .unk] sg' H') h4 (evt_kd (ev_g (ev_var 0 rfl) (ev_var 3 rfl) hgx) (kd_draw pl)) (fun H5 D5 h5 z5 hj => ?_) (fun H5 D5 h5 z5 hj => ?_) ?_)
      · cases pl with
        | draw bs =>
          refine ss_one (s_set (d := encQs [lmean bs v]) 4 h5 (EvF.toE (evf_lst (eva_cons (ev_call fM hr (eva_cons (ev_var 0 rfl) (eva_cons (ev_var 3 rfl) (eva_cons (ev_var 1 rfl) eva_nil))) ⟨G, x, bs, v, rfl, hG, hV, hgx, rfl⟩) eva_nil) (by simp))) (fun sg6 H6 _ h6 => ?_) nd)
          exact hj _ _ ⟨[lmean bs v], fun q' hq' => by rw [List.mem_singleton.mp hq']; exact ⟨lmean_sm hG hV hgx, hdrw bs hgx⟩, by simp, h6.wk (by repeat (first | apply Wk.nil | apply Wk.same | apply Wk.drop))⟩
        | _ => cases z5
      · refine ss_nil (hj _ _ ⟨(put .t pl (st.getD x none)).tgs.map fun g => v.getD g 0, fun q' hq' => ?_, by rw [List.length_map]; exact put_few hok.few, h5.wk (by repeat (first | apply Wk.nil | apply Wk.same | apply Wk.drop))⟩)
        obtain ⟨g, hg, rfl⟩ := List.mem_map.mp hq'
        obtain ⟨g1, g2⟩ := hall z5 g hg
        exact ⟨hV.sm (hV.at g1).2, g2⟩
      · rintro sg6 H6 ⟨ls, hls, hl6, h⟩
        refine ss_one (s_if (z := (ls.map fun q' => decide (q < q')).any id) h (evt_val (ev_any (bs := ls.map fun q' => decide (q < q')) (EvF.toR (EvF.cast (evf_lc' (xs := ls) (enc := encQ) [("_law_one", 6)] (fun q' => .bool (decide (q < q'))) (fun q' => [.dat (encG G), .dat (encQs v), .dat (encS st), .dat (encN x), .dat (encQs ls), .unk, .dat (encQ q')])
          (evi_list (ev_var 4 rfl)) (blkOk_by (N := n_law_upper) (sc := defScope s_law_upper) (by decide +kernel)) nd rfl (by omega) (by simp) (fun D s H C cl fp q' hx => bg_name 6 nd)
          (fun D s H C cl fp q' hx => ev_call fL hr1 (eva_cons (ev_qs (ev_var 1 rfl) (ev_var 3 rfl) hv) (eva_cons (ev_var 6 rfl) eva_nil)) ⟨q, q', rfl, hV.sm hm, (hls q' hx).1, rfl⟩)) (by rw [List.map_map]; rfl))) ma)) (fun H4 _ h4 z => ?_) fun H4 _ h4 _ => ss_nil (hnx _ _ (h4.wk (by repeat (first | apply Wk.nil | apply Wk.same | apply Wk.drop)))))
        exfalso
        rw [List.any_eq_true] at z
        obtain ⟨b, hb, hb2⟩ := z
        obtain ⟨q', hq', rfl⟩ := List.mem_map.mp hb
        exact absurd (of_decide_eq_true hb2) (Rat.not_lt.mpr (hls q' hq').2)
    · intro sg' H' h3
      exact ss_one (s_ret h3 ev_bl k)
end
end K51
set_option Elab.async false
set_option linter.all false
set_option maxRecDepth 100000
set_option maxHeartbeats 1000000
namespace K51
open PySem PySem.Spec PyProof.Rows L2
/-! the law's own entry, where nothing is being shown (no repr under way): its def's body at that one place -/
section
variable {P : Program} {w : World} {K : PySem.W.Frag} {mg mb : Str → Option Value}
/-- a def of one parameter, entered at one place A -/
theorem enterG {base : Heap} {A : Around} {k : Nat} {f : Addr} {name qual x : Str} {params : Arguments} {body : List Stmt} {scope : Scope} {dV kV doc pm cdv ct oc u : Value} {an od : Option Addr} {osl : Array (Option Value)} {N : List Str} {s : Shared} {H : Hp} {Q : VK} {v : V}
    (lk : K.lookup f = some ⟨oc, od, .func (PySem.W.fnOf name qual params body scope dV kV doc pm an cdv ct), osl⟩) (hcd : PySem.W.codeIn K cdv qual = true) (S : FnScope N [x] scope) (hr : Room (k + 1) A) (e0 : Env0 P w K mg base A [] s H)
    (hb : BindsTo s (PySem.W.fnOf name qual params body scope dV kV doc pm an cdv ct) ⟨[u], []⟩ [(x, u)]) (rv : RelV v u)
    (h : Room k (cxOf CX0 P w K mg base N qual scope f cdv A [] s H E0).nox.A → wpSs (cxOf CX0 P w K mg base N qual scope f cdv A [] s H E0).nox body { nx := fun _ H' => Q .non H', rt := Q } (L2.start N [v]) H) :
    codeAny (model P w) A (.call (.ref f) ⟨[u], []⟩) (CR CX0 [] P w H s Q E0) s := by
  have keep : ∀ b o, base.get? b = some o → s.heap.get? b = some o := fun b o e => (e0.bs b o e).1
  have KX : K.In s.heap := e0.mod.kin.keeps keep
  refine codeAny_call_function hr.depth (KX _ _ lk) rfl S.co S.gen rfl (PySem.W.codeRec_of KX hcd) (hb _ _ _ _ ?_)
  refine wpAny_newFunctionEnv_cells S.kind (fun y hy => ?_) fun env he s1 z => ?_
  · have hy' : y.1 = x := by rw [List.mem_singleton.mp hy]
    rcases S.par y.1 (by rw [hy']; exact List.mem_singleton.mpr rfl) with q | q
    · exact .inl q
    · exact .inr ⟨q, PySem.W.cellsFrom_some _ _ _ (.inl q)⟩
  subst he
  refine ⟨(e0.mod.nolimit.keeps keep).keeps z.toInCall.keep, codeAny_func ?_⟩
  have I : Inv (cxOf CX0 P w K mg base N qual scope f cdv A [] s H E0) [] (L2.start N [v]) H s1 := inv_start S hr.hd e0 (ps := [x]) (us := [u]) rfl (.cons rv .nil) z
  have run := (PSs.nox (ss_wp (X := (cxOf CX0 P w K mg base N qual scope f cdv A [] s H E0).nox) (sts := body))).run [] s1 _ H _ I (h (hr.deeper _))
  refine wpAny_mono run (fun fl s2 q => ?_) fun _ _ q => q
  cases fl with
  | ret u2 =>
    obtain ⟨v2, _, H2, J, r2, q2⟩ := q
    exact ⟨v2, H2, J.os, J.bare, J.base, J.hok, r2, q2⟩
  | next =>
    obtain ⟨_, H2, J, q2⟩ := q
    exact ⟨V.non, H2, J.os, J.bare, J.base, J.hok, rfl, q2⟩
  | brk => obtain ⟨_, _, _, q2⟩ := q; exact False.elim q2
  | cont => obtain ⟨_, _, _, q2⟩ := q; exact False.elim q2
/-- the script alone may be told apart in the heap behind the top -/
theorem headG {fa a : Addr} {s₁ : Shared} {vs : List Value} {ns : List Int} (KX : K.In s₁.heap) (hns : s₁.heap.Ns mainGlobals mg) (hb : s₁.heap.Ns builtinsNs mb) (hbb : ∀ x : Str, x ≠ "__name__" → mb x = bootBuiltins x) (hlim : s₁.heap.NoLimit) (hg : s₁.gens = #[])
    (ha : s₁.heap.get? a = some { cls := .type "list", data := .seq vs.toArray }) (hi : IntsAre vs ns) (hl : ns.length ≤ sizeLine)
    (F : ∀ (base : Heap) (H : Hp), Env0 P w K mg base callerA [] s₁ H → Only H → SqL K H a (ns.map V.int) → codeAny (model P w) callerA (.call (.ref fa) ⟨[.ref a], []⟩) (CR CX0 [] P w H s₁ (fun v _ => v = .bl true) E0) s₁) :
    codeAny (model P w) callerA (.call (.ref fa) ⟨[.ref a], []⟩) (fun r s' => r = .ok (.ret (.bool true)) ∧ OldK s₁.heap s'.heap ∧ s'.os = s₁.os ∧ AllBare s'.gens) s₁ := by
  have rv := vals_ints hi
  have hz : vs.toArray.size ≤ sizeLine := by rw [List.size_toArray, hi.length]; exact hl
  -- one heap, by whether the script is one of the module's own objects
  obtain ⟨H, hO, hS, hok, hA⟩ : ∃ H : Hp, Only H ∧ SqL K H a (ns.map V.int) ∧ HOk P w H s₁.heap ∧ ∀ b, H b ≠ none → b = a ∧ K.lookup a = none := by
    cases hk : K.lookup a with
    | some o =>
      have e := KX a o hk
      rw [ha] at e
      cases e
      exact ⟨fun _ => none, fun _ => .inl rfl, .inr ⟨_, vs.toArray, _, hk, rfl, rfl, rfl, hz, by simpa using rv⟩, fun b u q => (by cases (show (none : Option HO) = some u from q)), fun b q => absurd rfl q⟩
    | none =>
      have two : ∀ b : Addr, (if b = a then some (HO.frz { cls := .type "list", data := .seq vs.toArray } (.lst (ns.map V.int))) else none) = none ∨ b = a := fun b => by
        by_cases e : b = a
        · exact .inr e
        · exact .inl (if_neg e)
      refine ⟨fun b => if b = a then some (.frz { cls := .type "list", data := .seq vs.toArray } (.lst (ns.map V.int))) else none, fun b => ?_, .inl (.inr ⟨_, if_pos rfl⟩), fun b u q => ?_, fun b q => ?_⟩
      · rcases two b with e | rfl
        · exact .inl e
        · exact .inr ⟨_, _, if_pos rfl⟩
      · rcases two b with e | rfl
        · cases e.symm.trans q
        · cases (if_pos rfl).symm.trans q
          exact ⟨ha, by rw [List.length_map]; exact hl, vs, _, rv, ha⟩
      · rcases two b with e | e
        · exact absurd e q
        · exact ⟨e, rfl⟩
  have free : ∀ {b : Addr} {o : Obj}, s₁.heap.get? b = some o → o.data ≠ .seq vs.toArray 0 → H b = none := fun {b o} e n => by
    refine Decidable.byContradiction fun q => ?_
    obtain ⟨rfl, _⟩ := hA b q
    rw [ha] at e; cases e
    exact n rfl
  have ns0 : ∀ {b : Addr} {m : Str → Option Value}, s₁.heap.Ns b m → (hidT s₁.heap H).Ns b m := fun {b m} ⟨o, es, ep, e, d, r⟩ => ⟨o, es, ep, hidT_get e (free e (by rw [d]; intro z; cases z)), d, r⟩
  have kin0 : K.In (hidT s₁.heap H) := fun b o e => hidT_get (KX b o e) (Decidable.byContradiction fun q => by
    obtain ⟨rfl, n⟩ := hA b q
    rw [n] at e; cases e)
  obtain ⟨mc, m1, m2⟩ := hlim
  have e0 : Env0 P w K mg (hidT s₁.heap H) callerA [] s₁ H := ⟨rfl, ⟨kin0, ns0 hns, ⟨mb, ns0 hb, hbb⟩, ⟨mc, ns0 m1, m2⟩⟩, fun b o e => of_hidT e, Nat.le_of_eq (hidT_size _ _), trivial, fun b q => absurd (show b ∈ ([] : List Addr) from q) (by simp), hok, .of_eq hg⟩
  refine codeAny_mono (F _ H e0 hO hS) fun r s2 q => ?_
  cases r with
  | error e => exact False.elim q
  | ok fl =>
    cases fl with
    | next => exact False.elim q
    | brk => exact False.elim q
    | cont => exact False.elim q
    | ret u =>
      obtain ⟨v, H2, os, bare, un, hok2, r2, q2⟩ := q
      obtain rfl : v = .bl true := q2
      obtain rfl : u = Value.bool true := r2
      refine ⟨rfl, OldK.of_keep fun b o e => ?_, os, bare⟩
      rcases hO b with z | ⟨ob, xs, z⟩
      · exact un.keep b o e z (fun y => absurd (show b ∈ ([] : List Addr) from y) (by simp)) (by simp)
      · have e1 := (hok b _ z).1
        have e2 := (hok2 b _ (un.frzs b ob _ z)).1
        rw [e] at e1; cases e1
        exact e2
end
end K51
set_option Elab.async false
set_option linter.all false
set_option maxRecDepth 100000
set_option maxHeartbeats 1000000
set_option exponentiation.threshold 20000
namespace K51
open PySem PySem.Spec PyProof.Rows L2
/-! what is shown of plain data: repr -/
/-- plain data whose text fits: ints below 10 ^ 12, at most w in weight, k deep -/
structure Shw (d : PyData) (w k : Nat) : Prop where
  lay : d.canLay0 = true
  short : d.leavesShort 13 = true
  shw : d.showable = true
  dep : d.depth ≤ k
  wt : d.weight ≤ w
theorem Shw.mono {d : PyData} {w k w' k' : Nat} (h : Shw d w k) (h1 : w ≤ w') (h2 : k ≤ k') : Shw d w' k' := ⟨h.lay, h.short, h.shw, Nat.le_trans h.dep h2, Nat.le_trans h.wt h1⟩
theorem shw_int {i : Int} (h : i.natAbs < 10 ^ 12) : Shw (.int i) 41 1 := by
  have h40 : (10 : Nat) ^ 12 ≤ 2 ^ 40 := by decide
  have hl : i.natAbs.log2 < 41 := by
    by_cases h0 : i.natAbs = 0
    · rw [h0]; decide
    · exact Nat.lt_succ_of_lt ((Nat.log2_lt h0).mpr (by omega))
  refine ⟨rfl, ?_, ?_, by simp [PyData.depth], ?_⟩
  · rw [PyData.leavesShort]; exact decide_eq_true (PyData.shown_int_le h)
  · rw [PyData.showable]; exact decide_eq_true (by omega)
  · rw [PyData.weight]
    split
    · omega
    · by_cases h0 : i.natAbs = 0
      · rw [h0]; decide
      · have := (Nat.log2_lt h0).mpr (show i.natAbs < 2 ^ 40 by omega)
        omega
theorem shw_non : Shw .none 41 1 := ⟨rfl, rfl, rfl, by simp [PyData.depth], by simp [PyData.weight]⟩
theorem shw_kind : ∀ f : _root_.Fin 6, Shw (.str (tagStr f)) 41 1 := fun f => by
  have h1 : ∀ f : _root_.Fin 6, (PyData.str (tagStr f)).canLay0 = true := by decide +kernel
  have h2 : ∀ f : _root_.Fin 6, (PyData.str (tagStr f)).leavesShort 13 = true := by decide +kernel
  have h3 : ∀ f : _root_.Fin 6, (PyData.str (tagStr f)).weight ≤ 41 := by decide +kernel
  exact ⟨h1 f, h2 f, by rw [PyData.showable], by simp [PyData.depth], h3 f⟩
theorem shw_all {w k : Nat} : ∀ {ds : List PyData}, (∀ d ∈ ds, Shw d w k) → PyData.canLayAll0 ds = true ∧ PyData.leavesShortAll 13 ds = true ∧ PyData.showableAll ds = true ∧ PyData.depthAll ds ≤ k ∧ PyData.weightAll ds ≤ ds.length * (w + 1)
  | [], _ => ⟨rfl, rfl, rfl, Nat.zero_le _, by simp [PyData.weightAll]⟩
  | d :: ds, h => by
    obtain ⟨h1, h2, h3, h4, h5⟩ := shw_all (ds := ds) fun x hx => h x (List.mem_cons_of_mem _ hx)
    have hd := h d List.mem_cons_self
    refine ⟨?_, ?_, ?_, ?_, ?_⟩
    · rw [PyData.canLayAll0, hd.lay, h1]; rfl
    · rw [PyData.leavesShortAll, hd.short, h2]; rfl
    · rw [PyData.showableAll, hd.shw, h3]; rfl
    · rw [PyData.depthAll]; exact Nat.max_le.mpr ⟨hd.dep, h4⟩
    · rw [PyData.weightAll, List.length_cons, Nat.succ_mul]
      have := hd.wt
      omega
theorem shw_list {w k n : Nat} {ds : List PyData} (h : ∀ d ∈ ds, Shw d w k) (hn : ds.length ≤ n) : Shw (.list ds) (n * (w + 1)) (k + 1) := by
  obtain ⟨h1, h2, h3, h4, h5⟩ := shw_all h
  refine ⟨by rw [PyData.canLay0]; exact h1, by rw [PyData.leavesShort]; exact h2, by rw [PyData.showable]; exact h3, by rw [PyData.depth]; omega, ?_⟩
  rw [PyData.weight]
  exact Nat.le_trans h5 (Nat.mul_le_mul_right _ hn)
theorem shw_tuple {w k n : Nat} {ds : List PyData} (h : ∀ d ∈ ds, Shw d w k) (hn : ds.length ≤ n) : Shw (.tuple ds) (n * (w + 1)) (k + 1) := by
  obtain ⟨h1, h2, h3, h4, h5⟩ := shw_all h
  refine ⟨by rw [PyData.canLay0]; exact h1, by rw [PyData.leavesShort]; exact h2, by rw [PyData.showable]; exact h3, by rw [PyData.depth]; omega, ?_⟩
  rw [PyData.weight]
  exact Nat.le_trans h5 (Nat.mul_le_mul_right _ hn)
theorem shw_n {n : Nat} (h : n < 1000) : Shw (encN n) 41 1 := shw_int (by rw [Int.natAbs_natCast]; exact Nat.lt_trans h (by decide))
theorem shw_q {q : Rat} (h : Sz 7 q) : Shw (encQ q) 84 2 := by
  have h7 : (2 : Nat) ^ 7 = 128 := by decide
  refine shw_tuple (n := 2) (w := 41) (k := 1) (fun d hd => ?_) (by simp)
  have h1 := h.1
  have h2 := h.2
  rcases List.mem_cons.mp hd with rfl | hd
  · exact shw_int (Nat.lt_trans (by omega : q.num.natAbs < 128) (by decide))
  · rw [List.mem_singleton.mp hd]
    exact shw_int (by rw [Int.natAbs_natCast]; exact Nat.lt_trans (by omega : q.den < 128) (by decide))
theorem shw_pl {n : Nat} {pl : Pl} (hn : n ≤ 12) (h : pl.Ok n) : Shw (encPl pl) 4000 5 := by
  have hrest : ∀ d ∈ pl.rest, Shw d 1100 4 := by
    intro d hd
    cases pl with
    | draw bs =>
      rw [show d = .list (bs.map encB) from List.mem_singleton.mp hd]
      refine (shw_list (n := 6) (w := 170) (k := 3) (fun x hx => ?_) (by rw [List.length_map]; exact h.2.1)).mono (by decide) (by decide)
      obtain ⟨b, hb, rfl⟩ := List.mem_map.mp hx
      refine (shw_tuple (n := 2) (w := 84) (k := 2) (fun y hy => ?_) (by simp)).mono (by decide) (by decide)
      rcases List.mem_cons.mp hy with rfl | hy
      · exact shw_q (h.brsz b hb)
      · rw [List.mem_singleton.mp hy]
        exact (shw_n (by have := (h.2.2.1 b hb).1; omega)).mono (by decide) (by decide)
    | ours ts =>
      rw [show d = .list (ts.map encN) from List.mem_singleton.mp hd]
      refine (shw_list (n := 6) (w := 41) (k := 1) (fun x hx => ?_) (by rw [List.length_map]; exact h.2.1)).mono (by decide) (by decide)
      obtain ⟨t, ht, rfl⟩ := List.mem_map.mp hx
      exact shw_n (by have := h.2.2 t ht; omega)
    | theirs ts =>
      rw [show d = .list (ts.map encN) from List.mem_singleton.mp hd]
      refine (shw_list (n := 6) (w := 41) (k := 1) (fun x hx => ?_) (by rw [List.length_map]; exact h.2.1)).mono (by decide) (by decide)
      obtain ⟨t, ht, rfl⟩ := List.mem_map.mp hx
      exact shw_n (by have := h.2.2 t ht; omega)
    | reward am t =>
      obtain ⟨ht, z, hz, rfl⟩ := h
      rcases List.mem_cons.mp hd with rfl | hd
      · refine (shw_q ?_).mono (by decide) (by decide)
        constructor
        · rw [Rat.num_natCast, Int.natAbs_natCast]; show z < 128; omega
        · rw [Rat.den_natCast]; decide
      · rw [List.mem_singleton.mp hd]
        exact (shw_n (by omega)).mono (by decide) (by decide)
    | finish => cases hd
    | lose => cases hd
  have hl : pl.rest.length ≤ 2 := by cases pl <;> simp [Pl.rest]
  refine (shw_tuple (n := 3) (w := 1100) (k := 4) (fun d hd => ?_) (by rw [List.length_cons]; omega)).mono (by decide) (by decide)
  rcases List.mem_cons.mp hd with rfl | hd
  · exact (shw_kind pl.tag).mono (by decide) (by decide)
  · exact hrest d hd
theorem shw_gs {G : Game} {t : Strat} (hG : GOk G) (hT : SOk .t G t) : Shw (.tuple [encG G, encS t]) 200000 7 := by
  refine (shw_tuple (n := 2) (w := 50000) (k := 6) (fun d hd => ?_) (by simp)).mono (by decide) (by decide)
  rcases List.mem_cons.mp hd with rfl | hd
  · refine (shw_list (n := 12) (w := 4000) (k := 5) (fun x hx => ?_) (by rw [List.length_map]; exact hG.few)).mono (by decide) (by decide)
    obtain ⟨pl, hp, rfl⟩ := List.mem_map.mp hx
    exact shw_pl hG.few (hG.ok pl hp)
  · rw [List.mem_singleton.mp hd]
    refine (shw_list (n := 12) (w := 41) (k := 1) (fun x hx => ?_) (by rw [List.length_map, hT.len]; exact hG.few)).mono (by decide) (by decide)
    obtain ⟨i, hi⟩ := List.mem_iff_getElem?.mp hx
    rw [List.getElem?_map] at hi
    obtain ⟨o, ho, rfl⟩ := Option.map_eq_some_iff.mp hi
    have hil : i < G.length := by rw [← hT.len]; exact (List.getElem?_eq_some_iff.mp ho).1
    have hq := hT.ok i _ (List.getElem?_eq_getElem hil)
    have hok := hG.ok _ (List.getElem_mem hil)
    by_cases hs : G[i].isSide .t = true
    · rw [if_pos hs] at hq
      obtain ⟨b, h1, h2⟩ := hq
      rw [ho] at h1; cases h1
      have := hok.few
      exact shw_n (by omega)
    · rw [if_neg hs] at hq
      rw [ho] at hq; cases hq
      exact shw_non
theorem Shw.fits {d : PyData} {w k : Nat} (h : Shw d w k) (hw : w ≤ 2 ^ 20) : d.shown.length ≤ sizeLine := PyData.shown_fits (B := 13) (by decide) (by decide) h.short (Nat.le_trans h.wt hw)
section
variable {X : Cx} {M : Mem} {r : List Sl} {a : Expr} {pos p : Pos} {d : PyData} {ds : List PyData}
def rRepr (K : PySem.W.Frag) : List V → Hp → VK → Prop := fun xs H Q => ∃ (x : V) (ds : List PyData) (w : Nat), xs = [x] ∧ Dp K H x (.tuple ds) ∧ Shw (.tuple ds) w 64 ∧ w ≤ 2 ^ 20 ∧ Q (.str (PyData.shown (.tuple ds))) H
theorem cr_repr (hg : X.A.guards = some []) (hu : X.A.units + 66 < cLine) : CallR X (.builtin "repr") (rRepr X.K) := by
  intro pins s σ H xs us Q I r h
  obtain ⟨x, ds, w, rfl, hd, hs, hw, q⟩ := h
  obtain ⟨u, rfl, ru⟩ := r.one
  obtain ⟨o, ys, rfl, h1, h2⟩ := dp_tup hd
  obtain rfl : u = Value.ref o := ru
  obtain ⟨as, rd⟩ := Dp.reads I (.tuple ds) _ _ hd rfl
  have hdep := hs.dep
  refine repr_of_reads' rd hs.shw (PyData.noDict_hsm (PyData.hasDict_of_canLay _ hs.lay)) hg (by omega) (fun _ _ e => e) (fun h' u tk hk => ⟨.str (PyData.shown (.tuple ds)), H, I.kept hk, ⟨_, rfl⟩, q⟩) (hs.fits hw)
theorem ev_repr {w : Nat} (hgd : X.A.guards = some []) (hu : X.A.units + 66 < cLine) (ha : Ev X M r a (.tuple ds)) (hs : Shw (.tuple ds) w 64) (hw : w ≤ 2 ^ 20) (hm : X.mg "repr" = none) (hg : Gl X "repr" := by rfl) (hst : starEach [a] X.env = (false, eval a X.env) :: starEach [] X.env := by rfl) :
    Ev X M r (.Call (.Name "repr" p) [a] [] pos) (.str (PyData.shown (.tuple ds))) := fun B sg H Q h k => by
  refine e_of (pe_callB (cr_repr hgd hu) hg hm (by decide +kernel) (pa_cons e_wp pa_nil hst) (he := hst)) ?_
  refine ha B sg H _ h fun v H1 s1 q1 => ?_
  exact ⟨v, ds, w, rfl, dp_mono hid_le q1, hs, hw, k _ H1 s1 (.str _)⟩
end
end K51
set_option Elab.async false
set_option linter.all false
set_option maxRecDepth 100000
set_option maxHeartbeats 1000000
set_option exponentiation.threshold 20000
namespace K51
open PySem PySem.Spec PyProof.Rows L2
section
variable {K : PySem.W.Frag} {B : Bs} {M : Mem} {r : List Sl} {sg : L2.St} {H H' : Hp} {p : Addr}
/-- a hidden list comes to a slot -/
theorem SR.setIn (h : SR K B M r sg H) {i : Nat} {p : Addr} {xs : List V} {ds : List PyData} (hp : p ∈ M) (h0 : B.H0 p = none) (hx : H p = some (.lst xs)) (hd : DpAll K (hid M H) xs ds) (hf : ∀ (j : Nat) (s : Sl), j ≠ i → r[j]? = some s → s.ad ≠ some p) : SR K B M (r.set i (.mt p ds)) (sg.set i (some (.ref p))) H := by
  refine ⟨h.same, h.sub, h.out, h.there, by rw [List.length_set, List.length_set]; exact h.len, fun j s hs => ?_, fun j k s t o h1 h2 h3 h4 => ?_⟩
  · by_cases hj : i = j
    · subst hj
      have hi : i < r.length := by
        have := (List.getElem?_eq_some_iff.mp hs).1
        rwa [List.length_set] at this
      rw [List.getElem?_set_self hi] at hs
      cases hs
      exact ⟨by rw [List.getElem?_set_self (by rw [h.len]; exact hi)], hp, h0, xs, hx, hd⟩
    · rw [List.getElem?_set_ne hj] at hs
      rw [List.getElem?_set_ne hj]
      exact h.slot j s hs
  · have aux : ∀ (j : Nat) (s : Sl), (r.set i (.mt p ds))[j]? = some s → s.ad = some o → (i = j ∧ o = p) ∨ (i ≠ j ∧ r[j]? = some s) := fun j s hs ha => by
      by_cases hj : i = j
      · subst hj
        have hi : i < r.length := by
          have := (List.getElem?_eq_some_iff.mp hs).1
          rwa [List.length_set] at this
        rw [List.getElem?_set_self hi] at hs
        cases hs; cases ha
        exact .inl ⟨rfl, rfl⟩
      · rw [List.getElem?_set_ne hj] at hs
        exact .inr ⟨hj, hs⟩
    rcases aux j s h1 h3 with ⟨e1, e2⟩ | ⟨n1, q1⟩
    · rcases aux k t h2 h4 with ⟨e3, e4⟩ | ⟨n2, q2⟩
      · exact e1.symm.trans e3
      · subst e2; exact absurd h4 (hf k t (Ne.symm n2) q2)
    · rcases aux k t h2 h4 with ⟨e3, e4⟩ | ⟨n2, q2⟩
      · subst e4; exact absurd h3 (hf j s (Ne.symm n1) q1)
      · exact h.dist j k s t o q1 q2 h3 h4
end
section
variable {X : Cx} {M : Mem} {r : List Sl} {e a b c : Expr} {es : List Expr} {pos p q p1 p2 : Pos} {B : Bs} {sg : L2.St} {H : Hp} {D : Ends} {d : PyData} {ds : List PyData} {z : Bool} {o : Addr}
/-! arguments, seen in the whole heap -/
def EvV (X : Cx) (M : Mem) (r : List Sl) (e : Expr) (d : PyData) : Prop :=
  ∀ (B : Bs) (sg : L2.St) (H : Hp) (Q : VK), SR X.K B M r sg H → (∀ v H', Same H H' → Dp X.K H' v d → Q v H') → wpE X e sg H Q
def EvVA (X : Cx) (M : Mem) (r : List Sl) (es : List Expr) (ds : List PyData) : Prop :=
  ∀ (B : Bs) (sg : L2.St) (H : Hp) (Q : List V → Hp → Prop), SR X.K B M r sg H → (∀ vs H', Same H H' → DpAll X.K H' vs ds → Q vs H') → wpA X es sg H Q
theorem Ev.toV (h : Ev X M r e d) : EvV X M r e d := fun B sg H Q hs k => h B sg H Q hs fun v H' s q => k v H' s (dp_mono hid_le q)
theorem evV_mt (i : Nat) {x : Str} {pos : Pos} (hr : r[i]? = some (.mt o ds)) (hN : X.N[i]? = some x := by rfl) (hv : Vis X.env.scope x := by first | exact Or.inl rfl | exact Or.inr (Or.inl rfl) | exact Or.inr (Or.inr rfl))
    (hd : (x == ("__debug__" : Str)) = false := by decide) (hcd : (x == ("__classdict__" : Str)) = false := by decide) : EvV X M r (.Name x pos) (.list ds) := fun B sg H Q hs k => by
  obtain ⟨h1, _, _, xs, h4, h5⟩ := hs.mt hr
  exact e_of (pe_var hN hv hd hcd) ⟨_, h1, k _ H (Same.refl _) (.lst (.inl (.inl h4)) (dpa_mono hid_le h5))⟩
theorem evva_nil : EvVA X M r [] [] := fun B sg H Q hs k => a_of pa_nil (k [] H (Same.refl _) .nil)
theorem evva_cons (ha : EvV X M r e d) (hr : EvVA X M r es ds) (hs : starEach (e :: es) X.env = (false, eval e X.env) :: starEach es X.env := by rfl) : EvVA X M r (e :: es) (d :: ds) := fun B sg H Q h k => by
  refine a_of (pa_cons e_wp a_wp hs) ?_
  refine ha B sg H _ h fun v H1 s1 q1 => ?_
  refine hr B sg H1 _ (h.mono s1) fun vs H2 s2 q2 => ?_
  exact k _ H2 (s1.trans s2) (.cons (dp_mono s2 q1) q2)
theorem hid_nil {H : Hp} : hid [] H = H := by
  funext b
  exact hid_out (by simp)
theorem ev_callB {x : Str} {k : Nat} {F : List PyData → PyData → Prop} (hf : Fnc X.prog X.w X.K X.mg X.base k x (PureSp X.K F)) (hr : Room k X.A) (ha : EvVA X M r (e :: es) ds) (h : F ds (.bool z)) (hg : Gl X x := by rfl)
    (hdb : (x == ("__debug__" : Str)) = false := by decide) (he : starEach (e :: es) X.env = (false, eval e X.env) :: starEach es X.env := by rfl) (hpl : (backTo pos (starEach es X.env)).any (·.1) = false := by rfl) : Ev X M r (.Call (.Name x p) (e :: es) [] pos) (.bool z) := fun B sg H Q hs kk => by
  obtain ⟨f, fd, ps, h1, h2, h3, h4⟩ := hf.ex
  refine e_of (pe_call h4 hr hg h1 h2 h3 .nil pass0 a_wp hdb he hpl) ?_
  refine ha B sg H _ hs fun vs H1 s1 q1 => ?_
  show PureSp X.K F (vs ++ []) _ _ _
  rw [List.append_nil]
  refine ⟨[], ds, .bool z, fun m hm => (by cases hm), by rw [hid_nil]; exact q1, h, fun v H' s q => ?_⟩
  rw [dp_bl q]
  exact kk _ H' (s1.trans s) (.bl z)
/-- isinstance, len of a tuple that is known -/
theorem ev_isiO (i : Nat) {x T : Str} {tn : String} {xs : List V} (hr : r[i]? = some (.obj o (.tup xs))) (hi : X.mg "isinstance" = none) (hT : X.mg T = none) (hz : kitB "tuple" tn = some z) (hN : X.N[i]? = some x := by rfl) (hv : Vis X.env.scope x := by first | exact Or.inl rfl | exact Or.inr (Or.inl rfl) | exact Or.inr (Or.inr rfl))
    (hd : (x == ("__debug__" : Str)) = false := by decide) (hcd : (x == ("__classdict__" : Str)) = false := by decide) (hb : bootBuiltins T = some (.type tn) := by decide +kernel) (hgT : Gl X T := by rfl) (hg : Gl X "isinstance" := by rfl)
    (hnT : T ≠ "__name__" := by decide) (hdT : (T == ("__debug__" : Str)) = false := by decide) (hst : starEach [.Name x p2, .Name T p1] X.env = (false, eval (.Name x p2) X.env) :: starEach [.Name T p1] X.env := by rfl) (hst2 : starEach [.Name T p1] X.env = (false, eval (.Name T p1) X.env) :: starEach [] X.env := by rfl)
    (hpl : (backTo pos (starEach [.Name T p1] X.env)).any (·.1) = false := by rfl) : Ev X M r (.Call (.Name "isinstance" p) [.Name x p2, .Name T p1] [] pos) (.bool z) := fun B sg H Q hs k => by
  refine e_of (pe_callB call_isi hg hi (by decide +kernel) (pa_cons (pe_var hN hv hd hcd) (pa_cons (pe_bltn (v := .ty tn) hgT hT hb rfl hnT hdT) pa_nil hst2) hst) (he := hst) (hpl := hpl)) ?_
  obtain ⟨h1, h2, h3, h4⟩ := hs.obj hr
  exact ⟨_, h1, .ref o, .ty tn, .type "tuple", .type tn, z, rfl, .ty tn, .base (.tup h4), kit_ty hz, k _ H (Same.refl _) (.bl z)⟩
theorem ev_lenO (i : Nat) {x : Str} {xs : List V} (hr : r[i]? = some (.obj o (.tup xs))) (hm : X.mg "len" = none) (hN : X.N[i]? = some x := by rfl) (hv : Vis X.env.scope x := by first | exact Or.inl rfl | exact Or.inr (Or.inl rfl) | exact Or.inr (Or.inr rfl))
    (hd : (x == ("__debug__" : Str)) = false := by decide) (hcd : (x == ("__classdict__" : Str)) = false := by decide) (hg : Gl X "len" := by rfl) (hst : starEach [.Name x p2] X.env = (false, eval (.Name x p2) X.env) :: starEach [] X.env := by rfl) : Ev X M r (.Call (.Name "len" p) [.Name x p2] [] pos) (.int xs.length) := fun B sg H Q hs k => by
  refine e_of (pe_callB call_len_seq hg hm PySem.boot_len (pa_cons (pe_var hN hv hd hcd) pa_nil hst) (he := hst)) ?_
  obtain ⟨h1, h2, h3, h4⟩ := hs.obj hr
  exact ⟨_, h1, o, xs, rfl, .inr (SqT.of h4), k _ H (Same.refl _) (.int _)⟩
/-- x.clear() -/
theorem s_clear (i : Nat) {x : Str} {px ap cp : Pos} (hsr : SR X.K B M r sg H) (hm : r[i]? = some (.mt o ds)) (k : ∀ H', SR X.K B M (r.set i (.mt o [])) sg H' → D.nx sg H')
    (hN : X.N[i]? = some x := by rfl) (hv : Vis X.env.scope x := by first | exact Or.inl rfl | exact Or.inr (Or.inl rfl) | exact Or.inr (Or.inr rfl)) (hd : (x == ("__debug__" : Str)) = false := by decide) (hcd : (x == ("__classdict__" : Str)) = false := by decide)
    (hbase : attributeBase (.Name x px) "clear" X.env (eval (.Name x px) X.env) = eval (.Name x px) X.env := by rfl) (hline : (ap.endLine == cp.line) = true := by rfl)
    (hsw : swapsWith (.Call (.Attribute (.Name x px) "clear" ap) [] [] cp) none pos.line X.env = pure false := by rfl) : wpS X (.Expr (.Call (.Attribute (.Name x px) "clear" ap) [] [] cp) pos) D sg H := by
  refine s_of (ps_expr (pe_bm0 PySem.F.plainAttrs_list PySem.F.slot_list_clear PySem.F.type_list_clear mt_clear (pe_var hN hv hd hcd) hbase hline) hsw) ?_
  obtain ⟨h1, h2, h3, xs, h4, h5⟩ := hsr.mt hm
  exact ⟨_, h1, .inl ⟨rfl, xs, .inl (.inl h4)⟩, o, xs, rfl, rfl, h4, k _ (hsr.chg hm .nil)⟩
end
end K51
set_option Elab.async false
set_option linter.all false
set_option maxRecDepth 100000
set_option maxHeartbeats 2000000
set_option exponentiation.threshold 20000
namespace K51
open PySem PySem.Spec PyProof.Rows L2
/-- what the mathematics gives -/
def MathOk : Prop := ∀ (G : Game) (t : Strat), GOk G → SOk .t G t → GaOk G t ∧ ∀ k, Stop G t k → ChancesOk G (fin G (gaIt G t k) t) (gaIt G t k) t ∧ UpperOk G (fin G (gaIt G t k) t) t
theorem ga_ne {K : PySem.W.Frag} {H : Hp} {xs : List V} {v : List Rat} {s : Strat} (h1 : DpAll K H xs (v.map encQ)) (h2 : DpAll K H xs (s.map encO)) (hv : 0 < v.length) : False := by
  cases v with
  | nil => simp at hv
  | cons q v =>
    cases s with
    | nil =>
      have e1 := dpa_len h1
      have e2 := dpa_len h2
      rw [e2] at e1
      simp at e1
    | cons o s =>
      cases h1 with
      | cons a1 t1 =>
        cases h2 with
        | cons a2 t2 =>
          obtain ⟨a, xs, rfl, _, _⟩ := dp_tup a1
          cases o with
          | none => have := dp_non a2; cases this
          | some b => have := dp_int a2; cases this
theorem leaf_qT {K : PySem.W.Frag} {M : Mem} {H : Hp} {o p1 p2 : Addr} (ho : H o = some (.tup [.ref p1, .ref p2])) : ∀ {v : V} {q : Rat}, Dp K (hid M H) v (encQ q) → Dp K (hid (o :: M) H) v (encQ q) := fun {v q} h => by
  obtain ⟨a, xs, rfl, s, d⟩ := dp_tup h
  have hxs : xs = [.int q.num, .int (q.den : Nat)] := by
    cases d with
    | cons d1 d2 =>
      cases d2 with
      | cons d2 d3 =>
        cases d3
        rw [dp_int d1, dp_int d2]
  subst hxs
  have keep : ∀ {x : HO}, hid M H a = some x → a ≠ o → hid (o :: M) H a = some x := fun {x} s e => by
    have hb := hid_le _ _ s
    rw [hid_out fun z => (List.mem_cons.mp z).elim e fun z => by rw [hid_in z] at s; cases s]; exact hb
  refine Dp.tup (xs := [.int q.num, .int (q.den : Nat)]) ?_ (.cons (.int _) (.cons (.int _) .nil))
  rcases s with (s | ⟨c, s⟩) | s
  · refine .inl (.inl (keep s fun e => ?_))
    have hb := hid_le _ _ s
    rw [e, ho] at hb; cases hb
  · refine .inl (.inr ⟨c, keep s fun e => ?_⟩)
    have hb := hid_le _ _ s
    rw [e, ho] at hb; cases hb
  · exact .inr s
theorem leaf_qsT {K : PySem.W.Frag} {M : Mem} {H : Hp} {o p1 p2 : Addr} (ho : H o = some (.tup [.ref p1, .ref p2])) : ∀ {qs : List Rat} {vs : List V}, DpAll K (hid M H) vs (qs.map encQ) → DpAll K (hid (o :: M) H) vs (qs.map encQ)
  | [], _, .nil => .nil
  | q :: qs, _, .cons h t => .cons (leaf_qT ho h) (leaf_qsT ho t)
section
variable {P : Program} {w : World} {K : PySem.W.Frag} {mg : Str → Option Value} {base : Heap}
theorem law_body (hM : MathOk) {f : Addr} {cdv : Value} {s : Shared} {H : Hp} {a : Addr} {ns : List Int} (hS : SqL K H a (ns.map V.int)) (hn : ns.length ≤ 1000)
    (hr : Room 10 (CxD P w K mg base n_law "law" s_law f cdv callerA [] s H E0).A) (hgd : (CxD P w K mg base n_law "law" s_law f cdv callerA [] s H E0).A.guards = some [])
    (fSt : Fnc P w K mg base 2 "_law_stream" (StreamSp K)) (fGm : Fnc P w K mg base 3 "_law_game" (PoolSp K C_game P_game)) (fSg : Fnc P w K mg base 2 "_law_strategy" (PoolSp K C_strat P_strat)) (fGa : Fnc P w K mg base 10 "greatest_against" (GaSp K))
    (fIs : Fnc P w K mg base 1 "_law_is_strategy" (PureSp K F_isst)) (fCh : Fnc P w K mg base 4 "_law_are_chances" (PureSp K F_arech)) (fUp : Fnc P w K mg base 4 "_law_upper" (PureSp K F_upper))
    (mre : mg "repr" = none) (mi : mg "isinstance" = none) (mt : mg "tuple" = none) (mn : mg "len" = none) (ml : mg "list" = none) :
    wpSs (CxD P w K mg base n_law "law" s_law f cdv callerA [] s H E0) (defBody s_law) { nx := fun _ _ => V.non = .bl true, rt := fun v _ => v = .bl true } (L2.start n_law [.ref a]) H := by
  have nd := sc_law.nd
  have hsr : SR K ⟨H, []⟩ [] (start0 n_law [.list (ns.map PyData.int)]) (L2.start n_law [.ref a]) H := sr_start (fun m hm => by cases hm) (.cons (.lst (by rw [hid_nil]; exact hS) (dpa_of_ints ns)) .nil)
  have hr4 : Room 4 (CxD P w K mg base n_law "law" s_law f cdv callerA [] s H E0).A := hr.mono (by decide)
  have hr3 : Room 3 (CxD P w K mg base n_law "law" s_law f cdv callerA [] s H E0).A := hr.mono (by decide)
  have hr2 : Room 2 (CxD P w K mg base n_law "law" s_law f cdv callerA [] s H E0).A := hr.mono (by decide)
  have hr1 : Room 1 (CxD P w K mg base n_law "law" s_law f cdv callerA [] s H E0).A := hr.mono (by decide)
  have hu := hr1.un
  -- the pool
  obtain ⟨ff, ffd, fps, a1, a2, a3, a4⟩ := fSt.ex
  refine ss_cons (s_of (ps_set (i := 1) nd rfl (Or.inl rfl) (pe_call a4 hr2 (by rfl) a1 a2 a3 .nil pass0 (pa_cons e_wp pa_nil)) rfl (.inl rfl)) ?_)
  refine Ev.run (ev_var 0 rfl) hsr fun v0 H0 s0 q0 => ?_
  refine ⟨[], ns, (hsr.mono s0).there, .cons q0 .nil, hn, fun o ps H1 hp s1 n1 e1 => ?_⟩
  have h1 := (hsr.mono s0).setMt (i := 1) (ds := pInts ps) s1 n1 e1 (dpa_of_ints ps)
  -- the game
  refine ss_cons (s_setP (R := fun ps => [.dat (.list (ns.map PyData.int)), .mt o (pInts ps), .unk, .unk, .unk, .unk, .unk, .unk]) 2 h1 hp (evp_call 1 o fGm hr3 (fun _ => rfl) (fun _ _ => rfl) (fun ps _ => eva_cons ev_int eva_nil) rfl) (fun sg2 H2 ps2 d2 hd2 hp2 h2 => ?_) nd)
  obtain ⟨G, rfl, hG⟩ := hd2
  -- their strategy
  refine ss_cons (s_setP (R := fun ps => [.dat (.list (ns.map PyData.int)), .mt o (pInts ps), .dat (encG G), .unk, .unk, .unk, .unk, .unk]) 3 h2 hp2 (evp_call 1 o fSg hr2 (fun _ => rfl) (fun _ _ => rfl) (fun ps _ => eva_cons (ev_var 2 rfl) (eva_cons ev_str eva_nil)) ⟨G, rfl, hG⟩) (fun sg3 H3 ps3 d3 hd3 hp3 h3 => ?_) nd)
  obtain ⟨t, rfl, hT⟩ := hd3 G rfl
  obtain ⟨hGa, hMk⟩ := hM G t hG hT
  have hshw := (shw_gs hG hT).mono (w' := 200000) (k' := 64) (Nat.le_refl _) (by decide)
  -- kept
  refine ss_cons (s_set 4 h3 (ev_repr hgd (by omega) (ev_tup (eva_cons (ev_var 2 rfl) (eva_cons (ev_var 3 rfl) eva_nil)) (by simp)) hshw (by decide) mre) (fun sg4 H4 _ h4 => ?_) nd)
  -- told
  obtain ⟨gf, gfd, gps, b1, b2, b3, b4⟩ := fGa.ex
  refine ss_cons (s_of (ps_set (i := 5) nd rfl (Or.inl rfl) (pe_call b4 hr (by rfl) b1 b2 b3 .nil pass0 (pa_cons e_wp (pa_cons e_wp pa_nil))) rfl (.inl rfl)) ?_)
  refine Ev.run (ev_var 2 rfl) h4 fun v5 H5 s5 q5 => ?_
  refine Ev.run (ev_var 3 rfl) (h4.mono s5) fun v6 H6 s6 q6 => ?_
  have h6 := (h4.mono s5).mono s6
  refine ⟨o :: [], G, t, h6.there, .cons (dp_mono (hid_mono s6) q5) (.cons q6 .nil), hGa, fun k c p1 p2 xs1 xs2 H7 hst s7 n1 n2 nc e1 e2 ec d1 d2 => ?_⟩
  obtain ⟨hCh, hUp⟩ := hMk k hst
  have hSk : SOk .o G (gaIt G t k) := gaIt_ok hG k
  generalize hvk : fin G (gaIt G t k) t = v at hCh hUp d1
  generalize hsk : gaIt G t k = so at hCh hUp d2 hSk hvk
  have hvl : v.length = G.length := hCh.num.len
  have ne12 : p1 ≠ p2 := fun z => by
    subst z
    rw [e1] at e2
    cases e2
    exact ga_ne d1 d2 (by rw [hvl]; exact hG.pos)
  have nec1 : c ≠ p1 := fun z => by rw [z, e1] at ec; cases ec
  have nec2 : c ≠ p2 := fun z => by rw [z, e2] at ec; cases ec
  have g1 := h6.lay (u := .lst xs2) n2
  have g2 := g1.lay (p := p1) (u := .lst xs1) (by rw [upd_ne ne12]; exact n1)
  have sm : Same (upd (upd H6 p2 (.lst xs2)) p1 (.lst xs1)) H7 := fun b x q => by
    by_cases hb1 : b = p1
    · subst hb1; rw [upd_same] at q; cases q; exact e1
    · rw [upd_ne hb1] at q
      by_cases hb2 : b = p2
      · subst hb2; rw [upd_same] at q; cases q; exact e2
      · rw [upd_ne hb2] at q; exact s7 b x q
  have h7 := g2.setO (i := 5) sm (by rw [upd_ne nec1, upd_ne nec2]; exact nc) ec
  have f1 : H p1 = none := h6.fresh n1
  have f2 : H p2 = none := h6.fresh n2
  have d1' : DpAll K (hid (c :: p1 :: p2 :: [o]) H7) xs1 (v.map encQ) := leaf_qsT ec d1
  have d2' : DpAll K (hid (c :: p1 :: p2 :: [o]) H7) xs2 (so.map encO) := leaf_os d2
  have h7' : SR K ⟨H, []⟩ (c :: p1 :: p2 :: [o]) [.unk, .unk, .dat (encG G), .dat (encS t), .dat (.str (PyData.shown (.tuple [encG G, encS t]))), .obj c (.tup [.ref p1, .ref p2]), .unk, .unk] _ H7 := h7.wk (by repeat (first | apply Wk.nil | apply Wk.same | apply Wk.drop))
  -- the first test
  refine ss_cons (s_if (z := false) h7' (EvT.cast (EvW.toT (evw_or (z1 := !true) (evt_not (evt_val (ev_isiO (tn := "tuple") 5 rfl mi mt (by decide +kernel)))) fun _ => evw_or (z1 := false) (EvT.cast (evt_cmp op_ne c_neI (ev_lenO 5 rfl mn) ev_int) rfl) fun _ => evw_or1 (evt_cmp op_ne c_neS (ev_repr hgd (by omega) (ev_tup (eva_cons (ev_var 2 rfl) (eva_cons (ev_var 3 rfl) eva_nil)) (by simp)) hshw (by decide) mre) (ev_var 4 rfl)))) (by rw [decide_eq_true rfl]; rfl)) (fun _ _ _ z => by cases z) fun H8 s8 h8 _ => ss_nil ?_)
  -- numbers, ours = told
  obtain ⟨o1, o2, o3, o4⟩ := h8.obj (i := 5) rfl
  refine ss_cons (s_of (ps_asg (pe_var (i := 5) rfl (Or.inl rfl)) g_wp (by rfl) (by rfl)) ?_)
  refine ⟨_, o1, ?_⟩
  refine g_of (pg_tup (n := 2) rfl (pgs_cons g_wp (pgs_cons g_wp pgs_nil (by rfl)) (by rfl)) (by rfl) (by rfl)) ?_
  refine ⟨c, [.ref p1, .ref p2], rfl, SqT.of o4, rfl, _, _, rfl, ?_⟩
  refine g_of (pg_name (i := 6) nd rfl (Or.inl rfl) (.inl rfl)) ?_
  refine ⟨_, _, rfl, ?_⟩
  refine g_of (pg_name (i := 7) nd rfl (Or.inl rfl) (.inl rfl)) ?_
  refine ⟨rfl, ?_⟩
  have m1 : p1 ∈ c :: p1 :: p2 :: [o] := List.mem_cons_of_mem _ List.mem_cons_self
  have m2 : p2 ∈ c :: p1 :: p2 :: [o] := List.mem_cons_of_mem _ (List.mem_cons_of_mem _ List.mem_cons_self)
  have h9 := h8.setIn (i := 6) (ds := v.map encQ) m1 f1 (s8 _ _ e1) (dpa_mono (hid_mono s8) d1') (fun j s' hj hs' => by
    match j, hs' with
    | 0, h => cases h; intro z; cases z
    | 1, h => cases h; intro z; cases z
    | 2, h => cases h; intro z; cases z
    | 3, h => cases h; intro z; cases z
    | 4, h => cases h; intro z; cases z
    | 5, h => cases h; intro z; cases z; exact nec1 rfl
    | 6, h => exact absurd rfl hj
    | 7, h => cases h; intro z; cases z
    | j + 8, h => cases h)
  have h10 := h9.setIn (i := 7) (ds := so.map encO) m2 f2 (s8 _ _ e2) (dpa_mono (hid_mono s8) d2') (fun j s' hj hs' => by
    match j, hs' with
    | 0, h => cases h; intro z; cases z
    | 1, h => cases h; intro z; cases z
    | 2, h => cases h; intro z; cases z
    | 3, h => cases h; intro z; cases z
    | 4, h => cases h; intro z; cases z
    | 5, h => cases h; intro z; cases z; exact nec2 rfl
    | 6, h => cases h; intro z; cases z; exact ne12 rfl
    | 7, h => exact absurd rfl hj
    | j + 8, h => cases h)
  clear h9
  -- the checks
  refine ss_cons (s_if (z := !true || !true) h10 (EvW.toT (evw_or (evt_not (evt_val (ev_callB fIs hr1 (evva_cons (ev_var 2 rfl).toV (evva_cons ev_str.toV (evva_cons (evV_mt 7 rfl) evva_nil))) ⟨G, .o, so, rfl, hG, hSk, rfl⟩))) fun _ => evw_or1 (evt_not (evt_val (ev_callB fCh hr4 (evva_cons (ev_var 2 rfl).toV (evva_cons (evV_mt 6 rfl) (evva_cons (evV_mt 7 rfl) (evva_cons (ev_var 3 rfl).toV evva_nil)))) ⟨G, v, so, t, rfl, hG, hSk, hT, hCh, rfl⟩))))) (fun _ _ _ z => by cases z) fun H11 _ h11 _ => ss_nil ?_)
  refine ss_cons (s_if (z := !true) h11 (evt_not (evt_val (ev_callB fUp hr4 (evva_cons (ev_var 2 rfl).toV (evva_cons (evV_mt 6 rfl) (evva_cons (ev_var 3 rfl).toV evva_nil))) ⟨G, v, t, rfl, hG, hT, hUp, rfl⟩))) (fun _ _ _ z => by cases z) fun H12 _ h12 _ => ss_nil ?_)
  -- kept = list(numbers); both cleared
  refine ss_cons (s_set 4 h12 (EvF.toE (evf_list (evL_var 6 rfl).toR ml)) (fun sg13 H13 _ h13 => ?_) nd)
  refine ss_cons (s_clear 6 h13 rfl (fun H14 h14 => ?_))
  refine ss_cons (s_clear 7 h14 rfl (fun H15 h15 => ?_))
  -- once more
  refine ss_one (s_of (ps_ret (pe_cmpR (op_eqD hr.units) (pe_ix ix_tup (pe_call b4 hr (by rfl) b1 b2 b3 .nil pass0 (pa_cons e_wp (pa_cons e_wp pa_nil))) pe_int (fun _ _ => rfl)) e_wp (nomark _ (by decide) (by decide)))) ?_)
  refine Ev.run (ev_var 2 rfl) h15 fun v16 H16 s16 q16 => ?_
  refine Ev.run (ev_var 3 rfl) (h15.mono s16) fun v17 H17 s17 q17 => ?_
  have h17 := (h15.mono s16).mono s17
  refine ⟨c :: p1 :: p2 :: [o], G, t, h17.there, .cons (dp_mono (hid_mono s17) q16) (.cons q17 .nil), hGa, fun k' c' p1' p2' xs1' xs2' H18 hst' s18 n1' n2' nc' e1' e2' ec' d1'' d2'' => ?_⟩
  have hkk := stop_uniq hst' hst
  rw [hkk, hsk, hvk] at d1''
  refine ⟨c', [.ref p1', .ref p2'], 0, .ref p1', rfl, rfl, SqT.of ec', at_of (j := 0) rfl rfl, ?_⟩
  refine Ev.run (ev_var 4 rfl) (h17.mono s18) fun v19 H19 s19 q19 => ?_
  refine ⟨encQs v, encQs v, .lst (.inl (.inl (s19 _ _ e1'))) (dpa_mono (hid_le.trans s19) d1''), dp_mono hid_le q19, shaped_qs v, shaped_qs v, ?_⟩
  rw [eqv_qs, decide_eq_true rfl]
end
end K51
set_option Elab.async false
set_option linter.all false
set_option maxRecDepth 100000
set_option maxHeartbeats 2000000
namespace K51
open PySem PySem.Spec PyProof.Rows L2
/-- a def of the text, as the written part holds it -/
structure KDef (K : PySem.W.Frag) (x : Str) (st : Stmt) : Prop where
  ex : ∃ f fd, PySem.W.nsIn K mainGlobals x = some (some (.ref f)) ∧ Fun K x x st f fd
theorem kdef_mk {K : PySem.W.Frag} {x : Str} {st : Stmt} {f : Addr} {oc : Value} {od an : Option Addr} {osl : Array (Option Value)} {kV doc pm cdv ct : Value} (a : PySem.W.nsIn K mainGlobals x = some (some (.ref f)))
    (l : K.lookup f = some ⟨oc, od, .func (PySem.W.fnOf x x (defArgs st) (defBody st) (defScope st) .none kV doc pm an cdv ct), osl⟩) (c : PySem.W.codeIn K cdv x = true) (k : PySem.W.keepIn K (.ref f) = true) : KDef K x st := ⟨f, _, a, fun_mk l c k⟩
/-- a pair of ints, as the written part holds it -/
structure KPair (K : PySem.W.Frag) (x : Str) (i j : Int) : Prop where
  ex : ∃ f, PySem.W.nsIn K mainGlobals x = some (some (.ref f)) ∧ ∀ H : Hp, SqT K H f [.int i, .int j]
theorem kpair_mk {K : PySem.W.Frag} {x : Str} {i j : Int} {f : Addr} {dd : Option Addr} {n t1 t2 : Nat} {sl : Array (Option Value)} (a : PySem.W.nsIn K mainGlobals x = some (some (.ref f)))
    (l : K.lookup f = some ⟨.type "tuple", dd, .seq #[.int i t1, .int j t2] n, sl⟩) : KPair K x i j := ⟨f, a, fun H => .inr ⟨_, _, _, l, rfl, rfl, by show 2 ≤ sizeLine; decide, .cons ⟨_, rfl⟩ (.cons ⟨_, rfl⟩ .nil)⟩⟩
section
variable {P : Program} {w : World} {K : PySem.W.Frag} {mg : Str → Option Value} {h : Heap}
theorem dfn_of {x : Str} {st : Stmt} {ps : List Str} (X : K.In h) (G : h.Ns mainGlobals mg) (d : KDef K x st)
    (hb : ∀ (kV doc pm : Value) (an : Option Addr) (cdv ct : Value) (us : List Value), us.length = ps.length → bindArgs (PySem.W.fnOf x x (defArgs st) (defBody st) (defScope st) .none kV doc pm an cdv ct) ⟨us, []⟩ = pure (ps.zip us)) : Dfn K mg x st ps := by
  obtain ⟨f, fd, h1, h2⟩ := d.ex
  exact ⟨f, fd, PySem.W.mg_of X G h1, h2, h2.binds hb⟩
/-- what stands in the written part -/
structure KAll (K : PySem.W.Frag) : Prop where
  d_number : KDef K "number" s_number
  d_compare : KDef K "compare" s_compare
  d_plus : KDef K "plus" s_plus
  d_minus : KDef K "minus" s_minus
  d_times : KDef K "times" s_times
  d_divided : KDef K "divided" s_divided
  d_targets : KDef K "targets" s_targets
  d_places_of : KDef K "places_of" s_places_of
  d_copy_of : KDef K "copy_of" s_copy_of
  d_with_strategy : KDef K "with_strategy" s_with_strategy
  d_reached : KDef K "reached" s_reached
  d_scaled : KDef K "scaled" s_scaled
  d_without : KDef K "without" s_without
  d_reduced : KDef K "reduced" s_reduced
  d_solution_of : KDef K "solution_of" s_solution_of
  d_only_solution : KDef K "only_solution" s_only_solution
  d_branches : KDef K "branches" s_branches
  d_all_reached : KDef K "all_reached" s_all_reached
  d_means : KDef K "means" s_means
  d_chances : KDef K "chances" s_chances
  d_first_choices : KDef K "first_choices" s_first_choices
  d_better : KDef K "better" s_better
  d_improved : KDef K "improved" s_improved
  d_finishing : KDef K "finishing" s_finishing
  d_greatest_against : KDef K "greatest_against" s_greatest_against
  d_law_pool : KDef K "_law_pool" s_law_pool
  d_law_stream : KDef K "_law_stream" s_law_stream
  d_law_pick : KDef K "_law_pick" s_law_pick
  d_law_lowest : KDef K "_law_lowest" s_law_lowest
  d_law_place : KDef K "_law_place" s_law_place
  d_law_game : KDef K "_law_game" s_law_game
  d_law_strategy : KDef K "_law_strategy" s_law_strategy
  d_law_is_strategy : KDef K "_law_is_strategy" s_law_is_strategy
  d_law_is_number : KDef K "_law_is_number" s_law_is_number
  d_law_is_numbers : KDef K "_law_is_numbers" s_law_is_numbers
  d_law_less : KDef K "_law_less" s_law_less
  d_law_are_numbers : KDef K "_law_are_numbers" s_law_are_numbers
  d_law_targets : KDef K "_law_targets" s_law_targets
  d_law_goals : KDef K "_law_goals" s_law_goals
  d_law_reaching : KDef K "_law_reaching" s_law_reaching
  d_law_add : KDef K "_law_add" s_law_add
  d_law_mul : KDef K "_law_mul" s_law_mul
  d_law_mean : KDef K "_law_mean" s_law_mean
  d_law_are_chances : KDef K "_law_are_chances" s_law_are_chances
  d_law_counted : KDef K "_law_counted" s_law_counted
  d_law_upper : KDef K "_law_upper" s_law_upper
  d_law : KDef K "law" s_law
  c_one : KPair K "ONE" 1 1
  c_nought : KPair K "NOUGHT" 0 1
  b_gcd : PySem.W.nsIn K mainGlobals "gcd" = some (some (.builtin "math.gcd"))
  z_int : PySem.W.nsIn K mainGlobals "int" = some none
  z_list : PySem.W.nsIn K mainGlobals "list" = some none
  z_enumerate : PySem.W.nsIn K mainGlobals "enumerate" = some none
  z_zip : PySem.W.nsIn K mainGlobals "zip" = some none
  z_range : PySem.W.nsIn K mainGlobals "range" = some none
  z_len : PySem.W.nsIn K mainGlobals "len" = some none
  z_any : PySem.W.nsIn K mainGlobals "any" = some none
  z_all : PySem.W.nsIn K mainGlobals "all" = some none
  z_sum : PySem.W.nsIn K mainGlobals "sum" = some none
  z_abs : PySem.W.nsIn K mainGlobals "abs" = some none
  z_min : PySem.W.nsIn K mainGlobals "min" = some none
  z_sorted : PySem.W.nsIn K mainGlobals "sorted" = some none
  z_isinstance : PySem.W.nsIn K mainGlobals "isinstance" = some none
  z_repr : PySem.W.nsIn K mainGlobals "repr" = some none
  z_tuple : PySem.W.nsIn K mainGlobals "tuple" = some none
  z_bool : PySem.W.nsIn K mainGlobals "bool" = some none
/-- what the law's body asks -/
structure KNeeds (P : Program) (w : World) (K : PySem.W.Frag) (mg : Str → Option Value) (base : Heap) : Prop where
  fSt : Fnc P w K mg base 2 "_law_stream" (StreamSp K)
  fGm : Fnc P w K mg base 3 "_law_game" (PoolSp K C_game P_game)
  fSg : Fnc P w K mg base 2 "_law_strategy" (PoolSp K C_strat P_strat)
  fGa : Fnc P w K mg base 10 "greatest_against" (GaSp K)
  fIs : Fnc P w K mg base 1 "_law_is_strategy" (PureSp K F_isst)
  fCh : Fnc P w K mg base 4 "_law_are_chances" (PureSp K F_arech)
  fUp : Fnc P w K mg base 4 "_law_upper" (PureSp K F_upper)
theorem needs_of {base : Heap} (X : K.In h) (G : h.Ns mainGlobals mg) (A : KAll K) : KNeeds P w K mg base := by
  obtain ⟨aO, o1, o2⟩ := A.c_one.ex
  obtain ⟨aZ, z1, z2⟩ := A.c_nought.ex
  have mO := PySem.W.mg_of X G o1
  have mZ := PySem.W.mg_of X G z1
  have dO : ∀ H : Hp, Dp K H (.ref aO) (encQ 1) := fun H => .tup (o2 H) (.cons (.int _) (.cons (.int _) .nil))
  have dZ : ∀ H : Hp, Dp K H (.ref aZ) (encQ 0) := fun H => .tup (z2 H) (.cons (.int _) (.cons (.int _) .nil))
  have m_gcd := PySem.W.mg_of X G A.b_gcd
  have m_int := PySem.W.mg_none_of X G A.z_int
  have m_list := PySem.W.mg_none_of X G A.z_list
  have m_enumerate := PySem.W.mg_none_of X G A.z_enumerate
  have m_zip := PySem.W.mg_none_of X G A.z_zip
  have m_range := PySem.W.mg_none_of X G A.z_range
  have m_len := PySem.W.mg_none_of X G A.z_len
  have m_any := PySem.W.mg_none_of X G A.z_any
  have m_all := PySem.W.mg_none_of X G A.z_all
  have m_sum := PySem.W.mg_none_of X G A.z_sum
  have m_abs := PySem.W.mg_none_of X G A.z_abs
  have m_min := PySem.W.mg_none_of X G A.z_min
  have m_sorted := PySem.W.mg_none_of X G A.z_sorted
  have m_isinstance := PySem.W.mg_none_of X G A.z_isinstance
  have m_repr := PySem.W.mg_none_of X G A.z_repr
  have m_tuple := PySem.W.mg_none_of X G A.z_tuple
  have m_bool := PySem.W.mg_none_of X G A.z_bool
  have D_number := dfn_of (ps := ["n", "d"]) X G A.d_number fun _ _ _ _ _ _ us hl => match us, hl with | [_, _], _ => rfl
  have D_compare := dfn_of (ps := ["a", "b"]) X G A.d_compare fun _ _ _ _ _ _ us hl => match us, hl with | [_, _], _ => rfl
  have D_plus := dfn_of (ps := ["a", "b"]) X G A.d_plus fun _ _ _ _ _ _ us hl => match us, hl with | [_, _], _ => rfl
  have D_minus := dfn_of (ps := ["a", "b"]) X G A.d_minus fun _ _ _ _ _ _ us hl => match us, hl with | [_, _], _ => rfl
  have D_times := dfn_of (ps := ["a", "b"]) X G A.d_times fun _ _ _ _ _ _ us hl => match us, hl with | [_, _], _ => rfl
  have D_divided := dfn_of (ps := ["a", "b"]) X G A.d_divided fun _ _ _ _ _ _ us hl => match us, hl with | [_, _], _ => rfl
  have D_targets := dfn_of (ps := ["game", "place"]) X G A.d_targets fun _ _ _ _ _ _ us hl => match us, hl with | [_, _], _ => rfl
  have D_places_of := dfn_of (ps := ["game", "kind"]) X G A.d_places_of fun _ _ _ _ _ _ us hl => match us, hl with | [_, _], _ => rfl
  have D_copy_of := dfn_of (ps := ["place"]) X G A.d_copy_of fun _ _ _ _ _ _ us hl => match us, hl with | [_], _ => rfl
  have D_with_strategy := dfn_of (ps := ["game", "side", "strategy"]) X G A.d_with_strategy fun _ _ _ _ _ _ us hl => match us, hl with | [_, _, _], _ => rfl
  have D_reached := dfn_of (ps := ["game", "place"]) X G A.d_reached fun _ _ _ _ _ _ us hl => match us, hl with | [_, _], _ => rfl
  have D_scaled := dfn_of (ps := ["line", "by"]) X G A.d_scaled fun _ _ _ _ _ _ us hl => match us, hl with | [_, _], _ => rfl
  have D_without := dfn_of (ps := ["line", "place", "other"]) X G A.d_without fun _ _ _ _ _ _ us hl => match us, hl with | [_, _, _], _ => rfl
  have D_reduced := dfn_of (ps := ["count", "rows"]) X G A.d_reduced fun _ _ _ _ _ _ us hl => match us, hl with | [_, _], _ => rfl
  have D_solution_of := dfn_of (ps := ["count", "solved"]) X G A.d_solution_of fun _ _ _ _ _ _ us hl => match us, hl with | [_, _], _ => rfl
  have D_only_solution := dfn_of (ps := ["count", "rows"]) X G A.d_only_solution fun _ _ _ _ _ _ us hl => match us, hl with | [_, _], _ => rfl
  have D_branches := dfn_of (ps := ["chain", "place"]) X G A.d_branches fun _ _ _ _ _ _ us hl => match us, hl with | [_, _], _ => rfl
  have D_all_reached := dfn_of (ps := ["chain"]) X G A.d_all_reached fun _ _ _ _ _ _ us hl => match us, hl with | [_], _ => rfl
  have D_means := dfn_of (ps := ["chain", "unknown", "gains", "known"]) X G A.d_means fun _ _ _ _ _ _ us hl => match us, hl with | [_, _, _, _], _ => rfl
  have D_chances := dfn_of (ps := ["chain", "goals"]) X G A.d_chances fun _ _ _ _ _ _ us hl => match us, hl with | [_, _], _ => rfl
  have D_first_choices := dfn_of (ps := ["game", "side"]) X G A.d_first_choices fun _ _ _ _ _ _ us hl => match us, hl with | [_, _], _ => rfl
  have D_better := dfn_of (ps := ["game", "side", "strategy", "numbers"]) X G A.d_better fun _ _ _ _ _ _ us hl => match us, hl with | [_, _, _, _], _ => rfl
  have D_improved := dfn_of (ps := ["game", "ours", "numbers"]) X G A.d_improved fun _ _ _ _ _ _ us hl => match us, hl with | [_, _, _], _ => rfl
  have D_finishing := dfn_of (ps := ["game", "ours", "theirs"]) X G A.d_finishing fun _ _ _ _ _ _ us hl => match us, hl with | [_, _, _], _ => rfl
  have D_greatest_against := dfn_of (ps := ["game", "theirs"]) X G A.d_greatest_against fun _ _ _ _ _ _ us hl => match us, hl with | [_, _], _ => rfl
  have D_law_pool := dfn_of (ps := ["_law_script"]) X G A.d_law_pool fun _ _ _ _ _ _ us hl => match us, hl with | [_], _ => rfl
  have D_law_stream := dfn_of (ps := ["_law_script"]) X G A.d_law_stream fun _ _ _ _ _ _ us hl => match us, hl with | [_], _ => rfl
  have D_law_pick := dfn_of (ps := ["_law_pool_here", "_law_many"]) X G A.d_law_pick fun _ _ _ _ _ _ us hl => match us, hl with | [_, _], _ => rfl
  have D_law_lowest := dfn_of (ps := ["_law_n", "_law_d"]) X G A.d_law_lowest fun _ _ _ _ _ _ us hl => match us, hl with | [_, _], _ => rfl
  have D_law_place := dfn_of (ps := ["_law_pool_here", "_law_many", "_law_kinds"]) X G A.d_law_place fun _ _ _ _ _ _ us hl => match us, hl with | [_, _, _], _ => rfl
  have D_law_game := dfn_of (ps := ["_law_pool_here", "_law_most"]) X G A.d_law_game fun _ _ _ _ _ _ us hl => match us, hl with | [_, _], _ => rfl
  have D_law_strategy := dfn_of (ps := ["_law_pool_here", "_law_game_here", "_law_side"]) X G A.d_law_strategy fun _ _ _ _ _ _ us hl => match us, hl with | [_, _, _], _ => rfl
  have D_law_is_strategy := dfn_of (ps := ["_law_game_here", "_law_side", "_law_strategy_here"]) X G A.d_law_is_strategy fun _ _ _ _ _ _ us hl => match us, hl with | [_, _, _], _ => rfl
  have D_law_is_number := dfn_of (ps := ["_law_value"]) X G A.d_law_is_number fun _ _ _ _ _ _ us hl => match us, hl with | [_], _ => rfl
  have D_law_is_numbers := dfn_of (ps := ["_law_numbers"]) X G A.d_law_is_numbers fun _ _ _ _ _ _ us hl => match us, hl with | [_], _ => rfl
  have D_law_less := dfn_of (ps := ["_law_a", "_law_b"]) X G A.d_law_less fun _ _ _ _ _ _ us hl => match us, hl with | [_, _], _ => rfl
  have D_law_are_numbers := dfn_of (ps := ["_law_game_here", "_law_numbers"]) X G A.d_law_are_numbers fun _ _ _ _ _ _ us hl => match us, hl with | [_, _], _ => rfl
  have D_law_targets := dfn_of (ps := ["_law_game_here", "_law_place_here"]) X G A.d_law_targets fun _ _ _ _ _ _ us hl => match us, hl with | [_, _], _ => rfl
  have D_law_goals := dfn_of (ps := ["_law_game_here", "_law_place_here", "_law_ours", "_law_theirs"]) X G A.d_law_goals fun _ _ _ _ _ _ us hl => match us, hl with | [_, _, _, _], _ => rfl
  have D_law_reaching := dfn_of (ps := ["_law_game_here", "_law_ours", "_law_theirs"]) X G A.d_law_reaching fun _ _ _ _ _ _ us hl => match us, hl with | [_, _, _], _ => rfl
  have D_law_add := dfn_of (ps := ["_law_a", "_law_b"]) X G A.d_law_add fun _ _ _ _ _ _ us hl => match us, hl with | [_, _], _ => rfl
  have D_law_mul := dfn_of (ps := ["_law_a", "_law_b"]) X G A.d_law_mul fun _ _ _ _ _ _ us hl => match us, hl with | [_, _], _ => rfl
  have D_law_mean := dfn_of (ps := ["_law_game_here", "_law_place_here", "_law_numbers"]) X G A.d_law_mean fun _ _ _ _ _ _ us hl => match us, hl with | [_, _, _], _ => rfl
  have D_law_are_chances := dfn_of (ps := ["_law_game_here", "_law_numbers", "_law_ours", "_law_theirs"]) X G A.d_law_are_chances fun _ _ _ _ _ _ us hl => match us, hl with | [_, _, _, _], _ => rfl
  have D_law_counted := dfn_of (ps := ["_law_game_here", "_law_place_here", "_law_side", "_law_strategy_here"]) X G A.d_law_counted fun _ _ _ _ _ _ us hl => match us, hl with | [_, _, _, _], _ => rfl
  have D_law_upper := dfn_of (ps := ["_law_game_here", "_law_numbers", "_law_theirs"]) X G A.d_law_upper fun _ _ _ _ _ _ us hl => match us, hl with | [_, _, _], _ => rfl
  have f_number := fn_number (P := P) (w := w) (base := base) D_number m_gcd
  have f_compare := fn_compare (P := P) (w := w) (base := base) D_compare m_int
  have f_plus := fn_plus (P := P) (w := w) (base := base) D_plus f_number
  have f_minus := fn_minus (P := P) (w := w) (base := base) D_minus f_number
  have f_times := fn_times (P := P) (w := w) (base := base) D_times f_number
  have f_divided := fn_divided (P := P) (w := w) (base := base) D_divided f_number
  have f_targets := fn_targets (P := P) (w := w) (base := base) D_targets m_list
  have f_places_of := fn_places_of (P := P) (w := w) (base := base) D_places_of m_enumerate
  have f_copy_of := fn_copy_of (P := P) (w := w) (base := base) D_copy_of m_list
  have f_with_strategy := fn_with_strategy (P := P) (w := w) (base := base) D_with_strategy f_copy_of m_enumerate mO dO
  have f_reached := fn_reached (P := P) (w := w) (base := base) D_reached f_targets m_sorted
  have f_scaled := fn_scaled (P := P) (w := w) (base := base) D_scaled f_times
  have f_without := fn_without (P := P) (w := w) (base := base) D_without f_minus f_scaled m_zip mZ dZ
  have f_reduced := fn_reduced (P := P) (w := w) (base := base) D_reduced f_scaled f_without f_divided m_list m_enumerate m_range m_len mZ dZ mO dO
  have f_solution_of := fn_solution_of (P := P) (w := w) (base := base) D_solution_of m_range mZ dZ
  have f_only_solution := fn_only_solution (P := P) (w := w) (base := base) D_only_solution f_reduced f_solution_of m_len m_any mZ dZ
  have f_branches := fn_branches (P := P) (w := w) (base := base) D_branches m_list mO dO
  have f_all_reached := fn_all_reached (P := P) (w := w) (base := base) D_all_reached f_reached m_range m_len
  have f_means := fn_means (P := P) (w := w) (base := base) D_means f_branches f_minus f_plus f_times f_only_solution m_len mZ dZ mO dO
  have f_chances := fn_chances (P := P) (w := w) (base := base) D_chances f_all_reached f_means m_len m_range m_any m_zip mZ dZ mO dO
  have f_first_choices := fn_first_choices (P := P) (w := w) (base := base) D_first_choices 
  have f_better := fn_better (P := P) (w := w) (base := base) D_better f_targets f_places_of f_compare m_list m_enumerate
  have f_improved := fn_improved (P := P) (w := w) (base := base) D_improved f_better
  have f_finishing := fn_finishing (P := P) (w := w) (base := base) D_finishing f_with_strategy f_places_of f_chances
  have f_greatest_against := fn_greatest (P := P) (w := w) (base := base) D_greatest_against f_finishing f_improved f_first_choices
  have f_law_pool := fn_law_pool (P := P) (w := w) (base := base) D_law_pool m_range m_len m_min m_int
  have f_law_stream := fn_law_stream (P := P) (w := w) (base := base) D_law_stream f_law_pool
  have f_law_pick := fn_law_pick (P := P) (w := w) (base := base) D_law_pick m_len m_int
  have f_law_lowest := fn_law_lowest (P := P) (w := w) (base := base) D_law_lowest m_range m_abs m_int
  have f_law_place := fn_law_place (P := P) (w := w) (base := base) D_law_place f_law_pick f_law_lowest m_len m_range m_sum
  have f_law_game := fn_law_game (P := P) (w := w) (base := base) D_law_game f_law_pick f_law_place m_len m_range
  have f_law_strategy := fn_law_strategy (P := P) (w := w) (base := base) D_law_strategy f_law_pick m_len
  have f_law_is_strategy := fn_law_is_strategy (P := P) (w := w) (base := base) D_law_is_strategy m_isinstance m_list m_int m_bool m_len m_range
  have f_law_is_number := fn_law_is_number (P := P) (w := w) (base := base) D_law_is_number m_isinstance m_tuple m_int m_bool m_len
  have f_law_is_numbers := fn_law_is_numbers (P := P) (w := w) (base := base) D_law_is_numbers f_law_is_number m_isinstance m_list m_all
  have f_law_less := fn_law_less (P := P) (w := w) (base := base) D_law_less 
  have f_law_are_numbers := fn_law_are_numbers (P := P) (w := w) (base := base) D_law_are_numbers f_law_is_numbers f_law_less m_len m_range
  have f_law_targets := fn_law_targets (P := P) (w := w) (base := base) D_law_targets m_list
  have f_law_goals := fn_law_goals (P := P) (w := w) (base := base) D_law_goals f_law_targets
  have f_law_counted := fn_law_counted (P := P) (w := w) (base := base) D_law_counted f_law_targets
  have f_law_add := fn_law_add (P := P) (w := w) (base := base) D_law_add f_law_lowest
  have f_law_mul := fn_law_mul (P := P) (w := w) (base := base) D_law_mul f_law_lowest
  have f_law_mean := fn_law_mean (P := P) (w := w) (base := base) D_law_mean f_law_add f_law_mul
  have f_law_reaching := fn_law_reaching (P := P) (w := w) (base := base) D_law_reaching f_law_goals m_len m_range m_any
  have f_law_are_chances := fn_law_are_chances (P := P) (w := w) (base := base) D_law_are_chances f_law_are_numbers f_law_reaching f_law_mean f_law_goals m_len m_range
  have f_law_upper := fn_law_upper (P := P) (w := w) (base := base) D_law_upper f_law_are_numbers f_law_is_strategy f_law_counted f_law_mean f_law_less m_len m_range m_any
  exact ⟨f_law_stream, f_law_game, f_law_strategy, f_greatest_against, f_law_is_strategy, f_law_are_chances, f_law_upper⟩
/-- the law's own call, at the heap behind the top -/
theorem law_end (hM : MathOk) {mb : Str → Option Value} {fa a : Addr} {s₁ : Shared} {vs : List Value} {ns : List Int} (KX : K.In s₁.heap) (hns : s₁.heap.Ns mainGlobals mg) (hb : s₁.heap.Ns builtinsNs mb) (hbb : ∀ x : Str, x ≠ "__name__" → mb x = bootBuiltins x) (hlim : s₁.heap.NoLimit) (hg : s₁.gens = #[])
    (hmg : mg "law" = some (.ref fa)) (ha : s₁.heap.get? a = some { cls := .type "list", data := .seq vs.toArray }) (hi : IntsAre vs ns) (hl : ns.length ≤ 63) (A : KAll K) :
    codeAny (model P w) callerA (.call (.ref fa) ⟨[.ref a], []⟩) (fun r s' => r = .ok (.ret (.bool true)) ∧ OldK s₁.heap s'.heap ∧ s'.os = s₁.os ∧ AllBare s'.gens) s₁ := by
  refine headG KX hns hb hbb hlim hg ha hi (Nat.le_trans hl (by decide)) fun base H e0 hO hS => ?_
  obtain ⟨f, fd, d1, d2⟩ := A.d_law.ex
  have e := (PySem.W.mg_of KX hns d1).symm.trans hmg
  cases e
  obtain ⟨oc, od, kV, doc, pm, an, cdv, ct, osl, rfl, lk, hcd⟩ := d2.ex
  have N : KNeeds P w K mg base := needs_of KX hns A
  have hr : Room 11 callerA := ⟨rfl, by decide, by decide⟩
  refine enterG (N := n_law) (v := V.ref a) lk hcd sc_law hr e0 (.of_eq rfl) rfl fun hr10 => ?_
  exact law_body hM hS (by omega) hr10 rfl N.fSt N.fGm N.fSg N.fGa N.fIs N.fCh N.fUp (PySem.W.mg_none_of KX hns A.z_repr) (PySem.W.mg_none_of KX hns A.z_isinstance) (PySem.W.mg_none_of KX hns A.z_tuple) (PySem.W.mg_none_of KX hns A.z_len) (PySem.W.mg_none_of KX hns A.z_list)
end
end K51
set_option Elab.async false
set_option linter.all false
/-! sums, and a bound for the parts of a solution: plain Lean -/
namespace K51
def sm : Nat → (Nat → Rat) → Rat
  | 0, _ => 0
  | n + 1, f => sm n f + f n
theorem sm_congr {n : Nat} {f g : Nat → Rat} (h : ∀ t, t < n → f t = g t) : sm n f = sm n g := by
  induction n with
  | zero => rfl
  | succ n ih => show sm n f + f n = sm n g + g n; rw [ih fun t ht => h t (by omega), h n (by omega)]
theorem sm_zero {n : Nat} {f : Nat → Rat} (h : ∀ t, t < n → f t = 0) : sm n f = 0 := by
  induction n with
  | zero => rfl
  | succ n ih => show sm n f + f n = 0; rw [ih fun t ht => h t (by omega), h n (by omega), Rat.add_zero]
theorem sm_add {n : Nat} {f g : Nat → Rat} : sm n (fun t => f t + g t) = sm n f + sm n g := by
  induction n with
  | zero => exact (Rat.add_zero 0).symm
  | succ n ih => show sm n (fun t => f t + g t) + (f n + g n) = (sm n f + f n) + (sm n g + g n); rw [ih]; grind
theorem sm_mul {n : Nat} {q : Rat} {f : Nat → Rat} : sm n (fun t => q * f t) = q * sm n f := by
  induction n with
  | zero => exact (Rat.mul_zero q).symm
  | succ n ih => show sm n (fun t => q * f t) + q * f n = q * (sm n f + f n); rw [ih]; grind
theorem sm_sub {n : Nat} {f g : Nat → Rat} : sm n (fun t => f t - g t) = sm n f - sm n g := by
  induction n with
  | zero => show (0 : Rat) = 0 - 0; grind
  | succ n ih => show sm n (fun t => f t - g t) + (f n - g n) = (sm n f + f n) - (sm n g + g n); rw [ih]; grind
theorem sm_le {n : Nat} {f g : Nat → Rat} (h : ∀ t, t < n → f t ≤ g t) : sm n f ≤ sm n g := by
  induction n with
  | zero => exact Rat.le_refl
  | succ n ih =>
    have h1 := ih fun t ht => h t (by omega)
    have h2 := h n (by omega)
    show sm n f + f n ≤ sm n g + g n
    grind
/-- one summand apart -/
theorem sm_one {n t0 : Nat} {f : Nat → Rat} (ht : t0 < n) : sm n f = f t0 + sm n (fun t => if t = t0 then 0 else f t) := by
  induction n with
  | zero => omega
  | succ n ih =>
    show sm n f + f n = f t0 + (sm n (fun t => if t = t0 then 0 else f t) + if n = t0 then 0 else f n)
    by_cases e : n = t0
    · subst e
      rw [if_pos rfl, sm_congr (g := f) fun t ht => if_neg (by omega)]
      grind
    · rw [if_neg e, ih (by omega)]
      grind
/-- integer sums -/
def ism : Nat → (Nat → Int) → Int
  | 0, _ => 0
  | n + 1, f => ism n f + f n
theorem ism_cast {n : Nat} {f : Nat → Int} : ((ism n f : Int) : Rat) = sm n (fun t => (f t : Rat)) := by
  induction n with
  | zero => rfl
  | succ n ih => show ((ism n f + f n : Int) : Rat) = sm n (fun t => (f t : Rat)) + f n; rw [Rat.intCast_add, ih]
def nsm : Nat → (Nat → Nat) → Nat
  | 0, _ => 0
  | n + 1, f => nsm n f + f n
theorem nsm_le {n : Nat} {f g : Nat → Nat} (h : ∀ t, t < n → f t ≤ g t) : nsm n f ≤ nsm n g := by
  induction n with
  | zero => exact Nat.le_refl _
  | succ n ih => show nsm n f + f n ≤ nsm n g + g n; have := ih fun t ht => h t (by omega); have := h n (by omega); omega
theorem nsm_const {n k : Nat} : nsm n (fun _ => k) = n * k := by
  induction n with
  | zero => simp [nsm]
  | succ n ih => show nsm n (fun _ => k) + k = _; rw [ih, Nat.succ_mul]
/-- digits -/
def code (B : Nat) : Nat → (Nat → Nat) → Nat
  | 0, _ => 0
  | m + 1, a => code B m a + a m * B ^ m
theorem code_lt {B m : Nat} {a : Nat → Nat} (h : ∀ i, i < m → a i < B) : code B m a < B ^ m := by
  induction m with
  | zero => exact Nat.one_pos
  | succ m ih =>
    show code B m a + a m * B ^ m < B ^ (m + 1)
    have h1 := ih fun i hi => h i (by omega)
    have h2 := h m (by omega)
    have h3 : (a m + 1) * B ^ m ≤ B * B ^ m := Nat.mul_le_mul_right _ h2
    rw [Nat.pow_succ, Nat.mul_comm (B ^ m) B]
    rw [Nat.succ_mul] at h3
    omega
theorem code_inj {B m : Nat} {a b : Nat → Nat} (ha : ∀ i, i < m → a i < B) (hb : ∀ i, i < m → b i < B) (e : code B m a = code B m b) : ∀ i, i < m → a i = b i := by
  induction m with
  | zero => intro i hi; omega
  | succ m ih =>
    have e : code B m a + a m * B ^ m = code B m b + b m * B ^ m := e
    have h1 := code_lt (m := m) fun i hi => ha i (by omega)
    have h2 := code_lt (m := m) fun i hi => hb i (by omega)
    have hp : 0 < B ^ m := by omega
    have d1 : (code B m a + a m * B ^ m) / B ^ m = a m := by
      rw [Nat.add_mul_div_right _ _ hp, Nat.div_eq_of_lt h1, Nat.zero_add]
    have d2 : (code B m b + b m * B ^ m) / B ^ m = b m := by
      rw [Nat.add_mul_div_right _ _ hp, Nat.div_eq_of_lt h2, Nat.zero_add]
    have em : a m = b m := by rw [← d1, ← d2, e]
    rw [em] at e
    intro i hi
    by_cases him : i = m
    · rw [him]; exact em
    · exact ih (fun i hi => ha i (by omega)) (fun i hi => hb i (by omega)) (by omega) i (by omega)
/-- two of more values than there is room for are equal -/
theorem pigeon {Q : Nat} (f : Nat → Nat) (h : ∀ s, s ≤ Q → f s < Q) : ∃ s t, s < t ∧ t ≤ Q ∧ f s = f t := by
  refine Classical.byContradiction fun hn => ?_
  have nd : ((List.range (Q + 1)).map f).Nodup := by
    rw [List.Nodup, List.pairwise_map]
    refine List.Pairwise.imp_of_mem ?_ (List.pairwise_lt_range (n := Q + 1))
    intro a b ha hb hab e
    have := List.mem_range.mp hb
    exact hn ⟨a, b, hab, by omega, e⟩
  have hl := nd.length_le_of_subset (l₂ := List.range Q) fun x hx => by
    obtain ⟨s, hs, rfl⟩ := List.mem_map.mp hx
    have := List.mem_range.mp hs
    exact List.mem_range.mpr (h s (by omega))
  simp at hl
  omega
theorem abs_frac {c : Int} {q : Rat} (h0 : 0 ≤ q) (h1 : q ≤ 1) : -((c.natAbs : Nat) : Rat) ≤ (c : Rat) * q ∧ (c : Rat) * q ≤ ((c.natAbs : Nat) : Rat) := by
  rcases Int.natAbs_eq c with e | e
  · rw [e]
    have hn : (0 : Rat) ≤ ((c.natAbs : Nat) : Rat) := by
      have := Rat.intCast_le_intCast.mpr (show (0 : Int) ≤ ((c.natAbs : Nat) : Int) by omega)
      rw [Rat.intCast_natCast] at this
      exact this
    rw [Int.natAbs_natCast, Rat.intCast_natCast]
    generalize ((c.natAbs : Nat) : Rat) = n at hn
    have h2 := Rat.mul_nonneg hn h0
    have h3 := Rat.mul_le_mul_of_nonneg_left h1 hn
    grind
  · rw [e]
    have hn : (0 : Rat) ≤ ((c.natAbs : Nat) : Rat) := by
      have := Rat.intCast_le_intCast.mpr (show (0 : Int) ≤ ((c.natAbs : Nat) : Int) by omega)
      rw [Rat.intCast_natCast] at this
      exact this
    rw [Int.natAbs_neg, Int.natAbs_natCast, Rat.intCast_neg, Rat.intCast_natCast]
    generalize ((c.natAbs : Nat) : Rat) = n at hn
    have h2 := Rat.mul_nonneg hn h0
    have h3 := Rat.mul_le_mul_of_nonneg_left h1 hn
    grind
theorem sm_frac {N : Nat} {c : Nat → Int} {q : Nat → Rat} (h0 : ∀ t, t < N → 0 ≤ q t) (h1 : ∀ t, t < N → q t ≤ 1) : -((nsm N (fun t => (c t).natAbs) : Nat) : Rat) ≤ sm N (fun t => (c t : Rat) * q t) ∧ sm N (fun t => (c t : Rat) * q t) ≤ ((nsm N (fun t => (c t).natAbs) : Nat) : Rat) := by
  induction N with
  | zero => exact ⟨by simp [nsm, sm], by simp [nsm, sm]⟩
  | succ N ih =>
    obtain ⟨i1, i2⟩ := ih (fun t ht => h0 t (by omega)) (fun t ht => h1 t (by omega))
    obtain ⟨j1, j2⟩ := abs_frac (c := c N) (h0 N (by omega)) (h1 N (by omega))
    show -((nsm N (fun t => (c t).natAbs) + (c N).natAbs : Nat) : Rat) ≤ sm N (fun t => (c t : Rat) * q t) + c N * q N ∧ sm N (fun t => (c t : Rat) * q t) + c N * q N ≤ ((nsm N (fun t => (c t).natAbs) + (c N).natAbs : Nat) : Rat)
    rw [Rat.natCast_add]
    grind
/-- an integer system that x solves and that is injective where x is: one small multiple of x is integer -/
theorem ph {m N R : Nat} {c : Nat → Nat → Int} {x : Nat → Rat} (hR : ∀ i, i < m → nsm N (fun t => (c i t).natAbs) ≤ R) (hint : ∀ i, i < m → ∃ z : Int, sm N (fun t => (c i t : Rat) * x t) = (z : Rat))
    (hinj : ∀ u : Nat → Rat, (∀ t, t < N → x t = 0 → u t = 0) → (∀ i, i < m → sm N (fun t => (c i t : Rat) * u t) = 0) → ∀ t, t < N → u t = 0) :
    ∃ q : Nat, 0 < q ∧ q ≤ (2 * R + 1) ^ m ∧ ∀ t, t < N → ∃ z : Int, (q : Rat) * x t = (z : Rat) := by
  have fr0 : ∀ (s : Nat) (t : Nat), 0 ≤ (s : Rat) * x t - (((s : Rat) * x t).floor : Rat) := fun s t => by have := Rat.floor_le ((s : Rat) * x t); grind
  have fr1 : ∀ (s : Nat) (t : Nat), (s : Rat) * x t - (((s : Rat) * x t).floor : Rat) ≤ 1 := fun s t => by
    have := Rat.lt_floor_add_one ((s : Rat) * x t)
    rw [Rat.intCast_add] at this
    have h1 : ((1 : Int) : Rat) = 1 := rfl
    rw [h1] at this
    grind
  -- the image of the fractional parts is integer
  have himg : ∀ i, i < m → ∀ s : Nat, ∃ e : Int, sm N (fun t => (c i t : Rat) * ((s : Rat) * x t - (((s : Rat) * x t).floor : Rat))) = (e : Rat) := fun i hi s => by
    obtain ⟨z, hz⟩ := hint i hi
    refine ⟨(s : Int) * z - ism N (fun t => c i t * ((s : Rat) * x t).floor), ?_⟩
    rw [Rat.intCast_sub, Rat.intCast_mul, ism_cast, ← hz, Rat.intCast_natCast, ← sm_mul, ← sm_sub]
    refine sm_congr fun t _ => ?_
    rw [Rat.intCast_mul]
    grind
  have hE : ∃ E : Nat → Nat → Int, ∀ i, i < m → ∀ s : Nat, sm N (fun t => (c i t : Rat) * ((s : Rat) * x t - (((s : Rat) * x t).floor : Rat))) = (E i s : Rat) := by
    refine ⟨fun i s => (sm N (fun t => (c i t : Rat) * ((s : Rat) * x t - (((s : Rat) * x t).floor : Rat)))).floor, fun i hi s => ?_⟩
    obtain ⟨e, he⟩ := himg i hi s
    show _ = (((sm N (fun t => (c i t : Rat) * ((s : Rat) * x t - (((s : Rat) * x t).floor : Rat)))).floor : Int) : Rat)
    rw [he, Rat.floor_intCast]
  obtain ⟨E, hE⟩ := hE
  have hb : ∀ i, i < m → ∀ s : Nat, -(R : Int) ≤ E i s ∧ E i s ≤ R := fun i hi s => by
    obtain ⟨l1, l2⟩ := sm_frac (c := c i) (q := fun t => (s : Rat) * x t - (((s : Rat) * x t).floor : Rat)) (N := N) (fun t _ => fr0 s t) (fun t _ => fr1 s t)
    rw [hE i hi s] at l1 l2
    have hr := hR i hi
    generalize nsm N (fun t => (c i t).natAbs) = r at l1 l2 hr
    rw [← Rat.intCast_natCast, ← Rat.intCast_neg] at l1
    rw [← Rat.intCast_natCast] at l2
    have l1 := Rat.intCast_le_intCast.mp l1
    have l2 := Rat.intCast_le_intCast.mp l2
    omega
  obtain ⟨s, t, hst, htQ, hcode⟩ := pigeon (Q := (2 * R + 1) ^ m) (fun s => code (2 * R + 1) m fun i => (E i s + R).toNat) fun s _ => code_lt fun i hi => by
    have := hb i hi s
    omega
  have hEE := code_inj (fun i hi => by have := hb i hi s; omega) (fun i hi => by have := hb i hi t; omega) hcode
  have hEq : ∀ i, i < m → E i s = E i t := fun i hi => by
    have h1 := hEE i hi
    have h2 := hb i hi s
    have h3 := hb i hi t
    omega
  have hz := hinj (fun j => ((t : Rat) * x j - (((t : Rat) * x j).floor : Rat)) - ((s : Rat) * x j - (((s : Rat) * x j).floor : Rat))) (fun j _ hj => by
    rw [hj, Rat.mul_zero, Rat.mul_zero]
    grind) fun i hi => by
      have e : sm N (fun j => (c i j : Rat) * (((t : Rat) * x j - (((t : Rat) * x j).floor : Rat)) - ((s : Rat) * x j - (((s : Rat) * x j).floor : Rat)))) = (E i t : Rat) - (E i s : Rat) := by
        rw [← hE i hi t, ← hE i hi s, ← sm_sub]
        exact sm_congr fun j _ => by grind
      rw [e, hEq i hi]
      grind
  refine ⟨t - s, by omega, by omega, fun j hj => ⟨((t : Rat) * x j).floor - ((s : Rat) * x j).floor, ?_⟩⟩
  have h1 := hz j hj
  have h2 : ((t - s : Nat) : Rat) = (t : Rat) - (s : Rat) := by
    have : ((t - s : Nat) : Int) = (t : Int) - (s : Int) := by omega
    rw [← Rat.intCast_natCast, this, Rat.intCast_sub, Rat.intCast_natCast, Rat.intCast_natCast]
  rw [h2, Rat.intCast_sub]
  grind
end K51
set_option Elab.async false
set_option linter.all false
set_option maxHeartbeats 1000000
/-! numerator and denominator of a solution: plain Lean -/
namespace K51
theorem den_le {q : Nat} {z : Int} {x : Rat} (hq : 0 < q) (h : (q : Rat) * x = (z : Rat)) : x.den ≤ q := by
  have h0 : (q : Rat) ≠ 0 := fun e => by
    have h1 : ((q : Int) : Rat) = ((0 : Int) : Rat) := by rw [Rat.intCast_natCast]; exact e
    have := Rat.intCast_inj.mp h1
    omega
  have e : x = mkRat z q := by
    rw [← Rat.divInt_ofNat]
    have h3 : Rat.divInt z (q : Int) = (z : Rat) / ((q : Int) : Rat) := Rat.divInt_eq_div z q
    rw [h3, Rat.intCast_natCast, ← h]
    grind
  rw [e, Rat.den_mkRat, if_neg (by omega)]
  exact Nat.div_le_self _ _
theorem nsm_repl {N t0 : Nat} {f : Nat → Nat} {r : Nat} : nsm N (fun t => if t = t0 then r else f t) ≤ nsm N f + r := by
  have aux : nsm N (fun t => if t = t0 then r else f t) ≤ nsm N f + (if t0 < N then r else 0) := by
    induction N with
    | zero => simp [nsm]
    | succ N ih =>
      show nsm N (fun t => if t = t0 then r else f t) + (if N = t0 then r else f N) ≤ nsm N f + f N + _
      by_cases e : N = t0
      · subst e
        rw [if_neg (Nat.lt_irrefl _)] at ih
        rw [if_pos rfl, if_pos (Nat.lt_succ_self _)]
        omega
      · rw [if_neg e]
        by_cases h : t0 < N
        · rw [if_pos h] at ih
          rw [if_pos (show t0 < N + 1 by omega)]
          omega
        · rw [if_neg h] at ih
          rw [if_neg (show ¬ t0 < N + 1 by omega)]
          omega
  split at aux <;> omega
theorem part_sz {m N R K : Nat} {c : Nat → Nat → Int} {r : Nat → Int} {x : Nat → Rat} (hR : ∀ i, i < m → nsm N (fun t => (c i t).natAbs) + (r i).natAbs ≤ R) (hsol : ∀ i, i < m → sm N (fun t => (c i t : Rat) * x t) = (r i : Rat))
    (hinj : ∀ u : Nat → Rat, (∀ t, t < N → x t = 0 → u t = 0) → (∀ i, i < m → sm N (fun t => (c i t : Rat) * u t) = 0) → ∀ t, t < N → u t = 0) (hK : (2 * R + 1) ^ m < 2 ^ K) (hK0 : 0 < K) : ∀ t, t < N → Sz K (x t) := by
  obtain ⟨q, hq, hq2, hqx⟩ := ph (fun i hi => Nat.le_trans (Nat.le_add_right _ _) (hR i hi)) (fun i hi => ⟨r i, hsol i hi⟩) hinj
  intro t0 ht0
  obtain ⟨z, hz⟩ := hqx t0 ht0
  have hden : (x t0).den < 2 ^ K := Nat.lt_of_le_of_lt (den_le hq hz) (Nat.lt_of_le_of_lt hq2 hK)
  by_cases hx0 : x t0 = 0
  · rw [hx0]; exact Sz.zero hK0
  · refine ⟨?_, hden⟩
    have hsp : ∀ f : Nat → Rat, ∀ i, sm N (fun t => (((if t = t0 then r i else c i t : Int)) : Rat) * f t) = (r i : Rat) * f t0 + sm N (fun t => if t = t0 then 0 else (c i t : Rat) * f t) := fun f i => by
      rw [sm_one ht0, if_pos rfl]
      congr 1
      refine sm_congr fun t _ => ?_
      by_cases e : t = t0
      · rw [if_pos e, if_pos e]
      · rw [if_neg e, if_neg e, if_neg e]
    have hso : ∀ i, i < m → (r i : Rat) = (c i t0 : Rat) * x t0 + sm N (fun t => if t = t0 then 0 else (c i t : Rat) * x t) := fun i hi => by rw [← hsol i hi, sm_one ht0]
    obtain ⟨q', hq', hq2', hqx'⟩ := ph (m := m) (N := N) (R := R) (c := fun i t => if t = t0 then r i else c i t) (x := fun t => if t = t0 then 1 / x t0 else -(x t / x t0))
      (fun i hi => by
        refine Nat.le_trans ?_ (hR i hi)
        refine Nat.le_trans (nsm_le (g := fun t => if t = t0 then (r i).natAbs else (c i t).natAbs) fun t _ => ?_) nsm_repl
        by_cases e : t = t0
        · rw [if_pos e, if_pos e]; exact Nat.le_refl _
        · rw [if_neg e, if_neg e]; exact Nat.le_refl _)
      (fun i hi => ⟨c i t0, by
        rw [hsp, if_pos rfl, hso i hi]
        have e : sm N (fun t => if t = t0 then 0 else (c i t : Rat) * (if t = t0 then 1 / x t0 else -(x t / x t0))) = (-(1 / x t0)) * sm N (fun t => if t = t0 then 0 else (c i t : Rat) * x t) := by
          rw [← sm_mul]
          refine sm_congr fun t _ => ?_
          by_cases e : t = t0
          · rw [if_pos e, if_pos e, Rat.mul_zero]
          · rw [if_neg e, if_neg e, if_neg e]; grind
        rw [e]
        generalize sm N (fun t => if t = t0 then 0 else (c i t : Rat) * x t) = S
        grind⟩)
      (fun u hu hs => by
        have hw := hinj (fun t => if t = t0 then x t0 * u t0 else u t + x t * u t0) (fun t ht hxt => by
          have hne : t ≠ t0 := fun e => hx0 (by rw [← e]; exact hxt)
          have h1 := hu t ht (by rw [if_neg hne, hxt]; grind)
          show (if t = t0 then x t0 * u t0 else u t + x t * u t0) = 0
          rw [if_neg hne, h1, hxt]; grind) (fun i hi => by
          have h1 := hs i hi
          rw [hsp, hso i hi] at h1
          rw [sm_one ht0, if_pos rfl]
          have e : sm N (fun t => if t = t0 then 0 else (c i t : Rat) * (if t = t0 then x t0 * u t0 else u t + x t * u t0)) = sm N (fun t => if t = t0 then 0 else (c i t : Rat) * u t) + u t0 * sm N (fun t => if t = t0 then 0 else (c i t : Rat) * x t) := by
            rw [← sm_mul, ← sm_add]
            refine sm_congr fun t _ => ?_
            by_cases e : t = t0
            · rw [if_pos e, if_pos e, if_pos e]; grind
            · rw [if_neg e, if_neg e, if_neg e, if_neg e]; grind
          rw [e]
          generalize sm N (fun t => if t = t0 then 0 else (c i t : Rat) * u t) = S1 at h1
          generalize sm N (fun t => if t = t0 then 0 else (c i t : Rat) * x t) = S2 at h1
          grind)
        have h0 : u t0 = 0 := by
          have := hw t0 ht0
          rw [if_pos rfl] at this
          grind
        intro t ht
        by_cases e : t = t0
        · rw [e]; exact h0
        · have := hw t ht
          rw [if_neg e, h0] at this
          grind)
    obtain ⟨z', hz'⟩ := hqx' t0 ht0
    rw [if_pos rfl] at hz'
    have hd := den_le hq' hz'
    rw [Rat.div_def, Rat.one_mul, Rat.den_inv, if_neg (fun e => hx0 (Rat.num_eq_zero.mp e))] at hd
    exact Nat.lt_of_le_of_lt hd (Nat.lt_of_le_of_lt hq2' hK)
end K51
set_option Elab.async false
set_option linter.all false
set_option maxHeartbeats 1000000
/-! the elimination does what it is to do: plain Lean -/
namespace K51
theorem elim_eq (l : Row) (p : Nat) (o : Row) (c : Nat) : elim l p o c = l c - l p * o c := by
  unfold elim
  by_cases h : l p = 0
  · rw [if_pos h, h]; grind
  · rw [if_neg h]
theorem sm_split {m k : Nat} {f : Nat → Rat} : sm (m + k) f = sm m f + sm k (fun a => f (m + a)) := by
  induction k with
  | zero => exact (Rat.add_zero _).symm
  | succ k ih =>
    show sm (m + k) f + f (m + k) = sm m f + (sm k (fun a => f (m + a)) + f (m + k))
    rw [ih]; grind
theorem sm_ext {m k : Nat} {f : Nat → Rat} (hk : k ≤ m) (h : ∀ t, k ≤ t → t < m → f t = 0) : sm m f = sm k f := by
  have e : m = k + (m - k) := by omega
  rw [e, sm_split, sm_zero (n := m - k) fun t ht => h (k + t) (by omega) (by omega), Rat.add_zero]
structure EInv (m : Nat) (A : Nat → Row) (k : Nat) (st : MSt) (ids : List Nat) (wf sf : Nat → Row) : Prop where
  wl : st.1 = ids.map wf
  sl : st.2 = (List.range k).map fun a => (a, sf a)
  nd : ids.Nodup
  lt : ∀ w ∈ ids, w < m
  out : ∀ i, i ∉ ids → ∀ c, wf i c = 0
  len : ids.length + k = m
  rel : ∀ i, i < m → ∀ c, init m (A i) i c = wf i c + sm k (fun a => A i a * sf a c)
  inj : ∀ y z : Nat → Rat, (∀ i, i < m → i ∉ ids → y i = 0) → (∀ i, i < m → y i + sm k (fun a => A i a * z a) = 0) → (∀ i, i < m → y i = 0) ∧ ∀ a, a < k → z a = 0
/-- no nontrivial solution -/
def Nsing (m : Nat) (A : Nat → Row) : Prop := ∀ z : Nat → Rat, (∀ i, i < m → sm m (fun a => A i a * z a) = 0) → ∀ a, a < m → z a = 0
theorem einv_start {As : List Row} {m : Nat} (hm : As.length = m) : EInv m (fun i => As.getD i fun _ => 0) 0 (mrun m As 0) (List.range m) (fun i => if i < m then init m (As.getD i fun _ => 0) i else fun _ => 0) (fun _ _ => 0) := by
  refine ⟨?_, rfl, List.nodup_range, fun w h => List.mem_range.mp h, fun i hi c => ?_, by simp, fun i hi c => ?_, fun y z _ h => ⟨fun i hi => ?_, fun a ha => absurd ha (Nat.not_lt_zero _)⟩⟩
  · show (As.zipIdx.map fun Ai => init m Ai.1 Ai.2) = _
    apply List.ext_getElem?
    intro i
    rw [List.getElem?_map, List.getElem?_zipIdx, List.getElem?_map]
    by_cases h : i < m
    · rw [List.getElem?_range h, List.getElem?_eq_getElem (by omega)]
      simp only [Option.map_some, Nat.zero_add]
      rw [if_pos h, List.getD_eq_getElem?_getD, List.getElem?_eq_getElem (by omega)]
      rfl
    · rw [List.getElem?_eq_none (by omega), List.getElem?_eq_none (by simp; omega)]; rfl
  · rw [if_neg fun z => hi (List.mem_range.mpr z)]
  · rw [if_pos hi]
    exact (Rat.add_zero _).symm
  · have := h i hi
    show y i = 0
    have e : sm 0 (fun a => (As.getD i fun _ => 0) a * z a) = 0 := rfl
    rw [e, Rat.add_zero] at this
    exact this
theorem einv_step {m k : Nat} {A : Nat → Row} {st : MSt} {ids : List Nat} {wf sf : Nat → Row} (h : EInv m A k st ids wf sf) (hk : k < m) (hA : Nsing m A) : ∃ ids' wf' sf', EInv m A (k + 1) (mstep st k) ids' wf' sf' := by
  have hinit : ∀ i, init m (A i) i k = A i k := fun i => by unfold init; rw [if_pos (by omega)]
  cases hh : having st.1 k with
  | nil =>
    exfalso
    have hz : ∀ i, i < m → wf i k = 0 := fun i hi => by
      by_cases hm : i ∈ ids
      · refine Classical.byContradiction fun hne => ?_
        obtain ⟨j, hj⟩ := List.mem_iff_getElem?.mp hm
        have : j ∈ having st.1 k := having_mem.mpr ⟨wf i, by rw [h.wl, List.getElem?_map, hj]; rfl, hne⟩
        rw [hh] at this; cases this
      · exact h.out i hm k
    have := hA (fun a => if a < k then -(sf a k) else if a = k then 1 else 0) (fun i hi => by
      rw [sm_ext (k := k + 1) (by omega) fun t h1 h2 => by rw [if_neg (by omega), if_neg (by omega), Rat.mul_zero]]
      show sm k _ + A i k * _ = 0
      rw [if_neg (Nat.lt_irrefl _), if_pos rfl]
      have e1 := h.rel i hi k
      rw [hinit, hz i hi] at e1
      have e2 : sm k (fun a => A i a * (if a < k then -(sf a k) else if a = k then 1 else 0)) = (-1) * sm k (fun a => A i a * sf a k) := by
        rw [← sm_mul]
        refine sm_congr fun t ht => ?_
        rw [if_pos ht]; grind
      rw [e2]
      generalize sm k (fun a => A i a * sf a k) = S at e1
      grind) k hk
    rw [if_neg (Nat.lt_irrefl _), if_pos rfl] at this
    exact absurd this (by decide)
  | cons p t =>
    obtain ⟨l0, hl0, hne⟩ := having_mem.mp (show p ∈ having st.1 k by rw [hh]; exact List.mem_cons_self)
    rw [h.wl, List.getElem?_map] at hl0
    obtain ⟨w0, hw0, rfl⟩ := Option.map_eq_some_iff.mp hl0
    have hpl : p < ids.length := (List.getElem?_eq_some_iff.mp hw0).1
    have hw0m : w0 ∈ ids := List.mem_of_getElem? hw0
    have hpv : pivot st.1 k p = scl (1 / wf w0 k) (wf w0) := by
      unfold pivot
      rw [h.wl, List.getD_eq_getElem?_getD, List.getElem?_map, hw0]; rfl
    have hsplit : ids = ids.take p ++ w0 :: ids.drop (p + 1) := by
      have e : ids[p] = w0 := by rw [List.getElem?_eq_getElem hpl] at hw0; exact Option.some.inj hw0
      rw [← e, ← List.drop_eq_getElem_cons hpl, List.take_append_drop]
    have hnd := h.nd
    rw [hsplit] at hnd
    have hnd2 := List.nodup_append.mp hnd
    have hw0n : w0 ∉ ids.take p ++ ids.drop (p + 1) := fun z => by
      rcases List.mem_append.mp z with z | z
      · exact hnd2.2.2 w0 z w0 List.mem_cons_self rfl
      · exact (List.nodup_cons.mp hnd2.2.1).1 z
    have hmem : ∀ i, i ∈ ids.take p ++ ids.drop (p + 1) ↔ i ∈ ids ∧ i ≠ w0 := fun i => by
      constructor
      · intro z
        refine ⟨?_, fun e => hw0n (e ▸ z)⟩
        rcases List.mem_append.mp z with z | z
        · exact List.mem_of_mem_take z
        · exact List.mem_of_mem_drop z
      · rintro ⟨z, ne⟩
        rw [hsplit] at z
        rcases List.mem_append.mp z with z | z
        · exact List.mem_append_left _ z
        · rcases List.mem_cons.mp z with e | z
          · exact absurd e ne
          · exact List.mem_append_right _ z
    refine ⟨ids.take p ++ ids.drop (p + 1), fun i => if i = w0 then (fun _ => 0) else elim (wf i) k (scl (1 / wf w0 k) (wf w0)), fun a => if a = k then scl (1 / wf w0 k) (wf w0) else elim (sf a) k (scl (1 / wf w0 k) (wf w0)), ?_, ?_, ?_, ?_, ?_, ?_, ?_, ?_⟩
    · rw [mstep_cons hh, hpv, h.wl]
      show ((ids.map wf).take p ++ (ids.map wf).drop (p + 1)).map _ = _
      rw [← List.map_take, ← List.map_drop, ← List.map_append, List.map_map]
      apply List.map_congr_left
      intro i hi
      have := ((hmem i).mp hi).2
      show elim (wf i) k _ = if i = w0 then _ else _
      rw [if_neg this]
    · rw [mstep_cons hh, hpv, h.sl]
      show ((List.range k).map fun a => (a, sf a)).map _ ++ [(k, _)] = _
      rw [List.range_succ, List.map_append, List.map_map]
      congr 1
      · apply List.map_congr_left
        intro a ha
        have := List.mem_range.mp ha
        show (a, elim (sf a) k _) = (a, if a = k then _ else _)
        rw [if_neg (by omega)]
      · show [(k, _)] = [(k, if k = k then _ else _)]
        rw [if_pos rfl]
    · exact List.nodup_append.mpr ⟨hnd2.1, (List.nodup_cons.mp hnd2.2.1).2, fun a ha b hb => hnd2.2.2 a ha b (List.mem_cons_of_mem _ hb)⟩
    · exact fun w hw => h.lt w ((hmem w).mp hw).1
    · intro i hi c
      show (if i = w0 then (fun _ => 0) else elim (wf i) k (scl (1 / wf w0 k) (wf w0)) : Row) c = 0
      by_cases e : i = w0
      · rw [if_pos e]
      · rw [if_neg e, elim_eq, h.out i (fun z => hi ((hmem i).mpr ⟨z, e⟩)) c, h.out i (fun z => hi ((hmem i).mpr ⟨z, e⟩)) k]
        grind
    · have := h.len
      rw [List.length_append, List.length_take, List.length_drop]
      omega
    · intro i hi c
      rw [h.rel i hi c]
      have hrk := h.rel i hi k
      rw [hinit] at hrk
      show _ = (if i = w0 then (fun _ => 0) else elim (wf i) k (scl (1 / wf w0 k) (wf w0)) : Row) c + (sm k (fun a => A i a * (if a = k then scl (1 / wf w0 k) (wf w0) else elim (sf a) k (scl (1 / wf w0 k) (wf w0)) : Row) c) + A i k * (if k = k then scl (1 / wf w0 k) (wf w0) else elim (sf k) k (scl (1 / wf w0 k) (wf w0)) : Row) c)
      rw [if_pos rfl]
      have e1 : sm k (fun a => A i a * (if a = k then scl (1 / wf w0 k) (wf w0) else elim (sf a) k (scl (1 / wf w0 k) (wf w0)) : Row) c) = sm k (fun a => A i a * sf a c) - (1 / wf w0 k * wf w0 c) * sm k (fun a => A i a * sf a k) := by
        rw [← sm_mul, ← sm_sub]
        refine sm_congr fun t ht => ?_
        rw [if_neg (by omega), elim_eq]
        show A i t * (sf t c - sf t k * (1 / wf w0 k * wf w0 c)) = _
        grind
      rw [e1]
      show _ = _ + (_ + A i k * (1 / wf w0 k * wf w0 c))
      by_cases e : i = w0
      · rw [if_pos e]
        subst e
        rw [hrk]
        generalize sm k (fun a => A i a * sf a c) = S1
        generalize sm k (fun a => A i a * sf a k) = S2
        grind
      · rw [if_neg e, elim_eq]
        show _ = (wf i c - wf i k * (1 / wf w0 k * wf w0 c)) + _
        rw [hrk]
        generalize sm k (fun a => A i a * sf a c) = S1
        generalize sm k (fun a => A i a * sf a k) = S2
        grind
    · intro y z hy hz
      have hw0lt := h.lt w0 hw0m
      have hy0 : y w0 = 0 := hy w0 hw0lt hw0n
      have key := h.inj (fun i => y i + wf i k * z k) (fun a => z a + sf a k * z k) (fun i hi hni => by
        have h1 := hy i hi fun q => hni ((hmem i).mp q).1
        show y i + wf i k * z k = 0
        rw [h1, h.out i hni k]; grind) (fun i hi => by
        have h1 := hz i hi
        have h1 : y i + (sm k (fun a => A i a * z a) + A i k * z k) = 0 := h1
        have hrk := h.rel i hi k
        rw [hinit] at hrk
        have e1 : sm k (fun a => A i a * (z a + sf a k * z k)) = sm k (fun a => A i a * z a) + z k * sm k (fun a => A i a * sf a k) := by
          rw [← sm_mul, ← sm_add]
          exact sm_congr fun t ht => by grind
        rw [e1]
        rw [hrk] at h1
        generalize sm k (fun a => A i a * z a) = S1 at h1
        generalize sm k (fun a => A i a * sf a k) = S2 at h1
        grind)
      have hzk : z k = 0 := by
        have := key.1 w0 hw0lt
        have h2 : y w0 + wf w0 k * z k = 0 := this
        rw [hy0] at h2
        grind
      refine ⟨fun i hi => ?_, fun a ha => ?_⟩
      · have h2 : y i + wf i k * z k = 0 := key.1 i hi
        rw [hzk] at h2
        grind
      · by_cases e : a = k
        · rw [e]; exact hzk
        · have h2 : z a + sf a k * z k = 0 := key.2 a (by omega)
          rw [hzk] at h2
          grind
theorem einv_run {As : List Row} {m : Nat} (hm : As.length = m) (hA : Nsing m fun i => As.getD i fun _ => 0) : ∀ k, k ≤ m → ∃ ids wf sf, EInv m (fun i => As.getD i fun _ => 0) k (mrun m As k) ids wf sf
  | 0, _ => ⟨_, _, _, einv_start hm⟩
  | k + 1, hk => by
    obtain ⟨ids, wf, sf, h⟩ := einv_run hm hA k (by omega)
    rw [mrun_succ]
    exact einv_step h (by omega) hA
end K51
set_option Elab.async false
set_option linter.all false
set_option maxHeartbeats 1000000
set_option exponentiation.threshold 20000
/-! the elimination's numbers are small, its end is the solution: plain Lean -/
namespace K51
/-- rows of small fractions with a common denominator each -/
def Frac (m : Nat) (A : Nat → Row) : Prop := ∃ (D : Nat → Nat) (Z : Nat → Nat → Int), ∀ i, i < m → 0 < D i ∧ D i ≤ 100 ∧ ∀ j, j ≤ m → (D i : Rat) * A i j = (Z i j : Rat) ∧ (Z i j).natAbs ≤ 100
def svst0 (n : Nat) (v : List Rat) (al : Nat × Row) : List Rat := v.set al.1 (al.2 n)
theorem natR_ne {n : Nat} (h : 0 < n) : (n : Rat) ≠ 0 := fun e => by
  have h1 : ((n : Int) : Rat) = ((0 : Int) : Rat) := by rw [Rat.intCast_natCast]; exact e
  have := Rat.intCast_inj.mp h1
  omega
theorem einv_sz {m k : Nat} {A : Nat → Row} {st : MSt} {ids : List Nat} {wf sf : Nat → Row} (h : EInv m A k st ids wf sf) (hm : m ≤ 12) (hk : k ≤ m) (hF : Frac m A) : ∀ c, c < m + 1 + m → (∀ i, i < m → Sz 160 (wf i c)) ∧ ∀ a, a < k → Sz 160 (sf a c) := by
  obtain ⟨D, Z, hDZ⟩ := hF
  intro c hc
  have key := part_sz (m := m) (N := m + k) (R := 2500) (K := 160) (c := fun i t => if t < m then (if t = i then (D i : Int) else 0) else Z i (t - m)) (r := fun i => if c ≤ m then Z i c else if c = m + 1 + i then (D i : Int) else 0)
    (x := fun t => if t < m then wf t c else sf (t - m) c)
    (fun i hi => by
      obtain ⟨h1, h2, h3⟩ := hDZ i hi
      have e1 : nsm (m + k) (fun t => (if t < m then (if t = i then (D i : Int) else 0) else Z i (t - m) : Int).natAbs) ≤ nsm (m + k) fun _ => 100 := nsm_le fun t ht => by
        by_cases e : t < m
        · rw [if_pos e]
          by_cases e2 : t = i
          · rw [if_pos e2, Int.natAbs_natCast]; exact h2
          · rw [if_neg e2]; decide
        · rw [if_neg e]; exact (h3 (t - m) (by omega)).2
      rw [nsm_const] at e1
      have e2 : (if c ≤ m then Z i c else if c = m + 1 + i then (D i : Int) else 0 : Int).natAbs ≤ 100 := by
        by_cases e : c ≤ m
        · rw [if_pos e]; exact (h3 c e).2
        · rw [if_neg e]
          by_cases e2 : c = m + 1 + i
          · rw [if_pos e2, Int.natAbs_natCast]; exact h2
          · rw [if_neg e2]; decide
      omega)
    (fun i hi => by
      obtain ⟨h1, h2, h3⟩ := hDZ i hi
      rw [sm_split]
      have e1 : sm m (fun t => ((if t < m then (if t = i then (D i : Int) else 0) else Z i (t - m) : Int) : Rat) * (if t < m then wf t c else sf (t - m) c)) = (D i : Rat) * wf i c := by
        rw [sm_one hi, if_pos hi, if_pos rfl, if_pos hi, sm_zero fun t ht => ?_]
        · rw [Rat.add_zero, Rat.intCast_natCast]
        · by_cases e : t = i
          · rw [if_pos e]
          · rw [if_neg e, if_pos ht, if_neg e]
            show ((0 : Int) : Rat) * _ = 0
            have : ((0 : Int) : Rat) = 0 := rfl
            rw [this, Rat.zero_mul]
      have e2 : sm k (fun a => ((if m + a < m then (if m + a = i then (D i : Int) else 0) else Z i (m + a - m) : Int) : Rat) * (if m + a < m then wf (m + a) c else sf (m + a - m) c)) = (D i : Rat) * sm k (fun a => A i a * sf a c) := by
        rw [← sm_mul]
        refine sm_congr fun a ha => ?_
        rw [if_neg (by omega), if_neg (by omega), Nat.add_sub_cancel_left, ← (h3 a (by omega)).1]
        grind
      rw [e1, e2]
      have hr := h.rel i hi c
      have e3 : (D i : Rat) * wf i c + (D i : Rat) * sm k (fun a => A i a * sf a c) = (D i : Rat) * init m (A i) i c := by rw [hr]; grind
      rw [e3]
      unfold init
      by_cases e : c ≤ m
      · rw [if_pos e, if_pos e]; exact (h3 c e).1
      · rw [if_neg e, if_neg e]
        by_cases e2 : c = m + 1 + i
        · rw [if_pos e2, if_pos e2, Rat.intCast_natCast]; grind
        · rw [if_neg e2, if_neg e2]
          have : ((0 : Int) : Rat) = 0 := rfl
          rw [this, Rat.mul_zero])
    (fun u hu hs => by
      have key := h.inj u (fun a => u (m + a)) (fun i hi hni => hu i (by omega) (by rw [if_pos hi]; exact h.out i hni c)) (fun i hi => by
        obtain ⟨h1, h2, h3⟩ := hDZ i hi
        have hsi := hs i hi
        rw [sm_split] at hsi
        have e1 : sm m (fun t => ((if t < m then (if t = i then (D i : Int) else 0) else Z i (t - m) : Int) : Rat) * u t) = (D i : Rat) * u i := by
          rw [sm_one hi, if_pos hi, if_pos rfl, sm_zero fun t ht => ?_]
          · rw [Rat.add_zero, Rat.intCast_natCast]
          · by_cases e : t = i
            · rw [if_pos e]
            · rw [if_neg e, if_pos ht, if_neg e]
              show ((0 : Int) : Rat) * _ = 0
              have : ((0 : Int) : Rat) = 0 := rfl
              rw [this, Rat.zero_mul]
        have e2 : sm k (fun a => ((if m + a < m then (if m + a = i then (D i : Int) else 0) else Z i (m + a - m) : Int) : Rat) * u (m + a)) = (D i : Rat) * sm k (fun a => A i a * u (m + a)) := by
          rw [← sm_mul]
          refine sm_congr fun a ha => ?_
          rw [if_neg (by omega), Nat.add_sub_cancel_left, ← (h3 a (by omega)).1]
          grind
        rw [e1, e2] at hsi
        have hD := natR_ne h1
        generalize sm k (fun a => A i a * u (m + a)) = S at hsi
        generalize (D i : Rat) = d at hsi hD
        have : d * (u i + S) = 0 := by grind
        rcases Rat.mul_eq_zero.mp this with z | z
        · exact absurd z hD
        · exact z)
      intro t ht
      by_cases e : t < m
      · exact key.1 t e
      · have := key.2 (t - m) (by omega)
        rw [show m + (t - m) = t by omega] at this
        exact this)
    (by
      refine Nat.lt_of_le_of_lt (Nat.pow_le_pow_right (by decide) hm) ?_
      decide +kernel) (by decide)
  refine ⟨fun i hi => ?_, fun a ha => ?_⟩
  · have := key i (by omega)
    rw [if_pos hi] at this
    exact this
  · have := key (m + a) (by omega)
    rw [if_neg (by omega), Nat.add_sub_cancel_left] at this
    exact this
theorem solv_fold {m : Nat} {sf : Nat → Row} : ∀ k, k ≤ m → ∀ a, a < m → (((List.range k).map fun a => (a, sf a)).foldl (svst0 m) (List.replicate m 0)).getD a 0 = if a < k then sf a m else 0
  | 0, _, a, ha => by
    rw [if_neg (Nat.not_lt_zero _)]
    show (List.replicate m (0 : Rat)).getD a 0 = 0
    rw [List.getD_eq_getElem?_getD, List.getElem?_replicate]
    split <;> rfl
  | k + 1, hk, a, ha => by
    have ih := solv_fold (m := m) (sf := sf) k (by omega) a ha
    have hl : (((List.range k).map fun a => (a, sf a)).foldl (svst0 m) (List.replicate m (0 : Rat))).length = m := by
      have : ∀ (l : List (Nat × Row)) (v : List Rat), (l.foldl (svst0 m) v).length = v.length := by
        intro l
        induction l with
        | nil => intro v; rfl
        | cons b l ih => intro v; show (l.foldl (svst0 m) (svst0 m v b)).length = _; rw [ih]; exact List.length_set ..
      rw [this, List.length_replicate]
    rw [List.range_succ, List.map_append, List.foldl_append]
    show ((((List.range k).map fun a => (a, sf a)).foldl (svst0 m) (List.replicate m 0)).set k (sf k m)).getD a 0 = _
    rw [List.getD_eq_getElem?_getD]
    by_cases e : a = k
    · subst e
      rw [List.getElem?_set_self (by rw [hl]; exact ha), if_pos (Nat.lt_succ_self _)]; rfl
    · rw [List.getElem?_set_ne (Ne.symm e), ← List.getD_eq_getElem?_getD, ih]
      by_cases e2 : a < k
      · rw [if_pos e2, if_pos (by omega)]
      · rw [if_neg e2, if_neg (by omega)]
theorem elim_all {As : List Row} {m : Nat} (hm : As.length = m) (hm12 : m ≤ 12) (hA : Nsing m fun i => As.getD i fun _ => 0) (hF : Frac m fun i => As.getD i fun _ => 0) :
    OnlyOk m As ∧ (solv m (mrun m As m).2).length = m ∧ (∀ i, i < m → sm m (fun a => (As.getD i fun _ => 0) a * (solv m (mrun m As m).2).getD a 0) = (As.getD i fun _ => 0) m) ∧ ∀ a, a < m → Sz 160 ((solv m (mrun m As m).2).getD a 0) := by
  obtain ⟨ids, wf, sf, h⟩ := einv_run hm hA m (Nat.le_refl _)
  have hids : ids = [] := List.length_eq_zero_iff.mp (by have := h.len; omega)
  have hsz := einv_sz h hm12 (Nat.le_refl _) hF
  have hsv : ∀ a, a < m → (solv m (mrun m As m).2).getD a 0 = sf a m := fun a ha => by
    rw [h.sl]
    have := solv_fold (m := m) (sf := sf) m (Nat.le_refl _) a ha
    rw [if_pos ha] at this
    exact this
  refine ⟨⟨by omega, by omega, fun k hk => ?_, by rw [h.wl, hids]; rfl, by rw [h.sl]; simp⟩, ?_, fun i hi => ?_, fun a ha => ?_⟩
  · obtain ⟨ids', wf', sf', h'⟩ := einv_run hm hA k hk
    have hs := einv_sz h' hm12 hk hF
    rw [hm]
    refine ⟨fun l hl => ?_, fun al hal => ?_⟩
    · rw [h'.wl] at hl
      obtain ⟨i, hi, rfl⟩ := List.mem_map.mp hl
      exact fun j hj => ((hs j hj).1 i (h'.lt i hi)).mono (by decide)
    · rw [h'.sl] at hal
      obtain ⟨a, ha, rfl⟩ := List.mem_map.mp hal
      exact fun j hj => ((hs j hj).2 a (List.mem_range.mp ha)).mono (by decide)
  · rw [h.sl]
    have : ∀ (l : List (Nat × Row)) (v : List Rat), (l.foldl (svst0 m) v).length = v.length := by
      intro l
      induction l with
      | nil => intro v; rfl
      | cons b l ih => intro v; show (l.foldl (svst0 m) (svst0 m v b)).length = _; rw [ih]; exact List.length_set ..
    show (List.foldl (svst0 m) (List.replicate m 0) _).length = m
    rw [this, List.length_replicate]
  · have hr := h.rel i hi m
    rw [h.out i (by rw [hids]; simp) m] at hr
    have hi' : init m (As.getD i fun _ => 0) i m = (As.getD i fun _ => 0) m := by unfold init; rw [if_pos (Nat.le_refl m)]
    rw [hi'] at hr
    rw [sm_congr (g := fun a => (As.getD i fun _ => 0) a * sf a m) fun a ha => by rw [hsv a ha]]
    rw [hr]
    grind
  · rw [hsv a ha]
    exact (hsz m (by omega)).2 a ha
end K51
set_option Elab.async false
set_option linter.all false
set_option maxHeartbeats 1000000
/-! chains: the greatest value rules: plain Lean -/
namespace K51
def near (C : Game) (i : Nat) : Prop := ∃ g, Rch C i g ∧ (C.getD g .lose).isFin = true
def bsum (bs : List (Rat × Nat)) (f : Nat → Rat) : Rat := sumQ (bs.map fun b => b.1 * f b.2)
theorem getD_some {C : Game} {i : Nat} (h : i < C.length) : C[i]? = some (C.getD i .lose) := by
  rw [List.getD_eq_getElem?_getD, List.getElem?_eq_getElem h]; rfl
theorem getD_of {C : Game} {i : Nat} {p : Pl} (h : C[i]? = some p) : C.getD i .lose = p := by
  rw [List.getD_eq_getElem?_getD, h]; rfl
theorem bsum_le {bs : List (Rat × Nat)} {f : Nat → Rat} {M : Rat} (h : ∀ b ∈ bs, 0 < b.1 ∧ f b.2 ≤ M) : bsum bs f ≤ M * sumQ (bs.map (·.1)) := by
  induction bs with
  | nil => show (0 : Rat) ≤ M * 0; grind
  | cons b bs ih =>
    have ih := ih fun x hx => h x (List.mem_cons_of_mem _ hx)
    obtain ⟨h1, h2⟩ := h b List.mem_cons_self
    have h3 := Rat.mul_le_mul_of_nonneg_left h2 (Rat.le_of_lt h1)
    show b.1 * f b.2 + bsum bs f ≤ M * (b.1 + sumQ (bs.map (·.1)))
    generalize sumQ (bs.map (·.1)) = W at *
    grind
theorem bsum_eq {bs : List (Rat × Nat)} {f : Nat → Rat} {M : Rat} (h : ∀ b ∈ bs, 0 < b.1 ∧ f b.2 ≤ M) (hM : M * sumQ (bs.map (·.1)) ≤ bsum bs f) : ∀ b ∈ bs, f b.2 = M := by
  induction bs with
  | nil => intro b hb; cases hb
  | cons b bs ih =>
    have hle := bsum_le fun x hx => h x (List.mem_cons_of_mem _ hx)
    obtain ⟨h1, h2⟩ := h b List.mem_cons_self
    have h3 := Rat.mul_le_mul_of_nonneg_left h2 (Rat.le_of_lt h1)
    have hM : M * (b.1 + sumQ (bs.map (·.1))) ≤ b.1 * f b.2 + bsum bs f := hM
    have h4 : M * sumQ (bs.map (·.1)) ≤ bsum bs f := by
      generalize sumQ (bs.map (·.1)) = W at *
      grind
    have h5 : b.1 * M ≤ b.1 * f b.2 := by
      generalize sumQ (bs.map (·.1)) = W at *
      grind
    have h6 : f b.2 = M := by
      have h7 := Rat.le_of_mul_le_mul_left h5 h1
      exact Rat.le_antisymm h2 h7
    intro x hx
    rcases List.mem_cons.mp hx with rfl | hx
    · exact h6
    · exact ih (fun y hy => h y (List.mem_cons_of_mem _ hy)) h4 x hx
theorem bsum_mono {bs : List (Rat × Nat)} {f g : Nat → Rat} (h : ∀ b ∈ bs, 0 < b.1 ∧ f b.2 ≤ g b.2) : bsum bs f ≤ bsum bs g := by
  induction bs with
  | nil => exact Rat.le_refl
  | cons b bs ih =>
    have ih := ih fun x hx => h x (List.mem_cons_of_mem _ hx)
    obtain ⟨h1, h2⟩ := h b List.mem_cons_self
    have h3 := Rat.mul_le_mul_of_nonneg_left h2 (Rat.le_of_lt h1)
    show b.1 * f b.2 + bsum bs f ≤ b.1 * g b.2 + bsum bs g
    grind
theorem bsum_congr {bs : List (Rat × Nat)} {f g : Nat → Rat} (h : ∀ b ∈ bs, f b.2 = g b.2) : bsum bs f = bsum bs g := by
  induction bs with
  | nil => rfl
  | cons b bs ih =>
    show b.1 * f b.2 + bsum bs f = b.1 * g b.2 + bsum bs g
    rw [h b List.mem_cons_self, ih fun x hx => h x (List.mem_cons_of_mem _ hx)]
theorem bsum_sub {bs : List (Rat × Nat)} {f g : Nat → Rat} : bsum bs (fun t => f t - g t) = bsum bs f - bsum bs g := by
  induction bs with
  | nil => show (0 : Rat) = 0 - 0; grind
  | cons b bs ih => show b.1 * (f b.2 - g b.2) + bsum bs (fun t => f t - g t) = (b.1 * f b.2 + bsum bs f) - (b.1 * g b.2 + bsum bs g); rw [ih]; grind
theorem bsum_const {bs : List (Rat × Nat)} {q : Rat} : bsum bs (fun _ => q) = q * sumQ (bs.map (·.1)) := by
  induction bs with
  | nil => show (0 : Rat) = q * 0; grind
  | cons b bs ih => show b.1 * q + bsum bs (fun _ => q) = q * (b.1 + sumQ (bs.map (·.1))); rw [ih]; grind
/-- the branches of a chain's place -/
theorem br_facts {n : Nat} {p : Pl} (h : p.Ok n) (ho : p.isOurs = false) (ht : p.isTheirs = false) : p.tgs = p.brs.map (·.2) ∧ (∀ b ∈ p.brs, b.2 < n ∧ 0 < b.1) ∧ (p.brs = [] ∨ sumQ (p.brs.map (·.1)) = 1) := by
  cases p with
  | draw bs => exact ⟨rfl, h.2.2.1, .inr h.2.2.2.1⟩
  | ours ts => cases ho
  | theirs ts => cases ht
  | reward am t =>
    refine ⟨rfl, fun b hb => ?_, .inr (by show (1 : Rat) + 0 = 1; grind)⟩
    have : b = (1, t) := by simpa [Pl.brs] using hb
    rw [this]; exact ⟨h.1, by show (0 : Rat) < 1; decide⟩
  | finish => exact ⟨rfl, fun b hb => (by cases hb), .inl rfl⟩
  | lose => exact ⟨rfl, fun b hb => (by cases hb), .inl rfl⟩
theorem at_facts {C : Game} (hC : GOk C) (hc : IsChain C) {i : Nat} (hi : i < C.length) : (C.getD i .lose).tgs = (brsAt C i).map (·.2) ∧ (∀ b ∈ brsAt C i, b.2 < C.length ∧ 0 < b.1) ∧ (brsAt C i = [] ∨ sumQ ((brsAt C i).map (·.1)) = 1) := by
  have hm := List.mem_of_getElem? (getD_some hi)
  exact br_facts (hC.ok _ hm) (hc _ hm).1 (hc _ hm).2
theorem near_brs {C : Game} (hC : GOk C) (hc : IsChain C) {i : Nat} (hi : i < C.length) (hn : near C i) (hf : (C.getD i .lose).isFin = false) : sumQ ((brsAt C i).map (·.1)) = 1 := by
  obtain ⟨h1, h2, h3⟩ := at_facts hC hc hi
  rcases h3 with h3 | h3
  · exfalso
    rw [h3] at h1
    obtain ⟨g, hr, hg⟩ := hn
    have : ∀ j, Rch C i j → j = i := fun j r => by
      induction r with
      | refl => rfl
      | step _ e ht ih =>
        subst ih
        rw [getD_of e] at h1
        rw [h1] at ht; cases ht
    rw [this g hr, hf] at hg; cases hg
  · exact h3
theorem near_step {C : Game} {i j : Nat} {p : Pl} (h : C[i]? = some p) (ht : j ∈ p.tgs) (hn : near C j) : near C i := by
  obtain ⟨g, hr, hg⟩ := hn
  exact ⟨g, (Rch.step .refl h ht).trans hr, hg⟩
/-- where a greatest value is -/
theorem argmax {n : Nat} (f : Nat → Rat) (P : Nat → Prop) (i0 : Nat) (h0 : i0 < n) (p0 : P i0) : ∃ i, i < n ∧ P i ∧ ∀ j, j < n → P j → f j ≤ f i := by
  induction n generalizing i0 with
  | zero => omega
  | succ n ih =>
    by_cases hex : ∃ i, i < n ∧ P i
    · obtain ⟨i1, h1, p1⟩ := hex
      obtain ⟨i, hi, pi, hmax⟩ := ih i1 h1 p1
      by_cases hP : P n ∧ f i < f n
      · refine ⟨n, by omega, hP.1, fun j hj pj => ?_⟩
        by_cases e : j = n
        · rw [e]; exact Rat.le_refl
        · exact Rat.le_trans (hmax j (by omega) pj) (Rat.le_of_lt hP.2)
      · refine ⟨i, by omega, pi, fun j hj pj => ?_⟩
        by_cases e : j = n
        · subst e
          exact Rat.not_lt.mp fun z => hP ⟨pj, z⟩
        · exact hmax j (by omega) pj
    · have e : i0 = n := by
        refine Classical.byContradiction fun ne => hex ⟨i0, by omega, p0⟩
      subst e
      refine ⟨i0, h0, p0, fun j hj pj => ?_⟩
      by_cases e : j = i0
      · rw [e]; exact Rat.le_refl
      · exact absurd ⟨j, by omega, pj⟩ hex
theorem mp {C : Game} (hC : GOk C) (hc : IsChain C) {f : Nat → Rat} (hs : ∀ i, i < C.length → near C i → (C.getD i .lose).isFin = false → f i ≤ bsum (brsAt C i) f) (h0 : ∀ i, i < C.length → (¬ near C i ∨ (C.getD i .lose).isFin = true) → f i ≤ 0) : ∀ i, i < C.length → f i ≤ 0 := by
  intro i0 hi0
  obtain ⟨i, hi, _, hmax⟩ := argmax f (fun _ => True) i0 hi0 trivial
  refine Classical.byContradiction fun hn => ?_
  have hpos : 0 < f i := rlt_le (Rat.not_le.mp hn) (hmax i0 hi0 trivial)
  have hin : ∀ j, j < C.length → f j = f i → near C j ∧ (C.getD j .lose).isFin = false := fun j hj e => by
    constructor
    · refine Classical.byContradiction fun z => ?_
      have := h0 j hj (.inl z)
      rw [e] at this
      exact absurd (rlt_le hpos this) Rat.lt_irrefl
    · cases q : (C.getD j .lose).isFin with
      | false => rfl
      | true =>
        have := h0 j hj (.inr q)
        rw [e] at this
        exact absurd (rlt_le hpos this) Rat.lt_irrefl
  have hall : ∀ j, Rch C i j → f j = f i := fun j r => by
    induction r with
    | refl => rfl
    | step r e ht ih =>
      have hj := r.lt hC hi
      obtain ⟨n1, n2⟩ := hin _ hj ih
      obtain ⟨a1, a2, _⟩ := at_facts hC hc hj
      have hsum := near_brs hC hc hj n1 n2
      have := bsum_eq (M := f i) (fun b hb => ⟨(a2 b hb).2, hmax b.2 (a2 b hb).1 trivial⟩) (by rw [hsum, Rat.mul_one, ← ih]; exact hs _ hj n1 n2)
      rw [getD_of e] at a1
      rw [a1] at ht
      obtain ⟨b, hb, rfl⟩ := List.mem_map.mp ht
      exact this b hb
  obtain ⟨g, hr, hg⟩ := (hin i hi rfl).1
  have := (hin g (hr.lt hC hi) (hall g hr)).2
  rw [hg] at this; cases this
/-- the values of a chain -/
structure Val (C : Game) (v : Nat → Rat) : Prop where
  fin : ∀ i, i < C.length → (C.getD i .lose).isFin = true → v i = 1
  out : ∀ i, i < C.length → ¬ near C i → v i = 0
  eqn : ∀ i, i < C.length → near C i → (C.getD i .lose).isFin = false → v i = bsum (brsAt C i) v
theorem Val.ge {C : Game} (hC : GOk C) (hc : IsChain C) {v : Nat → Rat} (h : Val C v) : ∀ i, i < C.length → 0 ≤ v i := fun i hi => by
  have := mp hC hc (f := fun i => 0 - v i) (fun i hi hn hf => by
    show 0 - v i ≤ bsum _ (fun t => 0 - v t)
    rw [bsum_sub (f := fun _ => 0), bsum_const, h.eqn i hi hn hf]; grind) (fun i hi hh => by
    show 0 - v i ≤ 0
    by_cases hf : (C.getD i .lose).isFin = true
    · rw [h.fin i hi hf]; grind
    · rcases hh with hh | hh
      · rw [h.out i hi hh]; grind
      · exact absurd hh hf) i hi
  have this : 0 - v i ≤ 0 := this
  grind
theorem Val.le {C : Game} (hC : GOk C) (hc : IsChain C) {v : Nat → Rat} (h : Val C v) : ∀ i, i < C.length → v i ≤ 1 := fun i hi => by
  have := mp hC hc (f := fun i => v i - 1) (fun i hi hn hf => by
    show v i - 1 ≤ bsum _ (fun t => v t - 1)
    rw [bsum_sub (g := fun _ => 1), bsum_const, near_brs hC hc hi hn hf, h.eqn i hi hn hf]; grind) (fun i hi hh => by
    show v i - 1 ≤ 0
    by_cases hf : (C.getD i .lose).isFin = true
    · rw [h.fin i hi hf]; grind
    · rcases hh with hh | hh
      · rw [h.out i hi hh]; grind
      · exact absurd hh hf) i hi
  have this : v i - 1 ≤ 0 := this
  grind
end K51
set_option Elab.async false
set_option linter.all false
set_option maxHeartbeats 1000000
/-! a chain's equations: plain Lean -/
namespace K51
def esum (bs : List (Rat × Nat)) (e : Nat → Rat) : Rat := sumQ (bs.map fun b => b.1 * e b.2)
/-- in the j-th column -/
def inC (U : List Nat) (j t : Nat) : Rat := if t ∈ U ∧ U.idxOf t = j then 1 else 0
def outC (U : List Nat) (ks : List Rat) (t : Nat) : Rat := if t ∈ U then 0 else ks.getD t 0
theorem mfold_1 {U : List Nat} {ks : List Rat} : ∀ {bs : List (Rat × Nat)} {s : List Rat × Rat} {j : Nat}, j < s.1.length → (bs.foldl (mbr U ks) s).1.getD j 0 = s.1.getD j 0 - esum bs (inC U j)
  | [], s, j, _ => by show _ = _ - (0 : Rat); show s.1.getD j 0 = _; grind
  | b :: bs, s, j, hj => by
    show (bs.foldl (mbr U ks) (mbr U ks s b)).1.getD j 0 = s.1.getD j 0 - (b.1 * inC U j b.2 + esum bs (inC U j))
    rw [mfold_1 (by rw [mbr_len]; exact hj)]
    have e : (mbr U ks s b).1.getD j 0 = s.1.getD j 0 - b.1 * inC U j b.2 := by
      unfold mbr inC
      by_cases h : b.2 ∈ U
      · rw [if_pos h]
        by_cases h2 : U.idxOf b.2 = j
        · rw [if_pos ⟨h, h2⟩, h2]
          show (s.1.set j _).getD j 0 = _
          rw [List.getD_eq_getElem?_getD, List.getElem?_set_self hj]
          show s.1.getD j 0 - b.1 = _
          grind
        · rw [if_neg fun z => h2 z.2]
          show (s.1.set _ _).getD j 0 = _
          rw [List.getD_eq_getElem?_getD, List.getElem?_set_ne h2, ← List.getD_eq_getElem?_getD]
          grind
      · rw [if_neg h, if_neg fun z => h z.1]
        show s.1.getD j 0 = _
        grind
    rw [e]; grind
theorem mfold_2 {U : List Nat} {ks : List Rat} : ∀ {bs : List (Rat × Nat)} {s : List Rat × Rat}, (bs.foldl (mbr U ks) s).2 = s.2 + esum bs (outC U ks)
  | [], s => by show s.2 = s.2 + 0; grind
  | b :: bs, s => by
    show (bs.foldl (mbr U ks) (mbr U ks s b)).2 = s.2 + (b.1 * outC U ks b.2 + esum bs (outC U ks))
    rw [mfold_2]
    have e : (mbr U ks s b).2 = s.2 + b.1 * outC U ks b.2 := by
      unfold mbr outC
      by_cases h : b.2 ∈ U
      · rw [if_pos h, if_pos h]; show s.2 = _; grind
      · rw [if_neg h, if_neg h]
    rw [e]; grind
theorem esum_bd {bs : List (Rat × Nat)} {e : Nat → Rat} (h : ∀ b ∈ bs, 0 < b.1) (he : ∀ t, e t = 0 ∨ e t = 1) : 0 ≤ esum bs e ∧ esum bs e ≤ sumQ (bs.map (·.1)) := by
  induction bs with
  | nil => exact ⟨Rat.le_refl, Rat.le_refl⟩
  | cons b bs ih =>
    obtain ⟨h1, h2⟩ := ih fun x hx => h x (List.mem_cons_of_mem _ hx)
    have h3 := h b List.mem_cons_self
    show 0 ≤ b.1 * e b.2 + esum bs e ∧ b.1 * e b.2 + esum bs e ≤ b.1 + sumQ (bs.map (·.1))
    rcases he b.2 with z | z
    · rw [z]; grind
    · rw [z]; grind
theorem esum_int {bs : List (Rat × Nat)} {e : Nat → Rat} {W : Nat} (h : ∀ b ∈ bs, ∃ z : Nat, b.1 * (W : Rat) = (z : Rat)) (he : ∀ t, e t = 0 ∨ e t = 1) : ∃ z : Int, (W : Rat) * esum bs e = (z : Rat) := by
  induction bs with
  | nil => exact ⟨0, by show (W : Rat) * 0 = ((0 : Int) : Rat); rw [Rat.mul_zero]; rfl⟩
  | cons b bs ih =>
    obtain ⟨z, hz⟩ := ih fun x hx => h x (List.mem_cons_of_mem _ hx)
    obtain ⟨y, hy⟩ := h b List.mem_cons_self
    show ∃ z : Int, (W : Rat) * (b.1 * e b.2 + esum bs e) = (z : Rat)
    rcases he b.2 with q | q
    · exact ⟨z, by rw [q, ← hz]; grind⟩
    · exact ⟨(y : Int) + z, by rw [q, Rat.intCast_add, ← hz, Rat.intCast_natCast, ← hy]; grind⟩
theorem take_sum {bs : List (Rat × Nat)} (h : ∀ b ∈ bs, 0 < b.1) : ∀ k, sumQ ((bs.take k).map (·.1)) ≤ sumQ (bs.map (·.1)) := by
  induction bs with
  | nil => intro k; simp
  | cons b bs ih =>
    intro k
    have hb := h b List.mem_cons_self
    cases k with
    | zero =>
      have := esum_bd (bs := b :: bs) (e := fun _ => 1) h fun _ => .inr rfl
      exact Rat.le_trans this.1 this.2
    | succ k =>
      have := ih (fun x hx => h x (List.mem_cons_of_mem _ hx)) k
      show b.1 + sumQ ((bs.take k).map (·.1)) ≤ b.1 + sumQ (bs.map (·.1))
      grind
/-- a fraction of at most one, of a small denominator -/
theorem unit_frac {q : Rat} {W : Nat} {z : Int} (hW : 0 < W) (hW1 : W ≤ 100) (e : (W : Rat) * q = (z : Rat)) (h1 : -1 ≤ q) (h2 : q ≤ 1) : z.natAbs ≤ 100 ∧ Sz 7 q := by
  have hWp : (0 : Rat) ≤ (W : Rat) := by
    have := Rat.intCast_le_intCast.mpr (show (0 : Int) ≤ (W : Int) by omega)
    rw [Rat.intCast_natCast] at this
    exact this
  have a1 := Rat.mul_le_mul_of_nonneg_left h1 hWp
  have a2 := Rat.mul_le_mul_of_nonneg_left h2 hWp
  rw [e] at a1 a2
  have b2 : (z : Rat) ≤ ((W : Int) : Rat) := by rw [Rat.intCast_natCast]; grind
  have b1 : ((-(W : Int) : Int) : Rat) ≤ (z : Rat) := by rw [Rat.intCast_neg, Rat.intCast_natCast]; grind
  have c1 := Rat.intCast_le_intCast.mp b1
  have c2 := Rat.intCast_le_intCast.mp b2
  have hz : z.natAbs ≤ 100 := by omega
  refine ⟨hz, ?_⟩
  have h0 := natR_ne hW
  have eq : q = mkRat z W := by
    rw [← Rat.divInt_ofNat]
    have h3 : Rat.divInt z (W : Int) = (z : Rat) / ((W : Int) : Rat) := Rat.divInt_eq_div z W
    rw [h3, Rat.intCast_natCast, ← e]
    grind
  rw [eq]
  exact mkRat_sz (by omega) (by show z.natAbs < 128; omega) (by show W < 128; omega)
theorem br_W {n : Nat} {p : Pl} (h : p.Ok n) : ∃ W : Nat, 0 < W ∧ W ≤ 100 ∧ ∀ b ∈ p.brs, ∃ z : Nat, b.1 * (W : Rat) = (z : Rat) := by
  cases p with
  | draw bs =>
    obtain ⟨_, _, _, _, W, h1, h2, h3⟩ := h
    exact ⟨W, h1, h2, fun b hb => (h3 b hb).imp fun z hz => hz.1⟩
  | reward am t =>
    refine ⟨1, by decide, by decide, fun b hb => ⟨1, ?_⟩⟩
    have : b = (1, t) := by simpa [Pl.brs] using hb
    rw [this]; exact Rat.mul_one _
  | _ => exact ⟨1, by decide, by decide, fun b hb => by cases hb⟩
theorem inC_01 {U : List Nat} {j : Nat} : ∀ t, inC U j t = 0 ∨ inC U j t = 1 := fun t => by
  unfold inC; split
  · exact .inr rfl
  · exact .inl rfl
/-- a row's columns against any values -/
theorem row_sum {U : List Nat} {z : Nat → Rat} : ∀ {bs : List (Rat × Nat)}, sm U.length (fun a => esum bs (inC U a) * z a) = bsum bs (fun t => if t ∈ U then z (U.idxOf t) else 0)
  | [] => by
    refine (sm_zero fun t _ => ?_)
    show (0 : Rat) * _ = 0
    rw [Rat.zero_mul]
  | b :: bs => by
    show sm U.length (fun a => (b.1 * inC U a b.2 + esum bs (inC U a)) * z a) = b.1 * (if b.2 ∈ U then z (U.idxOf b.2) else 0) + bsum bs (fun t => if t ∈ U then z (U.idxOf t) else 0)
    rw [← row_sum (bs := bs)]
    have e1 : sm U.length (fun a => (b.1 * inC U a b.2 + esum bs (inC U a)) * z a) = sm U.length (fun a => b.1 * (inC U a b.2 * z a)) + sm U.length (fun a => esum bs (inC U a) * z a) := by
      rw [← sm_add]; exact sm_congr fun t _ => by grind
    rw [e1, sm_mul]
    congr 2
    by_cases h : b.2 ∈ U
    · rw [if_pos h, sm_one (List.idxOf_lt_length_of_mem h), sm_zero fun t _ => ?_]
      · unfold inC; rw [if_pos ⟨h, rfl⟩]; grind
      · by_cases e : t = U.idxOf b.2
        · rw [if_pos e]
        · rw [if_neg e]; unfold inC; rw [if_neg fun q => e q.2.symm]; grind
    · rw [if_neg h]
      refine sm_zero fun t _ => ?_
      unfold inC; rw [if_neg fun q => h q.1]; grind
end K51
set_option Elab.async false
set_option linter.all false
set_option maxHeartbeats 1000000
/-! a chain's chances are its values: plain Lean -/
namespace K51
theorem goal_mem {C : Game} {g : Nat} : g ∈ goalsL C ↔ g < C.length ∧ (C.getD g .lose).isFin = true := by
  unfold goalsL
  rw [mem_plcB]
  constructor
  · rintro ⟨p, h1, h2⟩
    exact ⟨(List.getElem?_eq_some_iff.mp h1).1, by rw [getD_of h1]; exact h2⟩
  · rintro ⟨h1, h2⟩
    exact ⟨_, getD_some h1, h2⟩
theorem near_mem {C : Game} (hC : GOk C) {i : Nat} : i ∈ nearL C ↔ i < C.length ∧ near C i := by
  unfold nearL
  rw [List.mem_filter, List.mem_range, List.any_eq_true]
  constructor
  · rintro ⟨hi, b, hb, hb2⟩
    obtain ⟨g, hg, rfl⟩ := List.mem_map.mp hb
    have hr : g ∈ rl C i := of_decide_eq_true hb2
    exact ⟨hi, g, (mem_rl hC hi).mp hr, (goal_mem.mp hg).2⟩
  · rintro ⟨hi, g, hr, hg⟩
    exact ⟨hi, _, List.mem_map.mpr ⟨g, goal_mem.mpr ⟨hr.lt hC hi, hg⟩, rfl⟩, decide_eq_true ((mem_rl hC hi).mpr hr)⟩
theorem unk_mem {C : Game} (hC : GOk C) {i : Nat} : i ∈ unkL C ↔ i < C.length ∧ near C i ∧ (C.getD i .lose).isFin = false := by
  unfold unkL
  rw [List.mem_filter, near_mem hC]
  constructor
  · rintro ⟨⟨h1, h2⟩, h3⟩
    refine ⟨h1, h2, ?_⟩
    cases e : (C.getD i .lose).isFin with
    | false => rfl
    | true =>
      rw [decide_eq_true (goal_mem.mpr ⟨h1, e⟩)] at h3; cases h3
  · rintro ⟨h1, h2, h3⟩
    refine ⟨⟨h1, h2⟩, ?_⟩
    rw [decide_eq_false fun z => by rw [(goal_mem.mp z).2] at h3; cases h3]; rfl
theorem unk_nd {C : Game} : (unkL C).Nodup := by
  unfold unkL nearL
  exact (List.nodup_range.filter _).filter _
theorem unk_few {C : Game} (hC : GOk C) : (unkL C).length ≤ 12 := by
  have := nodup_len unk_nd fun x hx => ((unk_mem hC).mp hx).1
  exact Nat.le_trans this hC.few
theorem base_at {C : Game} {i : Nat} : (baseL C).getD i 0 = if i < C.length ∧ i ∈ goalsL C then 1 else 0 := by
  unfold baseL
  rw [List.getD_eq_getElem?_getD, List.getElem?_map]
  by_cases h : i < C.length
  · rw [List.getElem?_range h]
    show (if i ∈ goalsL C then (1 : Rat) else 0) = _
    by_cases h2 : i ∈ goalsL C
    · rw [if_pos h2, if_pos ⟨h, h2⟩]
    · rw [if_neg h2, if_neg fun z => h2 z.2]
  · rw [List.getElem?_eq_none (by rw [List.length_range]; omega), if_neg fun z => h z.1]; rfl
theorem nil_at {C : Game} {i : Nat} : (nilL C).getD i 0 = 0 := by
  unfold nilL
  rw [List.getD_eq_getElem?_getD, List.getElem?_map]
  cases C[i]? <;> rfl
theorem outC_01 {C : Game} : ∀ t, outC (unkL C) (baseL C) t = 0 ∨ outC (unkL C) (baseL C) t = 1 := fun t => by
  unfold outC
  split
  · exact .inl rfl
  · rw [base_at]; split
    · exact .inr rfl
    · exact .inl rfl
theorem row_1 {C : Game} {u k j : Nat} (hj : j < (unkL C).length) : (mrow (unkL C) (nilL C) (baseL C) u ((brsAt C u).take k)).1.getD j 0 = (if (unkL C)[j] = u then 1 else 0) - esum ((brsAt C u).take k) (inC (unkL C) j) := by
  unfold mrow
  rw [mfold_1 (by unfold mini; rw [List.length_map]; exact hj)]
  unfold mini
  show ((unkL C).map _).getD j 0 - _ = _
  rw [List.getD_eq_getElem?_getD, List.getElem?_map, List.getElem?_eq_getElem hj]
  rfl
theorem row_2 {C : Game} {u k : Nat} : (mrow (unkL C) (nilL C) (baseL C) u ((brsAt C u).take k)).2 = esum ((brsAt C u).take k) (outC (unkL C) (baseL C)) := by
  unfold mrow
  rw [mfold_2]
  unfold mini
  show (nilL C).getD u 0 + _ = _
  rw [nil_at, Rat.zero_add]
theorem take_all {α : Type} (l : List α) : l.take l.length = l := List.take_of_length_le (Nat.le_refl _)
theorem row_at {C : Game} {i : Nat} (hi : i < (unkL C).length) : (mrows C (unkL C) (nilL C) (baseL C)).getD i (fun _ => 0) = rowOf (unkL C).length (mrow (unkL C) (nilL C) (baseL C) (unkL C)[i] (brsAt C (unkL C)[i])) := by
  unfold mrows
  rw [List.getD_eq_getElem?_getD, List.getElem?_map, List.getElem?_eq_getElem hi]; rfl
/-- an entry of a row, any part of the branches -/
theorem entry {C : Game} (hC : GOk C) (hc : IsChain C) {u : Nat} (hu : u < C.length) : ∃ W : Nat, 0 < W ∧ W ≤ 100 ∧ ∀ k, (∀ j, j < (unkL C).length → ∀ d : Rat, (d = 0 ∨ d = 1) → ∃ z : Int, (W : Rat) * (d - esum ((brsAt C u).take k) (inC (unkL C) j)) = (z : Rat) ∧ z.natAbs ≤ 100 ∧ Sz 7 (d - esum ((brsAt C u).take k) (inC (unkL C) j))) ∧
    ∃ z : Int, (W : Rat) * esum ((brsAt C u).take k) (outC (unkL C) (baseL C)) = (z : Rat) ∧ z.natAbs ≤ 100 ∧ Sz 7 (esum ((brsAt C u).take k) (outC (unkL C) (baseL C))) := by
  obtain ⟨W, h1, h2, h3⟩ := br_W (hC.ok _ (List.mem_of_getElem? (getD_some hu)))
  obtain ⟨_, hb, hs⟩ := at_facts hC hc hu
  have hpos : ∀ b ∈ brsAt C u, 0 < b.1 := fun b h => (hb b h).2
  have hone : sumQ ((brsAt C u).map (·.1)) ≤ 1 := by
    rcases hs with hs | hs
    · rw [hs]; show (0 : Rat) ≤ 1; decide
    · rw [hs]; exact Rat.le_refl
  refine ⟨W, h1, h2, fun k => ?_⟩
  have hpk : ∀ b ∈ (brsAt C u).take k, 0 < b.1 := fun b h => hpos b (List.mem_of_mem_take h)
  have hik : ∀ b ∈ (brsAt C u).take k, ∃ z : Nat, b.1 * (W : Rat) = (z : Rat) := fun b h => h3 b (List.mem_of_mem_take h)
  have hk1 : sumQ (((brsAt C u).take k).map (·.1)) ≤ 1 := Rat.le_trans (take_sum hpos k) hone
  refine ⟨fun j hj d hd => ?_, ?_⟩
  · obtain ⟨z, hz⟩ := esum_int (e := inC (unkL C) j) hik inC_01
    obtain ⟨b1, b2⟩ := esum_bd (e := inC (unkL C) j) hpk inC_01
    have b3 := Rat.le_trans b2 hk1
    generalize esum ((brsAt C u).take k) (inC (unkL C) j) = q at *
    rcases hd with rfl | rfl
    · have e : (W : Rat) * (0 - q) = ((-z : Int) : Rat) := by rw [Rat.intCast_neg, ← hz]; grind
      have := unit_frac h1 h2 e (by grind) (by grind)
      exact ⟨_, e, this.1, this.2⟩
    · have e : (W : Rat) * (1 - q) = (((W : Int) - z : Int) : Rat) := by rw [Rat.intCast_sub, ← hz, Rat.intCast_natCast]; grind
      have := unit_frac h1 h2 e (by grind) (by grind)
      exact ⟨_, e, this.1, this.2⟩
  · obtain ⟨z, hz⟩ := esum_int (e := outC (unkL C) (baseL C)) hik outC_01
    obtain ⟨b1, b2⟩ := esum_bd (e := outC (unkL C) (baseL C)) hpk outC_01
    have b3 := Rat.le_trans b2 hk1
    have := unit_frac h1 h2 hz (by grind) b3
    exact ⟨z, hz, this.1, this.2⟩
theorem ent_row {C : Game} {i j : Nat} (hi : i < (unkL C).length) (hj : j < (unkL C).length) : (mrows C (unkL C) (nilL C) (baseL C)).getD i (fun _ => 0) j = (if j = i then 1 else 0) - esum (brsAt C (unkL C)[i]) (inC (unkL C) j) := by
  rw [row_at hi]
  unfold rowOf
  rw [if_pos hj]
  have := row_1 (C := C) (u := (unkL C)[i]) (k := (brsAt C (unkL C)[i]).length) hj
  rw [take_all] at this
  rw [this]
  congr 1
  by_cases e : j = i
  · subst e; rw [if_pos rfl, if_pos rfl]
  · rw [if_neg e, if_neg fun z => e ((List.getElem?_inj hj unk_nd).mp (by rw [List.getElem?_eq_getElem hj, List.getElem?_eq_getElem hi, z]))]
theorem ent_bd {C : Game} {i : Nat} (hi : i < (unkL C).length) : (mrows C (unkL C) (nilL C) (baseL C)).getD i (fun _ => 0) (unkL C).length = esum (brsAt C (unkL C)[i]) (outC (unkL C) (baseL C)) := by
  rw [row_at hi]
  unfold rowOf
  rw [if_neg (Nat.lt_irrefl _)]
  have := row_2 (C := C) (u := (unkL C)[i]) (k := (brsAt C (unkL C)[i]).length)
  rw [take_all] at this
  exact this
end K51
set_option Elab.async false
set_option linter.all false
set_option maxHeartbeats 1000000
/-! a chain's chances are its values, the end: plain Lean -/
namespace K51
theorem fset_at : ∀ {U : List Nat} {x f : List Rat} {i : Nat}, U.Nodup → x.length = U.length → (∀ u ∈ U, u < f.length) → ((U.zip x).foldl fset f).getD i 0 = if i ∈ U then x.getD (U.idxOf i) 0 else f.getD i 0
  | [], x, f, i, _, _, _ => by
    rw [if_neg (by simp)]; rfl
  | u :: U, [], f, i, _, hl, _ => by simp at hl
  | u :: U, q :: x, f, i, nd, hl, hu => by
    show ((U.zip x).foldl fset (f.set u q)).getD i 0 = _
    have nd' := List.nodup_cons.mp nd
    rw [fset_at nd'.2 (by simpa using hl) (fun w hw => by rw [List.length_set]; exact hu w (List.mem_cons_of_mem _ hw))]
    by_cases h : i ∈ U
    · have ne : u ≠ i := fun e => nd'.1 (e ▸ h)
      rw [if_pos h, if_pos (List.mem_cons_of_mem _ h), List.idxOf_cons]
      have : (u == i) = false := by rw [beq_eq_false_iff_ne]; exact ne
      rw [this]
      rfl
    · rw [if_neg h]
      by_cases e : i = u
      · subst e
        rw [if_pos List.mem_cons_self, List.idxOf_cons]
        have : (i == i) = true := by rw [beq_iff_eq]
        rw [this]
        show (f.set i q).getD i 0 = (q :: x).getD 0 0
        rw [List.getD_eq_getElem?_getD, List.getElem?_set_self (hu i List.mem_cons_self)]; rfl
      · rw [if_neg fun z => (List.mem_cons.mp z).elim e h]
        show (f.set u q).getD i 0 = _
        rw [List.getD_eq_getElem?_getD, List.getElem?_set_ne (Ne.symm e), ← List.getD_eq_getElem?_getD]
theorem bsum_esum {bs : List (Rat × Nat)} {f : Nat → Rat} : esum bs f = bsum bs f := rfl
theorem chain_all {C : Game} (hC : GOk C) (hc : IsChain C) : ChOk C ∧ Val C (fun i => (chv C).getD i 0) ∧ ∀ i, i < C.length → Sz 160 ((chv C).getD i 0) := by
  have hU : ∀ i (hi : i < (unkL C).length), (unkL C)[i] < C.length ∧ near C (unkL C)[i] ∧ (C.getD (unkL C)[i] .lose).isFin = false := fun i hi => (unk_mem hC).mp (List.getElem_mem hi)
  have hlen : (mrows C (unkL C) (nilL C) (baseL C)).length = (unkL C).length := by unfold mrows; rw [List.length_map]
  have hfew := unk_few hC
  have hidx : ∀ i (hi : i < (unkL C).length), (unkL C).idxOf (unkL C)[i] = i := fun i hi => by
    have h1 : (unkL C)[i] ∈ unkL C := List.getElem_mem hi
    have h2 := List.idxOf_lt_length_of_mem h1
    exact (List.getElem?_inj h2 unk_nd).mp (by rw [List.getElem?_eq_getElem h2, List.getElem?_eq_getElem hi, List.getElem_idxOf h2])
  -- a row against values that stand at the unknown places
  have hrow : ∀ (z : Nat → Rat) (i : Nat) (hi : i < (unkL C).length), sm (unkL C).length (fun a => (mrows C (unkL C) (nilL C) (baseL C)).getD i (fun _ => 0) a * z a) = z i - bsum (brsAt C (unkL C)[i]) (fun t => if t ∈ unkL C then z ((unkL C).idxOf t) else 0) := fun z i hi => by
    rw [← row_sum, sm_congr (g := fun a => (if a = i then 1 else 0) * z a - esum (brsAt C (unkL C)[i]) (inC (unkL C) a) * z a) fun a ha => by rw [ent_row hi ha]; grind]
    rw [sm_sub]
    congr 1
    rw [sm_one hi, if_pos rfl, sm_zero fun t _ => ?_]
    · grind
    · by_cases e : t = i
      · rw [if_pos e]
      · rw [if_neg e, if_neg e]; grind
  have hns : Nsing (unkL C).length fun i => (mrows C (unkL C) (nilL C) (baseL C)).getD i fun _ => 0 := fun z hz => by
    have hz' : ∀ i (hi : i < (unkL C).length), z i = bsum (brsAt C (unkL C)[i]) (fun t => if t ∈ unkL C then z ((unkL C).idxOf t) else 0) := fun i hi => by
      have h1 := hz i hi
      rw [hrow z i hi] at h1
      grind
    have hat : ∀ i (hi : i < (unkL C).length), (if (unkL C)[i] ∈ unkL C then z ((unkL C).idxOf (unkL C)[i]) else 0) = z i := fun i hi => by
      rw [if_pos (List.getElem_mem hi), hidx i hi]
    have up := mp hC hc (f := fun t => if t ∈ unkL C then z ((unkL C).idxOf t) else 0) (fun u hu hn hf => by
      obtain ⟨i, hi, rfl⟩ := List.mem_iff_getElem.mp ((unk_mem hC).mpr ⟨hu, hn, hf⟩)
      show (if _ then _ else _) ≤ _
      rw [hat i hi, hz' i hi]; exact Rat.le_refl) (fun u hu hh => by
      show (if _ then _ else _) ≤ (0 : Rat)
      rw [if_neg fun q => by
        have := (unk_mem hC).mp q
        rcases hh with hh | hh
        · exact hh this.2.1
        · rw [this.2.2] at hh; cases hh]; exact Rat.le_refl)
    have dn := mp hC hc (f := fun t => 0 - (if t ∈ unkL C then z ((unkL C).idxOf t) else 0)) (fun u hu hn hf => by
      obtain ⟨i, hi, rfl⟩ := List.mem_iff_getElem.mp ((unk_mem hC).mpr ⟨hu, hn, hf⟩)
      show 0 - (if _ then _ else _) ≤ bsum _ (fun t => 0 - (if t ∈ unkL C then z ((unkL C).idxOf t) else 0))
      rw [hat i hi, bsum_sub (f := fun _ => 0), bsum_const, ← hz' i hi]; grind) (fun u hu hh => by
      show 0 - (if _ then _ else _) ≤ (0 : Rat)
      rw [if_neg fun q => by
        have := (unk_mem hC).mp q
        rcases hh with hh | hh
        · exact hh this.2.1
        · rw [this.2.2] at hh; cases hh]; grind)
    intro a ha
    have h1 := up (unkL C)[a] (hU a ha).1
    have h2 := dn (unkL C)[a] (hU a ha).1
    have h1 : (if (unkL C)[a] ∈ unkL C then z ((unkL C).idxOf (unkL C)[a]) else 0) ≤ 0 := h1
    have h2 : 0 - (if (unkL C)[a] ∈ unkL C then z ((unkL C).idxOf (unkL C)[a]) else 0) ≤ 0 := h2
    rw [hat a ha] at h1 h2
    grind
  have hent : ∀ i, ∃ W : Nat, ∀ hi : i < (unkL C).length, 0 < W ∧ W ≤ 100 ∧ ∀ j, j ≤ (unkL C).length → ∃ z : Int, (W : Rat) * (mrows C (unkL C) (nilL C) (baseL C)).getD i (fun _ => 0) j = (z : Rat) ∧ z.natAbs ≤ 100 := fun i => by
    by_cases hi : i < (unkL C).length
    · obtain ⟨W, h1, h2, h3⟩ := entry hC hc (hU i hi).1
      obtain ⟨h4, h5⟩ := h3 (brsAt C (unkL C)[i]).length
      rw [take_all] at h4 h5
      refine ⟨W, fun _ => ⟨h1, h2, fun j hj => ?_⟩⟩
      by_cases e : j < (unkL C).length
      · obtain ⟨z, e1, e2, _⟩ := h4 j e (if j = i then 1 else 0) (by split; exact .inr rfl; exact .inl rfl)
        rw [ent_row hi e]
        exact ⟨z, e1, e2⟩
      · obtain ⟨z, e1, e2, _⟩ := h5
        rw [show j = (unkL C).length by omega, ent_bd hi]
        exact ⟨z, e1, e2⟩
    · exact ⟨0, fun z => absurd z hi⟩
  have hF : Frac (unkL C).length fun i => (mrows C (unkL C) (nilL C) (baseL C)).getD i fun _ => 0 := by
    refine ⟨fun i => Classical.choose (hent i), fun i j => ((Classical.choose (hent i) : Nat) * (mrows C (unkL C) (nilL C) (baseL C)).getD i (fun _ => 0) j : Rat).floor, fun i hi => ?_⟩
    obtain ⟨h1, h2, h3⟩ := Classical.choose_spec (hent i) hi
    refine ⟨h1, h2, fun j hj => ?_⟩
    obtain ⟨z, e1, e2⟩ := h3 j hj
    have hfl : ((Classical.choose (hent i) : Nat) * (mrows C (unkL C) (nilL C) (baseL C)).getD i (fun _ => 0) j : Rat).floor = z := by rw [e1, Rat.floor_intCast]
    exact ⟨by show _ = ((Rat.floor _ : Int) : Rat); rw [hfl]; exact e1, by show (Rat.floor _).natAbs ≤ 100; rw [hfl]; exact e2⟩
  obtain ⟨hOnly, hSl, hSol, hSz⟩ := elim_all hlen hfew hns hF
  have hx : solL C = solv (unkL C).length (mrun (unkL C).length (mrows C (unkL C) (nilL C) (baseL C)) (unkL C).length).2 := rfl
  rw [← hx] at hSl hSol hSz
  have hat : ∀ i, (chv C).getD i 0 = if i ∈ unkL C then (solL C).getD ((unkL C).idxOf i) 0 else (baseL C).getD i 0 := fun i => fset_at unk_nd hSl fun u hu => by
    have := ((unk_mem hC).mp hu).1
    simpa [baseL] using this
  refine ⟨⟨hC, hfew, fun u hu => ((unk_mem hC).mp hu).1, by simp [nilL], by simp [baseL], fun t => ?_, fun u hu b hb => ?_, fun u hu k => ?_, hOnly⟩, ⟨fun i hi hf => ?_, fun i hi hn => ?_, fun i hi hn hf => ?_⟩, fun i hi => ?_⟩
  · rw [base_at]; split
    · exact Sz.one (by decide)
    · exact Sz.zero (by decide)
  · have hb2 : b ∈ (C.getD u .lose).brs := hb
    have hok := hC.ok _ (List.mem_of_getElem? (getD_some ((unk_mem hC).mp hu).1))
    generalize C.getD u .lose = p at hb2 hok
    cases p with
    | draw bs =>
      obtain ⟨_, _, hpos, hsum, W, hW, hW1, hh⟩ := hok
      obtain ⟨z, e, hz⟩ := hh b hb2
      have e' : (W : Rat) * b.1 = ((z : Int) : Rat) := by rw [Rat.intCast_natCast, ← e]; grind
      have hb0 := (hpos b hb2).2
      have h0 := natR_ne hW
      have : Sz 7 b.1 := by
        have eq : b.1 = mkRat z W := by
          rw [← Rat.divInt_ofNat]
          have h3 : Rat.divInt (z : Int) (W : Int) = ((z : Int) : Rat) / ((W : Int) : Rat) := Rat.divInt_eq_div _ _
          rw [h3, Rat.intCast_natCast, Rat.intCast_natCast, ← e]
          grind
        rw [eq]
        exact mkRat_sz (by omega) (by rw [Int.natAbs_natCast]; show z < 128; omega) (by show W < 128; omega)
      exact this.mono (by decide)
    | reward am t =>
      have : b = (1, t) := by simpa [Pl.brs] using hb2
      rw [this]; exact Sz.one (by decide)
    | _ => cases hb2
  · obtain ⟨W, h1, h2, h3⟩ := entry hC hc ((unk_mem hC).mp hu).1
    obtain ⟨h4, h5⟩ := h3 k
    constructor
    · intro q hq
      obtain ⟨j, hj, rfl⟩ := List.mem_iff_getElem.mp hq
      have hj' : j < (unkL C).length := by rw [← mrow_len (U := unkL C) (gs := nilL C) (ks := baseL C) (u := u) (bs := (brsAt C u).take k)]; exact hj
      have e := row_1 (C := C) (u := u) (k := k) hj'
      rw [List.getD_eq_getElem?_getD, List.getElem?_eq_getElem hj] at e
      have e : (mrow (unkL C) (nilL C) (baseL C) u ((brsAt C u).take k)).1[j] = _ := e
      rw [e]
      obtain ⟨z, _, _, hs⟩ := h4 j hj' (if (unkL C)[j] = u then 1 else 0) (by split; exact .inr rfl; exact .inl rfl)
      exact hs.mono (by decide)
    · rw [row_2]
      obtain ⟨z, _, _, hs⟩ := h5
      exact hs.mono (by decide)
  · show (chv C).getD i 0 = 1
    rw [hat, if_neg fun z => (by rw [((unk_mem hC).mp z).2.2] at hf; cases hf), base_at, if_pos ⟨hi, goal_mem.mpr ⟨hi, hf⟩⟩]
  · show (chv C).getD i 0 = 0
    rw [hat, if_neg fun z => hn ((unk_mem hC).mp z).2.1, base_at, if_neg fun z => hn ⟨i, .refl, (goal_mem.mp z.2).2⟩]
  · show (chv C).getD i 0 = bsum _ (fun t => (chv C).getD t 0)
    obtain ⟨j, hj, rfl⟩ := List.mem_iff_getElem.mp ((unk_mem hC).mpr ⟨hi, hn, hf⟩)
    rw [hat, if_pos (List.getElem_mem hj), hidx j hj]
    have e1 := hSol j hj
    rw [hrow (fun a => (solL C).getD a 0) j hj, ent_bd hj, bsum_esum] at e1
    have e2 : bsum (brsAt C (unkL C)[j]) (fun t => (chv C).getD t 0) = bsum (brsAt C (unkL C)[j]) (fun t => if t ∈ unkL C then (solL C).getD ((unkL C).idxOf t) 0 else 0) + bsum (brsAt C (unkL C)[j]) (outC (unkL C) (baseL C)) := by
      have h0 : bsum (brsAt C (unkL C)[j]) (fun t => (chv C).getD t 0 - (if t ∈ unkL C then (solL C).getD ((unkL C).idxOf t) 0 else 0)) = bsum (brsAt C (unkL C)[j]) (outC (unkL C) (baseL C)) := bsum_congr fun b hb => by
        rw [hat]
        unfold outC
        by_cases h : b.2 ∈ unkL C
        · rw [if_pos h, if_pos h, if_pos h]; grind
        · rw [if_neg h, if_neg h, if_neg h]; grind
      rw [bsum_sub] at h0
      grind
    rw [e2]
    grind
  · rw [hat]
    by_cases h : i ∈ unkL C
    · rw [if_pos h]; exact hSz _ (List.idxOf_lt_length_of_mem h)
    · rw [if_neg h, base_at]; split
      · exact Sz.one (by decide)
      · exact Sz.zero (by decide)
end K51
set_option Elab.async false
set_option linter.all false
set_option maxHeartbeats 1000000
/-! better strategies: plain Lean -/
namespace K51
theorem chain_at {G : Game} {s t : Strat} {i : Nat} (hi : i < G.length) : (chain G s t).getD i .lose = put .t (put .o (G.getD i .lose) (s.getD i none)) (t.getD i none) := by
  unfold chain
  exact getD_of (withS_get (withS_get (getD_some hi)))
theorem chain_ok {G : Game} {s t : Strat} (hG : GOk G) (hS : SOk .o G s) (hT : SOk .t G t) : GOk (chain G s t) := withS_ok (withS_ok hG hS) (sok_t hT)
theorem put_chain {p : Pl} {a b : Option Nat} : (put .t (put .o p a) b).isOurs = false ∧ (put .t (put .o p a) b).isTheirs = false := by
  cases p <;> exact ⟨rfl, rfl⟩
theorem chain_is {G : Game} {s t : Strat} : IsChain (chain G s t) := fun p hp => by
  obtain ⟨i, hi⟩ := List.mem_iff_getElem?.mp hp
  have hl : i < G.length := by rw [← chain_len (G := G) (s := s) (t := t)]; exact (List.getElem?_eq_some_iff.mp hi).1
  rw [← getD_of hi, chain_at hl]
  exact put_chain
theorem put_fin {p : Pl} {a b : Option Nat} : (put .t (put .o p a) b).isFin = p.isFin := by cases p <;> rfl
theorem chain_fin {G : Game} {s t : Strat} {i : Nat} (hi : i < G.length) : ((chain G s t).getD i .lose).isFin = (G.getD i .lose).isFin := by rw [chain_at hi, put_fin]
/-- values everywhere but at a finish -/
theorem Val.all {C : Game} (hC : GOk C) (hc : IsChain C) {v : Nat → Rat} (h : Val C v) {i : Nat} (hi : i < C.length) (hf : (C.getD i .lose).isFin = false) : v i = bsum (brsAt C i) v := by
  by_cases hn : near C i
  · exact h.eqn i hi hn hf
  · rw [h.out i hi hn]
    obtain ⟨a1, a2, _⟩ := at_facts hC hc hi
    rw [bsum_congr (g := fun _ => 0) fun b hb => h.out b.2 (a2 b hb).1 fun z => hn (near_step (getD_some hi) (by rw [a1]; exact List.mem_map.mpr ⟨b, hb, rfl⟩) z), bsum_const]
    grind
theorem bsum_single {g : Nat} {f : Nat → Rat} : bsum [(1, g)] f = f g := by show 1 * f g + 0 = f g; grind
/-- the target of a branch -/
def tgt (p : Pl) (b : Nat) : Nat := p.tgs.getD b 0
theorem goals_at {v : List Rat} {p : Pl} {b : Nat} (hb : b < p.tgs.length) : (goalsOf v p).getD b 0 = v.getD (tgt p b) 0 := by
  unfold goalsOf tgt
  rw [List.getD_eq_getElem?_getD, List.getElem?_map, List.getElem?_eq_getElem hb, List.getD_eq_getElem?_getD (l := p.tgs), List.getElem?_eq_getElem hb]; rfl
theorem ours_at {G : Game} {s t : Strat} {i b : Nat} (hi : i < G.length) (ho : (G.getD i .lose).isOurs = true) (hb : s.getD i none = some b) : (chain G s t).getD i .lose = .draw [(1, tgt (G.getD i .lose) b)] := by
  rw [chain_at hi, hb]
  have hs : (G.getD i .lose).isSide .o = true := ho
  have e : put .o (G.getD i .lose) (some b) = .draw [(1, tgt (G.getD i .lose) b)] := by
    unfold put; rw [if_pos hs]; rfl
  rw [e]; rfl
theorem plcB_nd {f : Pl → Bool} {G : Game} : (plcB f G).Nodup := by
  unfold plcB
  have h1 : (G.zipIdx.map (·.2)).Nodup := by
    rw [List.zipIdx_map_snd]
    exact List.nodup_range' ..
  exact h1.sublist (List.filter_sublist.map _)
theorem fold_at {G : Game} {v : List Rat} : ∀ {l : List Nat} {s : Strat} {i : Nat}, l.Nodup → (l.foldl (istep G v) s).getD i none = if i ∈ l ∧ i < s.length then some (bestOf (goalsOf v (G.getD i .lose)) ((s.getD i none).getD 0)) else s.getD i none
  | [], s, i, _ => by rw [if_neg fun z => (by cases z.1)]; rfl
  | j :: l, s, i, nd => by
    have nd' := List.nodup_cons.mp nd
    show (l.foldl (istep G v) (istep G v s j)).getD i none = _
    rw [fold_at nd'.2]
    have hlen : (istep G v s j).length = s.length := by unfold istep; exact List.length_set ..
    rw [hlen]
    by_cases hl : i < s.length
    · by_cases e : i = j
      · subst e
        rw [if_neg fun z => nd'.1 z.1, if_pos ⟨List.mem_cons_self, hl⟩]
        unfold istep
        rw [List.getD_eq_getElem?_getD, List.getElem?_set_self hl]; rfl
      · have e2 : (istep G v s j).getD i none = s.getD i none := by
          unfold istep
          rw [List.getD_eq_getElem?_getD, List.getElem?_set_ne (Ne.symm e), ← List.getD_eq_getElem?_getD]
        rw [e2]
        by_cases h : i ∈ l
        · rw [if_pos ⟨h, hl⟩, if_pos ⟨List.mem_cons_of_mem _ h, hl⟩]
        · rw [if_neg fun z => h z.1, if_neg fun z => (List.mem_cons.mp z.1).elim e h]
    · rw [if_neg fun z => hl z.2, if_neg fun z => hl z.2]
      have : (istep G v s j)[i]? = none := List.getElem?_eq_none (by rw [hlen]; omega)
      rw [List.getD_eq_getElem?_getD, this, List.getD_eq_getElem?_getD, List.getElem?_eq_none (by omega)]
theorem ours_some {G : Game} {s : Strat} (hS : SOk .o G s) {i : Nat} (hi : i < G.length) (ho : (G.getD i .lose).isOurs = true) : ∃ b, s.getD i none = some b ∧ b < (G.getD i .lose).tgs.length := by
  have h := hS.ok i _ (getD_some hi)
  rw [if_pos (show (G.getD i .lose).isSide .o = true from ho)] at h
  obtain ⟨b, h1, h2⟩ := h
  exact ⟨b, by rw [List.getD_eq_getElem?_getD, h1]; rfl, h2⟩
theorem impr_at {G : Game} {v : List Rat} {s : Strat} (hS : SOk .o G s) {i b : Nat} (hi : i < G.length) (ho : (G.getD i .lose).isOurs = true) (hb : s.getD i none = some b) : (impr G v s).getD i none = some (bestOf (goalsOf v (G.getD i .lose)) b) := by
  unfold impr
  rw [fold_at plcB_nd, if_pos ⟨mem_plcB.mpr ⟨_, getD_some hi, ho⟩, by rw [hS.len]; exact hi⟩, hb]; rfl
theorem impr_not {G : Game} {v : List Rat} {s : Strat} {i : Nat} (hi : i < G.length) (ho : (G.getD i .lose).isOurs = false) : (impr G v s).getD i none = s.getD i none := by
  unfold impr
  rw [fold_at plcB_nd, if_neg fun z => by
    obtain ⟨p, h1, h2⟩ := mem_plcB.mp z.1
    rw [getD_of h1, h2] at ho; cases ho]
/-- one improvement -/
theorem better_all {G : Game} {s t : Strat} (hG : GOk G) (hS : SOk .o G s) (hT : SOk .t G t) :
    (∀ i, i < G.length → (fin G s t).getD i 0 ≤ (fin G (impr G (fin G s t) s) t).getD i 0) ∧
    (impr G (fin G s t) s ≠ s → ∃ i, i < G.length ∧ (fin G s t).getD i 0 < (fin G (impr G (fin G s t) s) t).getD i 0) := by
  have hS' : SOk .o G (impr G (fin G s t) s) := impr_ok hS
  have hC := chain_ok hG hS hT
  have hC' := chain_ok hG hS' hT
  have hc : IsChain (chain G s t) := chain_is
  have hc' : IsChain (chain G (impr G (fin G s t) s) t) := chain_is
  obtain ⟨_, hv, _⟩ := chain_all hC hc
  obtain ⟨_, hv', _⟩ := chain_all hC' hc'
  have hl : (chain G s t).length = G.length := chain_len
  have hl' : (chain G (impr G (fin G s t) s) t).length = G.length := chain_len
  have ge0 := hv.ge hC hc
  -- a place of ours
  have hours : ∀ i, i < G.length → (G.getD i .lose).isOurs = true → ∃ b b', s.getD i none = some b ∧ (impr G (fin G s t) s).getD i none = some b' ∧ brsAt (chain G s t) i = [(1, tgt (G.getD i .lose) b)] ∧ brsAt (chain G (impr G (fin G s t) s) t) i = [(1, tgt (G.getD i .lose) b')] ∧
      tgt (G.getD i .lose) b < G.length ∧ tgt (G.getD i .lose) b' < G.length ∧ (b' = b ∨ (fin G s t).getD (tgt (G.getD i .lose) b) 0 < (fin G s t).getD (tgt (G.getD i .lose) b') 0) := fun i hi ho => by
    obtain ⟨b, h1, h2⟩ := ours_some hS hi ho
    have h3 := impr_at (v := fin G s t) hS hi ho h1
    have hgl : (goalsOf (fin G s t) (G.getD i .lose)).length = (G.getD i .lose).tgs.length := by unfold goalsOf; exact List.length_map ..
    have h4 := bestOf_lt (gs := goalsOf (fin G s t) (G.getD i .lose)) (b := b) (by rw [hgl]; exact h2)
    rw [hgl] at h4
    have hok := hG.ok _ (List.mem_of_getElem? (getD_some hi))
    have htl : ∀ c, c < (G.getD i .lose).tgs.length → tgt (G.getD i .lose) c < G.length := fun c hc => by
      unfold tgt
      rw [List.getD_eq_getElem?_getD, List.getElem?_eq_getElem hc]
      exact hok.tg _ (List.getElem_mem hc)
    refine ⟨b, _, h1, h3, by unfold brsAt; rw [ours_at hi ho h1]; rfl, by unfold brsAt; rw [ours_at hi ho h3]; rfl, htl b h2, htl _ h4, ?_⟩
    rcases bestOf_eq (gs := goalsOf (fin G s t) (G.getD i .lose)) (b := b) with e | e
    · exact .inl e
    · rw [goals_at h2, goals_at h4] at e
      exact .inr e
  have hnot : ∀ i, i < G.length → (G.getD i .lose).isOurs = false → (chain G (impr G (fin G s t) s) t).getD i .lose = (chain G s t).getD i .lose := fun i hi ho => by rw [chain_at hi, chain_at hi, impr_not hi ho]
  have hup : ∀ i, i < G.length → (G.getD i .lose).isFin = false → (fin G s t).getD i 0 ≤ bsum (brsAt (chain G (impr G (fin G s t) s) t) i) (fun j => (fin G s t).getD j 0) := fun i hi hf => by
    have e := hv.all hC hc (i := i) (by rw [hl]; exact hi) (by rw [chain_fin hi]; exact hf)
    have e : (fin G s t).getD i 0 = bsum (brsAt (chain G s t) i) (fun j => (fin G s t).getD j 0) := e
    cases ho : (G.getD i .lose).isOurs with
    | true =>
      obtain ⟨b, b', _, _, h3, h4, _, _, h7⟩ := hours i hi ho
      rw [e, h3, h4, bsum_single, bsum_single]
      rcases h7 with rfl | h7
      · exact Rat.le_refl
      · exact Rat.le_of_lt h7
    | false =>
      have : brsAt (chain G (impr G (fin G s t) s) t) i = brsAt (chain G s t) i := by unfold brsAt; rw [hnot i hi ho]
      rw [this, ← e]; exact Rat.le_refl
  -- where the new strategy reaches no finish, the old numbers are nought
  have hzero : ∀ i, i < G.length → ¬ near (chain G (impr G (fin G s t) s) t) i → (fin G s t).getD i 0 ≤ 0 := fun i0 hi0 hn0 => by
    obtain ⟨i, hi, hni, hmax⟩ := argmax (fun j => (fin G s t).getD j 0) (fun j => ¬ near (chain G (impr G (fin G s t) s) t) j) i0 hi0 hn0
    refine Rat.le_trans (hmax i0 hi0 hn0) (Classical.byContradiction fun hpos => ?_)
    have hpos := Rat.not_le.mp hpos
    have hnf : ∀ j, j < G.length → ¬ near (chain G (impr G (fin G s t) s) t) j → (G.getD j .lose).isFin = false := fun j hj hn => by
      cases e : (G.getD j .lose).isFin with
      | false => rfl
      | true => exact absurd ⟨j, .refl, by rw [chain_fin hj]; exact e⟩ hn
    have hall : ∀ j, Rch (chain G s t) i j → ¬ near (chain G (impr G (fin G s t) s) t) j ∧ (fin G s t).getD j 0 = (fin G s t).getD i 0 := fun j r => by
      induction r with
      | refl => exact ⟨hni, rfl⟩
      | @step j x p r e ht ih =>
        have hj : j < G.length := by rw [← hl]; exact r.lt hC (by rw [hl]; exact hi)
        obtain ⟨n1, n2⟩ := ih
        have hf := hnf j hj n1
        have ev : (fin G s t).getD j 0 = bsum (brsAt (chain G s t) j) (fun k => (fin G s t).getD k 0) := hv.all hC hc (i := j) (by rw [hl]; exact hj) (by rw [chain_fin hj]; exact hf)
        obtain ⟨a1, a2, a3⟩ := at_facts hC hc (i := j) (by rw [hl]; exact hj)
        obtain ⟨a1', a2', _⟩ := at_facts hC' hc' (i := j) (by rw [hl']; exact hj)
        rw [getD_of e] at a1
        rw [a1] at ht
        obtain ⟨br, hbr, rfl⟩ := List.mem_map.mp ht
        have hno : ∀ y, y ∈ (brsAt (chain G (impr G (fin G s t) s) t) j).map (·.2) → ¬ near (chain G (impr G (fin G s t) s) t) y := fun y hy z => n1 (near_step (getD_some (by rw [hl']; exact hj)) (by rw [a1']; exact hy) z)
        cases ho : (G.getD j .lose).isOurs with
        | true =>
          obtain ⟨b, b', _, _, h3, h4, h5, h6, h7⟩ := hours j hj ho
          rw [h3] at hbr ev
          rw [bsum_single] at ev
          have hbr : br = (1, tgt (G.getD j .lose) b) := List.mem_singleton.mp hbr
          subst hbr
          have hn' := hno (tgt (G.getD j .lose) b') (by rw [h4]; exact List.mem_cons_self)
          have hle := hmax _ h6 hn'
          rcases h7 with rfl | h7
          · exact ⟨hn', by show (fin G s t).getD (tgt _ _) 0 = _; rw [← ev, n2]⟩
          · exfalso
            rw [← ev, n2] at h7
            exact absurd (rlt_le h7 hle) Rat.lt_irrefl
        | false =>
          have hbe : brsAt (chain G (impr G (fin G s t) s) t) j = brsAt (chain G s t) j := by unfold brsAt; rw [hnot j hj ho]
          rw [hbe] at hno
          have hsum : sumQ ((brsAt (chain G s t) j).map (·.1)) = 1 := by
            rcases a3 with a3 | a3
            · rw [a3] at hbr; cases hbr
            · exact a3
          refine ⟨hno br.2 (List.mem_map.mpr ⟨br, hbr, rfl⟩), ?_⟩
          exact bsum_eq (M := (fin G s t).getD i 0) (f := fun k => (fin G s t).getD k 0) (fun y hy => ⟨(a2 y hy).2, hmax y.2 (by rw [← hl]; exact (a2 y hy).1) (hno y.2 (List.mem_map.mpr ⟨y, hy, rfl⟩))⟩) (by rw [hsum, Rat.mul_one, ← ev, n2]; exact Rat.le_refl) br hbr
    have hni2 : near (chain G s t) i := Classical.byContradiction fun z => by
      have := hv.out i (by rw [hl]; exact hi) z
      have this : (fin G s t).getD i 0 = 0 := this
      rw [this] at hpos
      exact absurd hpos Rat.lt_irrefl
    obtain ⟨g, hr, hg⟩ := hni2
    have hgl : g < G.length := by rw [← hl]; exact hr.lt hC (by rw [hl]; exact hi)
    refine (hall g hr).1 ⟨g, .refl, ?_⟩
    rw [chain_fin hgl]
    rw [chain_fin hgl] at hg
    exact hg
  have hle : ∀ i, i < G.length → (fin G s t).getD i 0 ≤ (fin G (impr G (fin G s t) s) t).getD i 0 := fun i hi => by
    have := mp hC' hc' (f := fun j => (fin G s t).getD j 0 - (fin G (impr G (fin G s t) s) t).getD j 0) (fun j hj hn hf => by
      rw [hl'] at hj
      rw [chain_fin hj] at hf
      have h1 := hup j hj hf
      have h2 : (fin G (impr G (fin G s t) s) t).getD j 0 = bsum (brsAt (chain G (impr G (fin G s t) s) t) j) (fun k => (fin G (impr G (fin G s t) s) t).getD k 0) := hv'.all hC' hc' (i := j) (by rw [hl']; exact hj) (by rw [chain_fin hj]; exact hf)
      show (fin G s t).getD j 0 - (fin G (impr G (fin G s t) s) t).getD j 0 ≤ bsum _ (fun k => (fin G s t).getD k 0 - (fin G (impr G (fin G s t) s) t).getD k 0)
      rw [bsum_sub, ← h2]
      grind) (fun j hj hh => by
      rw [hl'] at hj
      show (fin G s t).getD j 0 - (fin G (impr G (fin G s t) s) t).getD j 0 ≤ 0
      by_cases hf : (G.getD j .lose).isFin = true
      · have e1 : (fin G s t).getD j 0 = 1 := hv.fin j (by rw [hl]; exact hj) (by rw [chain_fin hj]; exact hf)
        have e2 : (fin G (impr G (fin G s t) s) t).getD j 0 = 1 := hv'.fin j (by rw [hl']; exact hj) (by rw [chain_fin hj]; exact hf)
        rw [e1, e2]; grind
      · rcases hh with hh | hh
        · have e1 := hzero j hj hh
          have e2 : (fin G (impr G (fin G s t) s) t).getD j 0 = 0 := hv'.out j (by rw [hl']; exact hj) hh
          rw [e2]; grind
        · rw [chain_fin hj] at hh; exact absurd hh hf) i (by rw [hl']; exact hi)
    have this : (fin G s t).getD i 0 - (fin G (impr G (fin G s t) s) t).getD i 0 ≤ 0 := this
    grind
  refine ⟨hle, fun hne => ?_⟩
  refine Classical.byContradiction fun hno => hne ?_
  apply List.ext_getElem?
  intro i
  by_cases hi : i < G.length
  · have g1 : (impr G (fin G s t) s)[i]? = some ((impr G (fin G s t) s).getD i none) := by rw [List.getD_eq_getElem?_getD, List.getElem?_eq_getElem (by rw [hS'.len]; exact hi)]; rfl
    have g2 : s[i]? = some (s.getD i none) := by rw [List.getD_eq_getElem?_getD, List.getElem?_eq_getElem (by rw [hS.len]; exact hi)]; rfl
    rw [g1, g2]
    cases ho : (G.getD i .lose).isOurs with
    | true =>
      obtain ⟨b, b', h1, h2, h3, h4, h5, h6, h7⟩ := hours i hi ho
      rcases h7 with rfl | h7
      · rw [h1, h2]
      · exfalso
        have hf : (G.getD i .lose).isFin = false := by
          generalize G.getD i .lose = p at ho
          cases p <;> first | rfl | cases ho
        have e1 : (fin G s t).getD i 0 = bsum (brsAt (chain G s t) i) (fun k => (fin G s t).getD k 0) := hv.all hC hc (i := i) (by rw [hl]; exact hi) (by rw [chain_fin hi]; exact hf)
        have e2 : (fin G (impr G (fin G s t) s) t).getD i 0 = bsum (brsAt (chain G (impr G (fin G s t) s) t) i) (fun k => (fin G (impr G (fin G s t) s) t).getD k 0) := hv'.all hC' hc' (i := i) (by rw [hl']; exact hi) (by rw [chain_fin hi]; exact hf)
        rw [h3, bsum_single] at e1
        rw [h4, bsum_single] at e2
        refine hno ⟨i, hi, ?_⟩
        rw [e1, e2]
        exact rlt_le h7 (hle _ h6)
    | false => rw [impr_not hi ho]
  · rw [List.getElem?_eq_none (by rw [hS'.len]; omega), List.getElem?_eq_none (by rw [hS.len]; omega)]
end K51
set_option Elab.async false
set_option linter.all false
set_option maxHeartbeats 1000000
/-! the iteration ends: plain Lean -/
namespace K51
theorem sm_lt {n t0 : Nat} {f g : Nat → Rat} (h : ∀ t, t < n → f t ≤ g t) (ht : t0 < n) (hs : f t0 < g t0) : sm n f < sm n g := by
  rw [sm_one ht, sm_one (f := g) ht]
  have := sm_le (n := n) (f := fun t => if t = t0 then 0 else f t) (g := fun t => if t = t0 then 0 else g t) fun t h2 => by
    show (if t = t0 then (0 : Rat) else f t) ≤ if t = t0 then 0 else g t
    by_cases e : t = t0
    · rw [if_pos e, if_pos e]; exact Rat.le_refl
    · rw [if_neg e, if_neg e]; exact h t h2
  generalize sm n (fun t => if t = t0 then 0 else f t) = S1 at *
  generalize sm n (fun t => if t = t0 then 0 else g t) = S2 at *
  grind
def opts : List (Option Nat) := none :: (List.range 6).map some
def allS : Nat → List Strat
  | 0 => [[]]
  | n + 1 => (allS n).flatMap fun s => opts.map fun o => o :: s
theorem allS_mem : ∀ {n : Nat} {s : Strat}, s.length = n → (∀ o ∈ s, o ∈ opts) → s ∈ allS n
  | 0, s, hl, _ => by
    rw [List.length_eq_zero_iff.mp hl]; exact List.mem_singleton.mpr rfl
  | n + 1, [], hl, _ => by simp at hl
  | n + 1, o :: s, hl, ho => by
    show o :: s ∈ (allS n).flatMap _
    rw [List.mem_flatMap]
    exact ⟨s, allS_mem (by simpa using hl) fun x hx => ho x (List.mem_cons_of_mem _ hx), List.mem_map.mpr ⟨o, ho o List.mem_cons_self, rfl⟩⟩
theorem sok_mem {G : Game} (hG : GOk G) {s : Strat} (hS : SOk .o G s) : s ∈ allS G.length := by
  refine allS_mem hS.len fun o ho => ?_
  obtain ⟨i, hi⟩ := List.mem_iff_getElem?.mp ho
  have hl : i < G.length := by rw [← hS.len]; exact (List.getElem?_eq_some_iff.mp hi).1
  have h := hS.ok i _ (getD_some hl)
  have hok := hG.ok _ (List.mem_of_getElem? (getD_some hl))
  by_cases hs : (G.getD i .lose).isSide .o = true
  · rw [if_pos hs] at h
    obtain ⟨b, h1, h2⟩ := h
    rw [hi] at h1; cases h1
    have := hok.few
    exact List.mem_cons_of_mem _ (List.mem_map.mpr ⟨b, List.mem_range.mpr (by omega), rfl⟩)
  · rw [if_neg hs] at h
    rw [hi] at h; cases h
    exact List.mem_cons_self
theorem filter_lt {α : Type} {l : List α} {p q : α → Bool} (h : ∀ x, p x = true → q x = true) {x : α} (hx : x ∈ l) (hq : q x = true) (hp : p x = false) : (l.filter p).length < (l.filter q).length := by
  have hle : ∀ l : List α, (l.filter p).length ≤ (l.filter q).length := fun l => by
    induction l with
    | nil => exact Nat.le_refl _
    | cons y l ih =>
      cases e : p y with
      | true => rw [List.filter_cons_of_pos e, List.filter_cons_of_pos (h y e)]; simpa using ih
      | false =>
        rw [List.filter_cons_of_neg (by rw [e]; simp)]
        cases e2 : q y with
        | true => rw [List.filter_cons_of_pos e2, List.length_cons]; omega
        | false => rw [List.filter_cons_of_neg (by rw [e2]; simp)]; exact ih
  induction l with
  | nil => cases hx
  | cons y l ih =>
    rcases List.mem_cons.mp hx with rfl | hx
    · rw [List.filter_cons_of_neg (by rw [hp]; simp), List.filter_cons_of_pos hq, List.length_cons]
      have := hle l
      omega
    · have ih := ih hx
      cases e : p y with
      | true => rw [List.filter_cons_of_pos e, List.filter_cons_of_pos (h y e)]; simpa using ih
      | false =>
        rw [List.filter_cons_of_neg (by rw [e]; simp)]
        cases e2 : q y with
        | true => rw [List.filter_cons_of_pos e2, List.length_cons]; omega
        | false => rw [List.filter_cons_of_neg (by rw [e2]; simp)]; exact ih
noncomputable def tot (G : Game) (t s : Strat) : Rat := sm G.length fun i => (fin G s t).getD i 0
theorem ga_ok {G : Game} {t : Strat} (hG : GOk G) (hT : SOk .t G t) : GaOk G t := by
  refine ⟨hG, hT, fun s hS => (chain_all (chain_ok hG hS hT) chain_is).1, fun s hS q hq => ?_, ?_⟩
  · obtain ⟨i, hi⟩ := List.mem_iff_getElem?.mp hq
    have hl : i < (fin G s t).length := (List.getElem?_eq_some_iff.mp hi).1
    have h := (chain_all (chain_ok hG hS hT) chain_is).2.2 i (by rw [chain_len, ← fin_len (G := G) (s := s) (t := t)]; exact hl)
    have e : (chv (chain G s t)).getD i 0 = q := by
      have : (fin G s t).getD i 0 = q := by rw [List.getD_eq_getElem?_getD, hi]; rfl
      exact this
    rw [e] at h
    exact h.mono (by decide)
  · refine ⟨fun k => ((allS G.length).filter fun s => decide (tot G t (gaIt G t k) < tot G t s)).length, fun k hne => ?_⟩
    have hk := gaIt_ok (t := t) hG k
    have hk1 := gaIt_ok (t := t) hG (k + 1)
    obtain ⟨h1, h2⟩ := better_all hG hk hT
    obtain ⟨i, hi, hlt⟩ := h2 hne
    have hs : tot G t (gaIt G t k) < tot G t (gaIt G t (k + 1)) := sm_lt (f := fun i => (fin G (gaIt G t k) t).getD i 0) (g := fun i => (fin G (gaIt G t (k + 1)) t).getD i 0) h1 hi hlt
    exact filter_lt (fun s hp => decide_eq_true (rlt_le hs (Rat.le_of_lt (of_decide_eq_true hp)))) (sok_mem hG hk1) (decide_eq_true hs) (decide_eq_false Rat.lt_irrefl)
end K51
set_option Elab.async false
set_option linter.all false
set_option maxHeartbeats 1000000
/-! what the law asks of the end: plain Lean -/
namespace K51
theorem lmean_eq {bs : List (Rat × Nat)} {v : List Rat} : lmean bs v = bsum bs fun i => v.getD i 0 := by
  have aux : ∀ (cs : List (Rat × Nat)) (q : Rat), cs.foldl (fun f b => f + b.1 * v.getD b.2 0) q = q + bsum cs fun i => v.getD i 0 := by
    intro cs
    induction cs with
    | nil => intro q; show q = q + 0; grind
    | cons b cs ih => intro q; show cs.foldl (fun f b => f + b.1 * v.getD b.2 0) (q + b.1 * v.getD b.2 0) = q + (b.1 * v.getD b.2 0 + bsum cs fun i => v.getD i 0); rw [ih]; grind
  unfold lmean
  rw [aux]; grind
theorem gls_eq {G : Game} {s t : Strat} {i : Nat} (hi : i < G.length) : gls (G.getD i .lose) s t i = ((chain G s t).getD i .lose).tgs := by rw [chain_at hi]; rfl
/-! the law's own search finds what reaches a finish -/
section
variable {G : Game} {s t : Strat}
def Clo (G : Game) (s t : Strat) (fd : List Nat) : Prop := ∀ x, x < G.length → (∃ g, g ∈ gls (G.getD x .lose) s t x ∧ g ∈ fd) → x ∈ fd
theorem rstp_mem {fd : List Nat} {x : Nat} : x ∈ rstp (fun k => gls (G.getD k .lose) s t k) G.length fd ↔ x ∈ fd ∨ (x < G.length ∧ x ∉ fd ∧ ∃ g, g ∈ gls (G.getD x .lose) s t x ∧ g ∈ fd) := by
  unfold rstp
  rw [List.mem_append, List.mem_filter, List.mem_range, Bool.and_eq_true, List.any_eq_true]
  constructor
  · rintro (h | ⟨h1, h2, b, hb, hb2⟩)
    · exact .inl h
    · obtain ⟨g, hg, rfl⟩ := List.mem_map.mp hb
      refine .inr ⟨h1, fun z => ?_, g, hg, of_decide_eq_true hb2⟩
      rw [decide_eq_true z] at h2; cases h2
  · rintro (h | ⟨h1, h2, g, hg, hg2⟩)
    · exact .inl h
    · exact .inr ⟨h1, by rw [decide_eq_false h2]; rfl, _, List.mem_map.mpr ⟨g, hg, rfl⟩, decide_eq_true hg2⟩
theorem rit_near (hG : GOk G) (hS : SOk .o G s) (hT : SOk .t G t) : ∀ j, ∀ x ∈ rit G s t j, x < G.length ∧ near (chain G s t) x
  | 0, x, hx => by
    obtain ⟨h1, h2⟩ := List.mem_filter.mp hx
    have hl := List.mem_range.mp h1
    exact ⟨hl, x, .refl, by rw [chain_fin hl]; exact h2⟩
  | j + 1, x, hx => by
    rcases rstp_mem.mp hx with h | ⟨h1, _, g, hg, hg2⟩
    · exact rit_near hG hS hT j x h
    · have := (rit_near hG hS hT j g hg2).2
      rw [gls_eq h1] at hg
      exact ⟨h1, near_step (getD_some (by rw [chain_len]; exact h1)) hg this⟩
theorem rit_nd : ∀ j, (rit G s t j).Nodup
  | 0 => List.nodup_range.filter _
  | j + 1 => by
    show (rstp _ _ (rit G s t j)).Nodup
    unfold rstp
    refine List.nodup_append.mpr ⟨rit_nd j, List.nodup_range.filter _, fun a ha b hb e => ?_⟩
    subst e
    have := (List.mem_filter.mp hb).2
    rw [Bool.and_eq_true] at this
    rw [decide_eq_true ha] at this
    cases this.1
theorem rit_sub : ∀ j x, x ∈ rit G s t 0 → x ∈ rit G s t j
  | 0, x, h => h
  | j + 1, x, h => rstp_mem.mpr (.inl (rit_sub j x h))
theorem rit_clo : ∀ j, Clo G s t (rit G s t j) ∨ j + 1 ≤ (rit G s t j).length
  | 0 => by
    refine Classical.byContradiction fun hn => ?_
    refine hn (.inl fun x hx ⟨g, h1, h2⟩ => ?_)
    exfalso
    exact hn (.inr (List.length_pos_iff.mpr fun e => by rw [e] at h2; cases h2))
  | j + 1 => by
    by_cases hc : Clo G s t (rit G s t j)
    · left
      have he : ∀ x, x ∈ rit G s t (j + 1) ↔ x ∈ rit G s t j := fun x => by
        show x ∈ rstp _ _ (rit G s t j) ↔ _
        rw [rstp_mem]
        exact ⟨fun h => h.elim id fun ⟨a, b, c⟩ => hc x a c, .inl⟩
      exact fun x hx ⟨g, h1, h2⟩ => (he x).mpr (hc x hx ⟨g, h1, (he g).mp h2⟩)
    · right
      have ih := (rit_clo j).resolve_left hc
      obtain ⟨x, hx⟩ := Classical.not_forall.mp hc
      obtain ⟨hl, hx⟩ := Classical.not_imp.mp hx
      obtain ⟨hg, hn⟩ := Classical.not_imp.mp hx
      obtain ⟨g, hg1, hg2⟩ := hg
      show j + 1 + 1 ≤ (rstp _ _ (rit G s t j)).length
      have hm : x ∈ (List.range G.length).filter (fun k => !decide (k ∈ rit G s t j) && ((gls (G.getD k .lose) s t k).map fun g => decide (g ∈ rit G s t j)).any id) := by
        rw [List.mem_filter, List.mem_range, Bool.and_eq_true, List.any_eq_true]
        exact ⟨hl, by rw [decide_eq_false hn]; rfl, _, List.mem_map.mpr ⟨g, hg1, rfl⟩, decide_eq_true hg2⟩
      have := List.length_pos_of_mem hm
      unfold rstp
      rw [List.length_append]
      exact Nat.add_le_add ih this
theorem near_rit (hG : GOk G) (hS : SOk .o G s) (hT : SOk .t G t) {i : Nat} (hi : i < G.length) (hn : near (chain G s t) i) : i ∈ rit G s t G.length := by
  have hclo : Clo G s t (rit G s t G.length) := (rit_clo G.length).resolve_right fun h => by
    have := nodup_len (rit_nd (G := G) (s := s) (t := t) G.length) fun x hx => (rit_near hG hS hT _ x hx).1
    omega
  obtain ⟨g, hr, hg⟩ := hn
  have key : ∀ j, Rch (chain G s t) i j → j ∈ rit G s t G.length → i ∈ rit G s t G.length := fun j r => by
    induction r with
    | refl => exact fun h => h
    | @step j x p r e ht ih =>
      intro hx
      have hj : j < G.length := by
        rw [← chain_len (G := G) (s := s) (t := t)]
        exact r.lt (chain_ok hG hS hT) (by rw [chain_len]; exact hi)
      exact ih (hclo j hj ⟨x, by rw [gls_eq hj, getD_of e]; exact ht, hx⟩)
  have hgl : g < G.length := by
    rw [← chain_len (G := G) (s := s) (t := t)]
    exact hr.lt (chain_ok hG hS hT) (by rw [chain_len]; exact hi)
  refine key g hr (rit_sub _ g ?_)
  exact List.mem_filter.mpr ⟨List.mem_range.mpr hgl, by rw [← chain_fin hgl]; exact hg⟩
end
theorem num_ok {G : Game} {s t : Strat} (hG : GOk G) (hS : SOk .o G s) (hT : SOk .t G t) : NumOk G (fin G s t) := by
  obtain ⟨_, hv, hz⟩ := chain_all (chain_ok hG hS hT) (chain_is (G := G) (s := s) (t := t))
  have hl : (chain G s t).length = G.length := chain_len
  have at' : ∀ q ∈ fin G s t, ∃ i, i < G.length ∧ (fin G s t).getD i 0 = q := fun q hq => by
    obtain ⟨i, hi⟩ := List.mem_iff_getElem?.mp hq
    refine ⟨i, by rw [← fin_len (G := G) (s := s) (t := t)]; exact (List.getElem?_eq_some_iff.mp hi).1, ?_⟩
    rw [List.getD_eq_getElem?_getD, hi]; rfl
  refine ⟨fin_len, fun q hq => ?_, fun q hq => ?_, fun q hq => ?_, fun i pl hi hf => ?_, fun i pl hi hf => ?_⟩
  · obtain ⟨i, hi, rfl⟩ := at' q hq
    exact hz i (by rw [hl]; exact hi)
  · obtain ⟨i, hi, rfl⟩ := at' q hq
    exact hv.ge (chain_ok hG hS hT) chain_is i (by rw [hl]; exact hi)
  · obtain ⟨i, hi, rfl⟩ := at' q hq
    exact hv.le (chain_ok hG hS hT) chain_is i (by rw [hl]; exact hi)
  · have hil : i < G.length := (List.getElem?_eq_some_iff.mp hi).1
    exact hv.fin i (by rw [hl]; exact hil) (by rw [chain_fin hil, getD_of hi]; exact hf)
  · have hil : i < G.length := (List.getElem?_eq_some_iff.mp hi).1
    have e := hv.all (chain_ok hG hS hT) chain_is (i := i) (by rw [hl]; exact hil) (by rw [chain_fin hil, getD_of hi]; cases pl <;> first | rfl | cases hf)
    have hb : brsAt (chain G s t) i = [] := by
      unfold brsAt
      rw [chain_at hil, getD_of hi]
      cases pl <;> first | rfl | cases hf
    rw [hb] at e
    exact e
/-- a place that is no finish, by its branches -/
theorem fin_all {G : Game} {s t : Strat} (hG : GOk G) (hS : SOk .o G s) (hT : SOk .t G t) {i : Nat} {pl : Pl} (hi : G[i]? = some pl) (hf : pl.isFin = false) : (fin G s t).getD i 0 = bsum (put .t (put .o pl (s.getD i none)) (t.getD i none)).brs fun j => (fin G s t).getD j 0 := by
  obtain ⟨_, hv, _⟩ := chain_all (chain_ok hG hS hT) (chain_is (G := G) (s := s) (t := t))
  have hil : i < G.length := (List.getElem?_eq_some_iff.mp hi).1
  have e := hv.all (chain_ok hG hS hT) chain_is (i := i) (by rw [chain_len]; exact hil) (by rw [chain_fin hil, getD_of hi]; exact hf)
  unfold brsAt at e
  rw [chain_at hil, getD_of hi] at e
  exact e
theorem math_ok : MathOk := fun G t hG hT => by
  refine ⟨ga_ok hG hT, fun k hst => ?_⟩
  have hS := gaIt_ok (t := t) hG k
  have hstop : impr G (fin G (gaIt G t k) t) (gaIt G t k) = gaIt G t k := hst.2
  generalize gaIt G t k = s at hS hstop
  have hN := num_ok hG hS hT
  obtain ⟨_, hv, _⟩ := chain_all (chain_ok hG hS hT) (chain_is (G := G) (s := s) (t := t))
  have hstr : ∀ (i b : Nat), i < G.length → t.getD i none = some b → True := fun _ _ _ _ => trivial
  have theirs : ∀ (i : Nat) (ts : List Nat), G[i]? = some (.theirs ts) → ∃ b, t.getD i none = some b ∧ ∃ h : b < ts.length, ts[b] < G.length := fun i ts hi => by
    have h := hT.ok i _ hi
    rw [if_pos (show (Pl.theirs ts).isSide .t = true from rfl)] at h
    obtain ⟨b, h1, h2⟩ := h
    have hok := hG.ok _ (List.mem_of_getElem? hi)
    exact ⟨b, by rw [List.getD_eq_getElem?_getD, h1]; rfl, h2, hok.2.2 _ (List.getElem_mem h2)⟩
  have ours : ∀ (i : Nat) (ts : List Nat), G[i]? = some (.ours ts) → ∃ b, s.getD i none = some b ∧ ∃ h : b < ts.length, ts[b] < G.length := fun i ts hi => by
    have h := hS.ok i _ hi
    rw [if_pos (show (Pl.ours ts).isSide .o = true from rfl)] at h
    obtain ⟨b, h1, h2⟩ := h
    have hok := hG.ok _ (List.mem_of_getElem? hi)
    exact ⟨b, by rw [List.getD_eq_getElem?_getD, h1]; rfl, h2, hok.2.2 _ (List.getElem_mem h2)⟩
  have getb : ∀ (ts : List Nat) (b : Nat) (h : b < ts.length), ts.getD b 0 = ts[b] := fun ts b h => by
    rw [List.getD_eq_getElem?_getD, List.getElem?_eq_getElem h]; rfl
  constructor
  · refine ⟨hN, fun i hi hno => ?_, fun i bs _ hi => ?_, fun i pl hin hi hd hf => ?_⟩
    · exact hv.out i (by rw [chain_len]; exact hi) fun z => hno (near_rit hG hS hT hi z)
    · rw [fin_all hG hS hT hi rfl, lmean_eq]; rfl
    · have e := fin_all hG hS hT hi hf
      have hok := hG.ok _ (List.mem_of_getElem? hi)
      have hil : i < G.length := (List.getElem?_eq_some_iff.mp hi).1
      cases pl with
      | draw bs => cases hd
      | finish => cases hf
      | lose =>
        exfalso
        obtain ⟨g, hr, hg⟩ := (rit_near hG hS hT _ i hin).2
        have ht : ((chain G s t).getD i .lose) = .lose := by rw [chain_at hil, getD_of hi]; rfl
        have : ∀ j, Rch (chain G s t) i j → j = i := fun j r => by
          induction r with
          | refl => rfl
          | step _ e2 ht2 ih =>
            subst ih
            rw [getD_of e2] at ht
            rw [ht] at ht2; cases ht2
        rw [this g hr, ht] at hg; cases hg
      | reward am x =>
        exact ⟨x, rfl, hok.1, by rw [e]; exact bsum_single⟩
      | ours ts =>
        obtain ⟨b, hb, hbl, hbt⟩ := ours i ts hi
        refine ⟨ts[b], ?_, hbt, ?_⟩
        · unfold gls
          rw [hb]
          show some (ts.getD b 0) = _
          rw [getb ts b hbl]
        · rw [e, hb]
          show bsum [(1, ts.getD b 0)] _ = _
          rw [bsum_single, getb ts b hbl]
      | theirs ts =>
        obtain ⟨b, hb, hbl, hbt⟩ := theirs i ts hi
        refine ⟨ts[b], ?_, hbt, ?_⟩
        · unfold gls
          rw [hb]
          show some (ts.getD b 0) = _
          rw [getb ts b hbl]
        · rw [e, hb]
          show bsum [(1, ts.getD b 0)] _ = _
          rw [bsum_single, getb ts b hbl]
  · refine ⟨hN, fun i bs hi => ?_, fun i pl hi hd g hg => ?_⟩
    · rw [fin_all hG hS hT hi rfl, lmean_eq]; exact Rat.le_refl
    · have hok := hG.ok _ (List.mem_of_getElem? hi)
      have hil : i < G.length := (List.getElem?_eq_some_iff.mp hi).1
      cases pl with
      | draw bs => cases hd
      | finish => cases hg
      | lose => cases hg
      | reward am x =>
        have e := fin_all hG hS hT hi rfl
        have hg : g = x := List.mem_singleton.mp hg
        subst hg
        refine ⟨hok.1, ?_⟩
        rw [e]
        show _ ≤ bsum [(1, g)] _
        rw [bsum_single]; exact Rat.le_refl
      | theirs ts =>
        have e := fin_all hG hS hT hi rfl
        obtain ⟨b, hb, hbl, hbt⟩ := theirs i ts hi
        rw [hb] at hg
        have hg : g = ts.getD b 0 := List.mem_singleton.mp hg
        rw [getb ts b hbl] at hg
        subst hg
        refine ⟨hbt, ?_⟩
        rw [e, hb]
        show _ ≤ bsum [(1, ts.getD b 0)] _
        rw [bsum_single, getb ts b hbl]; exact Rat.le_refl
      | ours ts =>
        have e := fin_all hG hS hT hi rfl
        obtain ⟨b, hb, hbl, hbt⟩ := ours i ts hi
        have hg : g ∈ ts := hg
        refine ⟨hok.2.2 g hg, ?_⟩
        rw [e, hb]
        show _ ≤ bsum [(1, ts.getD b 0)] _
        rw [bsum_single]
        obtain ⟨j, hj, rfl⟩ := List.mem_iff_getElem.mp hg
        have ho : (G.getD i .lose).isOurs = true := by rw [getD_of hi]; rfl
        have h1 := impr_at (v := fin G s t) hS hil ho hb
        rw [hstop, hb, getD_of hi] at h1
        have h1 := Option.some.inj h1
        have h2 := bestOf_ge (gs := goalsOf (fin G s t) (.ours ts)) (b := b) (i := j) (by unfold goalsOf; rw [List.length_map]; exact hj)
        rw [← h1, goals_at (p := .ours ts) hj, goals_at (p := .ours ts) hbl] at h2
        have e1 : tgt (.ours ts) j = ts[j] := getb ts j hj
        have e2 : tgt (.ours ts) b = ts.getD b 0 := rfl
        rw [e1, e2] at h2
        exact h2
end K51
open PySem PySem.W PyProof.Rows
set_option Elab.async false
set_option maxRecDepth 100000 in
set_option maxHeartbeats 0 in
theorem PySem.Challenge.cw_oddkeep_k51_whole_greatest_chances_holds : PySem.Challenge.rw_oddkeep_k51_whole_greatest_chances.Holds := by
  w_on; o_law; k_head; (case hw => w_witness2)
  k_fill
  refine Att.attach_call (l := PySem.Challenge.rw_oddkeep_k51_whole_greatest_chances) (n := 63) rfl rfl fun w s₀ s₁ mg mb fa o pm cd doc a vs ns G Y ho hd hcd hmg hobj hints hlen hg => ?_
  refine K51.law_end K51.math_ok (PySem.W.kIn_of Y) G.T.g G.T.b G.T.builtins G.T.nolimit hg hmg hobj hints hlen ?A
  case A =>
    refine' K51.KAll.mk ?d_number ?d_compare ?d_plus ?d_minus ?d_times ?d_divided ?d_targets ?d_places_of ?d_copy_of ?d_with_strategy ?d_reached ?d_scaled ?d_without ?d_reduced ?d_solution_of ?d_only_solution ?d_branches ?d_all_reached ?d_means ?d_chances ?d_first_choices ?d_better ?d_improved ?d_finishing ?d_greatest_against ?d_law_pool ?d_law_stream ?d_law_pick ?d_law_lowest ?d_law_place ?d_law_game ?d_law_strategy ?d_law_is_strategy ?d_law_is_number ?d_law_is_numbers ?d_law_less ?d_law_are_numbers ?d_law_targets ?d_law_goals ?d_law_reaching ?d_law_add ?d_law_mul ?d_law_mean ?d_law_are_chances ?d_law_counted ?d_law_upper ?d_law ?c_one ?c_nought ?b_gcd ?z_int ?z_list ?z_enumerate ?z_zip ?z_range ?z_len ?z_any ?z_all ?z_sum ?z_abs ?z_min ?z_sorted ?z_isinstance ?z_repr ?z_tuple ?z_bool
    case d_number => refine' K51.kdef_mk ?a ?l ?c ?k; (case a => k_is); (case l => k_is); (case c => k_is); (case k => k_is)
    case d_compare => refine' K51.kdef_mk ?a ?l ?c ?k; (case a => k_is); (case l => k_is); (case c => k_is); (case k => k_is)
    case d_plus => refine' K51.kdef_mk ?a ?l ?c ?k; (case a => k_is); (case l => k_is); (case c => k_is); (case k => k_is)
    case d_minus => refine' K51.kdef_mk ?a ?l ?c ?k; (case a => k_is); (case l => k_is); (case c => k_is); (case k => k_is)
    case d_times => refine' K51.kdef_mk ?a ?l ?c ?k; (case a => k_is); (case l => k_is); (case c => k_is); (case k => k_is)
    case d_divided => refine' K51.kdef_mk ?a ?l ?c ?k; (case a => k_is); (case l => k_is); (case c => k_is); (case k => k_is)
    case d_targets => refine' K51.kdef_mk ?a ?l ?c ?k; (case a => k_is); (case l => k_is); (case c => k_is); (case k => k_is)
    case d_places_of => refine' K51.kdef_mk ?a ?l ?c ?k; (case a => k_is); (case l => k_is); (case c => k_is); (case k => k_is)
    case d_copy_of => refine' K51.kdef_mk ?a ?l ?c ?k; (case a => k_is); (case l => k_is); (case c => k_is); (case k => k_is)
    case d_with_strategy => refine' K51.kdef_mk ?a ?l ?c ?k; (case a => k_is); (case l => k_is); (case c => k_is); (case k => k_is)
    case d_reached => refine' K51.kdef_mk ?a ?l ?c ?k; (case a => k_is); (case l => k_is); (case c => k_is); (case k => k_is)
    case d_scaled => refine' K51.kdef_mk ?a ?l ?c ?k; (case a => k_is); (case l => k_is); (case c => k_is); (case k => k_is)
    case d_without => refine' K51.kdef_mk ?a ?l ?c ?k; (case a => k_is); (case l => k_is); (case c => k_is); (case k => k_is)
    case d_reduced => refine' K51.kdef_mk ?a ?l ?c ?k; (case a => k_is); (case l => k_is); (case c => k_is); (case k => k_is)
    case d_solution_of => refine' K51.kdef_mk ?a ?l ?c ?k; (case a => k_is); (case l => k_is); (case c => k_is); (case k => k_is)
    case d_only_solution => refine' K51.kdef_mk ?a ?l ?c ?k; (case a => k_is); (case l => k_is); (case c => k_is); (case k => k_is)
    case d_branches => refine' K51.kdef_mk ?a ?l ?c ?k; (case a => k_is); (case l => k_is); (case c => k_is); (case k => k_is)
    case d_all_reached => refine' K51.kdef_mk ?a ?l ?c ?k; (case a => k_is); (case l => k_is); (case c => k_is); (case k => k_is)
    case d_means => refine' K51.kdef_mk ?a ?l ?c ?k; (case a => k_is); (case l => k_is); (case c => k_is); (case k => k_is)
    case d_chances => refine' K51.kdef_mk ?a ?l ?c ?k; (case a => k_is); (case l => k_is); (case c => k_is); (case k => k_is)
    case d_first_choices => refine' K51.kdef_mk ?a ?l ?c ?k; (case a => k_is); (case l => k_is); (case c => k_is); (case k => k_is)
    case d_better => refine' K51.kdef_mk ?a ?l ?c ?k; (case a => k_is); (case l => k_is); (case c => k_is); (case k => k_is)
    case d_improved => refine' K51.kdef_mk ?a ?l ?c ?k; (case a => k_is); (case l => k_is); (case c => k_is); (case k => k_is)
    case d_finishing => refine' K51.kdef_mk ?a ?l ?c ?k; (case a => k_is); (case l => k_is); (case c => k_is); (case k => k_is)
    case d_greatest_against => refine' K51.kdef_mk ?a ?l ?c ?k; (case a => k_is); (case l => k_is); (case c => k_is); (case k => k_is)
    case d_law_pool => refine' K51.kdef_mk ?a ?l ?c ?k; (case a => k_is); (case l => k_is); (case c => k_is); (case k => k_is)
    case d_law_stream => refine' K51.kdef_mk ?a ?l ?c ?k; (case a => k_is); (case l => k_is); (case c => k_is); (case k => k_is)
    case d_law_pick => refine' K51.kdef_mk ?a ?l ?c ?k; (case a => k_is); (case l => k_is); (case c => k_is); (case k => k_is)
    case d_law_lowest => refine' K51.kdef_mk ?a ?l ?c ?k; (case a => k_is); (case l => k_is); (case c => k_is); (case k => k_is)
    case d_law_place => refine' K51.kdef_mk ?a ?l ?c ?k; (case a => k_is); (case l => k_is); (case c => k_is); (case k => k_is)
    case d_law_game => refine' K51.kdef_mk ?a ?l ?c ?k; (case a => k_is); (case l => k_is); (case c => k_is); (case k => k_is)
    case d_law_strategy => refine' K51.kdef_mk ?a ?l ?c ?k; (case a => k_is); (case l => k_is); (case c => k_is); (case k => k_is)
    case d_law_is_strategy => refine' K51.kdef_mk ?a ?l ?c ?k; (case a => k_is); (case l => k_is); (case c => k_is); (case k => k_is)
    case d_law_is_number => refine' K51.kdef_mk ?a ?l ?c ?k; (case a => k_is); (case l => k_is); (case c => k_is); (case k => k_is)
    case d_law_is_numbers => refine' K51.kdef_mk ?a ?l ?c ?k; (case a => k_is); (case l => k_is); (case c => k_is); (case k => k_is)
    case d_law_less => refine' K51.kdef_mk ?a ?l ?c ?k; (case a => k_is); (case l => k_is); (case c => k_is); (case k => k_is)
    case d_law_are_numbers => refine' K51.kdef_mk ?a ?l ?c ?k; (case a => k_is); (case l => k_is); (case c => k_is); (case k => k_is)
    case d_law_targets => refine' K51.kdef_mk ?a ?l ?c ?k; (case a => k_is); (case l => k_is); (case c => k_is); (case k => k_is)
    case d_law_goals => refine' K51.kdef_mk ?a ?l ?c ?k; (case a => k_is); (case l => k_is); (case c => k_is); (case k => k_is)
    case d_law_reaching => refine' K51.kdef_mk ?a ?l ?c ?k; (case a => k_is); (case l => k_is); (case c => k_is); (case k => k_is)
    case d_law_add => refine' K51.kdef_mk ?a ?l ?c ?k; (case a => k_is); (case l => k_is); (case c => k_is); (case k => k_is)
    case d_law_mul => refine' K51.kdef_mk ?a ?l ?c ?k; (case a => k_is); (case l => k_is); (case c => k_is); (case k => k_is)
    case d_law_mean => refine' K51.kdef_mk ?a ?l ?c ?k; (case a => k_is); (case l => k_is); (case c => k_is); (case k => k_is)
    case d_law_are_chances => refine' K51.kdef_mk ?a ?l ?c ?k; (case a => k_is); (case l => k_is); (case c => k_is); (case k => k_is)
    case d_law_counted => refine' K51.kdef_mk ?a ?l ?c ?k; (case a => k_is); (case l => k_is); (case c => k_is); (case k => k_is)
    case d_law_upper => refine' K51.kdef_mk ?a ?l ?c ?k; (case a => k_is); (case l => k_is); (case c => k_is); (case k => k_is)
    case d_law => refine' K51.kdef_mk ?a ?l ?c ?k; (case a => k_is); (case l => k_is); (case c => k_is); (case k => k_is)
    case c_one => refine' K51.kpair_mk ?a ?l; (case a => k_is); (case l => k_is)
    case c_nought => refine' K51.kpair_mk ?a ?l; (case a => k_is); (case l => k_is)
    case b_gcd => k_is
    case z_int => k_is
    case z_list => k_is
    case z_enumerate => k_is
    case z_zip => k_is
    case z_range => k_is
    case z_len => k_is
    case z_any => k_is
    case z_all => k_is
    case z_sum => k_is
    case z_abs => k_is
    case z_min => k_is
    case z_sorted => k_is
    case z_isinstance => k_is
    case z_repr => k_is
    case z_tuple => k_is
    case z_bool => k_is
