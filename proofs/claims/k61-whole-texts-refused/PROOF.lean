import PyProof.Rows.All
import Wide.All
import OpenK.AllK
import Wide.FinOn
import KE.DataCmp
import KE.DataEq
import HandS.ForMost
import HandS.ForExc
import HandS.TupAny
import HandS.Star
import HandS.IsInst
import HandS.Walk
import HandS.Zip
import HandS.RaiseMore
import KE.GoesEnum
import HandS.ExcInit
import HandS.WordsExc
import HandS.Style
import HandS.Strs
import KE.KSuper
import KE.KExcSuper
import HandS.Defaults
import PyProof.FitsReplace
import HandS.ExcValue
import KE.KTryMore
import KE.KExcIs
import KE.KStateDown
import HandS.Head0
import HandS.Head1
import HandS.Head2
import HandS.HeadEnd
import HandS.HeadHook1
import HandS.HeadHook2
import HandS.HeadHook3
import HandS.HeadHook4
import HandS.Lambda
import HandS.Dict
import HandS.Wide
import KE.KDictKeyed
import KE.KeyNested
import KE.SortData
import HandS.Conv
import PyProof.ReprLen
import PyProof.ReprRoads
import HandS.EndBits
import HandS.EndTab
import Lean
import PySem.Challenge.RW_wakebook_k61_whole_texts_refused
set_option Elab.async false
set_option linter.all false
section D1_text
set_option maxRecDepth 100000
set_option maxHeartbeats 2000000
namespace DL
open PySem PySem.Spec PyProof.Rows L2 StX
open PySem.W (alike dataLt)
/-! ### the weakest readings: what the machine does, as a reading -/
structure wE (X : Cx) (e : Expr) (σ : L2.St) (H : Hp) (Q : VK) : Prop where
  run : ∀ (pins : List (Addr × Obj)) (s : Shared), Inv X pins σ H s → wpAny (model X.prog X.w) X.A (eval e X.env) (EP X pins σ Q) X.xe s
structure wT (X : Cx) (e : Expr) (σ : L2.St) (H : Hp) (Q : Bool → Hp → Prop) : Prop where
  run : ∀ (pins : List (Addr × Obj)) (s : Shared), Inv X pins σ H s → wpAny (model X.prog X.w) X.A (isTrue e X.env (eval e X.env)) (TP X pins σ Q) X.xe s
structure wW (X : Cx) (e : Expr) (σ : L2.St) (H : Hp) (Q : Bool → Hp → Prop) : Prop where
  run : ∀ (whole : Sem Value) (pins : List (Addr × Obj)) (s : Shared), Inv X pins σ H s → wpAny (model X.prog X.w) X.A (isTrue e X.env whole) (TP X pins σ Q) X.xe s
structure wA (X : Cx) (es : List Expr) (σ : L2.St) (H : Hp) (Q : List V → Hp → Prop) : Prop where
  run : ∀ (pos : Pos) (pins : List (Addr × Obj)) (s : Shared), Inv X pins σ H s → wpAny (model X.prog X.w) X.A (spliced (backTo pos (starEach es X.env))) (AP X pins σ Q) X.xe s
structure wS (X : Cx) (st : Stmt) (D : Ends) (σ : L2.St) (H : Hp) : Prop where
  run : ∀ (pins : List (Addr × Obj)) (s : Shared), Inv X pins σ H s → wpAny (model X.prog X.w) X.A (exec st X.env) (SP X pins D) X.xe s
structure wSs (X : Cx) (sts : List Stmt) (D : Ends) (σ : L2.St) (H : Hp) : Prop where
  run : ∀ (pins : List (Addr × Obj)) (s : Shared), Inv X pins σ H s → wpAny (model X.prog X.w) X.A (execs sts X.env) (SP X pins D) X.xe s
structure wG (X : Cx) (tg : Expr) (v : V) (σ : L2.St) (H : Hp) (Q : L2.St → Hp → Prop) : Prop where
  run : ∀ (pins : List (Addr × Obj)) (s : Shared) (u : Value), Inv X pins σ H s → RelV v u →
    wpAny (model X.prog X.w) X.A (assign tg X.env u) (fun _ s' => ∃ σ' H', Inv X pins σ' H' s' ∧ Q σ' H') X.xe s
structure wGs (X : Cx) (ts : List Expr) (vs : List V) (σ : L2.St) (H : Hp) (Q : L2.St → Hp → Prop) : Prop where
  run : ∀ (pins : List (Addr × Obj)) (s : Shared) (us : List Value), Inv X pins σ H s → Vals vs us →
    wpAny (model X.prog X.w) X.A (assignInOrder ((assignEach ts X.env).map (·.2)) us) (fun _ s' => ∃ σ' H', Inv X pins σ' H' s' ∧ Q σ' H') X.xe s
structure wI (X : Cx) (tg iter : Expr) (σ : L2.St) (H : Hp) (R : It → Hp → Prop) : Prop where
  run : ∀ (pins : List (Addr × Obj)) (s : Shared), Inv X pins σ H s →
    wpAny (model X.prog X.w) X.A (eval iter X.env) (fun v s1 => wpAny (model X.prog X.w) X.A (pyIter v) (PIE X pins σ tg R) X.xe s1) X.xe s
section
variable {X : Cx} {e : Expr} {es : List Expr} {st : Stmt} {sts : List Stmt} {tg iter : Expr} {σ : L2.St} {H : Hp}
theorem pe_w : PE X e (wE X e) := ⟨fun pins s _ _ _ I h => h.run pins s I⟩
theorem pt_w : PT X e (wT X e) := ⟨fun pins s _ _ _ I h => h.run pins s I⟩
theorem pw_w : PW X e (wW X e) := ⟨fun wh pins s _ _ _ I h => h.run wh pins s I⟩
theorem pa_w : PA X es (wA X es) := ⟨fun pos pins s _ _ _ I h => h.run pos pins s I⟩
theorem ps_w : PS X st (wS X st) := ⟨fun pins s _ _ _ I h => h.run pins s I⟩
theorem pss_w : PSs X sts (wSs X sts) := ⟨fun pins s _ _ _ I h => h.run pins s I⟩
theorem pg_w : PG X tg (wG X tg) := ⟨fun pins s _ _ _ u _ I r h => h.run pins s u I r⟩
theorem pgs_w : PGs X es (wGs X es) := ⟨fun pins s _ _ _ us _ I r h => h.run pins s us I r⟩
theorem pi_w : PI X tg iter (wI X tg iter) := ⟨fun pins s _ _ _ I h => h.run pins s I⟩
theorem wE_of {t : TE} {Q : VK} (p : PE X e t) (h : t σ H Q) : wE X e σ H Q := ⟨fun pins s I => p.run pins s σ H Q I h⟩
theorem wT_of {t : TT} {Q : Bool → Hp → Prop} (p : PT X e t) (h : t σ H Q) : wT X e σ H Q := ⟨fun pins s I => p.run pins s σ H Q I h⟩
theorem wW_of {t : TT} {Q : Bool → Hp → Prop} (p : PW X e t) (h : t σ H Q) : wW X e σ H Q := ⟨fun wh pins s I => p.run wh pins s σ H Q I h⟩
theorem wA_of {t : TA} {Q : List V → Hp → Prop} (p : PA X es t) (h : t σ H Q) : wA X es σ H Q := ⟨fun pos pins s I => p.run pos pins s σ H Q I h⟩
theorem wS_of {t : TS} {D : Ends} (p : PS X st t) (h : t D σ H) : wS X st D σ H := ⟨fun pins s I => p.run pins s σ H D I h⟩
theorem wSs_of {t : TS} {D : Ends} (p : PSs X sts t) (h : t D σ H) : wSs X sts D σ H := ⟨fun pins s I => p.run pins s σ H D I h⟩
theorem wG_of {t : TG} {v : V} {Q : L2.St → Hp → Prop} (p : PG X tg t) (h : t v σ H Q) : wG X tg v σ H Q := ⟨fun pins s u I r => p.run pins s σ H v u Q I r h⟩
theorem wGs_of {t : TGs} {vs : List V} {Q : L2.St → Hp → Prop} (p : PGs X es t) (h : t vs σ H Q) : wGs X es vs σ H Q := ⟨fun pins s us I r => p.run pins s σ H vs us Q I r h⟩
theorem wI_of {t : TI} {R : It → Hp → Prop} (p : PI X tg iter t) (h : t σ H R) : wI X tg iter σ H R := ⟨fun pins s I => p.run pins s σ H R I h⟩
theorem wE_mono {Q Q' : VK} (h : wE X e σ H Q) (k : ∀ v H', Q v H' → Q' v H') : wE X e σ H Q' := ⟨fun pins s I => thn (h.run pins s I) fun _ _ ⟨v, H', J, r, q⟩ => ⟨v, H', J, r, k v H' q⟩⟩
theorem wT_mono {Q Q' : Bool → Hp → Prop} (h : wT X e σ H Q) (k : ∀ v H', Q v H' → Q' v H') : wT X e σ H Q' := ⟨fun pins s I => thn (h.run pins s I) fun b _ ⟨H', J, q⟩ => ⟨H', J, k b H' q⟩⟩
theorem wA_mono {Q Q' : List V → Hp → Prop} (h : wA X es σ H Q) (k : ∀ v H', Q v H' → Q' v H') : wA X es σ H Q' := ⟨fun pos pins s I => thn (h.run pos pins s I) fun _ _ ⟨v, H', J, r, q⟩ => ⟨v, H', J, r, k v H' q⟩⟩
theorem wG_mono {v : V} {Q Q' : L2.St → Hp → Prop} (h : wG X tg v σ H Q) (k : ∀ σ' H', Q σ' H' → Q' σ' H') : wG X tg v σ H Q' := ⟨fun pins s u I r => thn (h.run pins s u I r) fun _ _ ⟨σ', H', J, q⟩ => ⟨σ', H', J, k σ' H' q⟩⟩
end
/-! ### data in the heap -/
theorem Same.rd {H H' : Hp} {a : Addr} {u : HO} (e : Same H H') (h : Rd H a u) : Rd H' a u := by
  rcases h with h | ⟨o, h⟩
  · exact .inl (e _ _ h)
  · exact .inr ⟨o, e _ _ h⟩
theorem Same.tup {K : PySem.W.Frag} {H H' : Hp} {a : Addr} {xs : List V} (e : Same H H') (h : SqT K H a xs) : SqT K H' a xs := by
  rcases h with h | h
  · exact .inl (Same.rd e h)
  · exact .inr h
theorem Same.upd {H : Hp} {p : Addr} {o : HO} (h : H p = none) : Same H (upd H p o) := fun a u e => by
  rw [upd_ne (ne_of_none e h)]
  exact e
section
variable {K : PySem.W.Frag} {H H' : Hp}
mutual
theorem Dp.same (e : Same H H') : ∀ {v : V} {d : PyData}, Dp K H v d → Dp K H' v d
  | _, _, .non => .non
  | _, _, .bl b => .bl b
  | _, _, .int i => .int i
  | _, _, .str x => .str x
  | _, _, .lst h1 h2 => .lst (L2.Same.seq e h1) (DpAll.same e h2)
  | _, _, .tup h1 h2 => .tup (Same.tup e h1) (DpAll.same e h2)
theorem DpAll.same (e : Same H H') : ∀ {vs : List V} {ds : List PyData}, DpAll K H vs ds → DpAll K H' vs ds
  | _, _, .nil => .nil
  | _, _, .cons h1 h2 => .cons (Dp.same e h1) (DpAll.same e h2)
end
theorem DpAll.length : ∀ {vs : List V} {ds : List PyData}, DpAll K H vs ds → vs.length = ds.length
  | _, _, .nil => rfl
  | _, _, .cons _ h2 => by
    simp only [List.length_cons, DpAll.length h2]
theorem DpAll.get : ∀ {vs : List V} {ds : List PyData} {i : Nat} {d : PyData}, DpAll K H vs ds → ds[i]? = some d → ∃ v, vs[i]? = some v ∧ Dp K H v d
  | _, _, _, _, .nil, e => by simp at e
  | _, _, 0, d, .cons h1 _, e => by
    have q := Option.some.inj e
    subst q
    exact ⟨_, rfl, h1⟩
  | _, _, i + 1, d, .cons _ h2, e => DpAll.get h2 (i := i) e
theorem DpAll.get' : ∀ {vs : List V} {ds : List PyData} {i : Nat} {v : V}, DpAll K H vs ds → vs[i]? = some v → ∃ d, ds[i]? = some d ∧ Dp K H v d
  | _, _, _, _, .nil, e => by simp at e
  | _, _, 0, d, .cons h1 _, e => by
    have q := Option.some.inj e
    subst q
    exact ⟨_, rfl, h1⟩
  | _, _, i + 1, d, .cons _ h2, e => DpAll.get' h2 (i := i) e
theorem DpAll.app : ∀ {vs ws : List V} {ds es : List PyData}, DpAll K H vs ds → DpAll K H ws es → DpAll K H (vs ++ ws) (ds ++ es)
  | _, _, _, _, .nil, h => h
  | _, _, _, _, .cons h1 h2, h => .cons h1 (DpAll.app h2 h)
theorem DpAll.take : ∀ {vs : List V} {ds : List PyData} (n : Nat), DpAll K H vs ds → DpAll K H (vs.take n) (ds.take n)
  | _, _, 0, _ => .nil
  | _, _, _ + 1, .nil => .nil
  | _, _, n + 1, .cons h1 h2 => .cons h1 (DpAll.take n h2)
theorem DpAll.drop : ∀ {vs : List V} {ds : List PyData} (n : Nat), DpAll K H vs ds → DpAll K H (vs.drop n) (ds.drop n)
  | _, _, 0, h => h
  | _, _, _ + 1, .nil => .nil
  | _, _, n + 1, .cons _ h2 => DpAll.drop n h2
theorem Dp.lstE {v : V} {ds : List PyData} (h : Dp K H v (.list ds)) : ∃ a xs, v = .ref a ∧ SqL K H a xs ∧ DpAll K H xs ds := by
  cases h with
  | lst h1 h2 => exact ⟨_, _, rfl, h1, h2⟩
theorem Dp.tupE {v : V} {ds : List PyData} (h : Dp K H v (.tuple ds)) : ∃ a xs, v = .ref a ∧ SqT K H a xs ∧ DpAll K H xs ds := by
  cases h with
  | tup h1 h2 => exact ⟨_, _, rfl, h1, h2⟩
theorem Dp.intE {v : V} {i : Int} (h : Dp K H v (.int i)) : v = .int i := by
  cases h
  rfl
theorem Dp.strE {v : V} {x : Str} (h : Dp K H v (.str x)) : v = .str x := by
  cases h
  rfl
theorem Dp.blE {v : V} {b : Bool} (h : Dp K H v (.bool b)) : v = .bl b := by
  cases h
  rfl
theorem Dp.nonE {v : V} (h : Dp K H v .none) : v = .non := by
  cases h
  rfl
theorem DpAll.strs : ∀ {vs : List V} {xs : List Str}, DpAll K H vs (xs.map .str) → vs = xs.map V.str
  | vs, [], h => by
    have h' : DpAll K H vs [] := h
    cases h'
    rfl
  | vs, x :: xs, h => by
    have h' : DpAll K H vs (.str x :: xs.map .str) := h
    cases h' with
    | cons h1 h2 => rw [Dp.strE h1, DpAll.strs h2] <;> rfl
theorem DpAll.ints : ∀ {vs : List V} {xs : List Int}, DpAll K H vs (xs.map .int) → vs = xs.map V.int
  | vs, [], h => by
    have h' : DpAll K H vs [] := h
    cases h'
    rfl
  | vs, x :: xs, h => by
    have h' : DpAll K H vs (.int x :: xs.map .int) := h
    cases h' with
    | cons h1 h2 => rw [Dp.intE h1, DpAll.ints h2] <;> rfl
theorem DpAll.bls : ∀ {vs : List V} {xs : List Bool}, DpAll K H vs (xs.map .bool) → vs = xs.map V.bl
  | vs, [], h => by
    have h' : DpAll K H vs [] := h
    cases h'
    rfl
  | vs, x :: xs, h => by
    have h' : DpAll K H vs (.bool x :: xs.map .bool) := h
    cases h' with
    | cons h1 h2 => rw [Dp.blE h1, DpAll.bls h2] <;> rfl
theorem DpAll.ofStrs : ∀ (xs : List Str), DpAll K H (xs.map V.str) (xs.map .str)
  | [] => .nil
  | x :: xs => .cons (.str x) (DpAll.ofStrs xs)
theorem DpAll.ofInts : ∀ (xs : List Int), DpAll K H (xs.map V.int) (xs.map .int)
  | [] => .nil
  | x :: xs => .cons (.int x) (DpAll.ofInts xs)
mutual
theorem Dp.plain : ∀ {v : V} {d : PyData}, Dp K H v d → d.plain = true
  | _, _, .non => by simp [PyData.plain]
  | _, _, .bl b => by simp [PyData.plain]
  | _, _, .int i => by simp [PyData.plain]
  | _, _, .str x => by simp [PyData.plain]
  | _, _, .lst _ h2 => by simpa [PyData.plain] using DpAll.plain h2
  | _, _, .tup _ h2 => by simpa [PyData.plain] using DpAll.plain h2
theorem DpAll.plain : ∀ {vs : List V} {ds : List PyData}, DpAll K H vs ds → PyData.plainAll ds = true
  | _, _, .nil => by simp [PyData.plainAll]
  | _, _, .cons h1 h2 => by simp [PyData.plainAll, Dp.plain h1, DpAll.plain h2]
end
end
/-- the slots: what they hold, as data (none: nothing is said) -/
abbrev Rho := List (Option PyData)
def SD (K : PySem.W.Frag) (H : Hp) (σ : L2.St) (ρ : Rho) : Prop := σ.length = ρ.length ∧ ∀ (i : Nat) (d : PyData), ρ[i]? = some (some d) → ∃ v, σ[i]? = some (some v) ∧ Dp K H v d
theorem SD.same {K : PySem.W.Frag} {H H' : Hp} {σ : L2.St} {ρ : Rho} (s : SD K H σ ρ) (e : Same H H') : SD K H' σ ρ := ⟨s.1, fun i d h => by
  obtain ⟨v, h1, h2⟩ := s.2 i d h
  exact ⟨v, h1, Dp.same e h2⟩⟩
theorem SD.set {K : PySem.W.Frag} {H : Hp} {σ : L2.St} {ρ : Rho} {v : V} {d : PyData} (s : SD K H σ ρ) (i : Nat) (h : Dp K H v d) : SD K H (σ.set i (some v)) (ρ.set i (some d)) := by
  refine ⟨by rw [List.length_set, List.length_set]; exact s.1, fun j d' e => ?_⟩
  by_cases hj : i = j
  · subst hj
    by_cases hl : i < ρ.length
    · rw [List.getElem?_set_self hl] at e
      have q := Option.some.inj (Option.some.inj e)
      subst q
      exact ⟨v, List.getElem?_set_self (by rw [s.1]; exact hl), h⟩
    · rw [List.getElem?_eq_none (by rw [List.length_set]; omega)] at e
      cases e
  · rw [List.getElem?_set_ne hj] at e
    obtain ⟨w, h1, h2⟩ := s.2 j d' e
    exact ⟨w, by rw [List.getElem?_set_ne hj]; exact h1, h2⟩
/-- a slot of which nothing is said any more -/
theorem SD.setN {K : PySem.W.Frag} {H : Hp} {σ : L2.St} {ρ : Rho} {o : Option V} (s : SD K H σ ρ) (i : Nat) : SD K H (σ.set i o) (ρ.set i none) := by
  refine ⟨by rw [List.length_set, List.length_set]; exact s.1, fun j d' e => ?_⟩
  by_cases hj : i = j
  · subst hj
    by_cases hl : i < ρ.length
    · rw [List.getElem?_set_self hl] at e
      cases e
    · rw [List.getElem?_eq_none (by rw [List.length_set]; omega)] at e
      cases e
  · rw [List.getElem?_set_ne hj] at e
    obtain ⟨w, h1, h2⟩ := s.2 j d' e
    exact ⟨w, by rw [List.getElem?_set_ne hj]; exact h1, h2⟩
/-- two heaps: G the part of H that holds data (nothing of it is ever written); behind a step both have grown, G by new objects alone -/
structure Gr (G H G2 H2 : Hp) : Prop where
  sub : Same G2 H2
  gg : Same G G2
  hh : Same H H2
  new : ∀ a, H a ≠ none → G2 a = G a
theorem Gr.refl {G H : Hp} (h : Same G H) : Gr G H G H := ⟨h, L2.Same.refl G, L2.Same.refl H, fun _ _ => rfl⟩
theorem Gr.trans {G H G1 H1 G2 H2 : Hp} (a : Gr G H G1 H1) (b : Gr G1 H1 G2 H2) : Gr G H G2 H2 := ⟨b.sub, a.gg.trans b.gg, a.hh.trans b.hh, fun c hc => by
  have h1 : H1 c ≠ none := by
    cases e : H c with
    | none => exact absurd e hc
    | some o => rw [a.hh c o e]; exact fun z => nomatch z
  rw [b.new c h1, a.new c hc]⟩
theorem upd_sub {G H : Hp} {p : Addr} {o : HO} (h : Same G H) : Same (L2.upd G p o) (L2.upd H p o) := fun a u e => by
  by_cases ha : a = p
  · rw [ha, upd_same] at e ⊢
    exact e
  · rw [upd_ne ha] at e ⊢
    exact h a u e
theorem Gr.upd {G H : Hp} {p : Addr} {o : HO} (h : Same G H) (hp : H p = none) : Gr G H (L2.upd G p o) (L2.upd H p o) :=
  ⟨upd_sub h, Same.upd (L2.Same.free h hp), Same.upd hp, fun a ha => upd_ne fun z => ha (by rw [z]; exact hp)⟩
/-! ### the data judgements -/
/-- what follows: any value that reads as d -/
abbrev KD (K : PySem.W.Frag) (G H : Hp) (Q : VK) (d : PyData) : Prop := ∀ v G2 H2, Gr G H G2 H2 → Dp K G2 v d → Q v H2
/-- e gives a value that reads as d; what was tracked stands -/
def PV (X : Cx) (e : Expr) (ρ : Rho) (d : PyData) : Prop := ∀ σ G H, Same G H → SD X.K G σ ρ → ∀ Q : VK, KD X.K G H Q d → wE X e σ H Q
/-- the test e says b -/
def PB (X : Cx) (e : Expr) (ρ : Rho) (b : Bool) : Prop := ∀ σ G H, Same G H → SD X.K G σ ρ → ∀ Q : Bool → Hp → Prop, (∀ G2 H2, Gr G H G2 H2 → Q b H2) → wT X e σ H Q
def PBW (X : Cx) (e : Expr) (ρ : Rho) (b : Bool) : Prop := ∀ σ G H, Same G H → SD X.K G σ ρ → ∀ Q : Bool → Hp → Prop, (∀ G2 H2, Gr G H G2 H2 → Q b H2) → wW X e σ H Q
def PVs (X : Cx) (es : List Expr) (ρ : Rho) (ds : List PyData) : Prop := ∀ σ G H, Same G H → SD X.K G σ ρ → ∀ Q : List V → Hp → Prop, (∀ vs G2 H2, Gr G H G2 H2 → DpAll X.K G2 vs ds → Q vs H2) → wA X es σ H Q
/-- an operation by values, on data -/
def DR2 (K : PySem.W.Frag) (r : R2) (d1 d2 d : PyData) : Prop := ∀ G H x y, Same G H → Dp K G x d1 → Dp K G y d2 → ∀ Q : VK, KD K G H Q d → r x y H Q
def DRC (K : PySem.W.Frag) (r : List V → Hp → VK → Prop) (ds : List PyData) (d : PyData) : Prop := ∀ G H xs, Same G H → DpAll K G xs ds → ∀ Q : VK, KD K G H Q d → r xs H Q
theorem _root_.L2.Dp.gr {K : PySem.W.Frag} {G H G2 H2 : Hp} {v : V} {d : PyData} (g : Gr G H G2 H2) (h : Dp K G v d) : Dp K G2 v d := Dp.same g.gg h
theorem _root_.L2.DpAll.gr {K : PySem.W.Frag} {G H G2 H2 : Hp} {v : List V} {d : List PyData} (g : Gr G H G2 H2) (h : DpAll K G v d) : DpAll K G2 v d := DpAll.same g.gg h
theorem SD.gr {K : PySem.W.Frag} {G H G2 H2 : Hp} {σ : L2.St} {ρ : Rho} (g : Gr G H G2 H2) (h : SD K G σ ρ) : SD K G2 σ ρ := SD.same h g.gg
section
variable {X : Cx} {ρ : Rho} {a b e : Expr} {es : List Expr} {d d1 d2 d3 : PyData} {ds : List PyData} {pos : Pos}
theorem PV.to {d' : PyData} (h : PV X e ρ d) (q : d = d') : PV X e ρ d' := q ▸ h
theorem PB.to {b b' : Bool} (h : PB X e ρ b) (q : b = b') : PB X e ρ b' := q ▸ h
theorem pv_var {i : Nat} {x : Str} (hρ : ρ[i]? = some (some d)) (hN : X.N[i]? = some x := by rfl) (hv : Vis X.env.scope x := by first | exact Or.inl rfl | exact Or.inr (Or.inl rfl) | exact Or.inr (Or.inr rfl)) (hd : (x == ("__debug__" : Str)) = false := by decide)
    (hcd : (x == ("__classdict__" : Str)) = false := by decide) : PV X (.Name x pos) ρ d := fun σ G H u s Q q => by
  obtain ⟨v, h1, h2⟩ := s.2 i d hρ
  exact wE_of (pe_var hN hv hd hcd) ⟨v, h1, q v G H (Gr.refl u) h2⟩
theorem pv_int {i : Int} {j} : PV X (.Constant (.int i) j pos) ρ (.int i) := fun σ G H u _ Q q => wE_of pe_int (q _ G H (Gr.refl u) (.int i))
theorem pv_bl {i : Bool} {j} : PV X (.Constant (.bool i) j pos) ρ (.bool i) := fun σ G H u _ Q q => wE_of pe_bl (q _ G H (Gr.refl u) (.bl i))
theorem pv_non {j} : PV X (.Constant .none j pos) ρ .none := fun σ G H u _ Q q => wE_of pe_non (q _ G H (Gr.refl u) .non)
theorem pv_str {x : Str} {j} : PV X (.Constant (.str x) j pos) ρ (.str x) := fun σ G H u _ Q q => wE_of pe_str (q _ G H (Gr.refl u) (.str x))
theorem pv_glob {x : Str} {v : V} {u : Value} (hm : X.mg x = some u) (r : RelV v u) (hd : ∀ H, Dp X.K H v d) (hg : Gl X x := by rfl) (hdb : (x == ("__debug__" : Str)) = false := by decide) : PV X (.Name x pos) ρ d :=
  fun σ G H u _ Q q => wE_of (pe_glob hg hm r hdb) (q v G H (Gr.refl u) (hd G))
theorem pvs_nil : PVs X [] ρ [] := fun σ G H u _ Q q => wA_of pa_nil (q [] G H (Gr.refl u) .nil)
theorem pvs_cons (ha : PV X e ρ d) (hr : PVs X es ρ ds) (hs : starEach (e :: es) X.env = (false, eval e X.env) :: starEach es X.env := by rfl) : PVs X (e :: es) ρ (d :: ds) :=
  fun σ G H u s Q q => wA_of (pa_cons pe_w pa_w hs) (ha σ G H u s _ fun v G1 H1 g1 k1 => hr σ G1 H1 g1.sub (s.gr g1) _ fun vs G2 H2 g2 k2 => q (v :: vs) G2 H2 (g1.trans g2) (.cons (k1.gr g2) k2))
theorem pvs_starT {p : Pos} (ha : PV X e ρ (.tuple ds)) {ds2 : List PyData} (hr : PVs X es ρ ds2) (hs : starEach (.Starred e p :: es) X.env = (true, eval e X.env) :: starEach es X.env := by rfl) : PVs X (.Starred e p :: es) ρ (ds ++ ds2) :=
  fun σ G H u s Q q => wA_of (pa_star pe_w pa_w hs) (ha σ G H u s _ fun v G1 H1 g1 k1 => by
    obtain ⟨a, xs, rfl, h1, h2⟩ := Dp.tupE k1
    refine ⟨a, xs, rfl, ?_, hr σ G1 H1 g1.sub (s.gr g1) _ fun vs G2 H2 g2 k2 => q _ G2 H2 (g1.trans g2) (DpAll.app (h2.gr g2) k2)⟩
    first | exact .inl (Same.tup g1.sub h1) | exact .inr (Same.tup g1.sub h1))
theorem pv_tup {x1} (h : PVs X es ρ ds) (hl : ds.length ≤ sizeLine := by first | decide | simp [sizeLine_eq]) : PV X (.Tuple es x1 pos) ρ (.tuple ds) :=
  fun σ G H u s Q q => wE_of (pe_tup pa_w) (h σ G H u s _ fun vs G1 H1 g1 k1 => ⟨by rw [DpAll.length k1]; exact hl, fun p hp => q _ _ _ (g1.trans (Gr.upd g1.sub hp)) (.tup (SqT.of upd_same) (L2.DpAll.gr (Gr.upd g1.sub hp) k1))⟩)
theorem pv_lst (h : PVs X es ρ ds) (hl : ds.length ≤ sizeLine := by first | decide | simp [sizeLine_eq]) : PV X (.List es pos) ρ (.list ds) :=
  fun σ G H u s Q q => wE_of (pe_lst pa_w) (h σ G H u s _ fun vs G1 H1 g1 k1 => ⟨by rw [DpAll.length k1]; exact hl, fun p hp => q _ _ _ (g1.trans (Gr.upd g1.sub hp)) (.lst (SqL.of upd_same) (L2.DpAll.gr (Gr.upd g1.sub hp) k1))⟩)
/-! operators, comparisons -/
theorem pv_bin {op : Operator} {r : R2} (ho : OpR X (binaryOp op) r) (hr : DR2 X.K r d1 d2 d) (ha : PV X a ρ d1) (hb : PV X b ρ d2) : PV X (.BinOp a op b pos) ρ d :=
  fun σ G H u s Q q => wE_of (pe_op ho pe_w pe_w) (ha σ G H u s _ fun v G1 H1 g1 k1 => hb σ G1 H1 g1.sub (s.gr g1) _ fun w G2 H2 g2 k2 => hr G2 H2 v w g2.sub (k1.gr g2) k2 Q fun z G3 H3 g3 k3 => q z G3 H3 (g1.trans (g2.trans g3)) k3)
theorem pv_cmp {op : CmpOp} {r : R2} (ho : OpR X (compareOp op) r) (hr : DR2 X.K r d1 d2 d) (ha : PV X a ρ d1) (hb : PV X b ρ d2) (hm : behindInMarks op b = false := by first | exact nomark _ | rfl) : PV X (.Compare a [op] [b] pos) ρ d :=
  fun σ G H u s Q q => wE_of (pe_cmpR ho pe_w pe_w hm) (ha σ G H u s _ fun v G1 H1 g1 k1 => hb σ G1 H1 g1.sub (s.gr g1) _ fun w G2 H2 g2 k2 => hr G2 H2 v w g2.sub (k1.gr g2) k2 Q fun z G3 H3 g3 k3 => q z G3 H3 (g1.trans (g2.trans g3)) k3)
theorem pb_cmp {op : CmpOp} {r : R2} {k : Bool} (ho : OpR X (compareOp op) r) (hr : DR2 X.K r d1 d2 (.bool k)) (ha : PV X a ρ d1) (hb : PV X b ρ d2) (hm : behindInMarks op b = false := by first | exact nomark _ | rfl) : PB X (.Compare a [op] [b] pos) ρ k :=
  fun σ G H u s Q q => wT_of (pt_cmpR ho pe_w pe_w hm) (ha σ G H u s _ fun v G1 H1 g1 k1 => hb σ G1 H1 g1.sub (s.gr g1) _ fun w G2 H2 g2 k2 => hr G2 H2 v w g2.sub (k1.gr g2) k2 _ fun z G3 H3 g3 k3 => ⟨k, Dp.blE k3, q G3 H3 (g1.trans (g2.trans g3))⟩)
/-- x op y op' z, the middle one looked at once -/
theorem pv_chain {op op' : CmpOp} {r r' : R2} {c : Expr} {k k' : Bool} (ho : OpR X (compareOp op) r) (ho' : OpR X (compareOp op') r') (hr : DR2 X.K r d1 d2 (.bool k)) (hr' : k = true → DR2 X.K r' d2 d3 (.bool k')) (ha : PV X a ρ d1) (hb : PV X b ρ d2) (hc : PV X c ρ d3)
    (hm : lastMarks [op, op'] [b, c] = false := by with_unfolding_all rfl) : PV X (.Compare a [op, op'] [b, c] pos) ρ (.bool (k && k')) :=
  fun σ G H u s Q q => wE_of (pe_chain ho ho' pe_w pe_w pe_w hm) (ha σ G H u s _ fun v G1 H1 g1 k1 => hb σ G1 H1 g1.sub (s.gr g1) _ fun w G2 H2 g2 k2 => hr G2 H2 v w g2.sub (k1.gr g2) k2 _ fun z G3 H3 g3 k3 => ⟨k, Dp.blE k3, by
    cases k with
    | true =>
      rw [if_pos rfl]
      exact hc σ G3 H3 g3.sub (s.gr (g1.trans (g2.trans g3))) _ fun y G4 H4 g4 k4 => hr' rfl G4 H4 w y g4.sub (k2.gr (g3.trans g4)) k4 Q fun z G5 H5 g5 k5 => q z G5 H5 (g1.trans (g2.trans (g3.trans (g4.trans g5)))) k5
    | false =>
      rw [if_neg Bool.false_ne_true]
      exact q _ G3 H3 (g1.trans (g2.trans g3)) (.bl false)⟩)
theorem pb_chain {op op' : CmpOp} {r r' : R2} {c : Expr} {k k' : Bool} (ho : OpR X (compareOp op) r) (ho' : OpR X (compareOp op') r') (hr : DR2 X.K r d1 d2 (.bool k)) (hr' : k = true → DR2 X.K r' d2 d3 (.bool k')) (ha : PV X a ρ d1) (hb : PV X b ρ d2) (hc : PV X c ρ d3)
    (hm : lastMarks [op, op'] [b, c] = false := by with_unfolding_all rfl) : PB X (.Compare a [op, op'] [b, c] pos) ρ (k && k') :=
  fun σ G H u s Q q => wT_of (pt_chain ho ho' pe_w pe_w pe_w hm) (ha σ G H u s _ fun v G1 H1 g1 k1 => hb σ G1 H1 g1.sub (s.gr g1) _ fun w G2 H2 g2 k2 => hr G2 H2 v w g2.sub (k1.gr g2) k2 _ fun z G3 H3 g3 k3 => ⟨k, Dp.blE k3, by
    cases k with
    | true =>
      rw [if_pos rfl]
      exact hc σ G3 H3 g3.sub (s.gr (g1.trans (g2.trans g3))) _ fun y G4 H4 g4 k4 => hr' rfl G4 H4 w y g4.sub (k2.gr (g3.trans g4)) k4 _ fun z G5 H5 g5 k5 => ⟨k', Dp.blE k5, q G5 H5 (g1.trans (g2.trans (g3.trans (g4.trans g5))))⟩
    | false =>
      rw [if_neg Bool.false_ne_true]
      exact ⟨false, rfl, q G3 H3 (g1.trans (g2.trans g3))⟩⟩)
end
end DL
end D1_text
section D2_text
set_option maxRecDepth 100000
set_option maxHeartbeats 2000000
namespace DL
open PySem PySem.Spec PyProof.Rows L2 StX
open PySem.W (alike dataLt)
section
variable {X : Cx} {ρ : Rho} {a b c e : Expr} {es : List Expr} {d d1 d2 d3 : PyData} {ds : List PyData} {pos : Pos}
/-! ### operators on data -/
def rLtD (K : PySem.W.Frag) : R2 := fun x y H Q => ∃ d e, Dp K H x d ∧ Dp K H y e ∧ alike d e = true ∧ d ≠ .none ∧ min d.depth e.depth ≤ 63 ∧ Q (.bl (dataLt d e)) H
theorem op_ltD (hu : X.A.units + 64 < cLine) : OpR X (compareOp .Lt) (rLtD X.K) := by
  intro pins s σ H x y v u Q I rx ry h
  obtain ⟨d, e, h1, h2, al, hn, hd, q⟩ := h
  obtain ⟨as, r1⟩ := Dp.reads I d x v h1 rx
  obtain ⟨bs, r2⟩ := Dp.reads I e y u h2 ry
  exact PySem.W.lt_data r1 r2 al hn (by omega) ⟨.bl _, H, I, rfl, q⟩
def rEqP (K : PySem.W.Frag) : R2 := fun x y H Q => ∃ d e, Dp K H x d ∧ Dp K H y e ∧ min d.depth e.depth ≤ 63 ∧ Q (.bl (PyData.eqv d e)) H
def rNeP (K : PySem.W.Frag) : R2 := fun x y H Q => ∃ d e, Dp K H x d ∧ Dp K H y e ∧ min d.depth e.depth ≤ 63 ∧ Q (.bl (!PyData.eqv d e)) H
theorem op_eqP (hu : X.A.units + 64 < cLine) : OpR X (compareOp .Eq) (rEqP X.K) := by
  intro pins s σ H x y v u Q I rx ry h
  obtain ⟨d, e, h1, h2, hd, q⟩ := h
  obtain ⟨as, r1⟩ := Dp.reads I d x v h1 rx
  obtain ⟨bs, r2⟩ := Dp.reads I e y u h2 ry
  exact PySem.SeqAt.eq_plain r1 r2 (Dp.plain h1) (Dp.plain h2) (by omega) ⟨.bl _, H, I, rfl, q⟩
theorem op_neP (hu : X.A.units + 64 < cLine) : OpR X (compareOp .NotEq) (rNeP X.K) := by
  intro pins s σ H x y v u Q I rx ry h
  obtain ⟨d, e, h1, h2, hd, q⟩ := h
  obtain ⟨as, r1⟩ := Dp.reads I d x v h1 rx
  obtain ⟨bs, r2⟩ := Dp.reads I e y u h2 ry
  exact PySem.SeqAt.ne_plain r1 r2 (Dp.plain h1) (Dp.plain h2) (by omega) ⟨.bl _, H, I, rfl, q⟩
/-- x in a tuple, in a list -/
def rInP (K : PySem.W.Frag) (neg : Bool) : R2 := fun x y H Q => ∃ d ds, Dp K H x d ∧ (Dp K H y (.tuple ds) ∨ Dp K H y (.list ds)) ∧ d.depth ≤ 62 ∧ Q (.bl (if neg then !(ds.any fun z => PyData.eqv z d) else ds.any fun z => PyData.eqv z d)) H
theorem op_inP (hu : X.A.units + 64 < cLine) : OpR X (compareOp .In) (rInP X.K false) := by
  intro pins s σ H x y v u Q I rx ry h
  obtain ⟨d, ds, h1, h2, hd, q⟩ := h
  obtain ⟨as, r1⟩ := Dp.reads I d x v h1 rx
  rcases h2 with h2 | h2
  · obtain ⟨bs, r2⟩ := Dp.reads I _ y u h2 ry
    obtain ⟨_, _, _, _, h3⟩ := Dp.tupE h2
    exact PySem.SeqAt.in_tuple_data r2 r1 (DpAll.plain h3) (Dp.plain h1) (by omega) ⟨.bl _, H, I, rfl, q⟩
  · obtain ⟨bs, r2⟩ := Dp.reads I _ y u h2 ry
    obtain ⟨_, _, _, _, h3⟩ := Dp.lstE h2
    exact PySem.SeqAt.in_list_data r2 r1 (DpAll.plain h3) (Dp.plain h1) (by omega) ⟨.bl _, H, I, rfl, q⟩
theorem op_ninP (hu : X.A.units + 64 < cLine) : OpR X (compareOp .NotIn) (rInP X.K true) := by
  intro pins s σ H x y v u Q I rx ry h
  obtain ⟨d, ds, h1, h2, hd, q⟩ := h
  obtain ⟨as, r1⟩ := Dp.reads I d x v h1 rx
  rcases h2 with h2 | h2
  · obtain ⟨bs, r2⟩ := Dp.reads I _ y u h2 ry
    obtain ⟨_, _, _, _, h3⟩ := Dp.tupE h2
    exact PySem.SeqAt.notIn_tuple_data r2 r1 (DpAll.plain h3) (Dp.plain h1) (by omega) ⟨.bl _, H, I, rfl, q⟩
  · obtain ⟨bs, r2⟩ := Dp.reads I _ y u h2 ry
    obtain ⟨_, _, _, _, h3⟩ := Dp.lstE h2
    exact PySem.SeqAt.notIn_list_data r2 r1 (DpAll.plain h3) (Dp.plain h1) (by omega) ⟨.bl _, H, I, rfl, q⟩
variable {K : PySem.W.Frag}
theorem dr_lt (al : alike d1 d2 = true) (hn : d1 ≠ .none) (hd : min d1.depth d2.depth ≤ 63) : DR2 K (rLtD K) d1 d2 (.bool (dataLt d1 d2)) := fun G H _ _ u h1 h2 _ q => ⟨d1, d2, Dp.same u h1, Dp.same u h2, al, hn, hd, q _ G H (Gr.refl u) (.bl _)⟩
theorem dr_eq (hd : min d1.depth d2.depth ≤ 63) : DR2 K (rEqP K) d1 d2 (.bool (PyData.eqv d1 d2)) := fun G H _ _ u h1 h2 _ q => ⟨d1, d2, Dp.same u h1, Dp.same u h2, hd, q _ G H (Gr.refl u) (.bl _)⟩
theorem dr_ne (hd : min d1.depth d2.depth ≤ 63) : DR2 K (rNeP K) d1 d2 (.bool (!PyData.eqv d1 d2)) := fun G H _ _ u h1 h2 _ q => ⟨d1, d2, Dp.same u h1, Dp.same u h2, hd, q _ G H (Gr.refl u) (.bl _)⟩
theorem dr_inT (hd : d1.depth ≤ 62) : DR2 K (rInP K false) d1 (.tuple ds) (.bool (ds.any fun z => PyData.eqv z d1)) := fun G H _ _ u h1 h2 _ q => ⟨d1, ds, Dp.same u h1, .inl (Dp.same u h2), hd, q _ G H (Gr.refl u) (.bl _)⟩
theorem dr_inL (hd : d1.depth ≤ 62) : DR2 K (rInP K false) d1 (.list ds) (.bool (ds.any fun z => PyData.eqv z d1)) := fun G H _ _ u h1 h2 _ q => ⟨d1, ds, Dp.same u h1, .inr (Dp.same u h2), hd, q _ G H (Gr.refl u) (.bl _)⟩
theorem dr_ninT (hd : d1.depth ≤ 62) : DR2 K (rInP K true) d1 (.tuple ds) (.bool (!ds.any fun z => PyData.eqv z d1)) := fun G H _ _ u h1 h2 _ q => ⟨d1, ds, Dp.same u h1, .inl (Dp.same u h2), hd, q _ G H (Gr.refl u) (.bl _)⟩
theorem dr_ninL (hd : d1.depth ≤ 62) : DR2 K (rInP K true) d1 (.list ds) (.bool (!ds.any fun z => PyData.eqv z d1)) := fun G H _ _ u h1 h2 _ q => ⟨d1, ds, Dp.same u h1, .inr (Dp.same u h2), hd, q _ G H (Gr.refl u) (.bl _)⟩
/-- ints -/
theorem dr_I {g : Int → Int → V} {i j : Int} (h : ∀ H, Dp K H (g i j) d) : DR2 K (rI0 g) (.int i) (.int j) d := fun G H x y u h1 h2 _ q => by
  have e1 := Dp.intE h1
  have e2 := Dp.intE h2
  subst e1 e2
  exact ⟨i, j, rfl, rfl, q _ G H (Gr.refl u) (h G)⟩
theorem dr_IB {f : Int → Int → Bool} {i j : Int} : DR2 K (rI0 fun i j => .bl (f i j)) (.int i) (.int j) (.bool (f i j)) := dr_I fun H => .bl _
theorem dr_II {f : Int → Int → Int} {i j : Int} : DR2 K (rI0 fun i j => .int (f i j)) (.int i) (.int j) (.int (f i j)) := dr_I fun H => .int _
/-- is None -/
def rIsNn : R2 := fun x y H Q => y = .non ∧ Q (.bl (decide (x = .non))) H
def rNotNn : R2 := fun x y H Q => y = .non ∧ Q (.bl (!decide (x = .non))) H
def isNone : PyData → Bool
  | .none => true
  | _ => false
theorem isNone_of {H : Hp} {v : V} (h : Dp K H v d) : decide (v = .non) = isNone d := by
  cases h <;> rfl
theorem dr_isN : DR2 K rIsNn d .none (.bool (isNone d)) := fun G H x y u h1 h2 _ q => ⟨Dp.nonE h2, by rw [isNone_of h1]; exact q _ G H (Gr.refl u) (.bl _)⟩
theorem dr_notN : DR2 K rNotNn d .none (.bool (!isNone d)) := fun G H x y u h1 h2 _ q => ⟨Dp.nonE h2, by rw [isNone_of h1]; exact q _ G H (Gr.refl u) (.bl _)⟩
theorem op_isNn : OpR X (compareOp .Is) rIsNn := op_isN
theorem op_notNn : OpR X (compareOp .IsNot) rNotNn := op_notN
/-- one sign in a text -/
def rSgn : R2 := fun x y H Q => ∃ (c : Nat) (z : Str), x = .str ⟨#[c]⟩ ∧ y = .str z ∧ Q (.bl (decide (c ∈ z.cps.toList))) H
def rNSgn : R2 := fun x y H Q => ∃ (c : Nat) (z : Str), x = .str ⟨#[c]⟩ ∧ y = .str z ∧ Q (.bl (!decide (c ∈ z.cps.toList))) H
theorem op_sgn : OpR X (compareOp .In) rSgn := op_in_sign
theorem op_nsgn : OpR X (compareOp .NotIn) rNSgn := op_notIn_sign
theorem dr_sign {ch : Nat} {z : Str} : DR2 K rSgn (.str ⟨#[ch]⟩) (.str z) (.bool (decide (ch ∈ z.cps.toList))) := fun G H x y u h1 h2 _ q => ⟨ch, z, Dp.strE h1, Dp.strE h2, q _ G H (Gr.refl u) (.bl _)⟩
theorem dr_nsign {ch : Nat} {z : Str} : DR2 K rNSgn (.str ⟨#[ch]⟩) (.str z) (.bool (!decide (ch ∈ z.cps.toList))) := fun G H x y u h1 h2 _ q => ⟨ch, z, Dp.strE h1, Dp.strE h2, q _ G H (Gr.refl u) (.bl _)⟩
/-! ### subscripts -/
theorem DpAll.atI {H : Hp} {vs : List V} {i : Int} (h : DpAll K H vs ds) (e : L2.atI ds i = some d) : ∃ v, L2.atI vs i = some v ∧ Dp K H v d := by
  unfold L2.atI at e ⊢
  rw [DpAll.length h]
  cases q : ixN ds.length i with
  | none =>
    rw [q] at e
    cases e
  | some k =>
    rw [q] at e
    exact DpAll.get h (show ds[k]? = some d from e)
theorem dr_ixT {i : Int} (h : L2.atI ds i = some d) : DR2 K (rIxT K) (.tuple ds) (.int i) d := fun G H x y u h1 h2 _ q => by
  obtain ⟨p, xs, rfl, h3, h4⟩ := Dp.tupE h1
  have e2 := Dp.intE h2
  subst e2
  obtain ⟨v, hv, hd⟩ := DpAll.atI h4 h
  exact ⟨p, xs, i, v, rfl, rfl, Same.tup u h3, hv, q _ G H (Gr.refl u) hd⟩
theorem dr_ixL {i : Int} (h : L2.atI ds i = some d) : DR2 K (rIxL K) (.list ds) (.int i) d := fun G H x y u h1 h2 _ q => by
  obtain ⟨p, xs, rfl, h3, h4⟩ := Dp.lstE h1
  have e2 := Dp.intE h2
  subst e2
  obtain ⟨v, hv, hd⟩ := DpAll.atI h4 h
  exact ⟨p, xs, i, v, rfl, rfl, L2.Same.seq u h3, hv, q _ G H (Gr.refl u) hd⟩
theorem dr_ixS {z : Str} {i : Int} {c : Nat} (hz : z.length ≤ sizeLine) (h : L2.atI z.cps.toList i = some c) : DR2 K rIxS (.str z) (.int i) (.str ⟨#[c]⟩) := fun G H x y u h1 h2 _ q =>
  ⟨z, i, c, Dp.strE h1, Dp.intE h2, hz, h, q _ G H (Gr.refl u) (.str _)⟩
theorem pv_ixT {i : Int} (ha : PV X a ρ (.tuple ds)) (hb : PV X b ρ (.int i)) (h : L2.atI ds i = some d) (hs : PlainIx b := by exact fun _ _ => rfl) : PV X (.Subscript a b pos) ρ d :=
  fun σ G H u s Q q => wE_of (pe_ix ix_tup pe_w pe_w hs) (ha σ G H u s _ fun v G1 H1 g1 k1 => hb σ G1 H1 g1.sub (s.gr g1) _ fun w G2 H2 g2 k2 => dr_ixT h G2 H2 v w g2.sub (k1.gr g2) k2 Q fun z G3 H3 g3 k3 => q z G3 H3 (g1.trans (g2.trans g3)) k3)
theorem pv_ixL {i : Int} (ha : PV X a ρ (.list ds)) (hb : PV X b ρ (.int i)) (h : L2.atI ds i = some d) (hs : PlainIx b := by exact fun _ _ => rfl) : PV X (.Subscript a b pos) ρ d :=
  fun σ G H u s Q q => wE_of (pe_ix ix_list pe_w pe_w hs) (ha σ G H u s _ fun v G1 H1 g1 k1 => hb σ G1 H1 g1.sub (s.gr g1) _ fun w G2 H2 g2 k2 => dr_ixL h G2 H2 v w g2.sub (k1.gr g2) k2 Q fun z G3 H3 g3 k3 => q z G3 H3 (g1.trans (g2.trans g3)) k3)
theorem pv_ixS {z : Str} {i : Int} {c : Nat} (ha : PV X a ρ (.str z)) (hb : PV X b ρ (.int i)) (hz : z.length ≤ sizeLine) (h : L2.atI z.cps.toList i = some c) (hs : PlainIx b := by exact fun _ _ => rfl) : PV X (.Subscript a b pos) ρ (.str ⟨#[c]⟩) :=
  fun σ G H u s Q q => wE_of (pe_ix ix_str pe_w pe_w hs) (ha σ G H u s _ fun v G1 H1 g1 k1 => hb σ G1 H1 g1.sub (s.gr g1) _ fun w G2 H2 g2 k2 => dr_ixS hz h G2 H2 v w g2.sub (k1.gr g2) k2 Q fun z G3 H3 g3 k3 => q z G3 H3 (g1.trans (g2.trans g3)) k3)
/-- -1 and its like -/
theorem pv_neg {i : Int} (ha : PV X a ρ (.int i)) : PV X (.UnaryOp .USub a pos) ρ (.int (-i)) :=
  fun σ G H u s Q q => wE_of (pe_un un_neg pe_w) (ha σ G H u s _ fun v G1 H1 g1 k1 => ⟨i, Dp.intE k1, q _ G1 H1 g1 (.int _)⟩)
/-! slices -/
def cutD (ds : List PyData) (lo hi : Option Int) : List PyData := (ds.drop (HT.sIx ds.length 0 lo)).take (HT.sIx ds.length ds.length hi - HT.sIx ds.length 0 lo)
theorem DpAll.cut {H : Hp} {vs : List V} (h : DpAll K H vs ds) (lo hi : Option Int) : DpAll K H (cutV vs lo hi) (cutD ds lo hi) := by
  unfold cutV cutD
  rw [DpAll.length h]
  exact DpAll.take _ (DpAll.drop _ h)
/-- a part of a slice -/
def PP (X : Cx) (o : Option Expr) (ρ : Rho) (i : Option Int) : Prop := match o with
  | none => i = none
  | some e => ∃ j, i = some j ∧ PV X e ρ (.int j)
theorem pp_none : PP X none ρ none := rfl
theorem pp_some {i : Int} (h : PV X e ρ (.int i)) : PP X (some e) ρ (some i) := ⟨i, rfl, h⟩
end
end DL
end D2_text
section D3_text
set_option maxRecDepth 100000
set_option maxHeartbeats 2000000
namespace DL
open PySem PySem.Spec PyProof.Rows L2 StX
open PySem.W (alike dataLt)
section
variable {X : Cx} {ρ : Rho} {a b c e : Expr} {es : List Expr} {d d1 d2 d3 : PyData} {ds : List PyData} {pos : Pos} {K : PySem.W.Frag}
theorem cutD_from (ds : List PyData) (k : Nat) : cutD ds (some (k : Int)) none = ds.drop k := by
  unfold cutD
  rw [HT.sIx_none, HT.sIx_nat, List.take_of_length_le (by rw [List.length_drop]; omega)]
  by_cases h : k ≤ ds.length
  · rw [Nat.min_eq_left h]
  · rw [Nat.min_eq_right (by omega), List.drop_length, List.drop_eq_nil_of_le (by omega)]
theorem cutD_to (ds : List PyData) (k : Nat) : cutD ds none (some (k : Int)) = ds.take k := by
  unfold cutD
  rw [HT.sIx_none, HT.sIx_nat, List.drop_zero, Nat.sub_zero]
  by_cases h : k ≤ ds.length
  · rw [Nat.min_eq_left h]
  · rw [Nat.min_eq_right (by omega), List.take_of_length_le (by omega), List.take_of_length_le (by omega)]
def wO (X : Cx) (o : Option Expr) : TO := fun σ H Q => match o with
  | none => Q none H
  | some e => wE X e σ H fun x H1 => ∃ i, x = .int i ∧ Q (some i) H1
theorem po_w {o : Option Expr} : PO X o (wO X o) := by
  cases o with
  | none => exact po_none
  | some e => exact po_some pe_w
theorem wO_of {o : Option Expr} {i : Option Int} (h : PP X o ρ i) {σ : L2.St} {G H : Hp} (u : Same G H) (s : SD X.K G σ ρ) {Q : Option Int → Hp → Prop} (q : ∀ G2 H2, Gr G H G2 H2 → Q i H2) : wO X o σ H Q := by
  cases o with
  | none =>
    have e : i = none := h
    subst e
    exact q G H (Gr.refl u)
  | some e =>
    obtain ⟨j, rfl, hv⟩ := h
    exact hv σ G H u s _ fun v G1 H1 g1 k1 => ⟨j, Dp.intE k1, q G1 H1 g1⟩
theorem pv_slL {lo hi : Option Expr} {l h : Option Int} {p2 : Pos} (ha : PV X a ρ (.list ds)) (hl : PP X lo ρ l) (hh : PP X hi ρ h) : PV X (.Subscript a (.Slice lo hi none p2) pos) ρ (.list (cutD ds l h)) :=
  fun σ G H u s Q q => wE_of (pe_slice sl_list pe_w po_w po_w) (ha σ G H u s _ fun v G1 H1 g1 k1 => wO_of hl g1.sub (s.gr g1) fun G2 H2 g2 => wO_of hh g2.sub (s.gr (g1.trans g2)) fun G3 H3 g3 => by
    obtain ⟨p, xs, rfl, h3, h4⟩ := Dp.lstE (k1.gr (g2.trans g3))
    exact ⟨p, xs, rfl, L2.Same.seq g3.sub h3, fun p hp => q _ _ _ (g1.trans (g2.trans (g3.trans (Gr.upd g3.sub hp)))) (.lst (SqL.of upd_same) (L2.DpAll.gr (Gr.upd g3.sub hp) (DpAll.cut h4 l h)))⟩)
theorem pv_slT {lo hi : Option Expr} {l h : Option Int} {p2 : Pos} (ha : PV X a ρ (.tuple ds)) (hl : PP X lo ρ l) (hh : PP X hi ρ h) : PV X (.Subscript a (.Slice lo hi none p2) pos) ρ (.tuple (cutD ds l h)) :=
  fun σ G H u s Q q => wE_of (pe_slice sl_tupA pe_w po_w po_w) (ha σ G H u s _ fun v G1 H1 g1 k1 => wO_of hl g1.sub (s.gr g1) fun G2 H2 g2 => wO_of hh g2.sub (s.gr (g1.trans g2)) fun G3 H3 g3 => by
    obtain ⟨p, xs, rfl, h3, h4⟩ := Dp.tupE (k1.gr (g2.trans g3))
    refine ⟨p, xs, rfl, Same.tup g3.sub h3, fun hw => ?_, fun _ p hp => q _ _ _ (g1.trans (g2.trans (g3.trans (Gr.upd g3.sub hp)))) (.tup (SqT.of upd_same) (L2.DpAll.gr (Gr.upd g3.sub hp) (DpAll.cut h4 l h)))⟩
    refine q _ _ _ (g1.trans (g2.trans g3)) (.tup h3 ?_)
    have eq : cutD ds l h = ds := by
      unfold cutD
      rw [← DpAll.length h4, hw.1, hw.2, List.drop_zero, List.take_of_length_le (by rw [DpAll.length h4]; omega)]
    rw [eq]
    exact h4)
theorem pv_fromL {k : Nat} {j} {p2 p3 : Pos} (ha : PV X a ρ (.list ds)) : PV X (.Subscript a (.Slice (some (.Constant (.int (k : Int)) j p3)) none none p2) pos) ρ (.list (ds.drop k)) :=
  (pv_slL ha (pp_some pv_int) pp_none).to (by rw [cutD_from])
theorem pv_fromT {k : Nat} {j} {p2 p3 : Pos} (ha : PV X a ρ (.tuple ds)) : PV X (.Subscript a (.Slice (some (.Constant (.int (k : Int)) j p3)) none none p2) pos) ρ (.tuple (ds.drop k)) :=
  (pv_slT ha (pp_some pv_int) pp_none).to (by rw [cutD_from])
/-! ### tests -/
variable {k k1 k2 : Bool} {rest : List Expr}
theorem pb_val (h : PV X e ρ (.bool k)) (he : ∀ whole, isTrue e X.env whole = (do let v ← whole; standAt e.pos; holding [v] (truthy v)) := by intro _; rfl) : PB X e ρ k :=
  fun σ G H u s Q q => wT_of (pt_val pe_w he) (h σ G H u s _ fun v G1 H1 g1 k1 => ⟨k, Dp.blE k1, q G1 H1 g1⟩)
theorem pb_not (h : PB X a ρ k) : PB X (.UnaryOp .Not a pos) ρ (!k) := fun σ G H u s Q q => wT_of (pt_not pt_w) (h σ G H u s _ fun G1 H1 g1 => q G1 H1 g1)
theorem pb_w (h : PBW X e ρ k) : PB X e ρ k := fun σ G H u s Q q => wT_of (PW.pt pw_w) (h σ G H u s Q q)
theorem pbw_and1 (h : PB X a ρ k) : PBW X (.BoolOp .And [a] pos) ρ k := fun σ G H u s Q q => wW_of (pw_and1 pt_w) (h σ G H u s Q q)
theorem pbw_or1 (h : PB X a ρ k) : PBW X (.BoolOp .Or [a] pos) ρ k := fun σ G H u s Q q => wW_of (pw_or1 pt_w) (h σ G H u s Q q)
theorem pbw_and (h : PB X a ρ k1) (h2 : k1 = true → PBW X (.BoolOp .And (b :: rest) pos) ρ k2) : PBW X (.BoolOp .And (a :: b :: rest) pos) ρ (k1 && k2) := fun σ G H u s Q q => wW_of (pw_and pt_w pw_w) (h σ G H u s _ fun G1 H1 g1 => by
  cases k1 with
  | true =>
    rw [if_pos rfl]
    exact h2 rfl σ G1 H1 g1.sub (s.gr g1) _ fun G2 H2 g2 => q G2 H2 (g1.trans g2)
  | false =>
    rw [if_neg Bool.false_ne_true]
    exact q G1 H1 g1)
theorem pbw_or (h : PB X a ρ k1) (h2 : k1 = false → PBW X (.BoolOp .Or (b :: rest) pos) ρ k2) : PBW X (.BoolOp .Or (a :: b :: rest) pos) ρ (k1 || k2) := fun σ G H u s Q q => wW_of (pw_or pt_w pw_w) (h σ G H u s _ fun G1 H1 g1 => by
  cases k1 with
  | true =>
    rw [if_pos rfl]
    exact q G1 H1 g1
  | false =>
    rw [if_neg Bool.false_ne_true]
    exact h2 rfl σ G1 H1 g1.sub (s.gr g1) _ fun G2 H2 g2 => q G2 H2 (g1.trans g2))
theorem pv_one {op} (h : PV X a ρ d) : PV X (.BoolOp op [a] pos) ρ d := fun σ G H u s Q q => wE_of (pe_one pe_w) (h σ G H u s Q q)
theorem pv_and (h : PV X a ρ (.bool k1)) (h2 : k1 = true → PV X (.BoolOp .And (b :: rest) pos) ρ (.bool k2)) : PV X (.BoolOp .And (a :: b :: rest) pos) ρ (.bool (k1 && k2)) := fun σ G H u s Q q => wE_of (pe_and pe_w pe_w) (h σ G H u s _ fun v G1 H1 g1 q1 => ⟨k1, Dp.blE q1, by
  cases k1 with
  | true =>
    rw [if_pos rfl]
    exact h2 rfl σ G1 H1 g1.sub (s.gr g1) _ fun v G2 H2 g2 => q v G2 H2 (g1.trans g2)
  | false =>
    rw [if_neg Bool.false_ne_true]
    exact q _ G1 H1 g1 (.bl false)⟩)
theorem pv_or (h : PV X a ρ (.bool k1)) (h2 : k1 = false → PV X (.BoolOp .Or (b :: rest) pos) ρ (.bool k2)) : PV X (.BoolOp .Or (a :: b :: rest) pos) ρ (.bool (k1 || k2)) := fun σ G H u s Q q => wE_of (pe_or pe_w pe_w) (h σ G H u s _ fun v G1 H1 g1 q1 => ⟨k1, Dp.blE q1, by
  cases k1 with
  | true =>
    rw [if_pos rfl]
    exact q _ G1 H1 g1 (.bl true)
  | false =>
    rw [if_neg Bool.false_ne_true]
    exact h2 rfl σ G1 H1 g1.sub (s.gr g1) _ fun v G2 H2 g2 => q v G2 H2 (g1.trans g2)⟩)
theorem pv_not (h : PV X a ρ (.bool k)) : PV X (.UnaryOp .Not a pos) ρ (.bool (!k)) := fun σ G H u s Q q => wE_of (pe_not pe_w) (h σ G H u s _ fun v G1 H1 g1 q1 => ⟨k, Dp.blE q1, q _ G1 H1 g1 (.bl _)⟩)
theorem pv_if (hc : PB X c ρ k) (ha : k = true → PV X a ρ d1) (hb : k = false → PV X b ρ d2) : PV X (.IfExp c a b pos) ρ (if k = true then d1 else d2) := fun σ G H u s Q q => wE_of (pe_ifExp pt_w pe_w pe_w) (hc σ G H u s _ fun G1 H1 g1 => by
  cases k with
  | true =>
    rw [if_pos rfl]
    exact ha rfl σ G1 H1 g1.sub (s.gr g1) _ fun v G2 H2 g2 q2 => q v G2 H2 (g1.trans g2) (by rw [if_pos rfl]; exact q2)
  | false =>
    rw [if_neg Bool.false_ne_true]
    exact hb rfl σ G1 H1 g1.sub (s.gr g1) _ fun v G2 H2 g2 q2 => q v G2 H2 (g1.trans g2) (by rw [if_neg Bool.false_ne_true]; exact q2))
/-! ### built-ins called -/
theorem pv_callB {id : String} {r : List V → Hp → VK → Prop} {x : Str} {p : Pos} (hc : CallR X (.builtin id) r) (hr : DRC X.K r ds d) (hm : X.mg x = none) (ha : PVs X (e :: es) ρ ds) (hv : bootBuiltins x = some (.builtin id) := by decide +kernel) (hg : Gl X x := by rfl) (hn : x ≠ "__name__" := by decide) (hdb : (x == ("__debug__" : Str)) = false := by decide)
    (he : starEach (e :: es) X.env = (false, eval e X.env) :: starEach es X.env := by rfl) (hpl : (backTo pos (starEach es X.env)).any (·.1) = false := by rfl) : PV X (.Call (.Name x p) (e :: es) [] pos) ρ d :=
  fun σ G H u s Q q => wE_of (pe_callB hc hg hm hv pa_w hn hdb he hpl) (ha σ G H u s _ fun vs G1 H1 g1 k1 => hr G1 H1 vs g1.sub k1 Q fun v G2 H2 g2 k2 => q v G2 H2 (g1.trans g2) k2)
theorem pv_callTy {T : String} {r : List V → Hp → VK → Prop} {x : Str} {p : Pos} (hc : CallR X (.type T) r) (hr : DRC X.K r ds d) (hm : X.mg x = none) (ha : PVs X (e :: es) ρ ds) (hv : bootBuiltins x = some (.type T) := by decide +kernel) (hg : Gl X x := by rfl) (hn : x ≠ "__name__" := by decide) (hdb : (x == ("__debug__" : Str)) = false := by decide)
    (he : starEach (e :: es) X.env = (false, eval e X.env) :: starEach es X.env := by rfl) (hpl : (backTo pos (starEach es X.env)).any (·.1) = false := by rfl) : PV X (.Call (.Name x p) (e :: es) [] pos) ρ d :=
  fun σ G H u s Q q => wE_of (pe_callTy hc hg hm hv pa_w hn hdb he hpl) (ha σ G H u s _ fun vs G1 H1 g1 k1 => hr G1 H1 vs g1.sub k1 Q fun v G2 H2 g2 k2 => q v G2 H2 (g1.trans g2) k2)
theorem DpAll.oneE {H : Hp} {vs : List V} (h : DpAll K H vs [d]) : ∃ v, vs = [v] ∧ Dp K H v d := by
  cases h with
  | cons h1 h2 =>
    cases h2
    exact ⟨_, rfl, h1⟩
theorem DpAll.twoE {H : Hp} {vs : List V} (h : DpAll K H vs [d1, d2]) : ∃ v w, vs = [v, w] ∧ Dp K H v d1 ∧ Dp K H w d2 := by
  cases h with
  | cons h1 h2 =>
    obtain ⟨w, rfl, h3⟩ := DpAll.oneE h2
    exact ⟨_, w, rfl, h1, h3⟩
/-- the lengths -/
def rLn (K : PySem.W.Frag) : List V → Hp → VK → Prop := fun xs H Q => ∃ x n, xs = [x] ∧ LenV K x H n ∧ Q (.int n) H
theorem call_ln : CallR X (.builtin "len") (rLn X.K) := call_len
theorem drc_lenL : DRC K (rLn K) [.list ds] (.int ds.length) := fun G H xs u h Q q => by
  obtain ⟨v, rfl, h1⟩ := DpAll.oneE h
  obtain ⟨a, ys, rfl, h2, h3⟩ := Dp.lstE h1
  refine ⟨_, ds.length, rfl, .inl ⟨ys, L2.Same.seq u h2, (DpAll.length h3).symm⟩, q _ G H (Gr.refl u) (.int _)⟩
theorem drc_lenT : DRC K (rLn K) [.tuple ds] (.int ds.length) := fun G H xs u h Q q => by
  obtain ⟨v, rfl, h1⟩ := DpAll.oneE h
  obtain ⟨a, ys, rfl, h2, h3⟩ := Dp.tupE h1
  refine ⟨_, ds.length, rfl, .inr ⟨ys, Same.tup u h2, (DpAll.length h3).symm⟩, q _ G H (Gr.refl u) (.int _)⟩
theorem drc_lenS {x : Str} (hx : x.length ≤ sizeLine) : DRC K (rLn K) [.str x] (.int x.length) := fun G H xs u h Q q => by
  obtain ⟨v, rfl, h1⟩ := DpAll.oneE h
  have e := Dp.strE h1
  subst e
  exact ⟨_, x.length, rfl, ⟨hx, rfl⟩, q _ G H (Gr.refl u) (.int _)⟩
/-- tuple(..) -/
def rTo (K : PySem.W.Frag) : List V → Hp → VK → Prop := fun xs H Q => ∃ p ys, xs = [.ref p] ∧ ((SqL K H p ys ∧ ∀ l, H l = none → Q (.ref l) (upd H l (.tup ys))) ∨ (SqT K H p ys ∧ Q (.ref p) H))
theorem call_to : CallR X (.type "tuple") (rTo X.K) := call_tuple_of
theorem drc_tupL : DRC K (rTo K) [.list ds] (.tuple ds) := fun G H xs u h Q q => by
  obtain ⟨v, rfl, h1⟩ := DpAll.oneE h
  obtain ⟨a, ys, rfl, h2, h3⟩ := Dp.lstE h1
  exact ⟨a, ys, rfl, .inl ⟨L2.Same.seq u h2, fun l hl => q _ _ _ (Gr.upd u hl) (.tup (SqT.of upd_same) (L2.DpAll.gr (Gr.upd u hl) h3))⟩⟩
/-- int of a text, of an int -/
def rIntS : List V → Hp → VK → Prop := fun xs H Q => ∃ a n, xs = [.str a] ∧ PySem.intText? a = some n ∧ a.length ≤ 640 ∧ Q (.int n) H
theorem call_intS : CallR X (.type "int") rIntS := call_int_str
theorem drc_intS {x : Str} {n : Int} (h : PySem.intText? x = some n) (hx : x.length ≤ 640) : DRC K rIntS [.str x] (.int n) := fun G H xs u h1 Q q => by
  obtain ⟨v, rfl, h2⟩ := DpAll.oneE h1
  have e := Dp.strE h2
  subst e
  exact ⟨x, n, rfl, h, hx, q _ G H (Gr.refl u) (.int _)⟩
def rIntI : List V → Hp → VK → Prop := fun xs H Q => (∃ i, xs = [.int i] ∧ Q (.int i) H) ∨ ∃ k, xs = [.bl k] ∧ Q (.int (if k then 1 else 0)) H
theorem call_intI : CallR X (.type "int") rIntI := call_int1
theorem drc_intI {i : Int} : DRC K rIntI [.int i] (.int i) := fun G H xs u h1 Q q => by
  obtain ⟨v, rfl, h2⟩ := DpAll.oneE h1
  have e := Dp.intE h2
  subst e
  exact .inl ⟨i, rfl, q _ G H (Gr.refl u) (.int _)⟩
/-- str of a text or an int -/
def rStrV : List V → Hp → VK → Prop := fun xs H Q => (∃ i, xs = [.int i] ∧ i.natAbs.log2 < 1920 ∧ Q (.str (toString i)) H) ∨ (∃ a, xs = [.str a] ∧ Q (.str a) H)
theorem call_strV : CallR X (.type "str") rStrV := CallR.or call_str_int SkE.call_str_str
theorem drc_strI {i : Int} (h : i.natAbs.log2 < 1920) : DRC K rStrV [.int i] (.str (toString i)) := fun G H xs u h1 Q q => by
  obtain ⟨v, rfl, h2⟩ := DpAll.oneE h1
  have e := Dp.intE h2
  subst e
  exact .inl ⟨i, rfl, h, q _ G H (Gr.refl u) (.str _)⟩
theorem drc_strS {x : Str} : DRC K rStrV [.str x] (.str x) := fun G H xs u h1 Q q => by
  obtain ⟨v, rfl, h2⟩ := DpAll.oneE h1
  have e := Dp.strE h2
  subst e
  exact .inr ⟨x, rfl, q _ G H (Gr.refl u) (.str _)⟩
/-- all of a list of bools -/
theorem drc_all {bs : List Bool} : DRC K (rAll K) [.list (bs.map .bool)] (.bool (bs.all id)) := fun G H xs u h1 Q q => by
  obtain ⟨v, rfl, h2⟩ := DpAll.oneE h1
  obtain ⟨a, ys, rfl, h3, h4⟩ := Dp.lstE h2
  have e := DpAll.bls h4
  subst e
  exact ⟨a, bs, rfl, L2.Same.seq u h3, q _ G H (Gr.refl u) (.bl _)⟩
theorem pv_all {bs : List Bool} {p : Pos} (hm : X.mg "all" = none) (ha : PV X e ρ (.list (bs.map .bool))) (hc : X.calm = true := by rfl) (hg : Gl X "all" := by rfl) (he : starEach (e :: []) X.env = (false, eval e X.env) :: starEach [] X.env := by rfl) : PV X (.Call (.Name "all" p) [e] [] pos) ρ (.bool (bs.all id)) :=
  pv_callB (cr_all hc) drc_all hm (pvs_cons ha pvs_nil he) (by decide +kernel) hg (by decide) (by decide) he (by rfl)
/-- isinstance of data -/
def tyD : PyData → String
  | .none => "NoneType"
  | .bool _ => "bool"
  | .int _ => "int"
  | .str _ => "str"
  | .list _ => "list"
  | .tuple _ => "tuple"
  | .dict _ => "dict"
theorem tyX_of {H : Hp} {v : V} (h : Dp K H v d) : TyX K H v (.type (tyD d)) := by
  cases h with
  | non => exact .base .non
  | bl b => exact .base (.bl b)
  | int i => exact .base (.int i)
  | str x => exact .base (.str x)
  | lst h1 _ =>
    rcases h1 with (h1 | ⟨o, h1⟩) | h1
    · exact .base (.lst h1)
    · exact .base (.frz h1)
    · obtain ⟨o, its, n, h1, h2, _⟩ := h1
      exact .kList h1 h2
  | tup h1 _ =>
    rcases h1 with (h1 | ⟨o, h1⟩) | h1
    · exact .base (.tup h1)
    · exact .fTuple h1
    · obtain ⟨o, its, n, h1, h2, _⟩ := h1
      exact .kTuple h1 h2
theorem pv_isi {T x : Str} {t : String} {p p1 : Pos} (ha : PV X a ρ d) (hi : X.mg "isinstance" = none) (hT : X.mg x = none) (hk : kitB (tyD d) t = some k) (hx : bootBuiltins x = some (.type t) := by decide +kernel) (hgi : Gl X "isinstance" := by rfl) (hgx : Gl X x := by rfl) (hn : x ≠ "__name__" := by decide) (hdb : (x == ("__debug__" : Str)) = false := by decide)
    (he : starEach (a :: [.Name x p1]) X.env = (false, eval a X.env) :: starEach [.Name x p1] X.env := by rfl) (he2 : starEach (.Name x p1 :: []) X.env = (false, eval (.Name x p1) X.env) :: starEach [] X.env := by rfl) (hpl : (backTo pos (starEach [.Name x p1] X.env)).any (·.1) = false := by rfl) :
    PV X (.Call (.Name "isinstance" p) [a, .Name x p1] [] pos) ρ (.bool k) :=
  fun σ G H u s Q q => wE_of (pe_callB call_isi hgi hi (by decide +kernel) (pa_cons pe_w (pa_cons (pe_bltn (v := .ty t) hgx hT hx rfl hn hdb) pa_nil he2) he) (by decide) (by decide) he hpl)
    (ha σ G H u s _ fun v G1 H1 g1 k1 => ⟨v, .ty t, _, _, k, rfl, .ty t, tyX_of (Dp.same g1.sub k1), kit_ty hk, q _ G1 H1 g1 (.bl _)⟩)
/-! ### texts by their methods -/
theorem pv_split {x y : Str} {apos : Pos} (ha : PV X a ρ (.str x)) (hb : PV X b ρ (.str y)) (hy : (y.length == 0) = false) (hx : x.length + 2 ≤ sizeLine) (hs : starEach [b] X.env = [(false, eval b X.env)] := by rfl) (hbase : attributeBase a "split" X.env (eval a X.env) = eval a X.env := by rfl) (hline : (apos.endLine == pos.line) = true := by rfl) :
    PV X (.Call (.Attribute a "split" apos) [b] [] pos) ρ (.list ((Txt.split x y).map .str)) :=
  fun σ G H u s Q q => wE_of (pe_split pe_w pe_w hs hbase hline) (ha σ G H u s _ fun v G1 H1 g1 k1 => ⟨⟨x, Dp.strE k1⟩, hb σ G1 H1 g1.sub (s.gr g1) _ fun w G2 H2 g2 k2 => ⟨x, y, Dp.strE k1, by rw [Dp.strE k2], hy, hx, fun p hp =>
    q _ _ _ (g1.trans (g2.trans (Gr.upd g2.sub hp))) (.lst (SqL.of upd_same) (DpAll.ofStrs _))⟩⟩)
theorem pv_join {x : Str} {ys : List Str} {apos : Pos} (ha : PV X a ρ (.str x)) (hb : PV X b ρ (.list (ys.map .str))) (hz : (ys.map (·.length)).sum + ys.length * x.length ≤ 16777216) (hs : starEach [b] X.env = [(false, eval b X.env)] := by rfl) (hbase : attributeBase a "join" X.env (eval a X.env) = eval a X.env := by rfl) (hline : (apos.endLine == pos.line) = true := by rfl) :
    PV X (.Call (.Attribute a "join" apos) [b] [] pos) ρ (.str (Txt.join x ys)) :=
  fun σ G H u s Q q => wE_of (pe_join pe_w pe_w hs hbase hline) (ha σ G H u s _ fun v G1 H1 g1 k1 => ⟨⟨x, Dp.strE k1⟩, hb σ G1 H1 g1.sub (s.gr g1) _ fun w G2 H2 g2 k2 => by
    obtain ⟨p, xs, rfl, h3, h4⟩ := Dp.lstE k2
    have e := DpAll.strs h4
    subst e
    exact ⟨x, p, ys, Dp.strE k1, rfl, .inl (L2.Same.seq g2.sub h3), hz, q _ _ _ (g1.trans g2) (.str _)⟩⟩)
end
end DL
end D3_text
section D4_text
set_option maxRecDepth 100000
set_option maxHeartbeats 4000000
/-! enumerate over a tuple: making, turns, the rule for a for and a comprehension -/
namespace PySem
namespace EnT
open Sem (wp)
theorem new_tup (l : Addr) (items : Array Value) :
    Meets (Builtin.«enumerate.__new__» ⟨[.type "enumerate", .ref l], []⟩) (fun _ R s => s.heap.IsTuple l items ∧
      R (.ok (.ret (.ref (s.heap.push { cls := .type "tuple_iterator", data := .fields #[.ref l, .int 0 0] }).objs.size)))
        { s with heap := (s.heap.push { cls := .type "tuple_iterator", data := .fields #[.ref l, .int 0 0] }).push { cls := .type "enumerate", data := .fields #[.none, .bool false, .ref s.heap.objs.size, rawInt 0, .none, .none] } }) :=
  .of_wp fun prog w A R s h => by
    obtain ⟨hp, g, d, tk, os⟩ := s
    obtain ⟨hl, h⟩ := h
    have hsub := sub_enumerate
    have it : ∀ {A' : Around} {E : Value → Shared → Prop} {Q : Value → Shared → Prop}, Q (.ref hp.objs.size) ⟨hp.push { cls := .type "tuple_iterator", data := .fields #[.ref l, .int 0 0] }, g, d, tk, os⟩ →
        wpAny (model prog w) A' (pyIter (.ref l)) Q E ⟨hp, g, d, tk, os⟩ := fun q => wpAny_pyIter_tuple (s := ⟨hp, g, d, tk, os⟩) hl q
    wp_walk using it
    refine wpAny_stack_any fun st => wpAny_pure ?_
    split
    · rename_i c _ _ _ _ _
      cases (c == Value.type "enumerate")
      · wp_walk using it
        exact ⟨_, rfl, h⟩
      · wp_walk using it
        exact ⟨_, rfl, h⟩
    · wp_walk using it
      exact ⟨_, rfl, h⟩
theorem call_tup {prog : Program} {w : World} {A : Around} {E : Value → Shared → Prop} {s : Shared} {l : Addr} {items : Array Value} {Q : Value → Shared → Prop} (hL : s.heap.IsTuple l items)
    (h : ∀ h', IsEnum h' (s.heap.objs.size + 1) s.heap.objs.size 0 .none → h'.IsTupleIter s.heap.objs.size l 0 → h'.objs.size = s.heap.objs.size + 2 →
      (∀ b o, s.heap.get? b = some o → h'.get? b = some o) → Q (.ref (s.heap.objs.size + 1)) { s with heap := h' }) :
    wpAny (model prog w) A (call (.type "enumerate") [.ref l]) Q E s := by
  refine callType_new F.called_enumerate (by decide) (F.typeCall_enumerate_1 _) (F.newCall_enumerate_1 _) (fun obj => F.args_object_init_2 obj _) F.entry_enumerate_new
    (new_tup l items) ⟨hL, ?_⟩
  have hz : (s.heap.push { cls := .type "tuple_iterator", data := .fields #[.ref l, .int 0 0] }).objs.size = s.heap.objs.size + 1 := Heap.size_push ..
  show _ ∧ _
  rw [hz]
  have he : IsEnum ((s.heap.push { cls := .type "tuple_iterator", data := .fields #[.ref l, .int 0 0] }).push
      { cls := .type "enumerate", data := .fields #[.none, .bool false, .ref s.heap.objs.size, rawInt 0, .none, .none] }) (s.heap.objs.size + 1) s.heap.objs.size 0 .none := by
    have z := Heap.get?_push_size (s.heap.push { cls := .type "tuple_iterator", data := .fields #[.ref l, .int 0 0] })
      (o := { cls := .type "enumerate", data := .fields #[.none, .bool false, .ref s.heap.objs.size, rawInt 0, .none, .none] }) rfl
    rw [hz] at z
    exact z
  exact ⟨⟨_, he, rfl⟩, h _ he ⟨_, Heap.get?_push_of_some _ (Heap.get?_push_size _ rfl), rfl, rfl⟩ (by rw [Heap.size_push, hz]) fun b o x => Heap.get?_push_of_some _ (Heap.get?_push_of_some _ x)⟩
end EnT
end PySem
namespace DL
open PySem PySem.Spec PyProof.Rows L2 StX
/-- the tuple at a, each item in a new pair -/
def ItT (K : PySem.W.Frag) (a : Addr) : It :=
  ⟨fun i H => ∃ (xs : List V) (x : V), SqT K H a xs ∧ xs[i]? = some x, fun i H v H' => ∃ T x, v = .ref T ∧ H T = none ∧ H' = upd H T (.tup [.int (i : Nat), x]) ∧ ∀ xs, SqT K H a xs → xs[i]? = some x, fun i H => ∃ xs : List V, SqT K H a xs ∧ xs.length = i⟩
theorem turn_enT {P : Program} {w : World} {K : PySem.W.Frag} {elts : List Expr} {kk : Nat} {tpos : Pos} (a e it : Addr) (hae : a ≠ e) (hai : a ≠ it) :
    Turn P w K (.Tuple elts kk tpos) (ItT K a) [e, it] e (fun i h => (∃ old, IsEnum h e it ((i : Nat) : Int) old) ∧ h.IsTupleIter it a i ∧ e ≠ it) where
  mem := by simp
  obj := fun i h st b hb => by
    obtain ⟨⟨old, he⟩, ⟨o, ho, hc, hd⟩, _⟩ := st
    have e' : b = e ∨ b = it := by simpa using hb
    rcases e' with z | z
    · rw [z]
      exact ⟨_, he, fun v q => nomatch q⟩
    · rw [z]
      exact ⟨o, ho, fun v q => by rw [hd] at q; cases q⟩
  keep := fun i h h' st k => let ⟨⟨old, he⟩, hi, hne⟩ := st; ⟨⟨old, k e (by simp) _ he⟩, hi.at fun o q => k it (by simp) o q, hne⟩
  item := by
    intro X hP hw hK hc i pins s σ H E I hf st hg
    subst hP hw hK
    obtain ⟨⟨old, he⟩, hit, hne⟩ := st
    obtain ⟨xs, x, hq, hx⟩ := hg
    obtain ⟨its, rv, p, hz⟩ := I.tuple hq
    obtain ⟨u, hu, ru⟩ := rv.get hx
    have p' : s.heap.IsTuple a its.toArray := p
    have hel : e < s.heap.objs.size := Heap.lt_size he
    have hil : it < s.heap.objs.size := by
      obtain ⟨_, q, _⟩ := hit
      exact Heap.lt_size q
    have hlen : i < its.toArray.size := by
      have := List.getElem?_eq_some_iff.mp hu
      obtain ⟨h1, _⟩ := this
      simpa using h1
    have D := Draws.tuple (prog := X.prog) (w := X.w) (A := X.A.in1) (I.ok.hd hc) it a hai its.toArray
    refine wpAny_pyNext_enum_itemC D he ⟨hit, p'⟩ hlen hne (by simp [hne, Ne.symm hae]) fun y h' tk hy ho hit' hT hsz hk => ?_
    have ey : y = u := by
      have hu' : its.toArray[i]? = some u := by simpa using hu
      rw [hu'] at hy
      exact (Option.some.inj hy).symm
    subst ey
    refine ⟨_, rfl, wpAny_letOwnedTupleGo_enum (s := { s with heap := h', toks := tk + 1 }) ho fun h'' he' sb => ?_⟩
    have hT2 : h''.get? s.heap.objs.size = some { cls := .type "tuple", data := .seq #[.int i tk, y] } := (sb.2 _ (Nat.ne_of_gt hel)).trans hT
    have new : ObjOk X.prog X.w (upd H s.heap.objs.size (.tup [.int (i : Nat), x])) h'' s.heap.objs.size (.tup [.int (i : Nat), x]) :=
      ⟨by show 2 ≤ sizeLine; decide, [.int i tk, y], .cons ⟨_, rfl⟩ (.cons ru .nil), ⟨_, hT2, rfl, _, rfl⟩⟩
    have I1 : Inv X pins σ (upd H s.heap.objs.size (.tup [.int (i : Nat), x])) { s with heap := h'', toks := tk + 1 } :=
      I.turnedNew (ch := [e, it]) (fun b ob hb q => (sb.2 b (fun z => hb (by simp [z]))).trans (hk b ob (fun z => hb (by simp [z])) (fun z => hb (by simp [z])) q)) hf (Nat.le_refl _) new
    refine ⟨.ref s.heap.objs.size, _, I1, rfl, ⟨_, x, rfl, I.hok.fresh (Nat.le_refl _), rfl, fun ys hy => by rw [I.tuple_inj hy hq]; exact hx⟩, ⟨⟨y, ?_⟩, hit'.1.at fun o q => (sb.2 it (Ne.symm hne)).trans q, hne⟩, fun b hb => ?_⟩
    · have e1 : ((i + 1 : Nat) : Int) = (i : Int) + 1 := by omega
      rw [e1]
      exact he'
    · have hb' : b < s.heap.objs.size := by
        have e' : b = e ∨ b = it := by simpa using hb
        rcases e' with z | z
        · rw [z]
          exact hel
        · rw [z]
          exact hil
      rw [upd_ne (Nat.ne_of_lt hb')]
      exact (hf b hb).1
  done := by
    intro X hP hw hK hc i pins s σ H E I hf st hg
    subst hP hw hK
    obtain ⟨⟨old, he⟩, hit, hne⟩ := st
    obtain ⟨xs, hq, hx⟩ := hg
    obtain ⟨its, rv, p, hz⟩ := I.tuple hq
    have p' : s.heap.IsTuple a its.toArray := p
    obtain ⟨f0, f1, f2, f3, f4, f5⟩ := hf it (by simp)
    have hl := rv.length
    have D := Draws.tuple (prog := X.prog) (w := X.w) (A := X.A.in1) (I.ok.hd hc) it a hai its.toArray
    have hsz : its.toArray.size = i := by
      rw [List.size_toArray, ← hl, hx]
    exact wpAny_pyNext_enum_endD D he (by rw [hsz]; exact ⟨hit, p'⟩) fun h' eb => ⟨rfl, I.turned (t' := s.toks) (fun b o hb q => eb b o hb q) f0 f1 f3 f4 f5⟩
  self := fun A i s Q E st h => let ⟨⟨_, he⟩, _⟩ := st; wpAny_pyIter_enum he h
def iEnT (K : PySem.W.Frag) (ta : TA) : TI := fun σ H R => ta σ H fun vs H1 => ∃ a xs, vs = [.ref a] ∧ SqT K H1 a xs ∧ R (ItT K a) H1
theorem pi_enT {X : Cx} {e : Expr} {ta : TA} {p pos tpos : Pos} {elts : List Expr} {kk : Nat} (hg : Gl X "enumerate") (hm : X.mg "enumerate" = none) (ha : PA X [e] ta) (hs : starEach [e] X.env = [(false, eval e X.env)] := by rfl) :
    PI X (.Tuple elts kk tpos) (.Call (.Name "enumerate" p) [e] [] pos) (iEnT X.K ta) := by
  refine ⟨fun pins s σ H R I h => ?_⟩
  refine Call_ (ld_blt I hg hm boot_enumerate (PyProof.Rows.callWith_type1 (thn (ha.run pos pins s σ H _ I h) fun us s1 ⟨vs, H1, I1, r1, q1⟩ => ?_) hs rfl))
  obtain ⟨a, xs, ex, hq, q⟩ := q1
  subst ex
  cases r1 with
  | cons r rr =>
    cases rr
    cases r
    obtain ⟨its, rv, p', hz⟩ := I1.tuple hq
    obtain ⟨oa, hoa, _⟩ := id p'
    have al : a < s1.heap.objs.size := Heap.lt_size hoa
    refine PySem.EnT.call_tup (show s1.heap.IsTuple a its.toArray from p') fun h' he hit hsz hk => wpAny_pyIter_enum he ?_
    have I2 : Inv X pins σ H1 { s1 with heap := h' } := I1.kept (t' := s1.toks) hk
    refine ⟨s1.heap.objs.size + 1, [s1.heap.objs.size + 1, s1.heap.objs.size], _, _, H1, rfl, I2, turn_enT a (s1.heap.objs.size + 1) s1.heap.objs.size (Nat.ne_of_lt (Nat.lt_succ_of_lt al)) (Nat.ne_of_lt al), ⟨⟨.none, he⟩, hit, Nat.succ_ne_self _⟩, fun b hb => ?_, q⟩
    have e' : b = s1.heap.objs.size + 1 ∨ b = s1.heap.objs.size := by simpa using hb
    have hle : s1.heap.objs.size ≤ b := by
      rcases e' with z | z
      · rw [z]
        exact Nat.le_add_right _ _
      · rw [z]
        exact Nat.le_refl _
    exact I1.fpOk hle (I1.hok.fresh hle)
end DL
end D4_text
section D5_text
set_option maxRecDepth 100000
set_option maxHeartbeats 2000000
namespace DL
open PySem PySem.Spec PyProof.Rows L2 StX
open PySem.W (alike dataLt)
/-! ### what is walked, on data -/
/-- J gives the data ys, one after another, while the data heap G1 stands -/
def DW (K : PySem.W.Frag) (J : It) (ys : List PyData) (G1 : Hp) : Prop := ∃ Y : Nat → Hp → V → Hp → Prop, L2.Walk J ys.length (fun H => Same G1 H) Y ∧
  ∀ i H x H' G, Same G H → Same G1 G → Y i H x H' → ∃ G' d, Gr G H G' H' ∧ ys[i]? = some d ∧ Dp K G' x d
def IV (X : Cx) (tg iter : Expr) (ρ : Rho) (ys : List PyData) : Prop := ∀ σ G H, Same G H → SD X.K G σ ρ → ∀ R : It → Hp → Prop, (∀ J G1 H1, Gr G H G1 H1 → DW X.K J ys G1 → R J H1) → wI X tg iter σ H R
section
variable {X : Cx} {ρ : Rho} {a b c e tg iter elt : Expr} {es : List Expr} {d d1 d2 d3 : PyData} {ds ys : List PyData} {pos : Pos} {K : PySem.W.Frag}
theorem dw_list {a : Addr} {xs : List V} {G1 : Hp} (h1 : SqL K G1 a xs) (h2 : DpAll K G1 xs ds) : DW K (Itl K a) ds G1 := by
  refine ⟨YAt xs, ?_, fun i H x H' G u g y => ?_⟩
  · rw [← DpAll.length h2]
    exact L2.Walk.mono walk_list (fun H g => L2.Same.seq g h1) fun _ _ _ _ _ _ y => y
  · obtain ⟨rfl, hx⟩ := y
    obtain ⟨d, e1, e2⟩ := DpAll.get' h2 hx
    exact ⟨G, d, Gr.refl u, e1, Dp.same g e2⟩
theorem dw_tup {a : Addr} {xs : List V} {G1 : Hp} (h1 : SqT K G1 a xs) (h2 : DpAll K G1 xs ds) : DW K (Itt K a) ds G1 := by
  refine ⟨YAt xs, ?_, fun i H x H' G u g y => ?_⟩
  · rw [← DpAll.length h2]
    exact L2.Walk.mono walk_tup (fun H g => Same.tup g h1) fun _ _ _ _ _ _ y => y
  · obtain ⟨rfl, hx⟩ := y
    obtain ⟨d, e1, e2⟩ := DpAll.get' h2 hx
    exact ⟨G, d, Gr.refl u, e1, Dp.same g e2⟩
theorem iv_list (h : PV X e ρ (.list ds)) : IV X tg e ρ ds := fun σ G H u s R q => wI_of (pi_list pe_w) (h σ G H u s _ fun v G1 H1 g1 k1 => by
  obtain ⟨a, xs, rfl, h1, h2⟩ := Dp.lstE k1
  exact ⟨a, rfl, ⟨xs, L2.Same.seq g1.sub h1⟩, q _ G1 H1 g1 (dw_list h1 h2)⟩)
theorem iv_tup (h : PV X e ρ (.tuple ds)) : IV X tg e ρ ds := fun σ G H u s R q => wI_of (pi_tup pe_w) (h σ G H u s _ fun v G1 H1 g1 k1 => by
  obtain ⟨a, xs, rfl, h1, h2⟩ := Dp.tupE k1
  exact ⟨a, rfl, ⟨xs, Same.tup g1.sub h1⟩, q _ G1 H1 g1 (dw_tup h1 h2)⟩)
/-- the signs of a text -/
def signs (z : Str) : List PyData := z.cps.toList.map fun c => .str ⟨#[c]⟩
theorem iv_str {z : Str} (h : PV X e ρ (.str z)) : IV X tg e ρ (signs z) := fun σ G H u s R q => wI_of (pi_str pe_w) (h σ G H u s _ fun v G1 H1 g1 k1 => by
  refine ⟨z, Dp.strE k1, q _ G1 H1 g1 ⟨fun i H v H' => H' = H ∧ ∃ c, z.cps[i]? = some c ∧ v = .str ⟨#[c]⟩, ?_, fun i H x H' G u g y => ?_⟩⟩
  · have e2 : (signs z).length = z.cps.size := by simp [signs]
    rw [e2]
    exact L2.Walk.mono walk_str (fun _ _ => trivial) fun _ _ _ _ _ _ y => y
  · obtain ⟨rfl, c, hc, rfl⟩ := y
    refine ⟨G, .str ⟨#[c]⟩, Gr.refl u, ?_, .str _⟩
    unfold signs
    rw [List.getElem?_map, Array.getElem?_toList, hc]
    rfl)
def intsD (lo : Int) (n : Nat) : List PyData := (List.range n).map fun i => .int (lo + (i : Nat))
theorem intsD_get {lo : Int} {n i : Nat} (h : i < n) : (intsD lo n)[i]? = some (.int (lo + (i : Nat))) := by
  unfold intsD
  rw [List.getElem?_map, List.getElem?_range h]
  rfl
theorem dw_range {lo : Int} {n : Nat} {G1 : Hp} : DW K (Itr lo n) (intsD lo n) G1 := by
  refine ⟨fun i H x H' => i < n ∧ H' = H ∧ x = .int (lo + (i : Nat)), ?_, fun i H x H' G u g y => ?_⟩
  · have e2 : (intsD lo n).length = n := by simp [intsD]
    rw [e2]
    exact L2.Walk.mono walk_range (fun _ _ => trivial) fun _ _ _ _ hi _ y => ⟨hi, y.1, y.2⟩
  · obtain ⟨hi, rfl, rfl⟩ := y
    exact ⟨G, _, Gr.refl u, intsD_get hi, .int _⟩
theorem iv_range1 {j : Int} {p : Pos} (h : PV X a ρ (.int j)) (h1 : -(2 ^ 62) ≤ j) (h2 : j < 2 ^ 62) (hm : X.mg "range" = none) (hg : Gl X "range" := by rfl) (hs : starEach [a] X.env = [(false, eval a X.env)] := by rfl) :
    IV X tg (.Call (.Name "range" p) [a] [] pos) ρ (intsD 0 j.toNat) := fun σ G H u s R q => wI_of (pi_range1 hg hm (pa_cons pe_w pa_nil hs) hs) (h σ G H u s _ fun v G1 H1 g1 k1 => ⟨j, by rw [Dp.intE k1], h1, h2, q _ G1 H1 g1 dw_range⟩)
theorem iv_range2 {i j : Int} {p : Pos} (h : PV X a ρ (.int i)) (h' : PV X b ρ (.int j)) (hb : -(2 ^ 62) ≤ i ∧ i < 2 ^ 62 ∧ -(2 ^ 62) ≤ j ∧ j < 2 ^ 62) (hm : X.mg "range" = none) (hg : Gl X "range" := by rfl)
    (hs : starEach [a, b] X.env = [(false, eval a X.env), (false, eval b X.env)] := by rfl) (hs2 : starEach [b] X.env = [(false, eval b X.env)] := by rfl) :
    IV X tg (.Call (.Name "range" p) [a, b] [] pos) ρ (intsD i (j - i).toNat) := fun σ G H u s R q => wI_of (pi_range2 hg hm (pa_cons pe_w (pa_cons pe_w pa_nil hs2) (by rw [hs, hs2])) hs hs2)
      (h σ G H u s _ fun v G1 H1 g1 k1 => h' σ G1 H1 g1.sub (s.gr g1) _ fun w G2 H2 g2 k2 => ⟨i, j, by rw [Dp.intE k1, Dp.intE k2], hb, q _ G2 H2 (g1.trans g2) dw_range⟩)
/-- pairs -/
def pairD (x y : PyData) : PyData := .tuple [x, y]
def enumD (ds : List PyData) : List PyData := (List.range ds.length).map fun i => pairD (.int (i : Nat)) (ds.getD i .none)
def zipD (xs ys : List PyData) : List PyData := (List.range (min xs.length ys.length)).map fun i => pairD (xs.getD i .none) (ys.getD i .none)
theorem pair_new {G H H' : Hp} {v : V} {T : Addr} {x y : V} {d1 d2 : PyData} (u : Same G H) (hv : v = .ref T) (hT : H T = none) (hH : H' = L2.upd H T (.tup [x, y])) (h1 : Dp K G x d1) (h2 : Dp K G y d2) : ∃ G', Gr G H G' H' ∧ Dp K G' v (pairD d1 d2) := by
  subst hv hH
  exact ⟨_, Gr.upd u hT, .tup (SqT.of upd_same) (.cons (h1.gr (Gr.upd u hT)) (.cons (h2.gr (Gr.upd u hT)) .nil))⟩
theorem enum_get {ds : List PyData} {i : Nat} {d : PyData} (h : ds[i]? = some d) : (enumD ds)[i]? = some (pairD (.int (i : Nat)) d) := by
  obtain ⟨h1, h2⟩ := List.getElem?_eq_some_iff.mp h
  unfold enumD
  rw [List.getElem?_map, List.getElem?_range h1]
  simp [List.getD, h]
theorem zip_get {xs ys : List PyData} {i : Nat} {d1 d2 : PyData} (h : xs[i]? = some d1) (h' : ys[i]? = some d2) : (zipD xs ys)[i]? = some (pairD d1 d2) := by
  obtain ⟨h1, h2⟩ := List.getElem?_eq_some_iff.mp h
  obtain ⟨h3, h4⟩ := List.getElem?_eq_some_iff.mp h'
  unfold zipD
  rw [List.getElem?_map, List.getElem?_range (by omega)]
  simp [List.getD, h, h']
theorem enumD_length : (enumD ds).length = ds.length := by simp [enumD]
theorem zipD_length {xs ys : List PyData} : (zipD xs ys).length = min xs.length ys.length := by simp [zipD]
/-- pairs of the turn's number and an item -/
theorem dw_pairE {J : It} {xs : List V} {G1 : Hp} {A : Hp → Prop} (w : L2.Walk J xs.length A (YPair (fun i => some (.int (i : Nat))) (fun i => xs[i]?))) (hA : ∀ H, Same G1 H → A H) (h2 : DpAll K G1 xs ds) : DW K J (enumD ds) G1 := by
  refine ⟨YPair (fun i => some (.int (i : Nat))) (fun i => xs[i]?), ?_, fun i H x H' G u g y => ?_⟩
  · rw [enumD_length, ← DpAll.length h2]
    exact L2.Walk.mono w hA fun _ _ _ _ _ _ y => y
  · obtain ⟨T, x0, y0, hv, hT, hH, hx, hy⟩ := y
    obtain ⟨d, e3, e4⟩ := DpAll.get' h2 hy
    have ex := Option.some.inj hx
    subst ex
    obtain ⟨G', s1, s2⟩ := pair_new (K := K) u hv hT hH (.int _) (Dp.same g e4)
    exact ⟨G', _, s1, enum_get e3, s2⟩
theorem dw_pairZ {J : It} {us ws : List V} {xs ys : List PyData} {G1 : Hp} {A : Hp → Prop} (w : L2.Walk J (min us.length ws.length) A (YPair (fun i => us[i]?) (fun i => ws[i]?))) (hA : ∀ H, Same G1 H → A H) (h2 : DpAll K G1 us xs) (h4 : DpAll K G1 ws ys) : DW K J (zipD xs ys) G1 := by
  refine ⟨YPair (fun i => us[i]?) (fun i => ws[i]?), ?_, fun i H x H' G u g y => ?_⟩
  · rw [zipD_length, ← DpAll.length h2, ← DpAll.length h4]
    exact L2.Walk.mono w hA fun _ _ _ _ _ _ y => y
  · obtain ⟨T, x0, y0, hv, hT, hH, hx, hy⟩ := y
    obtain ⟨d, e3, e4⟩ := DpAll.get' h2 hx
    obtain ⟨d', e5, e6⟩ := DpAll.get' h4 hy
    obtain ⟨G', s1, s2⟩ := pair_new (K := K) u hv hT hH (Dp.same g e4) (Dp.same g e6)
    exact ⟨G', _, s1, zip_get e3 e5, s2⟩
theorem iv_enumL {p tpos : Pos} {elts : List Expr} {kk : Nat} (h : PV X e ρ (.list ds)) (hm : X.mg "enumerate" = none) (hg : Gl X "enumerate" := by rfl) (hs : starEach [e] X.env = [(false, eval e X.env)] := by rfl) :
    IV X (.Tuple elts kk tpos) (.Call (.Name "enumerate" p) [e] [] pos) ρ (enumD ds) := fun σ G H u s R q => wI_of (pi_enum hg hm (pa_cons pe_w pa_nil hs) hs) (h σ G H u s _ fun v G1 H1 g1 k1 => by
  obtain ⟨a, xs, rfl, h1, h2⟩ := Dp.lstE k1
  exact ⟨a, xs, rfl, L2.Same.seq g1.sub h1, q _ G1 H1 g1 (dw_pairE walk_enum (fun H g => L2.Same.seq g h1) h2)⟩)
theorem walk_enT {a : Addr} {xs : List V} : L2.Walk (ItT K a) xs.length (fun H => SqT K H a xs) (YPair (fun i => some (.int (i : Nat))) (fun i => xs[i]?)) := by
  refine ⟨fun i _ hi q => ⟨xs, xs[i], q, by simp [hi]⟩, fun _ q => ⟨xs, q, rfl⟩, fun i H v H' _ q y => ?_⟩
  obtain ⟨T, x, h1, h2, h3, h4⟩ := y
  exact ⟨T, .int (i : Nat), x, h1, h2, h3, rfl, h4 xs q⟩
theorem iv_enumT {p tpos : Pos} {elts : List Expr} {kk : Nat} (h : PV X e ρ (.tuple ds)) (hm : X.mg "enumerate" = none) (hg : Gl X "enumerate" := by rfl) (hs : starEach [e] X.env = [(false, eval e X.env)] := by rfl) :
    IV X (.Tuple elts kk tpos) (.Call (.Name "enumerate" p) [e] [] pos) ρ (enumD ds) := fun σ G H u s R q => wI_of (pi_enT hg hm (pa_cons pe_w pa_nil hs) hs) (h σ G H u s _ fun v G1 H1 g1 k1 => by
  obtain ⟨a, xs, rfl, h1, h2⟩ := Dp.tupE k1
  exact ⟨a, xs, rfl, Same.tup g1.sub h1, q _ G1 H1 g1 (dw_pairE walk_enT (fun H g => Same.tup g h1) h2)⟩)
theorem walk_zipT {a b : Addr} {xs ys : List V} : L2.Walk (RZ.ItzT K a b) (min xs.length ys.length) (fun H => SqT K H a xs ∧ SqT K H b ys) (YPair (fun i => xs[i]?) (fun i => ys[i]?)) := by
  refine ⟨fun i _ hi q => ?_, fun _ q => ⟨xs, ys, q.1, q.2, by omega⟩, fun i H v H' _ q y => ?_⟩
  · have h1 : i < xs.length := by omega
    have h2 : i < ys.length := by omega
    exact ⟨xs, ys, xs[i], ys[i], q.1, q.2, by simp [h1], by simp [h2]⟩
  · obtain ⟨T, x, z, h1, h2, h3, h4, h5⟩ := y
    exact ⟨T, x, z, h1, h2, h3, h4 xs q.1, h5 ys q.2⟩
theorem iv_zipL {p tpos : Pos} {elts : List Expr} {kk : Nat} {xs ys : List PyData} (h : PV X a ρ (.list xs)) (h' : PV X b ρ (.list ys)) (hm : X.mg "zip" = none) (hg : Gl X "zip" := by rfl) (hs : starEach [a, b] X.env = (false, eval a X.env) :: starEach [b] X.env := by rfl)
    (hs2 : starEach [b] X.env = (false, eval b X.env) :: starEach [] X.env := by rfl) (hpl : (backTo pos (starEach [b] X.env)).any (·.1) = false := by rfl) :
    IV X (.Tuple elts kk tpos) (.Call (.Name "zip" p) [a, b] [] pos) ρ (zipD xs ys) := fun σ G H u s R q => wI_of (RZ.pi_zipA hg hm (pa_cons pe_w (pa_cons pe_w pa_nil hs2) hs) hs hpl) (h σ G H u s _ fun v G1 H1 g1 k1 => h' σ G1 H1 g1.sub (s.gr g1) _ fun w G2 H2 g2 k2 => by
  obtain ⟨a, us, rfl, h1, h2⟩ := Dp.lstE (k1.gr g2)
  obtain ⟨b, ws, rfl, h3, h4⟩ := Dp.lstE k2
  exact ⟨a, b, us, ws, rfl, .inl ⟨L2.Same.seq g2.sub h1, L2.Same.seq g2.sub h3, q _ G2 H2 (g1.trans g2) (dw_pairZ (walk_zip rfl) (fun H g => ⟨L2.Same.seq g h1, L2.Same.seq g h3⟩) h2 h4)⟩⟩)
theorem iv_zipT {p tpos : Pos} {elts : List Expr} {kk : Nat} {xs ys : List PyData} (h : PV X a ρ (.tuple xs)) (h' : PV X b ρ (.tuple ys)) (hm : X.mg "zip" = none) (hg : Gl X "zip" := by rfl) (hs : starEach [a, b] X.env = (false, eval a X.env) :: starEach [b] X.env := by rfl)
    (hs2 : starEach [b] X.env = (false, eval b X.env) :: starEach [] X.env := by rfl) (hpl : (backTo pos (starEach [b] X.env)).any (·.1) = false := by rfl) :
    IV X (.Tuple elts kk tpos) (.Call (.Name "zip" p) [a, b] [] pos) ρ (zipD xs ys) := fun σ G H u s R q => wI_of (RZ.pi_zipA hg hm (pa_cons pe_w (pa_cons pe_w pa_nil hs2) hs) hs hpl) (h σ G H u s _ fun v G1 H1 g1 k1 => h' σ G1 H1 g1.sub (s.gr g1) _ fun w G2 H2 g2 k2 => by
  obtain ⟨a, us, rfl, h1, h2⟩ := Dp.tupE (k1.gr g2)
  obtain ⟨b, ws, rfl, h3, h4⟩ := Dp.tupE k2
  exact ⟨a, b, us, ws, rfl, .inr ⟨Same.tup g2.sub h1, Same.tup g2.sub h3, q _ G2 H2 (g1.trans g2) (dw_pairZ walk_zipT (fun H g => ⟨Same.tup g h1, Same.tup g h3⟩) h2 h4)⟩⟩)
/-! ### targets -/
/-- all slots but those of T are as they were -/
def Touch (T : List Nat) (σ σ' : L2.St) : Prop := σ'.length = σ.length ∧ ∀ j, j ∉ T → σ'[j]? = σ[j]?
/-- the target takes d: the slots are then as ρ' says -/
def PGD (X : Cx) (tg : Expr) (ρ : Rho) (d : PyData) (ρ' : Rho) (T : List Nat) : Prop := ∀ σ G H v, Same G H → SD X.K G σ ρ → Dp X.K G v d → ∀ Q : L2.St → Hp → Prop, (∀ σ', Touch T σ σ' → SD X.K G σ' ρ' → Q σ' H) → wG X tg v σ H Q
def PGDs (X : Cx) (ts : List Expr) (ρ : Rho) (ds : List PyData) (ρ' : Rho) (T : List Nat) : Prop := ∀ σ G H vs, Same G H → SD X.K G σ ρ → DpAll X.K G vs ds → ∀ Q : L2.St → Hp → Prop, (∀ σ', Touch T σ σ' → SD X.K G σ' ρ' → Q σ' H) → wGs X ts vs σ H Q
theorem pgd_name {i : Nat} {x : Str} (hN : X.N.Nodup) (hi : X.N[i]? = some x := by rfl) (hx : Loc X.env.scope x := by first | exact Or.inl rfl | exact Or.inr rfl) (hf : X.fn x = true ∨ X.env.scope.names.lookup x = some .local := by first | exact .inl rfl | exact .inr rfl) :
    PGD X (.Name x pos) ρ d (ρ.set i (some d)) [i] := fun σ G H v u s h Q q => wG_of (pg_name hN hi hx hf) (q _ ⟨by rw [List.length_set], fun j hj => by rw [List.getElem?_set_ne (fun z => hj (by simp [z]))]⟩ (s.set i h))
theorem pgds_nil : PGDs X [] ρ [] ρ [] := fun σ G H vs u s h Q q => wGs_of pgs_nil ⟨by cases h; rfl, q σ ⟨rfl, fun _ _ => rfl⟩ s⟩
theorem pgds_cons {ρ2 : Rho} {ts : List Expr} {T1 T2 : List Nat} (h : PGD X e ρ d ρ2 T1) {ρ' : Rho} (h2 : PGDs X ts ρ2 ds ρ' T2) (hs : (assignEach (e :: ts) X.env).map (·.2) = assign e X.env :: (assignEach ts X.env).map (·.2) := by rfl) : PGDs X (e :: ts) ρ (d :: ds) ρ' (T1 ++ T2) := fun σ G H vs u s hv Q q => by
  cases hv with
  | cons h3 h4 => exact wGs_of (pgs_cons pg_w pgs_w hs) ⟨_, _, rfl, h σ G H _ u s h3 _ fun σ1 t1 s1 => h2 σ1 G H _ u s1 h4 Q fun σ2 t2 s2 => q σ2 ⟨t2.1.trans t1.1, fun j hj => by
      rw [List.mem_append, not_or] at hj
      rw [t2.2 j hj.2, t1.2 j hj.1]⟩ s2⟩
theorem pgd_tup {ts : List Expr} {kk n : Nat} {ρ' : Rho} {T : List Nat} (h : PGDs X ts ρ ds ρ' T) (hl : ds.length = n := by rfl) (hc : X.calm = true := by rfl) (hn : (assignEach ts X.env).length = n := by rfl) (hst : (assignEach ts X.env).findIdx? (·.1) = none := by rfl) : PGD X (.Tuple ts kk pos) ρ (.tuple ds) ρ' T := fun σ G H v u s hv Q q => by
  obtain ⟨a, xs, rfl, h1, h2⟩ := Dp.tupE hv
  exact wG_of (pg_tup hc pgs_w hn hst) ⟨a, xs, rfl, Same.tup u h1, by rw [DpAll.length h2, hl], h σ G H xs u s h2 Q q⟩
/-! ### comprehensions -/
def wipeD (ρ : Rho) : List Nat → Rho
  | [] => ρ
  | v :: vs => (wipeD ρ vs).set v none
theorem SD.wipe {G : Hp} {σ : L2.St} (s : SD K G σ ρ) : ∀ vs : List Nat, SD K G (L2.wipe σ vs) (wipeD ρ vs)
  | [] => s
  | v :: vs => SD.setN (o := none) (SD.wipe s vs) v
theorem wipe_in {σ : L2.St} {i : Nat} : ∀ {vs : List Nat}, i ∈ vs → (L2.wipe σ vs)[i]? = if i < σ.length then some none else none
  | v :: vs, h => by
    unfold L2.wipe
    by_cases hv : v = i
    · subst hv
      by_cases hl : v < σ.length
      · rw [List.getElem?_set_self (by rw [wipe_length]; exact hl), if_pos hl]
      · rw [List.getElem?_eq_none (by rw [List.length_set, wipe_length]; omega), if_neg hl]
    · rw [List.getElem?_set_ne hv]
      exact wipe_in ((List.mem_cons.mp h).resolve_left fun z => hv z.symm)
theorem wipe_touch {T vs : List Nat} {σ σ' : L2.St} (t : Touch T (L2.wipe σ vs) σ') (h : ∀ j ∈ T, j ∈ vs) : L2.wipe σ' vs = L2.wipe σ vs := by
  refine List.ext_getElem? fun i => ?_
  by_cases hi : i ∈ vs
  · rw [wipe_in hi, wipe_in hi, t.1, wipe_length]
  · rw [wipe_out hi, t.2 i (fun z => hi (h i z))]
/-- a block's readings: whatever the block's own frame is -/
def Blks (X : Cx) (scope : Scope) (B : Cx → Prop) : Prop := ∀ (s : Shared) (H : Hp) (C : Addr) (cl : List (Str × Addr)) (fp : List Addr), B (X.blk s H scope (compEnvC scope cl C X.env) fp)
def bE (X : Cx) (scope : Scope) (e : Expr) : TE := fun σ H Q => Blks X scope fun B => wE B e σ H Q
def bT (X : Cx) (scope : Scope) (e : Expr) : TT := fun σ H Q => Blks X scope fun B => wT B e σ H Q
def bG (X : Cx) (scope : Scope) (e : Expr) : TG := fun v σ H Q => Blks X scope fun B => wG B e v σ H Q
def bTs (X : Cx) (scope : Scope) (es : List Expr) : TT := match es with
  | [] => tYes
  | [c] => bT X scope c
  | _ => fun _ _ _ => False
theorem pe_b {scope : Scope} (s : Shared) (H : Hp) (C : Addr) (cl : List (Str × Addr)) (fp : List Addr) : PE (X.blk s H scope (compEnvC scope cl C X.env) fp) e (bE X scope e) := ⟨fun pins s' _ _ _ I h => (h s H C cl fp).run pins s' I⟩
theorem pt_b {scope : Scope} (s : Shared) (H : Hp) (C : Addr) (cl : List (Str × Addr)) (fp : List Addr) : PT (X.blk s H scope (compEnvC scope cl C X.env) fp) e (bT X scope e) := ⟨fun pins s' _ _ _ I h => (h s H C cl fp).run pins s' I⟩
theorem pg_b {scope : Scope} (s : Shared) (H : Hp) (C : Addr) (cl : List (Str × Addr)) (fp : List Addr) : PG (X.blk s H scope (compEnvC scope cl C X.env) fp) e (bG X scope e) := ⟨fun pins s' _ _ _ u _ I r h => (h s H C cl fp).run pins s' u I r⟩
theorem pts_b {scope : Scope} (s : Shared) (H : Hp) (C : Addr) (cl : List (Str × Addr)) (fp : List Addr) : PTs (X.blk s H scope (compEnvC scope cl C X.env) fp) es (bTs X scope es) := by
  cases es with
  | nil => exact pts_nil
  | cons c r =>
    cases r with
    | nil => exact pts_one (pt_b s H C cl fp)
    | cons c2 r => exact ⟨fun _ _ _ _ _ _ h => (show False from h).elim⟩
/-- the tests of a clause say k -/
def PBs (X : Cx) (es : List Expr) (ρ : Rho) (k : Bool) : Prop := match es with
  | [] => k = true
  | [c] => PB X c ρ k
  | _ => False
theorem bTs_of {scope : Scope} {ρ : Rho} {k : Bool} (h : Blks X scope fun B => PBs B es ρ k) {σ : L2.St} {G H : Hp} (u : Same G H) (s : SD X.K G σ ρ) {Q : Bool → Hp → Prop} (q : ∀ G2 H2, Gr G H G2 H2 → Q k H2) : bTs X scope es σ H Q := by
  cases es with
  | nil =>
    have e : k = true := h ⟨⟨#[], {}⟩, #[], {}, 0, default⟩ (fun _ => none) 0 [] []
    subst e
    exact q G H (Gr.refl u)
  | cons c r =>
    cases r with
    | nil => exact fun s' H' C cl fp => h s' H' C cl fp σ G H u s Q q
    | cons c2 r => exact (show False from h ⟨⟨#[], {}⟩, #[], {}, 0, default⟩ (fun _ => none) 0 [] []).elim
/-- [elt for tg in iter if ..], iter's items the data of xs -/
theorem lc_data {α : Type} {xs : List α} {enc : α → PyData} {p : α → Bool} {f : α → PyData} {ifs : List Expr} {scope : Scope} {own : List (Str × Nat)} {T : List Nat} {ρ' : α → Rho} (hi : IV X tg iter ρ (xs.map enc)) (hz : xs.length ≤ sizeLine)
    (hT : ∀ j ∈ T, j ∈ own.map (·.2)) (hg : ∀ x ∈ xs, Blks X scope fun B => PGD B tg (wipeD ρ (own.map (·.2))) (enc x) (ρ' x) T) (ht : ∀ x ∈ xs, Blks X scope fun B => PBs B ifs (ρ' x) (p x)) (he : ∀ x ∈ xs, p x = true → Blks X scope fun B => PV B elt (ρ' x) (f x))
    {σ : L2.St} {G H : Hp} (u : Same G H) (s : SD X.K G σ ρ) {Q : VK} (q : KD X.K G H Q (.list ((xs.filter p).map f))) : tLc (wI X tg iter) (bG X scope tg) (bTs X scope ifs) (bE X scope elt) (own.map (·.2)) σ H Q :=
  hi σ G H u s _ fun J G1 H1 g1 dw D hD => by
    obtain ⟨Y, w, hy⟩ := dw
    have hG1 : G1 D = none := L2.Same.free g1.sub hD
    refine lc_it w (fun i H => ∃ G acc, Same G1 G ∧ Same G H ∧ Same H1 H ∧ (∀ a, H1 a ≠ none → G a = G1 a) ∧ G D = none ∧ H D = some (.lst acc) ∧ DpAll X.K G acc (((xs.take i).filter p).map f)) ?_ ?_ ?_ ?_
    · exact ⟨G1, [], L2.Same.refl _, g1.sub.trans (Same.upd hD), Same.upd hD, fun _ _ => rfl, hG1, upd_same, .nil⟩
    · rintro i H' _ ⟨G', acc, a1, a2, _⟩
      exact a1.trans a2
    · rintro i x H' H'' hlt ⟨G', acc, a1, a2, a3, a4, a5, a6, a7⟩ y
      obtain ⟨G2, d, g2, hd, kd⟩ := hy i H' x H'' G' a2 a1 y
      rw [List.getElem?_map] at hd
      cases hx : xs[i]? with
      | none =>
        rw [hx] at hd
        cases hd
      | some z =>
        rw [hx] at hd
        have ed : d = enc z := (Option.some.inj hd).symm
        subst ed
        have hm : z ∈ xs := List.mem_of_getElem? hx
        have h2D : G2 D = none := by
          rw [g2.new D (by rw [a6]; exact fun z => nomatch z)]
          exact a5
        have sw : SD X.K G2 (L2.wipe σ (own.map (·.2))) (wipeD ρ (own.map (·.2))) := SD.wipe (SD.same s (g1.gg.trans (a1.trans g2.gg))) _
        intro s0 H0 C cl fp
        refine hg z hm s0 H0 C cl fp _ G2 H'' x g2.sub sw kd _ fun σ' tch s' => ⟨wipe_touch tch hT, ?_⟩
        refine bTs_of (fun s1 H1 C cl fp => ht z hm s1 H1 C cl fp) g2.sub s' fun G3 H3 g3 => ?_
        have tk : (xs.take (i + 1)).filter p = (xs.take i).filter p ++ (if p z = true then [z] else []) := by
          rw [List.take_succ, hx, List.filter_append]
          congr 1
          cases hp : p z <;> simp [hp]
        have h3D : H3 D = some (.lst acc) := g3.hh _ _ (g2.hh _ _ a6)
        have g3D : G3 D = none := by
          rw [g3.new D (by rw [g2.hh _ _ a6]; exact fun z => nomatch z)]
          exact h2D
        have nw : ∀ {G4 H4 : Hp}, Gr G2 H'' G4 H4 → ∀ a, H1 a ≠ none → G4 a = G1 a := fun {G4 H4} g4 a ha => by
          have h1 : H' a ≠ none := by
            cases e : H1 a with
            | none => exact absurd e ha
            | some o => rw [a3 a o e]; exact fun z => nomatch z
          rw [(g2.trans g4).new a h1, a4 a ha]
        cases hp : p z with
        | true =>
          rw [if_pos rfl]
          intro s1 H1' C cl fp
          refine he z hm hp s1 H1' C cl fp σ' G3 H3 g3.sub (s'.gr g3) _ fun v G4 H4 g4 k4 => ?_
          have h4D : H4 D = some (.lst acc) := g4.hh _ _ h3D
          have g4D : G4 D = none := by
            rw [g4.new D (by rw [h3D]; exact fun z => nomatch z)]
            exact g3D
          have la := DpAll.length a7
          have lb : (((xs.take i).filter p).map f).length ≤ i := by
            rw [List.length_map]
            refine Nat.le_trans (List.length_filter_le _ _) ?_
            rw [List.length_take]
            omega
          have li : i < xs.length := by
            have := hlt
            rwa [List.length_map] at this
          refine ⟨acc, h4D, by omega, G4, acc ++ [v], a1.trans (g2.gg.trans (g3.gg.trans g4.gg)), ?_, ?_, nw (g3.trans g4), g4D, upd_same, ?_⟩
          · intro b o hb
            rw [upd_ne (ne_of_none hb g4D)]
            exact g4.sub b o hb
          · intro b o hb
            rw [upd_ne (ne_of_none hb hD)]
            exact g4.hh _ _ (g3.hh _ _ (g2.hh _ _ (a3 b o hb)))
          · rw [tk, if_pos hp, List.map_append]
            exact DpAll.app (DpAll.same (g2.gg.trans (g3.gg.trans g4.gg)) a7) (.cons k4 .nil)
        | false =>
          rw [if_neg Bool.false_ne_true]
          refine ⟨G3, acc, a1.trans (g2.gg.trans g3.gg), g3.sub, fun b o hb => g3.hh _ _ (g2.hh _ _ (a3 b o hb)), nw g3, g3D, h3D, ?_⟩
          rw [tk, if_neg (by rw [hp]; exact Bool.false_ne_true), List.append_nil]
          exact DpAll.same (g2.gg.trans g3.gg) a7
    · rintro H' ⟨G', acc, a1, a2, a3, a4, a5, a6, a7⟩
      rw [List.length_map, List.take_length] at a7
      refine q (.ref D) (L2.upd G' D (.lst acc)) H' ⟨?_, ?_, g1.hh.trans a3, ?_⟩ (.lst (SqL.of upd_same) (DpAll.same (Same.upd a5) a7))
      · intro b o hb
        by_cases hbd : b = D
        · rw [hbd, upd_same] at hb
          rw [hbd, a6]
          exact hb
        · rw [upd_ne hbd] at hb
          exact a2 b o hb
      · exact g1.gg.trans (a1.trans (Same.upd a5))
      · intro a ha
        have h1 : H1 a ≠ none := by
          cases e : H a with
          | none => exact absurd e ha
          | some o => rw [g1.hh a o e]; exact fun z => nomatch z
        rw [upd_ne (fun z => h1 (by rw [z]; exact hD)), a4 a h1, g1.new a ha]
theorem pv_lc {α : Type} {xs : List α} {enc : α → PyData} {p : α → Bool} {f : α → PyData} {ifs : List Expr} {scope : Scope} {own : List (Str × Nat)} {T : List Nat} {ρ' : α → Rho} (hi : IV X tg iter ρ (xs.map enc)) (hN : X.N.Nodup) (ok : BlkOk X.N X.env.scope scope own) (hz : xs.length ≤ sizeLine)
    (hT : ∀ j ∈ T, j ∈ own.map (·.2)) (hg : ∀ x ∈ xs, Blks X scope fun B => PGD B tg (wipeD ρ (own.map (·.2))) (enc x) (ρ' x) T) (ht : ∀ x ∈ xs, Blks X scope fun B => PBs B ifs (ρ' x) (p x)) (he : ∀ x ∈ xs, p x = true → Blks X scope fun B => PV B elt (ρ' x) (f x))
    (hc : X.calm = true := by rfl) (hs : ∀ x, foldedSetIterable iter X.env x = pure x := by intro _; rfl) : PV X (.ListComp elt [⟨tg, iter, ifs, 0⟩] scope pos) ρ (.list ((xs.filter p).map f)) :=
  fun σ G H u s Q q => wE_of (pe_lc hc hN pi_w ok pg_b pts_b pe_b hs) (lc_data hi hz hT hg ht he u s q)
end
end DL
end D5_text
section D6_text
set_option maxRecDepth 100000
set_option maxHeartbeats 2000000
namespace DL
open PySem PySem.Spec PyProof.Rows L2 StX
open PySem.W (alike dataLt)
/-! ### how a def ends -/
/-- it returns a value that reads as d; it raises an error of the class at C whose field f reads as d -/
inductive Out where
  | rt (d : PyData)
  | ex (C : Addr) (f : Str) (d : PyData)
def KO (K : PySem.W.Frag) (E : XK) (G H : Hp) (Q : VK) : Out → Prop
  | .rt d => KD K G H Q d
  | .ex C f d => ∀ dd v G2 H2, Gr G H G2 H2 → H2 dd = some (.xd [(f, v)]) → Dp K G2 v d → E (.ref C) (some dd) H2
theorem KD.gr {K : PySem.W.Frag} {G H G1 H1 : Hp} {Q : VK} {d : PyData} (g : Gr G H G1 H1) (k : KD K G H Q d) : KD K G1 H1 Q d := fun v G2 H2 g2 h => k v G2 H2 (g.trans g2) h
theorem KO.gr {K : PySem.W.Frag} {E : XK} {G H G1 H1 : Hp} {Q : VK} {o : Out} (g : Gr G H G1 H1) (k : KO K E G H Q o) : KO K E G1 H1 Q o := by
  cases o with
  | rt d => exact KD.gr (d := d) g k
  | ex C f d => exact fun dd v G2 H2 g2 => k dd v G2 H2 (g.trans g2)
/-- a def's promise over data: R tells what it makes of its arguments -/
def spD (K : PySem.W.Frag) (n : Nat) (R : List PyData → Out → Prop) : Sp := fun vs H Q E => ∃ ds o G, ds.length = n ∧ Same G H ∧ DpAll K G vs ds ∧ R ds o ∧ KO K E G H Q o
theorem spD_len {K : PySem.W.Frag} {n : Nat} {R : List PyData → Out → Prop} {ps : List Str} (hn : ps.length = n) : ∀ vs H Q E, spD K n R vs H Q E → vs.length = ps.length := fun vs H Q E ⟨ds, o, G, h1, h2, h3, _⟩ => by
  rw [DpAll.length h3, h1, hn]
/-- a def of the text, by its promise: where it stands, how its arguments bind -/
structure DefOk (P : Program) (w : World) (K : PySem.W.Frag) (mg : Str → Option Value) (base : Heap) (k : Nat) (x : Str) (sp : Sp) : Prop where
  ex : ∃ (CX : CXT) (f : Addr) (fd : FuncData) (ps : List Str), mg x = some (.ref f) ∧ PySem.W.keepIn K (.ref f) = true ∧ Binds K fd ps [] ∧ FnOk P w K mg base CX k f fd ps sp ∧
    (CX = CX0 ∨ CX = L2.CX P w)
theorem DefOk.mono {P : Program} {w : World} {K : PySem.W.Frag} {mg : Str → Option Value} {base : Heap} {j k : Nat} {x : Str} {sp : Sp} (h : DefOk P w K mg base j x sp) (hk : j ≤ k) : DefOk P w K mg base k x sp := by
  obtain ⟨CX, f, fd, ps, h1, h2, h3, h4, h5⟩ := h.ex
  exact ⟨CX, f, fd, ps, h1, h2, h3, h4.mono hk, h5⟩
section
variable {X : Cx} {ρ ρ' : Rho} {a b c e tg iter elt : Expr} {es : List Expr} {d d1 d2 d3 : PyData} {ds ys : List PyData} {pos : Pos} {K : PySem.W.Frag} {k n : Nat} {E : XK}
theorem passE {CX : CXT} {P : Program} {w : World} (hP : X.prog = P) (hw : X.w = w) (h : CX = CX0 ∨ CX = L2.CX P w) : Passes CX X E0 := by
  subst hP hw
  rcases h with rfl | rfl
  · exact pass0
  · exact passL
/-- x(e, ..), the raw reading: the promise of any def -/
theorem wE_call {x : Str} {p : Pos} {sp : Sp} (D : DefOk X.prog X.w X.K X.mg X.base k x sp) (hr : Room k X.A) {σ : L2.St} {H : Hp} {Q : VK} (h : wA X (e :: es) σ H fun vs H1 => sp vs H1 Q E0) (hg : Gl X x := by rfl) (hdb : (x == ("__debug__" : Str)) = false := by decide)
    (he : starEach (e :: es) X.env = (false, eval e X.env) :: starEach es X.env := by rfl) (hpl : (backTo pos (starEach es X.env)).any (·.1) = false := by rfl) : wE X (.Call (.Name x p) (e :: es) [] pos) σ H Q := by
  obtain ⟨CX, f, fd, ps, h1, h2, h3, h4, h5⟩ := D.ex
  exact wE_of (pe_call h4 hr hg h1 h2 h3 .nil (passE rfl rfl h5) pa_w hdb he hpl) (wA_mono h fun vs H' q => by rw [List.append_nil]; exact q)
/-- .. of a def whose error may pass -/
theorem wE_callX {x : Str} {p : Pos} {sp : Sp} (D : DefOk X.prog X.w X.K X.mg X.base k x sp) (hr : Room k X.A) {σ : L2.St} {H : Hp} {Q : VK} (hx : Passes (L2.CX X.prog X.w) X E) (h : wA X (e :: es) σ H fun vs H1 => sp vs H1 Q E) (hg : Gl X x := by rfl) (hdb : (x == ("__debug__" : Str)) = false := by decide)
    (he : starEach (e :: es) X.env = (false, eval e X.env) :: starEach es X.env := by rfl) (hpl : (backTo pos (starEach es X.env)).any (·.1) = false := by rfl) : wE X (.Call (.Name x p) (e :: es) [] pos) σ H Q := by
  obtain ⟨CX, f, fd, ps, h1, h2, h3, h4, h5⟩ := D.ex
  have hp : Passes CX X E := by
    rcases h5 with rfl | rfl
    · exact fun _ _ _ _ _ _ _ h => h.elim
    · exact hx
  exact wE_of (pe_call h4 hr hg h1 h2 h3 .nil hp pa_w hdb he hpl) (wA_mono h fun vs H' q => by rw [List.append_nil]; exact q)
theorem pv_call {R : List PyData → Out → Prop} {x : Str} {p : Pos} (D : DefOk X.prog X.w X.K X.mg X.base k x (spD X.K n R)) (hr : Room k X.A) (ha : PVs X (e :: es) ρ ds) (hR : R ds (.rt d)) (hl : ds.length = n := by rfl) (hg : Gl X x := by rfl) (hdb : (x == ("__debug__" : Str)) = false := by decide)
    (he : starEach (e :: es) X.env = (false, eval e X.env) :: starEach es X.env := by rfl) (hpl : (backTo pos (starEach es X.env)).any (·.1) = false := by rfl) : PV X (.Call (.Name x p) (e :: es) [] pos) ρ d :=
  fun σ G H u s Q q => wE_call D hr (ha σ G H u s _ fun vs G1 H1 g1 k1 => ⟨ds, .rt d, G1, hl, g1.sub, k1, hR, KD.gr g1 q⟩) hg hdb he hpl
/-- an expression that ends as o says -/
def PO' (X : Cx) (E : XK) (e : Expr) (ρ : Rho) (o : Out) : Prop := ∀ σ G H, Same G H → SD X.K G σ ρ → ∀ Q : VK, KO X.K E G H Q o → wE X e σ H Q
theorem PV.o (h : PV X e ρ d) : PO' X E e ρ (.rt d) := fun σ G H u s Q q => h σ G H u s Q q
theorem po_call {R : List PyData → Out → Prop} {x : Str} {p : Pos} {o : Out} (D : DefOk X.prog X.w X.K X.mg X.base k x (spD X.K n R)) (hr : Room k X.A) (hx : Passes (L2.CX X.prog X.w) X E) (ha : PVs X (e :: es) ρ ds) (hR : R ds o) (hl : ds.length = n := by rfl) (hg : Gl X x := by rfl) (hdb : (x == ("__debug__" : Str)) = false := by decide)
    (he : starEach (e :: es) X.env = (false, eval e X.env) :: starEach es X.env := by rfl) (hpl : (backTo pos (starEach es X.env)).any (·.1) = false := by rfl) : PO' X E (.Call (.Name x p) (e :: es) [] pos) ρ o :=
  fun σ G H u s Q q => wE_callX D hr hx (ha σ G H u s _ fun vs G1 H1 g1 k1 => ⟨ds, o, G1, hl, g1.sub, k1, hR, KO.gr g1 q⟩) hg hdb he hpl
/-! ### statements -/
inductive SOut where
  | nx (ρ : Rho)
  | out (o : Out)
def KS (K : PySem.W.Frag) (E : XK) (G H : Hp) (D : Ends) : SOut → Prop
  | .nx ρ => ∀ σ' G2 H2, Gr G H G2 H2 → SD K G2 σ' ρ → D.nx σ' H2
  | .out o => KO K E G H D.rt o
theorem KS.gr {G H G1 H1 : Hp} {D : Ends} {o : SOut} (g : Gr G H G1 H1) (k : KS K E G H D o) : KS K E G1 H1 D o := by
  cases o with
  | nx ρ => exact fun σ' G2 H2 g2 => k σ' G2 H2 (g.trans g2)
  | out o => exact KO.gr (o := o) g k
/-- the statements end as o says -/
def PSD (X : Cx) (E : XK) (sts : List Stmt) (ρ : Rho) (o : SOut) : Prop := ∀ σ G H, Same G H → SD X.K G σ ρ → ∀ D : Ends, KS X.K E G H D o → wSs X sts D σ H
variable {sts rest body els : List Stmt} {st : Stmt} {o o' : SOut} {x : Str}
theorem PSD.to (h : PSD X E sts ρ o) (q : o = o') : PSD X E sts ρ o' := q ▸ h
theorem psd_nil : PSD X E [] ρ (.nx ρ) := fun σ G H u s D q => wSs_of pss_nil (q σ G H (Gr.refl u) s)
theorem psd_ret (h : PV X e ρ d) : PSD X E (.Return (some e) pos :: rest) ρ (.out (.rt d)) := fun σ G H u s D q => wSs_of (pss_cons (ps_ret pe_w) pss_w) (h σ G H u s _ q)
theorem psd_retX {oo : Out} (h : PO' X E e ρ oo) : PSD X E (.Return (some e) pos :: rest) ρ (.out oo) := fun σ G H u s D q => wSs_of (pss_cons (ps_ret pe_w) pss_w) (h σ G H u s _ q)
theorem psd_set {i : Nat} {pos' : Pos} (he : PV X e ρ d) (hr : PSD X E rest (ρ.set i (some d)) o) (hN : X.N.Nodup) (hi : X.N[i]? = some x := by rfl) (hx : Loc X.env.scope x := by first | exact Or.inl rfl | exact Or.inr rfl)
    (hs : swapsWith e (some (.Name x pos')) pos.line X.env = pure false := by rfl) (hf : X.fn x = true ∨ X.env.scope.names.lookup x = some .local := by first | exact .inl rfl | exact .inr rfl) : PSD X E (.Assign [.Name x pos'] e pos :: rest) ρ o :=
  fun σ G H u s D q => wSs_of (pss_cons (ps_set hN hi hx pe_w hs hf) pss_w) (he σ G H u s _ fun v G1 H1 g1 k1 => hr _ G1 H1 g1.sub ((s.gr g1).set i k1) D (KS.gr g1 q))
theorem psd_asg {T : List Nat} (he : PV X e ρ d) (hg : PGD X tg ρ d ρ' T) (hr : PSD X E rest ρ' o) (hs : swapsWithSole [tg] e pos.line X.env = pure false := by rfl) (hw : swappedStores [tg] e X.env = pure none := by rfl) (h1 : (assignEach [tg] X.env).map (·.2) = [assign tg X.env] := by rfl) : PSD X E (.Assign [tg] e pos :: rest) ρ o :=
  fun σ G H u s D q => wSs_of (pss_cons (ps_asg pe_w pg_w hs hw h1) pss_w) (he σ G H u s _ fun v G1 H1 g1 k1 => hg σ G1 H1 v g1.sub (s.gr g1) k1 _ fun σ' _ s' => hr σ' G1 H1 g1.sub s' D (KS.gr g1 q))
/-- x, y = a, b -/
theorem psd_par {i j : Nat} {x y : Str} {px py pt pt2 : Pos} {kt k2} (ha : PVs X [a, b] ρ [d1, d2]) (hN : X.N.Nodup) (hr : PSD X E rest ((ρ.set i (some d1)).set j (some d2)) o) (hi : X.N[i]? = some x := by rfl) (hj : X.N[j]? = some y := by rfl) (hij : i ≠ j := by decide)
    (hx : X.env.scope.names.lookup x = some .local := by rfl) (hy : X.env.scope.names.lookup y = some .local := by rfl) (hw : swappedStores [.Tuple [.Name x px, .Name y py] kt pt] (.Tuple [a, b] k2 pt2) X.env = pure (some [x, y]) := by rfl)
    (hs : swapsWithSole [.Tuple [.Name x px, .Name y py] kt pt] (.Tuple [a, b] k2 pt2) pos.line X.env = pure false := by rfl) (hc : X.calm = true := by rfl) : PSD X E (.Assign [.Tuple [.Name x px, .Name y py] kt pt] (.Tuple [a, b] k2 pt2) pos :: rest) ρ o :=
  fun σ G H u s D q => wSs_of (pss_cons (ps_par hc hN hi hj hij hx hy pa_w hw hs) pss_w) (ha σ G H u s _ fun vs G1 H1 g1 k1 => by
    obtain ⟨v, w, rfl, h1, h2⟩ : ∃ v w, vs = [v, w] ∧ Dp X.K G1 v d1 ∧ Dp X.K G1 w d2 := DpAll.twoE k1
    exact ⟨v, w, rfl, hr _ G1 H1 g1.sub (((s.gr g1).set i h1).set j h2) D (KS.gr g1 q)⟩)
theorem DpAll.threeE {K : PySem.W.Frag} {H : Hp} {vs : List V} (h : DpAll K H vs [d1, d2, d3]) : ∃ u v w, vs = [u, v, w] ∧ Dp K H u d1 ∧ Dp K H v d2 ∧ Dp K H w d3 := by
  cases h with
  | cons h1 h2 =>
    obtain ⟨v, w, rfl, h3, h4⟩ := DpAll.twoE h2
    exact ⟨_, v, w, rfl, h1, h3, h4⟩
theorem psd_par3 {i j l : Nat} {x y z : Str} {px py pz pt pt2 : Pos} {kt k2} (ha : PVs X [a, b, c] ρ [d1, d2, d3]) (hN : X.N.Nodup) (hr : PSD X E rest (((ρ.set i (some d1)).set j (some d2)).set l (some d3)) o) (hi : X.N[i]? = some x := by rfl) (hj : X.N[j]? = some y := by rfl) (hl : X.N[l]? = some z := by rfl) (hij : i ≠ j := by decide) (hil : i ≠ l := by decide) (hjl : j ≠ l := by decide)
    (hx : X.env.scope.names.lookup x = some .local := by rfl) (hy : X.env.scope.names.lookup y = some .local := by rfl) (hz : X.env.scope.names.lookup z = some .local := by rfl) (hw : swappedStores [.Tuple [.Name x px, .Name y py, .Name z pz] kt pt] (.Tuple [a, b, c] k2 pt2) X.env = pure (some [x, y, z]) := by rfl)
    (hs : swapsWithSole [.Tuple [.Name x px, .Name y py, .Name z pz] kt pt] (.Tuple [a, b, c] k2 pt2) pos.line X.env = pure false := by rfl) (hc : X.calm = true := by rfl) : PSD X E (.Assign [.Tuple [.Name x px, .Name y py, .Name z pz] kt pt] (.Tuple [a, b, c] k2 pt2) pos :: rest) ρ o :=
  fun σ G H u s D q => wSs_of (pss_cons (ps_par3 hc hN hi hj hl hij hil hjl hx hy hz pa_w hw hs) pss_w) (ha σ G H u s _ fun vs G1 H1 g1 k1 => by
    obtain ⟨v1, v2, v3, rfl, h1, h2, h3⟩ := DpAll.threeE k1
    exact ⟨v1, v2, v3, rfl, hr _ G1 H1 g1.sub ((((s.gr g1).set i h1).set j h2).set l h3) D (KS.gr g1 q)⟩)
/-- [elt for tg in iter] -/
theorem pv_lcA {α : Type} {xs : List α} {enc : α → PyData} {f : α → PyData} {scope : Scope} {own : List (Str × Nat)} {T : List Nat} {r' : α → Rho} (hi : IV X tg iter ρ (xs.map enc)) (hN : X.N.Nodup) (ok : BlkOk X.N X.env.scope scope own) (hz : xs.length ≤ sizeLine)
    (hT : ∀ j ∈ T, j ∈ own.map (·.2)) (hg : ∀ x ∈ xs, Blks X scope fun B => PGD B tg (wipeD ρ (own.map (·.2))) (enc x) (r' x) T) (he : ∀ x ∈ xs, Blks X scope fun B => PV B elt (r' x) (f x))
    (hc : X.calm = true := by rfl) (hs : ∀ x, foldedSetIterable iter X.env x = pure x := by intro _; rfl) : PV X (.ListComp elt [⟨tg, iter, [], 0⟩] scope pos) ρ (.list (xs.map f)) :=
  PV.to (pv_lc (p := fun _ => true) (f := f) (pos := pos) (ifs := []) hi hN ok hz hT hg (fun _ _ _ _ _ _ _ => rfl) (fun x hx _ => he x hx) hc hs) (by rw [List.filter_eq_self.mpr (fun _ _ => rfl)])
/-- xs.index(e), xs a list of texts -/
theorem pv_lidx {z : Str} {ys : List Str} {j : Nat} {apos : Pos} (ha : PV X a ρ (.list (ys.map .str))) (he : PV X e ρ (.str z)) (hj : ys[j]? = some z) (hn : ∀ m, m < j → ys[m]? ≠ some z) (hbase : attributeBase a "index" X.env (eval a X.env) = eval a X.env := by rfl) (hline : (apos.endLine == pos.line) = true := by rfl)
    (hfew : ((backTo pos (starEach (e :: []) X.env)).all (fun x => !x.1) && (backToKw pos (keywordEach [] X.env)).all (fun x => x.1.isSome) && decide ((e :: []).length + ([] : List Keyword).length + (if ([] : List Keyword).isEmpty then 0 else 1) < 30)) = true := by rfl)
    (hs : starEach (e :: []) X.env = (false, eval e X.env) :: starEach [] X.env := by rfl) (hpl : (backTo pos (starEach [] X.env)).any (·.1) = false := by rfl) : PV X (.Call (.Attribute a "index" apos) [e] [] pos) ρ (.int (j : Nat)) :=
  fun σ G H u s Q q => wE_of (pe_bm PySem.F.plainAttrs_list PySem.F.slot_list_index PySem.F.type_list_index mt_index pe_w (pa_cons pe_w pa_nil hs) hbase hfew hline hs hpl) (ha σ G H u s _ fun v G1 H1 g1 k1 => by
    obtain ⟨p, xs, rfl, h1, h2⟩ := Dp.lstE k1
    have ex := DpAll.strs h2
    subst ex
    refine ⟨.inl ⟨rfl, _, L2.Same.seq g1.sub h1⟩, he σ G1 H1 g1.sub (s.gr g1) _ fun w G2 H2 g2 k2 => ?_⟩
    have ew := Dp.strE k2
    subst ew
    refine ⟨p, ys.map V.str, .str z, j, .str z, rfl, rfl, L2.Same.seq g2.sub (L2.Same.seq g2.gg h1), rfl, ?_, by rw [List.getElem?_map, hj] <;> rfl, by simp [eqV], fun m z' hm hz' => ?_, q _ G2 H2 (g1.trans g2) (.int _)⟩
    · rw [List.all_eq_true]
      intro x hx
      obtain ⟨y, _, rfl⟩ := List.mem_map.mp hx
      rfl
    · rw [List.getElem?_map] at hz'
      cases hy : ys[m]? with
      | none => rw [hy] at hz'; cases hz'
      | some y =>
        rw [hy] at hz'
        have e1 : V.str y = z' := Option.some.inj hz'
        subst e1
        have : y ≠ z := fun e => hn m hm (by rw [hy, e])
        simp [eqV, this])
/-- name = [..] on one line -/
theorem psd_setLc {α : Type} {xs : List α} {enc : α → PyData} {p : α → Bool} {f : α → PyData} {ifs : List Expr} {scope : Scope} {own : List (Str × Nat)} {T : List Nat} {r' : α → Rho} {i : Nat} {y : Str} {py spos : Pos} (hi : IV X tg iter ρ (xs.map enc)) (hN : X.N.Nodup) (ok : BlkOk X.N X.env.scope scope own) (hz : xs.length ≤ sizeLine)
    (hT : ∀ j ∈ T, j ∈ own.map (·.2)) (hg : ∀ x ∈ xs, Blks X scope fun B => PGD B tg (wipeD ρ (own.map (·.2))) (enc x) (r' x) T) (ht : ∀ x ∈ xs, Blks X scope fun B => PBs B ifs (r' x) (p x)) (he : ∀ x ∈ xs, p x = true → Blks X scope fun B => PV B elt (r' x) (f x))
    (hr : PSD X E rest (ρ.set i (some (.list ((xs.filter p).map f)))) o) (hy : X.N[i]? = some y := by rfl) (hyl : X.env.scope.names.lookup y = some .local := by rfl) (hsw : swapsWith (.ListComp elt [⟨tg, iter, ifs, 0⟩] scope pos) (some (.Name y py)) spos.line X.env = pure true := by exact sw_true rfl rfl rfl rfl) (hc : X.calm = true := by rfl) (hs : ∀ x, foldedSetIterable iter X.env x = pure x := by intro _; rfl) : PSD X E (.Assign [.Name y py] (.ListComp elt [⟨tg, iter, ifs, 0⟩] scope pos) spos :: rest) ρ o :=
  fun σ G H u s D q => wSs_of (pss_cons (ps_setLc hc hN hy hyl hsw pi_w ok pg_b pts_b pe_b hs) pss_w) (lc_data hi hz hT hg ht he u s fun v G1 H1 g1 k1 => hr _ G1 H1 g1.sub ((s.gr g1).set i k1) D (KS.gr g1 q))
theorem psd_expr (he : PV X e ρ d) (hr : PSD X E rest ρ o) (hs : swapsWith e none pos.line X.env = pure false := by rfl) : PSD X E (.Expr e pos :: rest) ρ o :=
  fun σ G H u s D q => wSs_of (pss_cons (ps_expr pe_w hs) pss_w) (he σ G H u s _ fun v G1 H1 g1 k1 => hr σ G1 H1 g1.sub (s.gr g1) D (KS.gr g1 q))
theorem psd_exprX {C : Addr} {f : Str} (he : PO' X E e ρ (.ex C f d)) (hs : swapsWith e none pos.line X.env = pure false := by rfl) : PSD X E (.Expr e pos :: rest) ρ (.out (.ex C f d)) :=
  fun σ G H u s D q => wSs_of (pss_cons (ps_expr pe_w hs) pss_w) (he σ G H u s _ q)
theorem psd_ifT {oo : Out} (hc : PB X c ρ true) (hb : PSD X E body ρ (.out oo)) : PSD X E (.If c body els pos :: rest) ρ (.out oo) :=
  fun σ G H u s D q => wSs_of (pss_cons (ps_if pt_w pss_w pss_w) pss_w) (hc σ G H u s _ fun G1 H1 g1 => by
    show (if true = true then _ else _)
    rw [if_pos rfl]
    exact hb σ G1 H1 g1.sub (s.gr g1) _ (KO.gr (o := oo) g1 q))
theorem psd_ifF (hc : PB X c ρ false) (he : PSD X E els ρ (.nx ρ')) (hr : PSD X E rest ρ' o) : PSD X E (.If c body els pos :: rest) ρ o :=
  fun σ G H u s D q => wSs_of (pss_cons (ps_if pt_w pss_w pss_w) pss_w) (hc σ G H u s _ fun G1 H1 g1 => by
    show (if false = true then _ else _)
    rw [if_neg Bool.false_ne_true]
    exact he σ G1 H1 g1.sub (s.gr g1) _ fun σ' G2 H2 g2 s2 => hr σ' G2 H2 g2.sub s2 D (KS.gr (g1.trans g2) q))
theorem psd_ifTn (hc : PB X c ρ true) (hb : PSD X E body ρ (.nx ρ')) (hr : PSD X E rest ρ' o) : PSD X E (.If c body els pos :: rest) ρ o :=
  fun σ G H u s D q => wSs_of (pss_cons (ps_if pt_w pss_w pss_w) pss_w) (hc σ G H u s _ fun G1 H1 g1 => by
    show (if true = true then _ else _)
    rw [if_pos rfl]
    exact hb σ G1 H1 g1.sub (s.gr g1) _ fun σ' G2 H2 g2 s2 => hr σ' G2 H2 g2.sub s2 D (KS.gr (g1.trans g2) q))
theorem psd_ifFo {oo : Out} (hc : PB X c ρ false) (he : PSD X E els ρ (.out oo)) : PSD X E (.If c body els pos :: rest) ρ (.out oo) :=
  fun σ G H u s D q => wSs_of (pss_cons (ps_if pt_w pss_w pss_w) pss_w) (hc σ G H u s _ fun G1 H1 g1 => by
    show (if false = true then _ else _)
    rw [if_neg Bool.false_ne_true]
    exact he σ G1 H1 g1.sub (s.gr g1) _ (KO.gr (o := oo) g1 q))
theorem psd_if {oo : Out} {k : Bool} (hc : PB X c ρ k) (ht : k = true → PSD X E body ρ (.out oo)) (hf : k = false → PSD X E rest ρ (.out oo)) : PSD X E (.If c body [] pos :: rest) ρ (.out oo) := by
  cases hk : k with
  | true => exact psd_ifT (hk ▸ hc) (ht hk)
  | false => exact psd_ifF (hk ▸ hc) psd_nil (hf hk)
/-- .. that only writes -/
theorem psd_ifn {k : Bool} (hc : PB X c ρ k) (ht : k = true → PSD X E body ρ (.nx ρ')) (he : k = false → PSD X E els ρ (.nx ρ')) (hr : PSD X E rest ρ' o) : PSD X E (.If c body els pos :: rest) ρ o := by
  cases hk : k with
  | true => exact psd_ifTn (hk ▸ hc) (ht hk) hr
  | false => exact psd_ifF (hk ▸ hc) (he hk) hr
/-- all([elt for tg in iter]) -/
theorem pv_allc {α : Type} {xs : List α} {enc : α → PyData} {g : α → Bool} {scope : Scope} {own : List (Str × Nat)} {T : List Nat} {r' : α → Rho} {p p2 : Pos} (hm : X.mg "all" = none) (hi : IV X tg iter ρ (xs.map enc)) (hN : X.N.Nodup) (ok : BlkOk X.N X.env.scope scope own) (hz : xs.length ≤ sizeLine)
    (hT : ∀ j ∈ T, j ∈ own.map (·.2)) (hg : ∀ x ∈ xs, Blks X scope fun B => PGD B tg (wipeD ρ (own.map (·.2))) (enc x) (r' x) T) (he : ∀ x ∈ xs, Blks X scope fun B => PV B elt (r' x) (.bool (g x)))
    (hc : X.calm = true := by rfl) (hs : ∀ x, foldedSetIterable iter X.env x = pure x := by intro _; rfl) (hgl : Gl X "all" := by rfl) (hst : starEach (.ListComp elt [⟨tg, iter, [], 0⟩] scope p2 :: []) X.env = (false, eval (.ListComp elt [⟨tg, iter, [], 0⟩] scope p2) X.env) :: starEach [] X.env := by rfl) :
    PV X (.Call (.Name "all" p) [.ListComp elt [⟨tg, iter, [], 0⟩] scope p2] [] pos) ρ (.bool (xs.all g)) := by
  have h := pv_lc (p := fun _ => true) (f := fun x => .bool (g x)) (pos := p2) (ifs := []) hi hN ok hz hT hg (fun _ _ _ _ _ _ _ => rfl) (fun x hx _ => he x hx) hc hs
  have e : (xs.filter fun _ => true).map (fun x => PyData.bool (g x)) = (xs.map g).map .bool := by
    rw [List.filter_eq_self.mpr (fun _ _ => rfl), List.map_map] <;> rfl
  rw [e] at h
  refine (pv_all hm h hc hgl hst).to ?_
  rw [List.all_map] <;> rfl
/-- a for: the first n items lead on, then either none is left, or the item n ends the def -/
theorem psd_for (hi : IV X tg iter ρ ys) (n : Nat) (S : Nat → Rho) (M : Nat → Rho) (T : List Nat) (hn : n ≤ ys.length) (h0 : S 0 = ρ) (hg : ∀ i y, i ≤ n → ys[i]? = some y → PGD X tg (S i) y (M i) T) (hb : ∀ i, i < n → PSD X E body (M i) (.nx (S (i + 1))))
    (hend : (n = ys.length ∧ PSD X E rest (S n) o) ∨ (n < ys.length ∧ ∃ oo, o = .out oo ∧ PSD X E body (M n) (.out oo)))
    (hp : PassesOwn (model X.prog X.w) X.A X.env X.xe) (hc : X.calm = true := by rfl) (hs : ∀ x, foldedSetIterable iter X.env x = pure x := by intro _; rfl) : PSD X E (.For tg iter body [] pos :: rest) ρ o := by
  intro σ G H u s D q
  refine wSs_of (pss_cons (ps_for hp hc pi_w pg_w pss_w hs) pss_w) (hi σ G H u s _ fun J G1 H1 g1 dw => ?_)
  obtain ⟨Y, w, hy⟩ := dw
  refine for_it w (fun i σ' H' => i ≤ n ∧ ∃ G', Gr G1 H1 G' H' ∧ SD X.K G' σ' (S i)) ⟨Nat.zero_le _, G1, Gr.refl g1.sub, by rw [h0]; exact s.gr g1⟩ ?_ ?_ ?_
  · rintro i σ' H' _ ⟨_, G', g', _⟩
    exact g'.gg.trans g'.sub
  · rintro i x σ' H' H'' hlt ⟨hin, G', g', s'⟩ y
    obtain ⟨G2, d, g2, hd, kd⟩ := hy i H' x H'' G' g'.sub g'.gg y
    refine hg i d hin hd σ' G2 H'' x g2.sub (s'.gr g2) kd _ fun σ2 _ s2 => ?_
    by_cases hi2 : i < n
    · exact hb i hi2 σ2 G2 H'' g2.sub s2 _ fun σ3 G3 H3 g3 s3 => ⟨hi2, G3, g'.trans (g2.trans g3), s3⟩
    · have e : i = n := by omega
      subst e
      rcases hend with ⟨h1, _⟩ | ⟨_, oo, rfl, h2⟩
      · omega
      · exact h2 σ2 G2 H'' g2.sub s2 _ (KO.gr (o := oo) (g1.trans (g'.trans g2)) q)
  · rintro σ' H' ⟨hin, G', g', s'⟩
    rcases hend with ⟨h1, h2⟩ | ⟨h1, _⟩
    · rw [← h1] at s'
      exact h2 σ' G' H' g'.sub s' D (KS.gr (g1.trans g') q)
    · omega
end
end DL
end D6_text
section X1_text
set_option maxRecDepth 100000
set_option maxHeartbeats 4000000
namespace PySem
namespace OwnX
open PySem.W PySem.Calls PyProof.Rows PySem.HandSPX
/-- self.F = F behind super().__init__(..): the text of __init__ -/
def iniArgs (F : Str) (p1 p2 : Pos) : Arguments := { posonlyargs := [], args := [{ arg := "self", annotation := none, pos := p1 }, { arg := F, annotation := none, pos := p2 }], vararg := none, kwonlyargs := [], kw_defaults := [], kwarg := none, defaults := [] }
def iniBody (F msg : Str) (c : Nat) (q : Nat → Pos) : List Stmt := [.Expr (.Call (.Attribute (.Call (.Name "super" (q 0)) [] [] (q 1)) "__init__" (q 2)) [.Constant (.str msg) c (q 3)] [] (q 4)) (q 5), .Assign [.Attribute (.Name "self" (q 6)) F (q 7)] (.Name F (q 8)) (q 9)]
def iniScope (F : Str) : Scope := { kind := .function, names := [("self", .local), (F, .local), ("__class__", .free), ("super", .globalImplicit)], isGenerator := false, isCoroutine := false, more := [] }
def EvOk (msg : Str) (c : Nat) (q : Nat → Pos) : Prop := ∀ env : Env, ∃ pl : Sem Bool, eval (.Call (.Attribute (.Call (.Name "super" (q 0)) [] [] (q 1)) "__init__" (q 2)) [.Constant (.str msg) c (q 3)] [] (q 4)) env = (do
      let ov ← attributeBase (.Call (.Name "super" (q 0)) [] [] (q 1)) "__init__" env (eval (.Call (.Name "super" (q 0)) [] [] (q 1)) env)
      standAt (q 2).atName
      let (f, first) ← holding [ov] (getMethod ov "__init__" pl)
      callWith (q 4) f first (backTo (q 4) (starEach [.Constant (.str msg) c (q 3)] env)) [])
structure IniTxt (prog : Program) (K : Frag) (C fI : Addr) (F : Str) : Prop where
  cls : ∃ nm q N bs bm sn sub ab col dd k0 k1 k2 k3 k5, K.lookup C = some (excClassObj nm q C N bs bm true sn sub ab col dd k0 k1 k2 k3 k5 "ValueError.__new__") ∧ refsVE bm = true
  sa : findIn K (.ref C) "__setattr__" = some (some (.builtin "object.__setattr__"))
  ga : findIn K (.ref C) "__getattribute__" = some (some (.builtin "BaseException.__getattribute__"))
  gg : findIn K (.ref C) "__getattr__" = some none
  noN : findIn K (.ref C) F = some none
  iC : findIn K (.ref C) "__init__" = some (some (.ref fI))
  tC : typeIn K (.ref fI) = some (.type "function")
  kC : keepIn K (.ref C) = true
  exC : subIn K (.ref C) (.type "BaseException") = some true
  veC : subIn K (.ref C) (.type "ValueError") = some true
  tyC : typeIn K (.ref C) = some (.type "type")
  hdC : hasDictIn K C = true
  slf : mroIn K C (.ref C) = some true
  sup : ks_superIn K C C "__init__" = some (some (.builtin "ValueError.__init__"))
  nos : nsIn K mainGlobals "super" = some none
  any : nsIn K cStatics "thirdparty.any" = some none
  fn : ∃ (qual msg : Str) (c : Nat) (p1 p2 : Pos) (q : Nat → Pos) (oc : Value) (od : Option Addr) (kV doc pm : Value) (an : Option Addr) (cda : Addr) (ct : Value) (cc : Addr) (osl : Array (Option Value)) (cl : Value) (cld : Option Addr) (csl : Array (Option Value)) (ccl : Value) (cdd : Option Addr) (vs : Array Value) (ccs : Array (Option Value)) (file : Str) (tf : Tok),
    K.lookup fI = some ⟨oc, od, .func (ksFn "__init__" qual (iniArgs F p1 p2) (iniBody F msg c q) (iniScope F) .none kV doc pm an (.ref cda) ct cc), osl⟩ ∧ codeIn K (.ref cda) qual = true ∧
    K.lookup cc = some ⟨cl, cld, .cell (some (.ref C)), csl⟩ ∧ K.lookup cda = some ⟨ccl, cdd, .fields vs, ccs⟩ ∧ vs[2]? = some (.str file tf) ∧ ((prog.main.file : Str) == file) = true ∧ EvOk msg c q
structure ClsF (F : Str) : Prop where
  a : (F == ("self" : Str)) = false
  b : (F == ("super" : Str)) = false
  c : (F == ("__class__" : Str)) = false
  d : (F == ("__debug__" : Str)) = false
  e : F ≠ "self"
  bind : ∀ (qual msg : Str) (c : Nat) (p1 p2 : Pos) (q : Nat → Pos) (kV doc pm : Value) (an : Option Addr) (cdv ct : Value) (cc : Addr) (x v : Value), bindArgs (ksFn "__init__" qual (iniArgs F p1 p2) (iniBody F msg c q) (iniScope F) .none kV doc pm an cdv ct cc) ⟨[x, v], []⟩ = pure [(("self" : Str), x), (F, v)]
theorem clsF_place : ClsF "place" := ⟨by decide, by decide, by decide, by decide, by decide, fun _ _ _ _ _ _ _ _ _ _ _ _ _ _ _ => rfl⟩
theorem clsF_line : ClsF "line" := ⟨by decide, by decide, by decide, by decide, by decide, fun _ _ _ _ _ _ _ _ _ _ _ _ _ _ _ => rfl⟩
theorem one_size (v : Value) : [v].length ≤ sizeLine := by
  rw [sizeLine_eq]
  exact (by decide : 1 ≤ 16777216)
structure OwnMade (h h' : Heap) (e C d : Addr) (F : Str) (v : Value) : Prop where
  keep : ∀ b o, h.get? b = some o → h'.get? b = some o
  new : h.objs.size ≤ e
  obj : ∃ oe vs, h'.get? e = some oe ∧ oe.cls = .ref C ∧ oe.dict = some d ∧ oe.data = .fields vs ∧ vs[1]? = some .none
  dbig : h.objs.size ≤ d
  dne : d ≠ e
  ns : h'.Ns1 d (fun y => if y = F then some v else none)
structure InitEnd (h h' : Heap) (x C dx : Addr) (F : Str) (v : Value) : Prop where
  keep : ∀ b o, b ≠ x → h.get? b = some o → h'.get? b = some o
  obj : ∃ t1 : Addr, h'.get? x = some { cls := .ref C, dict := some dx, data := .fields #[.ref t1, .none, .none, .none, .bool false, .none] }
  dbig : h.objs.size ≤ dx
  dne : dx ≠ x
  ns : h'.Ns1 dx (fun y => if y = F then some v else none)
section
variable {prog : Program} {w : World} {A : Around} {R : Result → Shared → Prop} {s : Shared} {K : Frag} {C fI : Addr} {mg mb : Str → Option Value}
theorem mw_call {B i newId : String} {bmB : List Value} {u x t0 : Addr} {rest : List Value} {Q : Value → Shared → Prop} {E : Value → Shared → Prop} (hu : s.heap.get? u = some (kxs_mw i x)) (FB : ExcBaseFacts B newId i bmB) {nm q : Str} {N : Addr} {bs bm : List Value} {hdct : Bool} {sn : List Str} {sub : List Value} {ab : Bool} {col : Option Bool} {dd : Option Addr} {k0 k1 k2 k3 k5 : Option Value}
    (hC : s.heap.get? C = some (excClassObj nm q C N bs bm hdct sn sub ab col dd k0 k1 k2 k3 k5 newId)) (he : s.heap.get? x = some (excO C t0)) (hz : rest.length ≤ sizeLine)
    (h : ∀ h' t1, (∀ b o, b ≠ x → s.heap.get? b = some o → h'.get? b = some o) → h'.get? x = some (excO C t1) → Q .none { s with heap := h' }) : wpAny (model prog w) A (call (.ref u) rest) Q E s := by
  obtain ⟨hh, g, d, tk, os⟩ := s
  refine wpAny_call (codeAny_of_tree ?_)
  show wpAny _ A.in1 (callAny (.ref u) ⟨rest, []⟩) _ _ _
  simp only [callAny]
  refine wpAny_bind (wpAny_load hu ?_)
  simp only [kxs_mw, show (Value.type "method-wrapper" == Value.type "method" || Value.type "method-wrapper" == Value.type "builtin_function_or_method" || Value.type "method-wrapper" == Value.type "method-wrapper") = true by decide, if_true]
  refine KFB.if_so (by decide) ?_
  refine wpAny_bind (check_bound_init FB.toExcCallFacts hC he rfl ?_)
  refine wpAny_bind (wpAny_pure (wpAny_pure ?_))
  refine ⟨plainId_quiet FB.init.plain _, codeAny_builtin FB.initEntry ?_⟩
  exact exc_init_tree (cls := .ref C) (t0 := t0) (dv := none) (c2 := .none) (c3 := .none) (b4 := .bool false) he hz fun h' k e' t' => h h' _ k e'
theorem ldL {M : Model} {E : Value → Shared → Prop} {env : Env} {m : Str → Option Value} {x : Str} {pos : Pos} {v : Value} {Q : Value → Shared → Prop} (hn : s.heap.Ns env.locals m) (hv : m x = some v) (h : Q v s) (hk : env.scope.kind = .function) (hl : env.kindOf x = some .local) (hd : (x == ("__debug__" : Str)) = false) :
    wpAny M A (eval (.Name x pos) env) Q E s := wpAny_Name (wpAny_loadName_local hk hl hn hv h) hd
theorem own_init {F : Str} (T : IniTxt prog K C fI F) (cf : ClsF F) {x t0 : Addr} {v : Value} (X : K.In s.heap) (hlim : s.heap.NoLimit) (hgl : s.heap.Ns mainGlobals mg) (hbl : s.heap.Ns builtinsNs mb) (hsu : mb "super" = some (.type "super")) (htop : (prog.main.scope.names.lookup ("super" : Str)).isSome = false) (hx : s.heap.get? x = some (excO C t0)) (hnx : K.lookup x = none) (hroom : A.depth < recursionLimit)
    (hq : ∀ h' tk dx, InitEnd s.heap h' x C dx F v → R (.ok (.ret .none)) { s with heap := h', toks := tk }) :
    codeAny (model prog w) A (.call (.ref fI) ⟨[.ref x, v], []⟩) R s := by
  obtain ⟨qual, msg, c, p1, p2, q, oc, od, kV, doc, pm, an, cda, ct, cc, osl, cl, cld, csl, ccl, cdd, vs, ccs, file, tf, hf, hcd, hcc, hcda, hvs, hfile, hev⟩ := T.fn
  obtain ⟨nm, qn, N, bs, bm, sn, sub, ab, col, dd, k0, k1, k2, k3, k5, hC, hbm⟩ := T.cls
  obtain ⟨hp, g, d, tk, os⟩ := s
  have hcl : clsIn K C = some { name := nm, bases := bs, mro := .ref C :: bm, ns := N, qualname := qn, hasDict := true, slotNames := sn, subclasses := sub, abstract := ab, collection := col, hasDel := false } := by unfold clsIn; rw [hC] <;> rfl
  have hF1 : (iniScope F).names.lookup F = some .local := by
    simp [iniScope, List.lookup, cf.a]
  have hF2 : ("super" == F) = false := by
    rw [beq_eq_false_iff_ne]
    intro e
    have := cf.b
    rw [← e] at this
    exact absurd this (by decide)
  have hF3 : ("__class__" == F) = false := by
    rw [beq_eq_false_iff_ne]
    intro e
    have := cf.c
    rw [← e] at this
    exact absurd this (by decide)
  have hks : (iniScope F).names.lookup ("super" : Str) = some .globalImplicit := by
    simp only [iniScope, List.lookup, hF2]
    decide
  have hkc : (iniScope F).names.lookup ("__class__" : Str) = some .free := by
    simp only [iniScope, List.lookup, hF3]
    decide
  have hka : (iniScope F).names.lookup ("self" : Str) = some .local := rfl
  have hkk : (iniScope F).kind = .function := rfl
  refine ks_codeAny_call_defAt (fd := ksFn "__init__" qual (iniArgs F p1 p2) (iniBody F msg c q) (iniScope F) .none kV doc pm an (.ref cda) ct cc) (body := iniBody F msg c q) (binds := [("self", .ref x), (F, v)]) hroom (X _ _ hf) rfl hlim (codeRec_of X hcd) rfl ?_ ?_ ?_ (fun h₁ hn k => ?_) rfl rfl rfl
  · exact BindsTo.of_eq (cf.bind _ _ _ _ _ _ _ _ _ _ _ _ _ _ _)
  · intro y hy
    simp only [iniScope, List.mem_cons, List.not_mem_nil, or_false] at hy
    rcases hy with rfl | rfl | rfl | rfl <;> exact fun e => nomatch e
  · intro y hy
    simp only [List.mem_cons, List.not_mem_nil, or_false] at hy
    rcases hy with rfl | rfl
    · rfl
    · exact hF1
  have X₁ : K.In h₁ := X.keeps k
  have hx₁ := k _ _ hx
  have hxC : x ≠ C := fun e => by
    rw [e, hC] at hnx
    cases hnx
  have hmS : ([(("self" : Str), Value.ref x), (F, v)].reverse).lookup ("self" : Str) = some (.ref x) := by
    have : (("self" : Str) == F) = false := by
      rw [beq_eq_false_iff_ne]
      exact fun e => cf.e e.symm
    simp [List.lookup, this]
  have hmF : ([(("self" : Str), Value.ref x), (F, v)].reverse).lookup F = some v := by simp [List.lookup]
  -- super()
  obtain ⟨pl, hpl⟩ := hev (callEnv (ksFn "__init__" qual (iniArgs F p1 p2) (iniBody F msg c q) (iniScope F) .none kV doc pm an (.ref cda) ct cc) hp.objs.size fI)
  refine ks_wpAt_execs_cons (ks_wpAt_Expr_any (ks_wpAt_MethodCall ?_ hpl) rfl rfl)
  refine ks_wpAt_super_base (f := fI) (cc := cda) (fd := ksFn "__init__" qual (iniArgs F p1 p2) (iniBody F msg c q) (iniScope F) .none kV doc pm an (.ref cda) ct cc) (ar := { arg := "self", annotation := none, pos := p1 }) (vs := vs) (file := file) (tf := tf) hks hkc rfl rfl (X₁ _ _ hf) rfl rfl rfl (X₁ _ _ hcda) rfl hvs hfile htop ?_
  refine ks_loadName_global hkk hks (loadGlobal_builtin (hgl.keeps k) (mg_none_of X hgl T.nos) (hbl.keeps k) hsu ⟨rfl, ?_⟩)
  refine wpAny_loadName_free hkk hkc rfl ⟨_, X₁ _ _ hcc, rfl⟩ ?_
  refine wpAny_loadName_local hkk hka hn hmS ?_
  refine ks_wpAny_isType_cls (X₁ _ _ hC) rfl ⟨rfl, ?_⟩
  refine ks_wpAny_call_super (X₁ _ _ hC) rfl hx₁ rfl (fun _ e => nomatch e) (looks_mroIn X₁ T.slf) (fun h₂ hso k₂ => ?_)
  -- .__init__
  have X₂ : K.In h₂ := X₁.keeps k₂
  have hx₂ := k₂ _ _ hx₁
  have hsp : alongIn K "__init__" (((Value.ref C :: bm).dropWhile (· != .ref C)).drop 1) = some (some (.builtin "ValueError.__init__")) := by
    have e := T.sup
    unfold ks_superIn at e
    rw [hcl] at e
    exact e
  have IX : W.InstAt h₂ x (excO C t0) C none := ⟨hx₂, rfl, rfl, trivial⟩
  refine kxs_getMethod kxs_ValueError hso (looks_opaque X₂ T.any) (l₀ := .ref C :: bm) ?_ rfl X₂ hsp (IX.type.andThen (looks_subIn X₂ T.veC)) hxC rfl ?_
  · exact fun A Q E s k q => wpAny_bind ((looks_clsIn X₂ hcl) A _ E s k (wpAny_pure q))
  -- (msg)
  have k₃ : ∀ b o, h₂.get? b = some o → (h₂.push (kxs_mw "ValueError.__init__" x)).get? b = some o := fun b o e => Heap.get?_push_of_some _ e
  have hu : (h₂.push (kxs_mw "ValueError.__init__" x)).get? h₂.objs.size = some (kxs_mw "ValueError.__init__" x) := Heap.get?_push_size _ rfl
  refine kxs_callWith (i := "ValueError.__init__") (x := x) rfl (evalArgs_plain (spliced_cons (Constant_str (k := c) (pos := q 3) (spliced_nil ⟨hu, ?_⟩))))
  refine mw_call hu _root_.PySem.F.excBase_ValueError (k₃ _ _ (X₂ _ _ hC)) (k₃ _ _ hx₂) (one_size _) fun h₄ t1 k₄ hx₄ => ?_
  -- self.F = F
  have kk : ∀ b o, b ≠ x → hp.get? b = some o → h₄.get? b = some o := fun b o hb e => k₄ b o hb (k₃ _ _ (k₂ _ _ (k _ _ e)))
  have X₄ : K.In h₄ := fun a o e => by
    have ha : a ≠ x := fun z => by rw [z, hnx] at e; cases e
    exact kk a o ha (X a o e)
  have hLx : hp.objs.size ≠ x := Nat.ne_of_gt (Heap.lt_size hx)
  have hn₄ : h₄.Ns hp.objs.size (fun y => [(("self" : Str), Value.ref x), (F, v)].reverse.lookup y) := by
    obtain ⟨oL, es, ep, hL, r⟩ := hn
    exact ⟨oL, es, ep, k₄ _ _ hLx (k₃ _ _ (k₂ _ _ hL)), r⟩
  refine ks_wpAt_execs_cons (ks_wpAt_Assign_Attr (wpAt_of_wpAny ?_) ?_)
  · refine ldL hn₄ hmF ?_ hkk hF1 cf.d
    refine ldL hn₄ hmS ?_ hkk hka rfl
    refine set_plain X₄ (ox := excO C t1) (od := none) ⟨hx₄, rfl, rfl, trivial⟩ T.sa ?_
    refine exc_osa X₄ hx₄ hcl (show refsVE (.ref C :: bm) = true from hbm) rfl T.noN (fun h₅ tk₅ dx k₅ dn dne hx₅ hn₅ => ?_)
    refine wpAt_of_wpAny (wpAny_execs_nil (hq h₅ tk₅ dx ⟨fun b o hb e => k₅ b o hb (kk b o hb e), ⟨t1, hx₅⟩, ?_, dne, hn₅⟩))
    have z : hp.objs.size < h₄.objs.size := by
      obtain ⟨oL, es, ep, hL, r⟩ := hn₄
      exact Heap.lt_size hL
    exact Nat.le_of_lt (Nat.lt_of_lt_of_le z dn)
  · rfl
theorem own_made {F : Str} (T : IniTxt prog K C fI F) (cf : ClsF F) {v : Value} (X : K.In s.heap) (hlim : s.heap.NoLimit) (hgl : s.heap.Ns mainGlobals mg) (hbl : s.heap.Ns builtinsNs mb) (hsu : mb "super" = some (.type "super")) (htop : (prog.main.scope.names.lookup ("super" : Str)).isSome = false) (hroom : A.depth + 1 < recursionLimit)
    (hq : ∀ h' tk e d, OwnMade s.heap h' e C d F v → R (.ok (.ret (.ref e))) { s with heap := h', toks := tk }) :
    codeAny (model prog w) A (.call (.ref C) ⟨[v], []⟩) R s := by
  obtain ⟨nm, q, N, bs, bm, sn, sub, ab, col, dd, k0, k1, k2, k3, k5, hC, hbm⟩ := T.cls
  obtain ⟨hp, g, dr, tk, os⟩ := s
  have k : ∀ b o, hp.get? b = some o → ((hp.push (kdv_tup [v])).push (excO C hp.objs.size)).get? b = some o := fun b o e => Heap.get?_push_of_some _ (Heap.get?_push_of_some _ e)
  have hget : ((hp.push (kdv_tup [v])).push (excO C hp.objs.size)).get? (hp.objs.size + 1) = some (excO C hp.objs.size) := by heap_get
  have hnx : K.lookup (hp.objs.size + 1) = none := by
    cases e : K.lookup (hp.objs.size + 1) with
    | none => rfl
    | some o =>
      have z : hp.get? (hp.objs.size + 1) = some o := X _ _ e
      exact absurd (Nat.lt_of_succ_lt (Heap.lt_size z)) (Nat.lt_irrefl _)
  refine call_own _root_.PySem.F.excBase_ValueError (fun X => refsVE_contains X bm hbm) (X _ _ hC) (looks_findIn X T.iC) (fun self => bind_fn X self T.tC) (one_size v) ?_
  refine own_init (s := ⟨(hp.push (kdv_tup [v])).push (excO C hp.objs.size), g, dr, tk, os⟩) T cf (X.keeps k) (hlim.keeps k) (hgl.keeps k) (hbl.keeps k) hsu htop hget hnx ?_ fun h' tk' dx ⟨k', ⟨t1, hx⟩, dn, dne, hns⟩ => ?_
  · show A.depth + 1 < recursionLimit
    exact hroom
  · have old : ∀ b o, hp.get? b = some o → h'.get? b = some o := fun b o e => k' b o (Nat.ne_of_lt (Nat.lt_succ_of_lt (Heap.lt_size e))) (k b o e)
    have z : hp.objs.size + 1 + 1 ≤ dx := by
      have q := dn
      simp only [Heap.size_push] at q
      exact q
    exact ⟨rfl, hq h' tk' (hp.objs.size + 1) dx ⟨old, Nat.le_succ _, ⟨_, _, hx, rfl, rfl, rfl, rfl⟩, Nat.le_trans (Nat.le_trans (Nat.le_succ _) (Nat.le_succ _)) z, dne, hns⟩⟩
end
end OwnX
end PySem
namespace DL
open PySem PySem.Spec PyProof.Rows L2 StX PySem.OwnX
theorem relO_one {F : Str} {v : V} {v' : Value} (r : RelV v v') (f : Str) : RelO (List.lookup f [(F, v)]) (if f = F then some v' else none) := by
  by_cases hw : f = F
  · subst hw
    rw [if_pos rfl]
    have q : List.lookup f [(f, v)] = some v := by simp [List.lookup]
    rw [q]
    exact r
  · rw [if_neg hw]
    have qw : (f == F) = false := by simpa using hw
    have q2 : List.lookup f [(F, v)] = none := by simp [List.lookup, qw]
    rw [q2]
    trivial
section
variable {X : Cx} {C fI : Addr} {F x : Str}
/-- C(e) -/
def tMk (C : Addr) (F : Str) (ta : TA) : L2.St → Hp → XK → Prop := fun σ H Q => ta σ H fun vs H1 => ∃ v, vs = [v] ∧ ∀ d, H1 d = none → Q (.ref C) (some d) (upd H1 d (.xd [(F, v)]))
theorem pmk_own {a : Expr} {ta : TA} {p pos : Pos} {k : Nat} (T : IniTxt X.prog X.K C fI F) (cf : ClsF F) (gC : X.mg x = some (.ref C)) (hr : Room k X.A) (ha : PA X [a] ta) (htop : (X.prog.main.scope.names.lookup ("super" : Str)).isSome = false) (hg : Gl X x := by rfl) (hdb : (x == ("__debug__" : Str)) = false := by decide)
    (he : starEach (a :: []) X.env = (false, eval a X.env) :: starEach [] X.env := by rfl) (hpl : (backTo pos (starEach [] X.env)).any (·.1) = false := by rfl) :
    PMk X (.Call (.Name x p) [a] [] pos) (tMk C F ta) := by
  intro pins s σ H Q I h
  refine wpAny_Call_Name_kw (ld_glob I hg gC ?_ hdb)
  refine PySem.W.callWith_K (h₀ := X.base) I.ok.mod.kin T.kC (thn (ha.run pos pins s σ H _ I h) fun us s1 hh => ?_) he hpl
  obtain ⟨vs, H1, I1, r1, v, ev, q1⟩ := hh
  subst ev
  refine ⟨I1.kIn, ?_⟩
  cases r1 with
  | cons rv rn =>
    rename_i v' us'
    cases rn
    show wpAny _ _ (call (.ref C) [v']) _ _ _
    have hlim := I1.nolimit
    have hgl : s1.heap.Ns mainGlobals X.mg := I1.mod.glob.keeps I1.bk
    obtain ⟨mb, hb1, hb2⟩ := I1.mod.blt
    have hbl : s1.heap.Ns builtinsNs mb := hb1.keeps I1.bk
    have hsu : mb "super" = some (.type "super") := (hb2 _ (by decide)).trans (by decide +kernel)
    obtain ⟨hp, g, dr, tk, os⟩ := s1
    refine wpAny_call (own_made T cf I1.kIn hlim hgl hbl hsu htop (by have := hr.dp; omega) fun h' tk' e d M => ?_)
    show MkP X pins σ Q (.ref e) ⟨h', g, dr, tk', os⟩
    obtain ⟨oe, fv, hoe, hc, hd, hdat, h1⟩ := M.obj
    have hns := M.ns
    obtain ⟨G', g1, g2⟩ := restrict h' fun b => decide (b ≠ e)
    have gk : ∀ b, b ≠ e → G'.get? b = h'.get? b := fun b hb => g1 b (decide_eq_true hb)
    have ge : G'.get? e = none := g2 e (by simp)
    have old : ∀ b o, hp.get? b = some o → G'.get? b = some o := fun b o q => (gk b (Nat.ne_of_lt (Nat.lt_of_lt_of_le (Heap.lt_size q) M.new))).trans (M.keep b o q)
    have ob : ObjOk X.prog X.w (upd H1 d (.xd [(F, v)])) G' d (.xd [(F, v)]) :=
      ⟨_, hns.at (fun o q => (gk d M.dne).trans q), fun f => relO_one rv f⟩
    have J : Inv X pins σ (upd H1 d (.xd [(F, v)])) ⟨G', g, dr, tk', os⟩ := I1.laid (t' := tk') old M.dbig ob
    refine ⟨e, oe, fv, ⟨G', g, dr, tk', os⟩, _, .ref C, some d, rfl, J, fun b o q => ?_, ge, hoe, ⟨hc, hd⟩, hdat, h1, ?_, rfl, I1.bare, raises_own T.exC T.tyC, q1 d (I1.hok.fresh M.dbig)⟩
    · by_cases hb : b = e
      · have q' : G'.get? b = some o := q
        rw [hb, ge] at q'; cases q'
      · exact (gk b hb).symm.trans q
    · rw [upd_ne (Ne.symm M.dne)]
      exact I1.hok.fresh M.new
end
end DL
end X1_text
section F0_text
set_option maxRecDepth 100000
set_option maxHeartbeats 2000000
namespace Wk
open PySem PySem.Spec PyProof.Rows L2 DL
def top (i : Nat) : Stmt := PySem.Challenge.pw_wakebook_k61_whole_texts_refused.main.body.getD i (.Pass ⟨0, 0, 0, 0⟩)
/-! ### what the text's names stand for -/
def freeL : List Str := ["len", "isinstance", "all", "zip", "enumerate", "tuple", "str", "int", "bool", "range", "list", "dict", "repr", "sorted", "super"]
def strL : List (Str × Str) := [("LETTERS", "abcdefghijklmnopqrstuvwxyz"), ("CALM", "calm"), ("HELD", "held"), ("UNHELD", "unheld"), ("FIGURES", "0123456789"), ("KIND", "kind"), ("UP", "up"), ("DEAF", "deaf"), ("BELOW", "below"), ("EDGES", "edges")]
def intL : List (Str × Int) := [("MOST_KINDS", 3), ("MOST_STANDS", 6), ("MOST_EDGES", 24), ("MOST_LETTERS", 8)]
def tupL : List (Str × List Str) := [("ASKS", ["calm", "held", "over", "rung", "unheld"]), ("DEEDS", ["give", "go", "hold", "hush"]), ("ORDER", ["up", "deaf", "edges", "below"])]
def fnA : List (Str × Nat) := [("is_whole", 31), ("is_word", 32), ("is_tuple_of", 33), ("is_ascending", 34), ("is_stands", 35), ("is_asks", 36), ("is_edge", 37), ("need_edges", 38), ("is_below", 39), ("need_kind", 40), ("is_pair", 41), ("need_house", 42)]
def fnB : List (Str × Nat) := [("spaced", 51), ("edge_words", 52), ("kind_lines", 53), ("house_text", 54), ("number_in", 55), ("edge_in", 56), ("numbers_in", 57), ("names_in", 58), ("line_in", 59), ("kind_in", 60), ("goes_on", 61), ("blocks_in", 62), ("item_of", 63), ("kind_of", 64), ("read_house", 65)]
def fnC : List (Str × Nat) := [("_law_begun", 67), ("_law_draw", 68), ("_law_like", 69), ("_law_some", 70), ("_law_order", 71), ("_law_word_of", 72), ("_law_told", 73), ("_law_asks", 74), ("_law_edge", 75), ("_law_book", 76), ("_law_house", 77), ("_law_number", 78), ("_law_is_word", 79), ("_law_rises", 80), ("_law_line", 81), ("_law_may_follow", 82), ("_law_due", 83), ("_law_bent", 84)]
def fnL : List (Str × Nat) := fnA ++ (fnB ++ fnC)
abbrev FnP (K : PySem.W.Frag) (x : Str) (st : Stmt) (f : Addr) (fd : FuncData) : Prop := FunD K x x (defArgs st) (defBody st) (defScope st) [] [] f fd
/-- the class of a name -/
def ca (mg : Str → Option Value) (x : Str) : Addr := match mg x with
  | some (.ref a) => a
  | _ => 0
structure Txt (P : Program) (K : PySem.W.Frag) (mg : Str → Option Value) : Prop where
  tp : (P.main.scope.names.lookup ("super" : Str)).isSome = false
  xh : mg "BadHouse" = some (.ref (ca mg "BadHouse")) ∧ ∃ fI, PySem.OwnX.IniTxt P K (ca mg "BadHouse") fI "place"
  xt : mg "BadText" = some (.ref (ca mg "BadText")) ∧ ∃ fI, PySem.OwnX.IniTxt P K (ca mg "BadText") fI "line"
  fr : ∀ x ∈ freeL, mg x = none
  st : ∀ q ∈ strL, ∃ t, mg q.1 = some (.str q.2 t)
  nt : ∀ q ∈ intL, ∃ t, mg q.1 = some (.int q.2 t)
  tu : ∀ q ∈ tupL, ∃ a, mg q.1 = some (.ref a) ∧ (∃ o, K.lookup a = some o ∧ o.cls = .type "tuple" ∧ o.dict = none) ∧ ∀ H, SqT K H a (q.2.map V.str)
  fn : ∀ q ∈ fnL, ∃ f fd, mg q.1 = some (.ref f) ∧ FnP K q.1 (top q.2) f fd
section
variable {X : Cx} {ρ : Rho} {pos : Pos} {x z : Str} {d : PyData}
theorem pv_gstr (T : Txt X.prog X.K X.mg) (h : (x, z) ∈ strL := by decide) (hg : Gl X x := by rfl) (hdb : (x == ("__debug__" : Str)) = false := by decide) : PV X (.Name x pos) ρ (.str z) := by
  obtain ⟨t, e⟩ := T.st _ h
  exact pv_glob e (v := .str z) ⟨t, rfl⟩ (fun _ => .str _) hg hdb
theorem pv_gint {i : Int} (T : Txt X.prog X.K X.mg) (h : (x, i) ∈ intL := by decide) (hg : Gl X x := by rfl) (hdb : (x == ("__debug__" : Str)) = false := by decide) : PV X (.Name x pos) ρ (.int i) := by
  obtain ⟨t, e⟩ := T.nt _ h
  exact pv_glob e (v := .int i) ⟨t, rfl⟩ (fun _ => .int _) hg hdb
theorem pv_gtup {xs : List Str} (T : Txt X.prog X.K X.mg) (h : (x, xs) ∈ tupL := by decide) (hg : Gl X x := by rfl) (hdb : (x == ("__debug__" : Str)) = false := by decide) : PV X (.Name x pos) ρ (.tuple (xs.map .str)) := by
  obtain ⟨a, e, _, hs⟩ := T.tu _ h
  exact pv_glob e (v := .ref a) rfl (fun H => .tup (hs H) (DpAll.ofStrs _)) hg hdb
end
theorem pv_tidx {X : Cx} {ρ : Rho} {pos : Pos} {x z : Str} {e : Expr} {ys : List Str} {j : Nat} {p apos : Pos} (T : Txt X.prog X.K X.mg) (he : PV X e ρ (.str z)) (hj : ys[j]? = some z) (hn : ∀ m, m < j → ys[m]? ≠ some z) (h : (x, ys) ∈ tupL := by decide) (hg : Gl X x := by rfl) (hdb : (x == ("__debug__" : Str)) = false := by decide)
    (hbase : attributeBase (.Name x p) "index" X.env (eval (.Name x p) X.env) = eval (.Name x p) X.env := by rfl) (hline : (apos.endLine == pos.line) = true := by rfl)
    (hfew : ((backTo pos (starEach (e :: []) X.env)).all (fun x => !x.1) && (backToKw pos (keywordEach [] X.env)).all (fun x => x.1.isSome) && decide ((e :: []).length + ([] : List Keyword).length + (if ([] : List Keyword).isEmpty then 0 else 1) < 30)) = true := by rfl)
    (hs : starEach (e :: []) X.env = (false, eval e X.env) :: starEach [] X.env := by rfl) (hpl : (backTo pos (starEach [] X.env)).any (·.1) = false := by rfl) : PV X (.Call (.Attribute (.Name x p) "index" apos) [e] [] pos) ρ (.int (j : Nat)) := by
  obtain ⟨a, em, ⟨o, ho, hc, hd⟩, hsq⟩ := T.tu _ h
  refine fun σ G H u s Q q => wE_of (pe_bm PySem.F.plainAttrs_tuple PySem.F.slot_tuple_index PySem.F.type_tuple_index mt_tup_index (pe_glob (v := .ref a) hg em rfl hdb) (pa_cons pe_w pa_nil hs) hbase hfew hline hs hpl) ?_
  refine ⟨.inr (.inl ⟨rfl, o, ho, hc, hd⟩), he σ G H u s _ fun w G2 H2 g2 k2 => ?_⟩
  have ew := Dp.strE k2
  subst ew
  exact ⟨a, ys, z, j, rfl, rfl, hsq H2, hj, hn, q _ G2 H2 g2 (.int _)⟩
theorem T_fr {P : Program} {K : PySem.W.Frag} {mg : Str → Option Value} (T : Txt P K mg) {x : Str} (h : x ∈ freeL := by decide) : mg x = none := T.fr x h
theorem pv_is {X : Cx} {ρ : Rho} {pos : Pos} {a : Expr} {d : PyData} (ty t : String) (k : Bool) {x : Str} {p p1 : Pos} (T : Txt X.prog X.K X.mg) (ha : PV X a ρ d) (hd : tyD d = ty := by rfl) (hk : kitB ty t = some k := by decide) (hxf : x ∈ freeL := by decide) (hx : bootBuiltins x = some (.type t) := by decide +kernel) (hgi : Gl X "isinstance" := by rfl) (hgx : Gl X x := by rfl) (hn : x ≠ "__name__" := by decide) (hdb : (x == ("__debug__" : Str)) = false := by decide)
    (he : starEach (a :: [.Name x p1]) X.env = (false, eval a X.env) :: starEach [.Name x p1] X.env := by rfl) (he2 : starEach (.Name x p1 :: []) X.env = (false, eval (.Name x p1) X.env) :: starEach [] X.env := by rfl) (hpl : (backTo pos (starEach [.Name x p1] X.env)).any (·.1) = false := by rfl) :
    PV X (.Call (.Name "isinstance" p) [a, .Name x p1] [] pos) ρ (.bool k) := by
  subst hd
  exact pv_isi (T := x) ha (T_fr T) (T.fr x hxf) hk hx hgi hgx hn hdb he he2 hpl
/-- raise C(e) -/
theorem psd_raise {X : Cx} {E : XK} {ρ : Rho} {rest : List Stmt} {a : Expr} {C fI : Addr} {F x : Str} {p pos pos2 : Pos} {k : Nat} {d : PyData} (tk : Takes X (fun cls d _ H => E cls d H)) (T : PySem.OwnX.IniTxt X.prog X.K C fI F) (cf : PySem.OwnX.ClsF F) (gC : X.mg x = some (.ref C)) (htop : (X.prog.main.scope.names.lookup ("super" : Str)).isSome = false) (hr : Room k X.A) (ha : PV X a ρ d) (hc : X.calm = true := by rfl) (hg : Gl X x := by rfl) (hdb : (x == ("__debug__" : Str)) = false := by decide)
    (he : starEach (a :: []) X.env = (false, eval a X.env) :: starEach [] X.env := by rfl) (hpl : (backTo pos (starEach [] X.env)).any (·.1) = false := by rfl) : PSD X E (.Raise (some (.Call (.Name x p) [a] [] pos)) none pos2 :: rest) ρ (.out (.ex C F d)) :=
  fun σ G H u s D q => wSs_of (pss_cons (ps_raise hc tk (pmk_own T cf gC hr pa_w htop hg hdb he hpl)) pss_w) (pvs_cons ha pvs_nil he σ G H u s _ fun vs G1 H1 g1 k1 => by
    obtain ⟨v, rfl, h1⟩ := DpAll.oneE k1
    refine ⟨v, rfl, fun dd hd => ?_⟩
    have g2 : Gr G1 H1 G1 (L2.upd H1 dd (.xd [(F, v)])) := ⟨fun b o hb => by rw [upd_ne (ne_of_none (g1.sub b o hb) hd)]; exact g1.sub b o hb, L2.Same.refl _, Same.upd hd, fun _ _ => rfl⟩
    exact q dd v G1 _ (g1.trans g2) upd_same h1)
/-! ### a def by its promise -/
abbrev CC (P : Program) (w : World) (K : PySem.W.Frag) (mg : Str → Option Value) (base : Heap) (N : List Str) (qual : Str) (scope : Scope) (f : Addr) (cd : Value) (A : Around) (outer : List Env) (s : Shared) (H : Hp) (E : XK) : Cx :=
  cxOf (L2.CX P w) P w K mg base N qual scope f cd A outer s H E
def startD (N : List Str) (ds : List PyData) : Rho := ds.map some ++ List.replicate (N.length - ds.length) none
theorem sd_start {K : PySem.W.Frag} {G : Hp} {N : List Str} {vs : List V} {ds : List PyData} (h : DpAll K G vs ds) : SD K G (L2.start N vs) (startD N ds) := by
  have hl := DpAll.length h
  refine ⟨by simp [L2.start, startD, hl], fun i d e => ?_⟩
  unfold startD at e
  by_cases hi : i < ds.length
  · rw [List.getElem?_append_left (by simpa using hi), List.getElem?_map] at e
    cases q : ds[i]? with
    | none =>
      rw [q] at e
      cases e
    | some d' =>
      rw [q] at e
      have e1 : d' = d := Option.some.inj (Option.some.inj e)
      subst e1
      obtain ⟨v, hv, hd⟩ := DpAll.get h q
      refine ⟨v, ?_, hd⟩
      unfold L2.start
      have hi' : i < vs.length := by omega
      rw [List.getElem?_append_left (by simpa using hi'), List.getElem?_map, hv]
      rfl
  · rw [List.getElem?_append_right (by simpa using Nat.le_of_not_lt hi)] at e
    have := List.mem_of_getElem? e
    have q := List.eq_of_mem_replicate this
    cases q
/-- a body ends as o says: by its own statement, or it falls out of its end -/
def Ends' (X : Cx) (E : XK) (sts : List Stmt) (ρ : Rho) (o : Out) : Prop := PSD X E sts ρ (.out o) ∨ ∃ ρ', PSD X E sts ρ (.nx ρ') ∧ o = .rt .none
theorem Ends'.out {X : Cx} {E : XK} {sts : List Stmt} {ρ : Rho} {o : Out} (h : PSD X E sts ρ (.out o)) : Ends' X E sts ρ o := .inl h
section
variable {P : Program} {w : World} {K : PySem.W.Frag} {mg : Str → Option Value} {base : Heap}
theorem cxPass {N : List Str} {qual : Str} {scope : Scope} {f : Addr} {cd : Value} {A : Around} {outer : List Env} {s : Shared} {H : Hp} {E : XK} : Passes (L2.CX P w) (CC P w K mg base N qual scope f cd A outer s H E) E :=
  passes_call (takes_of rfl rfl rfl rfl) fun _ _ _ _ h => h
theorem cxTk {N : List Str} {qual : Str} {scope : Scope} {f : Addr} {cd : Value} {A : Around} {outer : List Env} {s : Shared} {H : Hp} {E : XK} : Takes (CC P w K mg base N qual scope f cd A outer s H E) (fun cls d _ H => E cls d H) := takes_of rfl rfl rfl rfl
theorem cxOwn {N : List Str} {qual : Str} {scope : Scope} {f : Addr} {cd : Value} {A : Around} {outer : List Env} {s : Shared} {H : Hp} {E : XK} : PassesOwn (model P w) (CC P w K mg base N qual scope f cd A outer s H E).A (CC P w K mg base N qual scope f cd A outer s H E).env (CC P w K mg base N qual scope f cd A outer s H E).xe :=
  passes_of (X := CC P w K mg base N qual scope f cd A outer s H E) rfl
/-- THE RULE for a def over data -/
theorem def_of (T : Txt P K mg) {x : Str} {i k : Nat} {N ps : List Str} {R : List PyData → Out → Prop} (hm : (x, i) ∈ fnL) (S : FnScope N ps (defScope (top i)))
    (hb : ∀ (kV doc pm : Value) (an : Option Addr) (cdv ct : Value) (us : List Value), us.length = ps.length → bindArgs (PySem.W.fnOf x x (defArgs (top i)) (defBody (top i)) (defScope (top i)) .none kV doc pm an cdv ct) ⟨us, []⟩ = pure (ps.zip us))
    (body : ∀ (f : Addr) (cdv : Value) (A : Around) (outer : List Env) (s : Shared) (H : Hp) (E : XK), Room k (A.deeper (envOfC x (defScope (top i)) s.heap.objs.size f cdv)) → ∀ ds o, R ds o → ds.length = ps.length →
      Ends' (CC P w K mg base N x (defScope (top i)) f cdv A outer s H E) E (defBody (top i)) (startD N ds) o) : DefOk P w K mg base (k + 1) x (spD K ps.length R) := by
  obtain ⟨f, fd, hg, F⟩ := T.fn _ hm
  refine ⟨⟨L2.CX P w, f, fd, ps, hg, F.kp, F.bindsN hb, ?_, .inr rfl⟩⟩
  refine F.ok S (spD_len rfl) fun cdv A outer s H vs Q E hr h => ⟨wSs _ _, pss_w, ?_⟩
  obtain ⟨ds, o, G, h1, h2, h3, h4, h5⟩ := h
  rcases body f cdv A outer s H E hr ds o h4 h1 with b | ⟨ρ', b, rfl⟩
  · exact b (L2.start N vs) G H h2 (sd_start h3) _ h5
  · exact b (L2.start N vs) G H h2 (sd_start h3) _ fun σ' G2 H2 g2 _ => h5 .non G2 H2 g2 .non
end
end Wk
end F0_text
section D7_text
set_option maxRecDepth 100000
set_option maxHeartbeats 2000000
namespace DL
open PySem PySem.Spec PyProof.Rows L2 StX
/-- ρ says less than ρ' -/
def Fg : Rho → Rho → Prop
  | [], [] => True
  | a :: r, b :: r' => (a = none ∨ a = b) ∧ Fg r r'
  | _, _ => False
theorem Fg.len : ∀ {ρ ρ' : Rho}, Fg ρ ρ' → ρ.length = ρ'.length
  | [], [], _ => rfl
  | _ :: r, _ :: r', h => by simp only [List.length_cons, Fg.len (ρ := r) (ρ' := r') h.2]
  | [], _ :: _, h => h.elim
  | _ :: _, [], h => h.elim
theorem Fg.at : ∀ {ρ ρ' : Rho} {i : Nat} {d : PyData}, Fg ρ ρ' → ρ[i]? = some (some d) → ρ'[i]? = some (some d)
  | [], _, _, _, _, e => by simp at e
  | _ :: _, [], _, _, h, _ => h.elim
  | a :: r, b :: r', 0, d, h, e => by
    have ea : a = some d := Option.some.inj e
    rcases h.1 with z | z
    · rw [z] at ea
      cases ea
    · show some b = some (some d)
      rw [← z, ea]
  | a :: r, b :: r', i + 1, d, h, e => Fg.at (ρ := r) (ρ' := r') (i := i) h.2 e
theorem Fg.refl : ∀ ρ : Rho, Fg ρ ρ
  | [] => trivial
  | _ :: r => ⟨.inr rfl, Fg.refl r⟩
theorem SD.forget {K : PySem.W.Frag} {H : Hp} {σ : L2.St} {ρ ρ' : Rho} (s : SD K H σ ρ') (f : Fg ρ ρ') : SD K H σ ρ := ⟨s.1.trans f.len.symm, fun i d e => s.2 i d (f.at e)⟩
/-- the first place at which p fails -/
def firstBad {α : Type} (p : Nat → α → Bool) : Nat → List α → Option Nat
  | _, [] => none
  | i, x :: r => if p i x = true then firstBad p (i + 1) r else some i
theorem firstBad_none {α : Type} {p : Nat → α → Bool} : ∀ {xs : List α} {k : Nat}, firstBad p k xs = none → ∀ i x, xs[i]? = some x → p (k + i) x = true
  | [], _, _, i, x, h => by simp at h
  | y :: r, k, e, i, x, h => by
    unfold firstBad at e
    by_cases hp : p k y = true
    · rw [if_pos hp] at e
      cases i with
      | zero =>
        have q : y = x := Option.some.inj h
        subst q
        exact hp
      | succ i =>
        have q := firstBad_none (xs := r) (k := k + 1) e i x h
        rwa [show k + 1 + i = k + (i + 1) by omega] at q
    · rw [if_neg hp] at e
      cases e
theorem firstBad_some {α : Type} {p : Nat → α → Bool} : ∀ {xs : List α} {k j : Nat}, firstBad p k xs = some j → ∃ n x, j = k + n ∧ xs[n]? = some x ∧ p j x = false ∧ ∀ i y, i < n → xs[i]? = some y → p (k + i) y = true
  | [], _, _, e => by cases e
  | y :: r, k, j, e => by
    unfold firstBad at e
    by_cases hp : p k y = true
    · rw [if_pos hp] at e
      obtain ⟨n, x, h1, h2, h3, h4⟩ := firstBad_some (xs := r) (k := k + 1) e
      refine ⟨n + 1, x, by omega, h2, h3, fun i z hi hz => ?_⟩
      cases i with
      | zero =>
        have q : y = z := Option.some.inj hz
        subst q
        exact hp
      | succ i =>
        have q := h4 i z (by omega) hz
        rwa [show k + 1 + i = k + (i + 1) by omega] at q
    · rw [if_neg hp] at e
      have ej : k = j := Option.some.inj e
      subst ej
      exact ⟨0, y, rfl, rfl, by simpa using hp, fun i _ hi _ => absurd hi (Nat.not_lt_zero _)⟩
theorem atI_nat {α : Type} {xs : List α} {i : Nat} {d : α} (h : xs[i]? = some d) : L2.atI xs (i : Int) = some d := by
  have hl := (List.getElem?_eq_some_iff.mp h).1
  unfold L2.atI L2.ixN
  rw [if_pos (by omega), if_pos (by omega)]
  simpa using h
theorem atI_pred {α : Type} {xs : List α} {i : Nat} {d : α} (h0 : i ≠ 0) (h : xs[i - 1]? = some d) : L2.atI xs ((i : Int) - 1) = some d := by
  have e : (i : Int) - 1 = ((i - 1 : Nat) : Int) := by omega
  rw [e]
  exact atI_nat h
theorem atI_last {α : Type} {xs : List α} {d : α} (h : xs.getLast? = some d) : L2.atI xs (-1) = some d := by
  rw [List.getLast?_eq_getElem?] at h
  have hl := (List.getElem?_eq_some_iff.mp h).1
  unfold L2.atI L2.ixN
  rw [if_neg (by omega), if_pos (by omega)]
  have e : (-1 + (xs.length : Int)).toNat = xs.length - 1 := by omega
  show xs[(-1 + (xs.length : Int)).toNat]? = some d
  rw [e]
  exact h
section
variable {X : Cx} {ρ ρ' ρ1 : Rho} {c e tg iter : Expr} {ys : List PyData} {pos : Pos} {E : XK} {sts rest body : List Stmt} {o : SOut}
theorem psd_forget (h : PSD X E sts ρ (.nx ρ1)) (f : Fg ρ' ρ1) : PSD X E sts ρ (.nx ρ') := fun σ G H u s D q => h σ G H u s D fun σ' G2 H2 g2 s2 => q σ' G2 H2 g2 (s2.forget f)
/-- less said ahead -/
theorem psd_less (h : PSD X E sts ρ' o) (f : Fg ρ' ρ) : PSD X E sts ρ o := fun σ G H u s D q => h σ G H u (s.forget f) D q
/-- if c: raise .. at the end of a loop's body -/
theorem psd_ifE {p : Bool} {oo : Out} (hc : PB X c ρ (!p)) (ht : p = false → PSD X E body ρ (.out oo)) (fg : Fg ρ' ρ) : PSD X E [.If c body [] pos] ρ (if p = true then .nx ρ' else .out oo) := by
  cases hp : p with
  | true =>
    rw [if_pos rfl]
    rw [hp] at hc
    exact psd_ifF hc psd_nil (psd_forget psd_nil fg)
  | false =>
    rw [if_neg Bool.false_ne_true]
    rw [hp] at hc
    exact psd_ifT hc (ht hp)
/-- a for that goes on where p holds of an item and ends the def where it fails -/
theorem psd_forB {α : Type} {xs : List α} (p : Nat → α → Bool) {T : List Nat} (oo : Nat → Out) (hi : IV X tg iter ρ ys) (M : Nat → α → Rho) (hy : ys.length = xs.length) (hg : ∀ i x, xs[i]? = some x → ∃ y, ys[i]? = some y ∧ PGD X tg ρ y (M i x) T)
    (hbx : ∀ i x, xs[i]? = some x → PSD X E body (M i x) (if p i x = true then .nx ρ else .out (oo i))) {oN : SOut} (hr : firstBad p 0 xs = none → PSD X E rest ρ oN) (hp : PassesOwn (model X.prog X.w) X.A X.env X.xe)
    (ho : o = match firstBad p 0 xs with
      | none => oN
      | some j => .out (oo j)) (hc : X.calm = true := by rfl) (hs : ∀ x, foldedSetIterable iter X.env x = pure x := by intro _; rfl) : PSD X E (.For tg iter body [] pos :: rest) ρ o := by
  have hb : ∀ i x, xs[i]? = some x → p i x = true → PSD X E body (M i x) (.nx ρ) := fun i x h hp => by
    have := hbx i x h
    rwa [if_pos hp] at this
  have hx : ∀ i x, xs[i]? = some x → p i x = false → PSD X E body (M i x) (.out (oo i)) := fun i x h hp => by
    have := hbx i x h
    rwa [if_neg (by rw [hp]; exact Bool.false_ne_true)] at this
  have key : ∀ i y, ys[i]? = some y → ∃ x, xs[i]? = some x ∧ PGD X tg ρ y (M i x) T := fun i y hy' => by
    have hl : i < xs.length := by
      rw [← hy]
      exact (List.getElem?_eq_some_iff.mp hy').1
    obtain ⟨y', h1, h2⟩ := hg i xs[i] (by simp [hl])
    rw [hy'] at h1
    have q := Option.some.inj h1
    subst q
    exact ⟨xs[i], by simp [hl], h2⟩
  have e0 : ∀ i x, xs[i]? = some x → (match xs[i]? with | some x => M i x | none => ρ) = M i x := fun i x h => by rw [h]
  cases hf : firstBad p 0 xs with
  | none =>
    rw [hf] at ho
    subst ho
    have all := firstBad_none hf
    refine psd_for hi ys.length (fun _ => ρ) (fun i => match xs[i]? with | some x => M i x | none => ρ) T (Nat.le_refl _) rfl (fun i y _ h => ?_) (fun i hi' => ?_) (.inl ⟨rfl, hr hf⟩) hp hc hs
    · obtain ⟨x, hx', hp'⟩ := key i y h
      show PGD X tg ρ y (match xs[i]? with | some x => M i x | none => ρ) T
      rw [e0 i x hx']
      exact hp'
    · have hl : i < xs.length := by omega
      have hx' : xs[i]? = some xs[i] := by simp [hl]
      show PSD X E body (match xs[i]? with | some x => M i x | none => ρ) (.nx ρ)
      rw [e0 i _ hx']
      have := all i xs[i] hx'
      rw [Nat.zero_add] at this
      exact hb i _ hx' this
  | some j =>
    rw [hf] at ho
    subst ho
    obtain ⟨n, x0, hj, hx0, hpf, hbf⟩ := firstBad_some hf
    rw [Nat.zero_add] at hj
    subst hj
    have hjl : j < xs.length := (List.getElem?_eq_some_iff.mp hx0).1
    refine psd_for hi j (fun _ => ρ) (fun i => match xs[i]? with | some x => M i x | none => ρ) T (by omega) rfl (fun i y _ h => ?_) (fun i hi' => ?_) (.inr ⟨by omega, oo j, rfl, ?_⟩) hp hc hs
    · obtain ⟨x, hx', hp'⟩ := key i y h
      show PGD X tg ρ y (match xs[i]? with | some x => M i x | none => ρ) T
      rw [e0 i x hx']
      exact hp'
    · have hl : i < xs.length := by omega
      have hx' : xs[i]? = some xs[i] := by simp [hl]
      show PSD X E body (match xs[i]? with | some x => M i x | none => ρ) (.nx ρ)
      rw [e0 i _ hx']
      have := hbf i xs[i] hi' hx'
      rw [Nat.zero_add] at this
      exact hb i _ hx' this
    · show PSD X E body (match xs[j]? with | some x => M j x | none => ρ) (.out (oo j))
      rw [e0 j x0 hx0]
      exact hx j x0 hx0 hpf
end
end DL
end D7_text
section M0_text
set_option maxRecDepth 100000
set_option maxHeartbeats 2000000
namespace Wk
open PySem
open PySem.W (dataLt alike)
/-! ### the mirror, in plain Lean -/
abbrev chars (x : Str) : List Nat := x.cps.toList
def big : Nat := 8388608
theorem big_le : big ≤ PySem.sizeLine := by rw [sizeLine_eq]; decide
theorem big_eq : big = 8388608 := rfl
def lettersS : Str := "abcdefghijklmnopqrstuvwxyz"
def figuresS : Str := "0123456789"
def asksS : List Str := ["calm", "held", "over", "rung", "unheld"]
def holdS : List Str := ["calm", "held", "unheld"]
def deedsS : List Str := ["give", "go", "hold", "hush"]
def isWord (x : Str) : Bool := decide (1 ≤ x.length) && decide (x.length ≤ 8) && (chars x).all fun c => decide (c ∈ chars lettersS)
def ascD : List PyData → Bool
  | x :: y :: r => dataLt x y && ascD (y :: r)
  | _ => true
def isAsks (xs : List Str) : Bool := (xs.all fun x => decide (x ∈ asksS)) && (ascD (xs.map .str) && decide ((xs.filter fun x => decide (x ∈ holdS)).length < 2))
def numIn (x : Str) : Option Int :=
  if (decide (1 ≤ x.length) && decide (x.length ≤ 2)) && ((chars x).all fun c => decide (c ∈ chars figuresS)) then (if decide (x.length = 2) && decide ((chars x).head? = some 48) then none else intText? x) else none
structure Edge where
  b : Int
  asks : List Str
  deed : Str
  e : Int
  deriving DecidableEq
def encE (x : Edge) : PyData := .tuple [.int x.b, .tuple (x.asks.map .str), .str x.deed, .int x.e]
/-- a line of a text, read -/
inductive Ln where
  | kind (n : Str) (k : Int)
  | up (xs : List Int)
  | deaf (xs : List Int)
  | edge (x : Edge)
  | below (xs : List Str)
def numsL : List Str → Option (List Int)
  | [] => some []
  | w :: r => match numIn w, numsL r with
    | some k, some xs => some (k :: xs)
    | _, _ => none
def numsOf (ws : List Str) : Option (List Int) := match numsL ws with
  | some xs => if (decide (xs ≠ []) && ascD (xs.map .int)) = true then some xs else none
  | none => none
def edgeOf (ws : List Str) : Option Edge := match ws with
  | w0 :: w1 :: w2 :: asks => if (decide (w1 ∈ deedsS) && isAsks asks) = true then (match numIn w0, numIn w2 with
    | some b, some e => some ⟨b, asks, w1, e⟩
    | _, _ => none) else none
  | _ => none
def namesOf (ws : List Str) : Option (List Str) := if (decide (ws ≠ []) && (ws.all isWord && ascD (ws.map .str))) = true then some ws else none
def kindOf (ws : List Str) : Option (Str × Int) := match ws with
  | [a, b] => if isWord a = true then (numIn b).map fun k => (a, k) else none
  | _ => none
def lineOf (ws : List Str) : Option Ln := match ws with
  | [] => none
  | w0 :: r => if w0 = ("kind" : Str) then (kindOf r).map fun q => .kind q.1 q.2 else if w0 = ("up" : Str) then (numsOf r).map .up else if w0 = ("deaf" : Str) then (numsOf r).map .deaf
    else if w0 = ("below" : Str) then (namesOf r).map .below else (edgeOf (w0 :: r)).map .edge
/-! how the program writes it, how the law does -/
def tI (xs : List Int) : PyData := .tuple (xs.map .int)
def tS (xs : List Str) : PyData := .tuple (xs.map .str)
def encO : Option Int → PyData
  | some k => .int k
  | none => .none
def ord : Ln → Nat
  | .kind _ _ => 0
  | .up _ => 1
  | .deaf _ => 2
  | .edge _ => 3
  | .below _ => 4
def sortS : Ln → Str
  | .kind _ _ => "kind"
  | .up _ => "up"
  | .deaf _ => "deaf"
  | .edge _ => "edges"
  | .below _ => "below"
def val : Ln → PyData
  | .kind n k => .tuple [.str n, .int k]
  | .up xs => tI xs
  | .deaf xs => tI xs
  | .edge x => encE x
  | .below xs => tS xs
/-- line_in's answer, kind_in's -/
def encP1 (l : Ln) : PyData := .tuple [.str (sortS l), val l]
def encP : Option Ln → PyData
  | some (.kind _ _) => .tuple [.none, .none]
  | some l => encP1 l
  | none => .tuple [.none, .none]
def encK : Option Ln → PyData
  | some (.kind n k) => .tuple [.str n, .int k]
  | _ => .none
/-- _law_line's -/
def encL1 (l : Ln) : PyData := .tuple [.int (ord l : Nat), val l]
def encL : Option Ln → PyData
  | some l => encL1 l
  | none => .none
structure Blk where
  name : Str
  k : Int
  lines : List Ln
def dlt (x y : Edge) : Bool := dataLt (encE x) (encE y)
def edgeLt : Ln → Ln → Bool
  | .edge x, .edge y => dlt x y
  | _, _ => false
def goesOn (ls : List Ln) (l : Ln) : Bool := match ls.getLast? with
  | none => true
  | some a => decide (ord a < ord l) || edgeLt a l
def stepB (bs : List Blk) (l : Ln) : Option (List Blk) := match l with
  | .kind n k => (match bs.getLast? with
    | none => some [⟨n, k, []⟩]
    | some b => if dataLt (.str b.name) (.str n) = true then some (bs ++ [⟨n, k, []⟩]) else none)
  | l => (match bs.getLast? with
    | none => none
    | some b => if goesOn b.lines l = true then some (bs.dropLast ++ [{ b with lines := b.lines ++ [l] }]) else none)
/-- the rows from the n-th on: all blocks, or the number of the first that can't stand -/
def readB : Nat → List Blk → List (List Str) → List Blk ⊕ Nat
  | _, bs, [] => .inl bs
  | n, bs, r :: rs => match lineOf r with
    | none => .inr n
    | some l => match stepB bs l with
      | none => .inr n
      | some bs' => readB (n + 1) bs' rs
def ups : List Ln → List Int
  | [] => []
  | .up xs :: _ => xs
  | _ :: r => ups r
def deafs : List Ln → List Int
  | [] => []
  | .deaf xs :: _ => xs
  | _ :: r => deafs r
def edges : List Ln → List Edge
  | [] => []
  | .edge x :: r => x :: edges r
  | _ :: r => edges r
def belows : List Ln → List Str
  | [] => []
  | .below xs :: _ => xs
  | _ :: r => belows r
/-- a kind of a house -/
structure Kd where
  name : Str
  k : Int
  up : List Int
  deaf : List Int
  edges : List Edge
  below : List Str
def kdOf (b : Blk) : Kd := ⟨b.name, b.k, ups b.lines, deafs b.lines, edges b.lines, belows b.lines⟩
def encKd1 (x : Kd) : PyData := .tuple [.tuple [.int x.k, tI x.up, tI x.deaf, .tuple (x.edges.map encE)], tS x.below]
def encKd (x : Kd) : PyData := .tuple [.str x.name, encKd1 x]
def encH (h : List Kd) : PyData := .tuple (h.map encKd)
/-! need_house -/
def inR (lo hi : Int) (v : Int) : Bool := decide (lo ≤ v) && decide (v ≤ hi)
def isStands (xs : List Int) (first stands : Int) : Bool := (xs.all (inR first (stands - 1))) && ascD (xs.map .int)
def isEdge (x : Edge) (stands : Int) : Bool := isAsks x.asks && (decide (x.deed ∈ deedsS) && (inR 0 (stands - 1) x.b && inR 0 (stands - 1) x.e))
/-- the place of the first edge that is none, or isn't above the one ahead -/
def edgeOk (stands : Int) (es : List Edge) (i : Nat) (x : Edge) : Bool := isEdge x stands && (decide (i = 0) || (match es[i - 1]? with
  | some y => dlt y x
  | none => true))
def badEdge (stands : Int) (es : List Edge) : Option Nat := DL.firstBad (edgeOk stands es) 0 es
def isBelow (xs : List Str) (names : List Str) : Bool := (xs.all fun x => decide (x ∈ names)) && ascD (xs.map .str)
/-- what need_kind refuses: the place -/
def badKind (i : Nat) (x : Kd) (names : List Str) : Option PyData :=
  if inR 1 6 x.k = true then (if isStands x.up 1 x.k = true then (if isStands x.deaf 0 x.k = true then (if x.edges.length ≤ 24 then (match badEdge x.k x.edges with
    | some j => some (.tuple [.int (i : Nat), .str "edges", .int (j : Nat)])
    | none => if isBelow x.below names = true then none else some (.tuple [.int (i : Nat), .str "below"]))
    else some (.tuple [.int (i : Nat), .str "edges"])) else some (.tuple [.int (i : Nat), .str "deaf"])) else some (.tuple [.int (i : Nat), .str "up"])) else some (.tuple [.int (i : Nat), .str "stands"])
def badKinds (h : List Kd) : Option PyData := match DL.firstBad (fun i x => (badKind i x (h.map (·.name))).isNone) 0 h with
  | none => none
  | some j => (h[j]?).bind fun x => badKind j x (h.map (·.name))
/-- the place of the first item that is no pair, or isn't above the one ahead -/
def pairOk (h : List Kd) (i : Nat) (x : Kd) : Bool := isWord x.name && (decide (i = 0) || (match h[i - 1]? with
  | some y => dataLt (.str y.name) (.str x.name)
  | none => true))
def badPair (h : List Kd) : Option Nat := DL.firstBad (pairOk h) 0 h
def needH (h : List Kd) : Option PyData :=
  if 1 ≤ h.length ∧ h.length ≤ 3 then (match badPair h with
    | some i => some (.tuple [.int (i : Nat)])
    | none => badKinds h)
  else some (.tuple [])
/-! the whole -/
def rowsOf (x : Str) : List (List Str) := (Txt.split x "\n").map fun r => Txt.split r " "
/-- what a reader tells of a text -/
def told (x : Str) : PyData := match readB 1 [] (rowsOf x) with
  | .inr n => .tuple [.str "text", .int (n : Nat)]
  | .inl bs => match needH (bs.map kdOf) with
    | some d => .tuple [.str "house", d]
    | none => .list [encH (bs.map kdOf)]
end Wk
end M0_text
section G1_text
set_option maxRecDepth 100000
set_option maxHeartbeats 2000000
namespace Wk
open PySem PySem.Spec PyProof.Rows L2 DL
open PySem.W (alike dataLt)
theorem hu64 {k : Nat} {A : Around} (hr : Room k A) : A.units + 64 < cLine := hr.units
section
variable {P : Program} {w : World} {K : PySem.W.Frag} {mg : Str → Option Value} {base : Heap}
def R_whole : List PyData → Out → Prop := fun ds o => ∃ v lo hi : Int, ds = [.int v, .int lo, .int hi] ∧ o = .rt (.bool (inR lo hi v))
abbrev N31 : List Str := ["value", "least", "most"]
theorem sc31 : FnScope N31 ["value", "least", "most"] (defScope (top 31)) := ⟨rfl, rfl, rfl, by decide +kernel, rfl, by decide +kernel, by decide +kernel⟩
theorem ok_is_whole (T : Txt P K mg) : DefOk P w K mg base 2 "is_whole" (spD K 3 R_whole) := by
  refine def_of T (i := 31) (N := N31) (ps := ["value", "least", "most"]) (by decide +kernel) sc31 (fun _ _ _ _ _ _ us hl => match us, hl with | [_, _, _], _ => rfl) ?_
  intro f cdv A outer s H E hr ds o hR hl
  obtain ⟨v, lo, hi, rfl, rfl⟩ := hR
  refine .inl (PSD.to (psd_ret (pv_and (pv_is "int" "int" true T (pv_var (i := 0) rfl)) fun _ => pv_and (pv_not (pv_is "int" "bool" false T (pv_var (i := 0) rfl))) fun _ => pv_one (pv_chain op_le op_le dr_IB (fun _ => dr_IB) (pv_var (i := 1) rfl) (pv_var (i := 0) rfl) (pv_var (i := 2) rfl)))) rfl)
def R_word : List PyData → Out → Prop := fun ds o => ∃ x : Str, ds = [.str x] ∧ x.length ≤ big ∧ o = .rt (.bool (isWord x))
theorem sig_in (c : Nat) (x : Str) : decide (c ∈ x.cps.toList) = decide (c ∈ chars x) := rfl
abbrev N32 : List Str := ["value", "letter"]
theorem sc32 : FnScope N32 ["value"] (defScope (top 32)) := ⟨rfl, rfl, rfl, by decide +kernel, rfl, by decide +kernel, by decide +kernel⟩
theorem ok_is_word (T : Txt P K mg) : DefOk P w K mg base 2 "is_word" (spD K 1 R_word) := by
  refine def_of T (i := 32) (N := N32) (ps := ["value"]) (by decide +kernel) sc32 (fun _ _ _ _ _ _ us hl => match us, hl with | [_], _ => rfl) ?_
  intro f cdv A outer s H E hr ds o hR hl
  obtain ⟨x, rfl, hx, rfl⟩ := hR
  refine .inl (psd_if (pb_w (pbw_or (pb_not (pb_val (pv_is "str" "str" true T (pv_var (i := 0) rfl)))) fun _ => pbw_or1 (pb_not (pb_chain op_le op_le dr_IB (fun _ => dr_IB) pv_int (pv_callB call_ln (drc_lenS (Nat.le_trans hx big_le)) (T_fr T) (pvs_cons (pv_var (i := 0) rfl) pvs_nil)) (pv_gint (i := 8) T))))) (fun h => PSD.to (psd_ret pv_bl) ?_) fun h => PSD.to (psd_ret (pv_allc (xs := chars x) (enc := fun c => .str ⟨#[c]⟩) (own := [("letter", 1)]) (g := fun c => decide (c ∈ chars lettersS)) (T_fr T) (iv_str (pv_var (i := 0) rfl)) sc32.nd (blkOk_by (N := N32) (sc := defScope (top 32)) (by decide +kernel)) (Nat.le_trans hx big_le) (by decide) (fun c _ _ _ _ _ _ => pgd_name (i := 1) sc32.nd) fun c _ _ _ _ _ _ => pv_cmp op_sgn dr_sign (pv_var (i := 1) rfl) (pv_gstr (z := lettersS) T))) ?_)
  · have h1 : ¬ (1 ≤ x.length ∧ x.length ≤ 8) := by
      simp only [Bool.not_true, Bool.false_or, Bool.not_eq_true', Bool.and_eq_false_iff, decide_eq_false_iff_not] at h
      omega
    have e : isWord x = false := by
      unfold isWord
      rw [Bool.and_eq_false_iff, Bool.and_eq_false_iff, decide_eq_false_iff_not, decide_eq_false_iff_not]
      exact .inl (by omega)
    rw [e]
  · have h1 : 1 ≤ x.length ∧ x.length ≤ 8 := by
      simp only [Bool.not_true, Bool.false_or, Bool.not_eq_false', Bool.and_eq_true, decide_eq_true_eq] at h
      omega
    unfold isWord
    rw [decide_eq_true h1.1, decide_eq_true h1.2] <;> rfl
def R_tupof : List PyData → Out → Prop := fun ds o => ∃ (xs : List PyData) (n : Int), ds = [.tuple xs, .int n] ∧ o = .rt (.bool (PyData.eqv (.int (xs.length : Int)) (.int n)))
abbrev N33 : List Str := ["value", "many"]
theorem sc33 : FnScope N33 ["value", "many"] (defScope (top 33)) := ⟨rfl, rfl, rfl, by decide +kernel, rfl, by decide +kernel, by decide +kernel⟩
theorem ok_is_tuple_of (T : Txt P K mg) : DefOk P w K mg base 2 "is_tuple_of" (spD K 2 R_tupof) := by
  refine def_of T (i := 33) (N := N33) (ps := ["value", "many"]) (by decide +kernel) sc33 (fun _ _ _ _ _ _ us hl => match us, hl with | [_, _], _ => rfl) ?_
  intro f cdv A outer s H E hr ds o hR hl
  obtain ⟨xs, n, rfl, rfl⟩ := hR
  exact .inl (PSD.to (psd_ret (pv_and (pv_is "tuple" "tuple" true T (pv_var (i := 0) rfl)) fun _ => pv_one (pv_cmp (op_eqP (hu64 hr)) (dr_eq (by simp [PyData.depth])) (pv_callB call_ln drc_lenT (T_fr T) (pvs_cons (pv_var (i := 0) rfl) pvs_nil)) (pv_var (i := 1) rfl)))) rfl)
/-- texts all, or whole numbers all -/
def Uni (xs : List PyData) : Prop := (∃ l : List Int, xs = l.map .int) ∨ ∃ l : List Str, xs = l.map .str
theorem Uni.at {xs : List PyData} (u : Uni xs) {x y : PyData} (hx : x ∈ xs) (hy : y ∈ xs) : alike x y = true ∧ x ≠ .none ∧ min x.depth y.depth ≤ 63 := by
  rcases u with ⟨l, rfl⟩ | ⟨l, rfl⟩
  · obtain ⟨a, _, rfl⟩ := List.mem_map.mp hx
    obtain ⟨b, _, rfl⟩ := List.mem_map.mp hy
    exact ⟨by simp [alike], (fun e => nomatch e), by simp [PyData.depth]⟩
  · obtain ⟨a, _, rfl⟩ := List.mem_map.mp hx
    obtain ⟨b, _, rfl⟩ := List.mem_map.mp hy
    exact ⟨by simp [alike], (fun e => nomatch e), by simp [PyData.depth]⟩
def R_asc : List PyData → Out → Prop := fun ds o => ∃ (xs : List PyData), (ds = [.tuple xs] ∨ ds = [.list xs]) ∧ xs.length ≤ big ∧ Uni xs ∧ o = .rt (.bool (ascD xs))
theorem zipD_eq (xs ys : List PyData) : zipD xs ys = (xs.zip ys).map fun q => pairD q.1 q.2 := by
  unfold zipD
  refine List.ext_getElem? fun i => ?_
  rw [List.getElem?_map, List.getElem?_map]
  by_cases h : i < min xs.length ys.length
  · have h1 : i < xs.length := by omega
    have h2 : i < ys.length := by omega
    have e : (xs.zip ys)[i]? = some (xs[i], ys[i]) := List.getElem?_zip_eq_some.mpr ⟨by simp [h1], by simp [h2]⟩
    rw [List.getElem?_range h, e]
    simp [List.getD, h1, h2]
  · rw [List.getElem?_eq_none (by simp; omega), List.getElem?_eq_none (by simp; omega)] <;> rfl
theorem asc_zip : ∀ xs : List PyData, ((xs.zip xs.tail).all fun q => dataLt q.1 q.2) = ascD xs
  | [] => rfl
  | [x] => rfl
  | x :: y :: r => by
    have ih := asc_zip (y :: r)
    show (dataLt x y && (((y :: r).zip r).all fun q => dataLt q.1 q.2)) = (dataLt x y && ascD (y :: r))
    rw [← ih] <;> rfl
theorem mem_tail {α : Type} {x : α} {l : List α} (h : x ∈ l.tail) : x ∈ l := List.mem_of_mem_tail h
abbrev N34 : List Str := ["value", "one", "other"]
theorem sc34 : FnScope N34 ["value"] (defScope (top 34)) := ⟨rfl, rfl, rfl, by decide +kernel, rfl, by decide +kernel, by decide +kernel⟩
theorem ok_is_ascending (T : Txt P K mg) : DefOk P w K mg base 2 "is_ascending" (spD K 1 R_asc) := by
  refine def_of T (i := 34) (N := N34) (ps := ["value"]) (by decide +kernel) sc34 (fun _ _ _ _ _ _ us hl => match us, hl with | [_], _ => rfl) ?_
  intro f cdv A outer s H E hr ds o hR hl
  obtain ⟨xs, hd, hx, u, rfl⟩ := hR
  rcases hd with rfl | rfl
  · exact .inl (PSD.to (psd_ret (pv_allc (xs := xs.zip xs.tail) (enc := fun q => pairD q.1 q.2) (own := [("one", 1), ("other", 2)]) (g := fun q => dataLt q.1 q.2) (T_fr T) (by rw [← zipD_eq, ← List.drop_one]; exact iv_zipT (pv_var (i := 0) rfl) (pv_fromT (k := 1) (pv_var (i := 0) rfl)) (T_fr T)) sc34.nd (blkOk_by (N := N34) (sc := defScope (top 34)) (by decide +kernel)) (by rw [List.length_zip]; exact Nat.le_trans (Nat.min_le_left _ _) (Nat.le_trans hx big_le)) (by decide) (fun q _ _ _ _ _ _ => pgd_tup (pgds_cons (pgd_name (i := 1) sc34.nd) (pgds_cons (pgd_name (i := 2) sc34.nd) pgds_nil))) fun q hq _ _ _ _ _ => by
      obtain ⟨h1, h2⟩ := List.of_mem_zip (a := q.1) (b := q.2) hq
      obtain ⟨a1, a2, a3⟩ := u.at h1 (mem_tail h2)
      exact pv_cmp (op_ltD (hu64 hr)) (dr_lt a1 a2 a3) (pv_var (i := 1) rfl) (pv_var (i := 2) rfl)))  (by rw [asc_zip]))
  · exact .inl (PSD.to (psd_ret (pv_allc (xs := xs.zip xs.tail) (enc := fun q => pairD q.1 q.2) (own := [("one", 1), ("other", 2)]) (g := fun q => dataLt q.1 q.2) (T_fr T) (by rw [← zipD_eq, ← List.drop_one]; exact iv_zipL (pv_var (i := 0) rfl) (pv_fromL (k := 1) (pv_var (i := 0) rfl)) (T_fr T)) sc34.nd (blkOk_by (N := N34) (sc := defScope (top 34)) (by decide +kernel)) (by rw [List.length_zip]; exact Nat.le_trans (Nat.min_le_left _ _) (Nat.le_trans hx big_le)) (by decide) (fun q _ _ _ _ _ _ => pgd_tup (pgds_cons (pgd_name (i := 1) sc34.nd) (pgds_cons (pgd_name (i := 2) sc34.nd) pgds_nil))) fun q hq _ _ _ _ _ => by
      obtain ⟨h1, h2⟩ := List.of_mem_zip (a := q.1) (b := q.2) hq
      obtain ⟨a1, a2, a3⟩ := u.at h1 (mem_tail h2)
      exact pv_cmp (op_ltD (hu64 hr)) (dr_lt a1 a2 a3) (pv_var (i := 1) rfl) (pv_var (i := 2) rfl)))  (by rw [asc_zip]))
end
end Wk
end G1_text
section G2_text
set_option maxRecDepth 100000
set_option maxHeartbeats 2000000
namespace Wk
open PySem PySem.Spec PyProof.Rows L2 DL
open PySem.W (alike dataLt)
section
variable {P : Program} {w : World} {K : PySem.W.Frag} {mg : Str → Option Value} {base : Heap}
theorem uniI (l : List Int) : Uni (l.map .int) := .inl ⟨l, rfl⟩
theorem uniS (l : List Str) : Uni (l.map .str) := .inr ⟨l, rfl⟩
def R_stands : List PyData → Out → Prop := fun ds o => ∃ (xs : List Int) (a b : Int), ds = [tI xs, .int a, .int b] ∧ xs.length ≤ big ∧ o = .rt (.bool (isStands xs a b))
abbrev N35 : List Str := ["value", "first", "stands", "stand"]
theorem sc35 : FnScope N35 ["value", "first", "stands"] (defScope (top 35)) := ⟨rfl, rfl, rfl, by decide +kernel, rfl, by decide +kernel, by decide +kernel⟩
theorem ok_is_stands (T : Txt P K mg) : DefOk P w K mg base 4 "is_stands" (spD K 3 R_stands) := by
  refine def_of T (i := 35) (N := N35) (ps := ["value", "first", "stands"]) (by decide +kernel) sc35 (fun _ _ _ _ _ _ us hl => match us, hl with | [_, _, _], _ => rfl) ?_
  intro f cdv A outer s H E hr ds o hR hl
  obtain ⟨xs, a, b, rfl, hx, rfl⟩ := hR
  refine .inl (psd_if (pb_w (pbw_or (pb_not (pb_val (pv_is "tuple" "tuple" true T (pv_var (i := 0) rfl)))) fun _ => pbw_or1 (pb_not (pb_val (pv_allc (xs := xs) (enc := .int) (own := [("stand", 3)]) (g := inR a (b - 1)) (T_fr T) (iv_tup (pv_var (i := 0) rfl)) sc35.nd (blkOk_by (N := N35) (sc := defScope (top 35)) (by decide +kernel)) (Nat.le_trans hx big_le) (by decide) (fun c _ _ _ _ _ _ => (pgd_name (i := 3) sc35.nd)) fun c _ _ _ _ _ _ => (pv_call (ok_is_whole T) (hr.mono (by decide)) (pvs_cons (pv_var (i := 3) rfl) (pvs_cons (pv_var (i := 1) rfl) (pvs_cons (pv_bin op_sub dr_II (pv_var (i := 2) rfl) pv_int) pvs_nil))) ⟨_, _, _, rfl, rfl⟩)))))) (fun h => PSD.to (psd_ret pv_bl) ?_) fun h => PSD.to (psd_ret (pv_call (ok_is_ascending T) (hr.mono (by decide)) (pvs_cons (pv_var (i := 0) rfl) pvs_nil) ⟨xs.map .int, .inl rfl, by simpa using hx, uniI xs, rfl⟩)) ?_)
  · have h' : xs.all (inR a (b - 1)) = false := by simpa using h
    rw [isStands, h'] <;> rfl
  · have h' : xs.all (inR a (b - 1)) = true := by simpa using h
    rw [isStands, h'] <;> rfl
theorem any_str (l : List Str) (x : Str) : ((l.map PyData.str).any fun z => PyData.eqv z (.str x)) = decide (x ∈ l) := by
  induction l with
  | nil => simp
  | cons y r ih =>
    rw [List.map_cons, List.any_cons, ih]
    by_cases h : y = x
    · subst h
      simp [PyData.eqv]
    · have h1 : (y == x) = false := by simpa using h
      have h2 : ¬ x = y := fun e => h e.symm
      simp [PyData.eqv, h1, h2]
def R_asks : List PyData → Out → Prop := fun ds o => ∃ (xs : List Str), ds = [tS xs] ∧ xs.length ≤ big ∧ o = .rt (.bool (isAsks xs))
abbrev N36 : List Str := ["value", "ask"]
theorem sc36 : FnScope N36 ["value"] (defScope (top 36)) := ⟨rfl, rfl, rfl, by decide +kernel, rfl, by decide +kernel, by decide +kernel⟩
theorem ok_is_asks (T : Txt P K mg) : DefOk P w K mg base 4 "is_asks" (spD K 1 R_asks) := by
  refine def_of T (i := 36) (N := N36) (ps := ["value"]) (by decide +kernel) sc36 (fun _ _ _ _ _ _ us hl => match us, hl with | [_], _ => rfl) ?_
  intro f cdv A outer s H E hr ds o hR hl
  obtain ⟨xs, rfl, hx, rfl⟩ := hR
  have hx2 : xs.length ≤ sizeLine := Nat.le_trans hx big_le
  refine .inl (psd_if (pb_w (pbw_or (pb_not (pb_val (pv_is "tuple" "tuple" true T (pv_var (i := 0) rfl)))) fun _ => pbw_or1 (pb_not (pb_val (pv_allc (xs := xs) (enc := .str) (own := [("ask", 1)]) (g := fun x => decide (x ∈ asksS)) (T_fr T) (iv_tup (pv_var (i := 0) rfl)) sc36.nd (blkOk_by (N := N36) (sc := defScope (top 36)) (by decide +kernel)) hx2 (by decide) (fun c _ _ _ _ _ _ => (pgd_name (i := 1) sc36.nd)) fun c _ _ _ _ _ _ => PV.to (pv_and (pv_is "str" "str" true T (pv_var (i := 1) rfl)) fun _ => pv_one (pv_cmp (op_inP (hu64 hr)) (dr_inT (by simp [PyData.depth])) (pv_var (i := 1) rfl) (pv_gtup (xs := asksS) T))) (by rw [any_str] <;> rfl)))))) (fun h => PSD.to (psd_ret pv_bl) ?_) fun h => PSD.to (psd_ret (pv_and (pv_call (ok_is_ascending T) (hr.mono (by decide)) (pvs_cons (pv_var (i := 0) rfl) pvs_nil) ⟨xs.map .str, .inl rfl, by simpa using hx, uniS xs, rfl⟩) fun _ => pv_one (pv_cmp op_lt dr_IB (pv_callB call_ln drc_lenL (T_fr T) (pvs_cons (pv_lc (xs := xs) (enc := .str) (own := [("ask", 1)]) (p := fun x => decide (x ∈ holdS)) (f := .str) (iv_tup (pv_var (i := 0) rfl)) sc36.nd (blkOk_by (N := N36) (sc := defScope (top 36)) (by decide +kernel)) hx2 (by decide) (fun c _ _ _ _ _ _ => (pgd_name (i := 1) sc36.nd)) (fun c _ _ _ _ _ _ => PB.to (pb_cmp (op_inP (hu64 hr)) (dr_inT (by simp [PyData.depth])) (pv_var (i := 1) rfl) (pv_tup (pvs_cons (pv_gstr (z := "calm") T) (pvs_cons (pv_gstr (z := "held") T) (pvs_cons (pv_gstr (z := "unheld") T) pvs_nil))))) (any_str holdS c)) fun c _ _ _ _ _ _ _ => (pv_var (i := 1) rfl)) pvs_nil)) pv_int))) ?_)
  · have h' : (xs.all fun x => decide (x ∈ asksS)) = false := by simpa using h
    rw [isAsks, h'] <;> rfl
  · have h' : (xs.all fun x => decide (x ∈ asksS)) = true := by simpa using h
    rw [isAsks, h', List.length_map]
    have e : ∀ n : Nat, decide ((n : Int) < 2) = decide (n < 2) := fun n => by
      by_cases q : n < 2
      · rw [decide_eq_true q, decide_eq_true (by omega)]
      · rw [decide_eq_false q, decide_eq_false (by omega)]
    rw [e, Bool.true_and]
end
end Wk
end G2_text
section G3_text
set_option maxRecDepth 100000
set_option maxHeartbeats 2000000
namespace Wk
open PySem PySem.Spec PyProof.Rows L2 DL
open PySem.W (alike dataLt)
section
variable {P : Program} {w : World} {K : PySem.W.Frag} {mg : Str → Option Value} {base : Heap}
def R_edge : List PyData → Out → Prop := fun ds o => ∃ (x : Edge) (st : Int), ds = [encE x, .int st] ∧ x.asks.length ≤ big ∧ o = .rt (.bool (isEdge x st))
theorem eqv_len (n : Nat) (k : Nat) : PyData.eqv (.int (n : Int)) (.int (k : Int)) = decide (n = k) := by
  rw [PyData.eqv]
  by_cases h : n = k
  · subst h
    simp
  · have : ¬ (n : Int) = (k : Int) := by omega
    simp [h, this]
abbrev N37 : List Str := ["value", "stands"]
theorem sc37 : FnScope N37 ["value", "stands"] (defScope (top 37)) := ⟨rfl, rfl, rfl, by decide +kernel, rfl, by decide +kernel, by decide +kernel⟩
theorem ok_is_edge (T : Txt P K mg) : DefOk P w K mg base 6 "is_edge" (spD K 2 R_edge) := by
  refine def_of T (i := 37) (N := N37) (ps := ["value", "stands"]) (by decide +kernel) sc37 (fun _ _ _ _ _ _ us hl => match us, hl with | [_, _], _ => rfl) ?_
  intro f cdv A outer s H E hr ds o hR hl
  obtain ⟨x, st, rfl, hx, rfl⟩ := hR
  refine .inl (psd_if (k := !true || (!isAsks x.asks || !true)) (pb_w (pbw_or (pb_not (pb_val (pv_call (ok_is_tuple_of T) (hr.mono (by decide)) (pvs_cons (pv_var (i := 0) rfl) (pvs_cons pv_int pvs_nil)) ⟨_, _, rfl, rfl⟩))) fun _ => pbw_or (pb_not (pb_val (pv_call (ok_is_asks T) (hr.mono (by decide)) (pvs_cons (pv_ixT (i := 1) (pv_var (i := 0) rfl) pv_int rfl) pvs_nil) ⟨x.asks, rfl, hx, rfl⟩))) fun _ => pbw_or1 (pb_not (pb_val (pv_is "str" "str" true T (pv_ixT (i := 2) (pv_var (i := 0) rfl) pv_int rfl)))))) (fun h => PSD.to (psd_ret pv_bl) ?_) fun h => PSD.to (psd_ret (pv_and (PV.to (pv_cmp (op_inP (hu64 hr)) (dr_inT (by simp [PyData.depth])) (pv_ixT (i := 2) (pv_var (i := 0) rfl) pv_int rfl) (pv_gtup (xs := deedsS) T)) (congrArg PyData.bool (any_str deedsS x.deed))) fun _ => pv_and (pv_call (ok_is_whole T) (hr.mono (by decide)) (pvs_cons (pv_ixT (i := 0) (pv_var (i := 0) rfl) pv_int rfl) (pvs_cons pv_int (pvs_cons (pv_bin op_sub dr_II (pv_var (i := 1) rfl) pv_int) pvs_nil))) ⟨_, _, _, rfl, rfl⟩) fun _ => pv_one (pv_call (ok_is_whole T) (hr.mono (by decide)) (pvs_cons (pv_ixT (i := 3) (pv_var (i := 0) rfl) pv_int rfl) (pvs_cons pv_int (pvs_cons (pv_bin op_sub dr_II (pv_var (i := 1) rfl) pv_int) pvs_nil))) ⟨_, _, _, rfl, rfl⟩))) ?_)
  · have h' : isAsks x.asks = false := by simpa using h
    rw [isEdge, h'] <;> rfl
  · have h' : isAsks x.asks = true := by simpa using h
    rw [isEdge, h'] <;> rfl
/-- BadHouse, by d -/
abbrev bh (mg : Str → Option Value) (d : PyData) : Out := .ex (ca mg "BadHouse") "place" d
def R_nedges (mg : Str → Option Value) : List PyData → Out → Prop := fun ds o => ∃ (i st : Int) (es : List Edge), ds = [.int i, .int st, .tuple (es.map encE)] ∧ es.length ≤ big ∧ (∀ x ∈ es, x.asks.length ≤ big) ∧
  o = if es.length ≤ 24 then (match badEdge st es with
    | none => .rt .none
    | some j => bh mg (.tuple [.int i, .str "edges", .int (j : Nat)])) else bh mg (.tuple [.int i, .str "edges"])
theorem alikeS : ∀ xs ys : List Str, PySem.W.alikeAll (xs.map .str) (ys.map .str) = true
  | [], _ => by simp [PySem.W.alikeAll]
  | _ :: _, [] => by simp [PySem.W.alikeAll]
  | x :: xs, y :: ys => by
    rw [List.map_cons, List.map_cons, PySem.W.alikeAll, alikeS xs ys]
    simp [alike]
theorem alikeE (x y : Edge) : alike (encE x) (encE y) = true := by
  simp [encE, alike, PySem.W.alikeAll, alikeS]
theorem depthS : ∀ xs : List Str, PyData.depthAll (xs.map .str) = 0
  | [] => by simp [PyData.depthAll]
  | x :: xs => by
    rw [List.map_cons, PyData.depthAll, depthS xs]
    simp [PyData.depth]
theorem depthI : ∀ xs : List Int, PyData.depthAll (xs.map .int) = 0
  | [] => by simp [PyData.depthAll]
  | x :: xs => by
    rw [List.map_cons, PyData.depthAll, depthI xs]
    simp [PyData.depth]
theorem depthE (x : Edge) : (encE x).depth = 2 := by
  simp [encE, PyData.depth, PyData.depthAll, depthS]
abbrev N38 : List Str := ["number", "stands", "edges", "place", "edge"]
theorem sc38 : FnScope N38 ["number", "stands", "edges"] (defScope (top 38)) := ⟨rfl, rfl, rfl, by decide +kernel, rfl, by decide +kernel, by decide +kernel⟩
theorem ok_need_edges (T : Txt P K mg) : DefOk P w K mg base 8 "need_edges" (spD K 3 (R_nedges mg)) := by
  refine def_of T (i := 38) (N := N38) (ps := ["number", "stands", "edges"]) (by decide +kernel) sc38 (fun _ _ _ _ _ _ us hl => match us, hl with | [_, _, _], _ => rfl) ?_
  intro f cdv A outer s H E hr ds o hR hl
  obtain ⟨i, st, es, rfl, hz, ha, rfl⟩ := hR
  by_cases hb : es.length ≤ 24
  · rw [if_pos hb]
    have hh : PSD (CC P w K mg base N38 "need_edges" (defScope (top 38)) f cdv A outer s H E) E (defBody (top 38)) (startD N38 [.int i, .int st, .tuple (es.map encE)]) (match firstBad (edgeOk st es) 0 es with
        | none => .nx (startD N38 [.int i, .int st, .tuple (es.map encE)])
        | some j => .out (bh mg (.tuple [.int i, .str "edges", .int (j : Nat)]))) := by
      refine psd_ifF (PB.to (pb_w (pbw_or (pb_not (pb_val (pv_is "tuple" "tuple" true T (pv_var (i := 2) rfl)))) fun _ => pbw_or1 (pb_cmp op_gt dr_IB (pv_callB call_ln drc_lenT (T_fr T) (pvs_cons (pv_var (i := 2) rfl) pvs_nil)) (pv_gint (i := 24) T)))) ?_) psd_nil ?_
      · rw [List.length_map]
        have : ¬ (24 : Int) < (es.length : Nat) := by omega
        simp [this]
      refine psd_forB (xs := es) (edgeOk st es) (fun j => bh mg (.tuple [.int i, .str "edges", .int (j : Nat)])) (iv_enumT (pv_var (i := 2) rfl) (T_fr T)) (fun j x => [some (.int i), some (.int st), some (.tuple (es.map encE)), some (.int (j : Nat)), some (encE x)]) (T := [3, 4]) (by simp [enumD]) (fun j x hx => ?_) (fun j x hx => ?_) (fun _ => psd_nil) cxOwn rfl
      · have hx' : (es.map encE)[j]? = some (encE x) := by rw [List.getElem?_map, hx] <;> rfl
        exact ⟨_, enum_get hx', pgd_tup (pgds_cons (pgd_name (i := 3) sc38.nd) (pgds_cons (pgd_name (i := 4) sc38.nd) pgds_nil))⟩
      · have hm : x ∈ es := List.mem_of_getElem? hx
        by_cases h0 : j = 0
        · subst h0
          refine psd_ifE (PB.to (pb_w (pbw_or (pb_not (pb_val (pv_call (ok_is_edge T) (hr.mono (by decide)) (pvs_cons (pv_var (i := 4) rfl) (pvs_cons (pv_var (i := 1) rfl) pvs_nil)) ⟨x, st, rfl, ha x hm, rfl⟩))) fun _ => pbw_or1 (pb_w (pbw_and (k1 := false) (k2 := false) (PB.to (pb_cmp op_gt dr_IB (pv_var (i := 3) rfl) pv_int) (by simp)) fun q => nomatch q)))) (by simp [edgeOk])) (fun _ => (psd_raise cxTk T.xh.2.choose_spec PySem.OwnX.clsF_place T.xh.1 T.tp (hr.mono (by decide : 1 ≤ _)) (pv_tup (pvs_cons (pv_var (i := 0) rfl) (pvs_cons pv_str (pvs_cons (pv_var (i := 3) rfl) pvs_nil)))))) ⟨.inr rfl, .inr rfl, .inr rfl, .inl rfl, .inl rfl, trivial⟩
        · have hl := (List.getElem?_eq_some_iff.mp hx).1
          have hy : es[j - 1]? = some es[j - 1] := by simp
          have hy' : (es.map encE)[j - 1]? = some (encE es[j - 1]) := by rw [List.getElem?_map, hy] <;> rfl
          refine psd_ifE (PB.to (pb_w (pbw_or (pb_not (pb_val (pv_call (ok_is_edge T) (hr.mono (by decide)) (pvs_cons (pv_var (i := 4) rfl) (pvs_cons (pv_var (i := 1) rfl) pvs_nil)) ⟨x, st, rfl, ha x hm, rfl⟩))) fun _ => pbw_or1 (pb_w (pbw_and (pb_cmp op_gt dr_IB (pv_var (i := 3) rfl) pv_int) fun _ => pbw_and1 (pb_not (pb_cmp (op_ltD (hu64 hr)) (dr_lt (alikeE _ _) (fun z => nomatch z) (by rw [depthE, depthE]; decide)) (pv_ixT (pv_var (i := 2) rfl) (pv_bin op_sub dr_II (pv_var (i := 3) rfl) pv_int) (atI_pred h0 hy')) (pv_var (i := 4) rfl))))))) (by
            have h1 : (0 : Int) < (j : Int) := by omega
            have h2 : 0 < j := by omega
            simp [edgeOk, h0, hy, h1, h2, dlt])) (fun _ => (psd_raise cxTk T.xh.2.choose_spec PySem.OwnX.clsF_place T.xh.1 T.tp (hr.mono (by decide : 1 ≤ _)) (pv_tup (pvs_cons (pv_var (i := 0) rfl) (pvs_cons pv_str (pvs_cons (pv_var (i := 3) rfl) pvs_nil)))))) ⟨.inr rfl, .inr rfl, .inr rfl, .inl rfl, .inl rfl, trivial⟩
    cases hf : firstBad (edgeOk st es) 0 es with
    | none =>
      rw [hf] at hh
      rw [badEdge, hf]
      exact .inr ⟨_, hh, rfl⟩
    | some j =>
      rw [hf] at hh
      rw [badEdge, hf]
      exact .inl hh
  · rw [if_neg hb]
    exact .inl (psd_ifT (PB.to (pb_w (pbw_or (pb_not (pb_val (pv_is "tuple" "tuple" true T (pv_var (i := 2) rfl)))) fun _ => pbw_or1 (pb_cmp op_gt dr_IB (pv_callB call_ln drc_lenT (T_fr T) (pvs_cons (pv_var (i := 2) rfl) pvs_nil)) (pv_gint (i := 24) T)))) (by
      rw [List.length_map]
      have : (24 : Int) < (es.length : Nat) := by omega
      simp [this])) (psd_raise cxTk T.xh.2.choose_spec PySem.OwnX.clsF_place T.xh.1 T.tp (hr.mono (by decide : 1 ≤ _)) (pv_tup (pvs_cons (pv_var (i := 0) rfl) (pvs_cons pv_str pvs_nil)))))
end
end Wk
end G3_text
section G4_text
set_option maxRecDepth 100000
set_option maxHeartbeats 2000000
namespace Wk
open PySem PySem.Spec PyProof.Rows L2 DL
open PySem.W (alike dataLt)
section
variable {P : Program} {w : World} {K : PySem.W.Frag} {mg : Str → Option Value} {base : Heap}
def R_below : List PyData → Out → Prop := fun ds o => ∃ (xs ns : List Str), ds = [tS xs, .list (ns.map .str)] ∧ xs.length ≤ big ∧ o = .rt (.bool (isBelow xs ns))
abbrev N39 : List Str := ["value", "names", "name"]
theorem sc39 : FnScope N39 ["value", "names"] (defScope (top 39)) := ⟨rfl, rfl, rfl, by decide +kernel, rfl, by decide +kernel, by decide +kernel⟩
theorem ok_is_below (T : Txt P K mg) : DefOk P w K mg base 4 "is_below" (spD K 2 R_below) := by
  refine def_of T (i := 39) (N := N39) (ps := ["value", "names"]) (by decide +kernel) sc39 (fun _ _ _ _ _ _ us hl => match us, hl with | [_, _], _ => rfl) ?_
  intro f cdv A outer s H E hr ds o hR hl
  obtain ⟨xs, ns, rfl, hx, rfl⟩ := hR
  have hx2 : xs.length ≤ sizeLine := Nat.le_trans hx big_le
  refine .inl (psd_if (pb_w (pbw_or (pb_not (pb_val (pv_is "tuple" "tuple" true T (pv_var (i := 0) rfl)))) fun _ => pbw_or1 (pb_not (pb_val (pv_allc (xs := xs) (enc := .str) (own := [("name", 2)]) (g := fun x => decide (x ∈ ns)) (T_fr T) (iv_tup (pv_var (i := 0) rfl)) sc39.nd (blkOk_by (N := N39) (sc := defScope (top 39)) (by decide +kernel)) hx2 (by decide) (fun c _ _ _ _ _ _ => (pgd_name (i := 2) sc39.nd)) fun c _ _ _ _ _ _ => PV.to (pv_and (pv_is "str" "str" true T (pv_var (i := 2) rfl)) fun _ => pv_one (pv_cmp (op_inP (hu64 hr)) (dr_inL (by simp [PyData.depth])) (pv_var (i := 2) rfl) (pv_var (i := 1) rfl))) (by rw [any_str] <;> rfl)))))) (fun h => PSD.to (psd_ret pv_bl) ?_) fun h => PSD.to (psd_ret (pv_call (ok_is_ascending T) (hr.mono (by decide)) (pvs_cons (pv_var (i := 0) rfl) pvs_nil) ⟨xs.map .str, .inl rfl, by simpa using hx, uniS xs, rfl⟩)) ?_)
  · have h' : (xs.all fun x => decide (x ∈ ns)) = false := by simpa using h
    rw [isBelow, h'] <;> rfl
  · have h' : (xs.all fun x => decide (x ∈ ns)) = true := by simpa using h
    rw [isBelow, h'] <;> rfl
/-- a kind small enough to be looked at -/
structure KdFit (x : Kd) : Prop where
  nm : x.name.length ≤ big
  up : x.up.length ≤ big
  deaf : x.deaf.length ≤ big
  ed : x.edges.length ≤ big
  ea : ∀ e ∈ x.edges, e.asks.length ≤ big
  be : x.below.length ≤ big
def outB (mg : Str → Option Value) (ρ : Rho) : Option PyData → SOut
  | none => .nx ρ
  | some d => .out (bh mg d)
def outO (mg : Str → Option Value) : Option PyData → Out
  | none => .rt .none
  | some d => bh mg d
theorem endB {X : Cx} {E : XK} {sts : List Stmt} {ρ ρ' : Rho} {mg : Str → Option Value} {q : Option PyData} (h : PSD X E sts ρ (outB mg ρ' q)) : Ends' X E sts ρ (outO mg q) := by
  cases q with
  | none => exact .inr ⟨_, h, rfl⟩
  | some d => exact .inl h
def R_kind (mg : Str → Option Value) : List PyData → Out → Prop := fun ds o => ∃ (i : Nat) (x : Kd) (ns : List Str), ds = [.int (i : Nat), encKd1 x, .list (ns.map .str)] ∧ KdFit x ∧ o = outO mg (badKind i x ns)
abbrev N40 : List Str := ["number", "kind", "names", "stands", "up", "deaf", "edges", "below"]
theorem sc40 : FnScope N40 ["number", "kind", "names"] (defScope (top 40)) := ⟨rfl, rfl, rfl, by decide +kernel, rfl, by decide +kernel, by decide +kernel⟩
theorem ok_need_kind (T : Txt P K mg) : DefOk P w K mg base 10 "need_kind" (spD K 3 (R_kind mg)) := by
  refine def_of T (i := 40) (N := N40) (ps := ["number", "kind", "names"]) (by decide +kernel) sc40 (fun _ _ _ _ _ _ us hl => match us, hl with | [_, _, _], _ => rfl) ?_
  intro f cdv A outer s H E hr ds o hR hl
  obtain ⟨i, x, ns, rfl, hx, rfl⟩ := hR
  refine endB (ρ' := [some (.int (i : Nat)), some (encKd1 x), some (.list (ns.map .str)), some (.int x.k), some (tI x.up), some (tI x.deaf), some (.tuple (x.edges.map encE)), some (tS x.below)]) ?_
  refine psd_asg (pv_var (i := 1) rfl) (pgd_tup (pgds_cons (pgd_tup (pgds_cons (pgd_name (i := 3) sc40.nd) (pgds_cons (pgd_name (i := 4) sc40.nd) (pgds_cons (pgd_name (i := 5) sc40.nd) (pgds_cons (pgd_name (i := 6) sc40.nd) pgds_nil))))) (pgds_cons (pgd_name (i := 7) sc40.nd) pgds_nil))) ?_
  unfold badKind
  by_cases h1 : inR 1 6 x.k = true
  case neg =>
    rw [if_neg h1]
    have q : inR 1 6 x.k = false := by simpa using h1
    exact psd_ifT (PB.to (pb_not (pb_val (pv_call (ok_is_whole T) (hr.mono (by decide)) (pvs_cons (pv_var (i := 3) rfl) (pvs_cons pv_int (pvs_cons (pv_gint (i := 6) T) pvs_nil))) ⟨_, _, _, rfl, rfl⟩))) (by rw [q] <;> rfl)) (psd_raise cxTk T.xh.2.choose_spec PySem.OwnX.clsF_place T.xh.1 T.tp (hr.mono (by decide : 1 ≤ _)) (pv_tup (pvs_cons (pv_var (i := 0) rfl) (pvs_cons pv_str pvs_nil))))
  rw [if_pos h1]
  refine psd_ifF (PB.to (pb_not (pb_val (pv_call (ok_is_whole T) (hr.mono (by decide)) (pvs_cons (pv_var (i := 3) rfl) (pvs_cons pv_int (pvs_cons (pv_gint (i := 6) T) pvs_nil))) ⟨_, _, _, rfl, rfl⟩))) (by rw [h1] <;> rfl)) psd_nil ?_
  by_cases h2 : isStands x.up 1 x.k = true
  case neg =>
    rw [if_neg h2]
    have q : isStands x.up 1 x.k = false := by simpa using h2
    exact psd_ifT (PB.to (pb_not (pb_val (pv_call (ok_is_stands T) (hr.mono (by decide)) (pvs_cons (pv_var (i := 4) rfl) (pvs_cons pv_int (pvs_cons (pv_var (i := 3) rfl) pvs_nil))) ⟨x.up, _, _, rfl, hx.up, rfl⟩))) (by rw [q] <;> rfl)) (psd_raise cxTk T.xh.2.choose_spec PySem.OwnX.clsF_place T.xh.1 T.tp (hr.mono (by decide : 1 ≤ _)) (pv_tup (pvs_cons (pv_var (i := 0) rfl) (pvs_cons pv_str pvs_nil))))
  rw [if_pos h2]
  refine psd_ifF (PB.to (pb_not (pb_val (pv_call (ok_is_stands T) (hr.mono (by decide)) (pvs_cons (pv_var (i := 4) rfl) (pvs_cons pv_int (pvs_cons (pv_var (i := 3) rfl) pvs_nil))) ⟨x.up, _, _, rfl, hx.up, rfl⟩))) (by rw [h2] <;> rfl)) psd_nil ?_
  by_cases h3 : isStands x.deaf 0 x.k = true
  case neg =>
    rw [if_neg h3]
    have q : isStands x.deaf 0 x.k = false := by simpa using h3
    exact psd_ifT (PB.to (pb_not (pb_val (pv_call (ok_is_stands T) (hr.mono (by decide)) (pvs_cons (pv_var (i := 5) rfl) (pvs_cons pv_int (pvs_cons (pv_var (i := 3) rfl) pvs_nil))) ⟨x.deaf, _, _, rfl, hx.deaf, rfl⟩))) (by rw [q] <;> rfl)) (psd_raise cxTk T.xh.2.choose_spec PySem.OwnX.clsF_place T.xh.1 T.tp (hr.mono (by decide : 1 ≤ _)) (pv_tup (pvs_cons (pv_var (i := 0) rfl) (pvs_cons pv_str pvs_nil))))
  rw [if_pos h3]
  refine psd_ifF (PB.to (pb_not (pb_val (pv_call (ok_is_stands T) (hr.mono (by decide)) (pvs_cons (pv_var (i := 5) rfl) (pvs_cons pv_int (pvs_cons (pv_var (i := 3) rfl) pvs_nil))) ⟨x.deaf, _, _, rfl, hx.deaf, rfl⟩))) (by rw [h3] <;> rfl)) psd_nil ?_
  by_cases h4 : x.edges.length ≤ 24
  case neg =>
    rw [if_neg h4]
    exact psd_exprX (po_call (ok_need_edges T) (hr.mono (by decide)) cxPass (pvs_cons (pv_var (i := 0) rfl) (pvs_cons (pv_var (i := 3) rfl) (pvs_cons (pv_var (i := 6) rfl) pvs_nil))) ⟨(i : Nat), x.k, x.edges, rfl, hx.ed, hx.ea, by rw [if_neg h4] <;> rfl⟩)
  rw [if_pos h4]
  cases h5 : badEdge x.k x.edges with
  | some j => exact psd_exprX (po_call (ok_need_edges T) (hr.mono (by decide)) cxPass (pvs_cons (pv_var (i := 0) rfl) (pvs_cons (pv_var (i := 3) rfl) (pvs_cons (pv_var (i := 6) rfl) pvs_nil))) ⟨(i : Nat), x.k, x.edges, rfl, hx.ed, hx.ea, by rw [if_pos h4, h5] <;> rfl⟩)
  | none =>
    refine psd_expr (d := .none) (pv_call (ok_need_edges T) (hr.mono (by decide)) (pvs_cons (pv_var (i := 0) rfl) (pvs_cons (pv_var (i := 3) rfl) (pvs_cons (pv_var (i := 6) rfl) pvs_nil))) ⟨(i : Nat), x.k, x.edges, rfl, hx.ed, hx.ea, by rw [if_pos h4, h5]⟩) ?_
    by_cases h6 : isBelow x.below ns = true
    · show PSD _ _ _ _ (outB mg _ (if isBelow x.below ns = true then none else _))
      rw [if_pos h6]
      exact psd_ifF (PB.to (pb_not (pb_val (pv_call (ok_is_below T) (hr.mono (by decide)) (pvs_cons (pv_var (i := 7) rfl) (pvs_cons (pv_var (i := 2) rfl) pvs_nil)) ⟨x.below, ns, rfl, hx.be, rfl⟩))) (by rw [h6] <;> rfl)) psd_nil psd_nil
    · show PSD _ _ _ _ (outB mg _ (if isBelow x.below ns = true then none else _))
      rw [if_neg h6]
      have q : isBelow x.below ns = false := by simpa using h6
      exact psd_ifT (PB.to (pb_not (pb_val (pv_call (ok_is_below T) (hr.mono (by decide)) (pvs_cons (pv_var (i := 7) rfl) (pvs_cons (pv_var (i := 2) rfl) pvs_nil)) ⟨x.below, ns, rfl, hx.be, rfl⟩))) (by rw [q] <;> rfl)) (psd_raise cxTk T.xh.2.choose_spec PySem.OwnX.clsF_place T.xh.1 T.tp (hr.mono (by decide : 1 ≤ _)) (pv_tup (pvs_cons (pv_var (i := 0) rfl) (pvs_cons pv_str pvs_nil))))
def R_pair : List PyData → Out → Prop := fun ds o => ∃ x : Kd, ds = [encKd x] ∧ x.name.length ≤ big ∧ o = .rt (.bool (isWord x.name))
abbrev N41 : List Str := ["item"]
theorem sc41 : FnScope N41 ["item"] (defScope (top 41)) := ⟨rfl, rfl, rfl, by decide +kernel, rfl, by decide +kernel, by decide +kernel⟩
theorem ok_is_pair (T : Txt P K mg) : DefOk P w K mg base 4 "is_pair" (spD K 1 R_pair) := by
  refine def_of T (i := 41) (N := N41) (ps := ["item"]) (by decide +kernel) sc41 (fun _ _ _ _ _ _ us hl => match us, hl with | [_], _ => rfl) ?_
  intro f cdv A outer s H E hr ds o hR hl
  obtain ⟨x, rfl, hx, rfl⟩ := hR
  refine .inl (psd_if (k := !true || (!isWord x.name || !true)) (pb_w (pbw_or (pb_not (pb_val (pv_call (ok_is_tuple_of T) (hr.mono (by decide)) (pvs_cons (pv_var (i := 0) rfl) (pvs_cons pv_int pvs_nil)) ⟨_, _, rfl, rfl⟩))) fun _ => pbw_or (pb_not (pb_val (pv_call (ok_is_word T) (hr.mono (by decide)) (pvs_cons (pv_ixT (i := 0) (pv_var (i := 0) rfl) pv_int rfl) pvs_nil) ⟨x.name, rfl, hx, rfl⟩))) fun _ => pbw_or1 (pb_not (pb_val (pv_call (ok_is_tuple_of T) (hr.mono (by decide)) (pvs_cons (pv_ixT (i := 1) (pv_var (i := 0) rfl) pv_int rfl) (pvs_cons pv_int pvs_nil)) ⟨_, _, rfl, rfl⟩))))) (fun h => PSD.to (psd_ret pv_bl) ?_) fun h => PSD.to (psd_ret (pv_call (ok_is_tuple_of T) (hr.mono (by decide)) (pvs_cons (pv_ixT (i := 0) (pv_ixT (i := 1) (pv_var (i := 0) rfl) pv_int rfl) pv_int rfl) (pvs_cons pv_int pvs_nil)) ⟨_, _, rfl, rfl⟩)) ?_)
  · have h' : isWord x.name = false := by simpa using h
    rw [h']
  · have h' : isWord x.name = true := by simpa using h
    rw [h'] <;> rfl
end
end Wk
end G4_text
section G5_text
set_option maxRecDepth 100000
set_option maxHeartbeats 2000000
namespace Wk
open PySem PySem.Spec PyProof.Rows L2 DL
open PySem.W (alike dataLt)
section
variable {P : Program} {w : World} {K : PySem.W.Frag} {mg : Str → Option Value} {base : Heap}
def outR (mg : Str → Option Value) (d : PyData) : Option PyData → Out
  | none => .rt d
  | some e => bh mg e
def R_house (mg : Str → Option Value) : List PyData → Out → Prop := fun ds o => ∃ h : List Kd, ds = [encH h] ∧ h.length ≤ big ∧ (∀ x ∈ h, KdFit x) ∧ o = outR mg (encH h) (needH h)
abbrev N42 : List Str := ["house", "number", "item", "names", "name", "kind"]
theorem sc42 : FnScope N42 ["house"] (defScope (top 42)) := ⟨rfl, rfl, rfl, by decide +kernel, rfl, by decide +kernel, by decide +kernel⟩
theorem ok_need_house (T : Txt P K mg) : DefOk P w K mg base 12 "need_house" (spD K 1 (R_house mg)) := by
  refine def_of T (i := 42) (N := N42) (ps := ["house"]) (by decide +kernel) sc42 (fun _ _ _ _ _ _ us hl => match us, hl with | [_], _ => rfl) ?_
  intro f cdv A outer s H E hr ds o hR hl
  obtain ⟨h, rfl, hz, hf, rfl⟩ := hR
  refine .inl ?_
  unfold needH
  have hn : ((List.map encKd h).length : Int) = (h.length : Nat) := by rw [List.length_map]
  by_cases h1 : 1 ≤ h.length ∧ h.length ≤ 3
  case neg =>
    rw [if_neg h1]
    exact psd_ifT (PB.to (pb_w (pbw_or (pb_not (pb_val (pv_is "tuple" "tuple" true T (pv_var (i := 0) rfl)))) fun _ => pbw_or1 (pb_not (pb_chain op_le op_le dr_IB (fun _ => dr_IB) pv_int (pv_callB call_ln drc_lenT (T_fr T) (pvs_cons (pv_var (i := 0) rfl) pvs_nil)) (pv_gint (i := 3) T))))) (by
      rw [hn]
      simp only [Bool.not_true, Bool.false_or, Bool.not_eq_true', Bool.and_eq_false_iff, decide_eq_false_iff_not]
      omega)) (psd_raise cxTk T.xh.2.choose_spec PySem.OwnX.clsF_place T.xh.1 T.tp (hr.mono (by decide : 1 ≤ _)) (pv_tup pvs_nil))
  rw [if_pos h1]
  refine psd_ifF (PB.to (pb_w (pbw_or (pb_not (pb_val (pv_is "tuple" "tuple" true T (pv_var (i := 0) rfl)))) fun _ => pbw_or1 (pb_not (pb_chain op_le op_le dr_IB (fun _ => dr_IB) pv_int (pv_callB call_ln drc_lenT (T_fr T) (pvs_cons (pv_var (i := 0) rfl) pvs_nil)) (pv_gint (i := 3) T))))) (by
      rw [hn]
      simp only [Bool.not_true, Bool.false_or, Bool.not_eq_false', Bool.and_eq_true, decide_eq_true_eq]
      omega)) psd_nil ?_
  refine psd_forB (xs := h) (pairOk h) (fun j => bh mg (.tuple [.int (j : Nat)])) (iv_enumT (ds := h.map encKd) (pv_var (i := 0) rfl) (T_fr T)) (fun j x => [some (encH h), some (.int (j : Nat)), some (encKd x), none, none, none]) (T := [1, 2]) (by simp [enumD]) (fun j x hx => ?_) (fun j x hx => ?_) (oN := .out (outR mg (encH h) (badKinds h))) (fun hb => ?_) cxOwn ?_
  · have hx' : (h.map encKd)[j]? = some (encKd x) := by rw [List.getElem?_map, hx] <;> rfl
    exact ⟨_, enum_get hx', pgd_tup (pgds_cons (pgd_name (i := 1) sc42.nd) (pgds_cons (pgd_name (i := 2) sc42.nd) pgds_nil))⟩
  · have hm : x ∈ h := List.mem_of_getElem? hx
    by_cases h0 : j = 0
    · subst h0
      refine psd_ifE (PB.to (pb_w (pbw_or (pb_not (pb_val (pv_call (ok_is_pair T) (hr.mono (by decide)) (pvs_cons (pv_var (i := 2) rfl) pvs_nil) ⟨x, rfl, (hf x hm).nm, rfl⟩))) fun _ => pbw_or1 (pb_w (pbw_and (k1 := false) (k2 := false) (PB.to (pb_cmp op_gt dr_IB (pv_var (i := 1) rfl) pv_int) (by simp)) fun q => nomatch q)))) (by simp [pairOk])) (fun _ => (psd_raise cxTk T.xh.2.choose_spec PySem.OwnX.clsF_place T.xh.1 T.tp (hr.mono (by decide : 1 ≤ _)) (pv_tup (pvs_cons (pv_var (i := 1) rfl) pvs_nil)))) ⟨.inr rfl, .inl rfl, .inl rfl, .inl rfl, .inl rfl, .inl rfl, trivial⟩
    · have hl := (List.getElem?_eq_some_iff.mp hx).1
      have hy : h[j - 1]? = some h[j - 1] := by simp
      have hy' : (h.map encKd)[j - 1]? = some (encKd h[j - 1]) := by rw [List.getElem?_map, hy] <;> rfl
      refine psd_ifE (PB.to (pb_w (pbw_or (pb_not (pb_val (pv_call (ok_is_pair T) (hr.mono (by decide)) (pvs_cons (pv_var (i := 2) rfl) pvs_nil) ⟨x, rfl, (hf x hm).nm, rfl⟩))) fun _ => pbw_or1 (pb_w (pbw_and (pb_cmp op_gt dr_IB (pv_var (i := 1) rfl) pv_int) fun _ => pbw_and1 (pb_not (pb_cmp (op_ltD (hu64 hr)) (dr_lt (d1 := .str h[j - 1].name) (d2 := .str x.name) (by simp [alike]) (fun z => nomatch z) (by simp [PyData.depth])) (pv_ixT (i := 0) (pv_ixT (ds := h.map encKd) (d := encKd h[j - 1]) (pv_var (i := 0) rfl) (pv_bin op_sub dr_II (pv_var (i := 1) rfl) pv_int) (atI_pred h0 hy')) pv_int rfl) (pv_ixT (i := 0) (pv_var (i := 2) rfl) pv_int rfl))))))) (by
        have h2 : (0 : Int) < (j : Int) := by omega
        have h3 : 0 < j := by omega
        simp [pairOk, h0, hy, h2, h3])) (fun _ => (psd_raise cxTk T.xh.2.choose_spec PySem.OwnX.clsF_place T.xh.1 T.tp (hr.mono (by decide : 1 ≤ _)) (pv_tup (pvs_cons (pv_var (i := 1) rfl) pvs_nil)))) ⟨.inr rfl, .inl rfl, .inl rfl, .inl rfl, .inl rfl, .inl rfl, trivial⟩
  · refine psd_setLc (i := 3) (xs := h) (enc := encKd) (own := [("name", 4), ("kind", 5)]) (T := [4, 5]) (p := fun _ => true) (f := fun x => .str x.name) (iv_tup (ds := h.map encKd) (pv_var (i := 0) rfl)) sc42.nd (blkOk_by (N := N42) (sc := defScope (top 42)) (by decide +kernel)) (Nat.le_trans hz big_le) (by decide) (fun x _ _ _ _ _ _ => pgd_tup (pgds_cons (pgd_name (i := 4) sc42.nd) (pgds_cons (pgd_name (i := 5) sc42.nd) pgds_nil))) (fun _ _ _ _ _ _ _ => rfl) (fun x _ _ _ _ _ _ _ => (pv_var (i := 4) rfl)) ?_
    have hnm : (h.filter fun _ => true).map (fun x => PyData.str x.name) = (h.map (·.name)).map .str := by
      rw [List.filter_eq_self.mpr (fun _ _ => rfl), List.map_map] <;> rfl
    rw [hnm]
    refine psd_forB (xs := h) (fun i x => (badKind i x (h.map (·.name))).isNone) (fun j => bh mg (((h[j]?).bind fun x => badKind j x (h.map (·.name))).getD .none)) (iv_enumT (ds := h.map encKd) (pv_var (i := 0) rfl) (T_fr T)) (fun j x => [some (encH h), some (.int (j : Nat)), none, some (.list ((h.map (·.name)).map .str)), some (.str x.name), some (encKd1 x)]) (T := [1, 4, 5]) (by simp [enumD]) (fun j x hx => ?_) (fun j x hx => ?_) (oN := .out (.rt (encH h))) (fun hb => psd_ret (pv_var (i := 0) rfl)) cxOwn ?_
    · have hx' : (h.map encKd)[j]? = some (encKd x) := by rw [List.getElem?_map, hx] <;> rfl
      exact ⟨_, enum_get hx', pgd_tup (pgds_cons (pgd_name (i := 1) sc42.nd) (pgds_cons (pgd_tup (pgds_cons (pgd_name (i := 4) sc42.nd) (pgds_cons (pgd_name (i := 5) sc42.nd) pgds_nil))) pgds_nil))⟩
    · have hm : x ∈ h := List.mem_of_getElem? hx
      cases hk : badKind j x (h.map (·.name)) with
      | none => exact psd_expr (d := .none) (pv_call (ok_need_kind T) (hr.mono (by decide)) (pvs_cons (pv_var (i := 1) rfl) (pvs_cons (pv_var (i := 5) rfl) (pvs_cons (pv_var (i := 3) rfl) pvs_nil))) ⟨j, x, _, rfl, hf x hm, by rw [hk] <;> rfl⟩) (psd_forget psd_nil ⟨.inr rfl, .inl rfl, .inl rfl, .inr rfl, .inl rfl, .inl rfl, trivial⟩)
      | some d =>
        refine psd_exprX (po_call (ok_need_kind T) (hr.mono (by decide)) cxPass (pvs_cons (pv_var (i := 1) rfl) (pvs_cons (pv_var (i := 5) rfl) (pvs_cons (pv_var (i := 3) rfl) pvs_nil))) ⟨j, x, _, rfl, hf x hm, ?_⟩)
        rw [hk, hx, Option.bind_some, hk] <;> rfl
    · unfold badKinds
      cases hb2 : firstBad (fun i x => (badKind i x (h.map (·.name))).isNone) 0 h with
      | none => rfl
      | some j =>
        obtain ⟨n, x, e1, e2, e3, _⟩ := firstBad_some hb2
        rw [Nat.zero_add] at e1
        subst e1
        show SOut.out (outR mg (encH h) ((h[j]?).bind fun x => badKind j x (h.map (·.name)))) = SOut.out (bh mg (((h[j]?).bind fun x => badKind j x (h.map (·.name))).getD .none))
        rw [e2, Option.bind_some]
        cases e4 : badKind j x (h.map (·.name)) with
        | none =>
          rw [e4] at e3
          cases e3
        | some d => rfl
  · unfold badPair
    cases hb2 : firstBad (pairOk h) 0 h with
    | none => rfl
    | some j => rfl
end
end Wk
end G5_text
section G6_text
set_option maxRecDepth 100000
set_option maxHeartbeats 2000000
namespace Wk
open PySem PySem.Spec PyProof.Rows L2 DL
open PySem.W (alike dataLt)
section
variable {P : Program} {w : World} {K : PySem.W.Frag} {mg : Str → Option Value} {base : Heap}
def numOk (x : Str) : Bool := (decide (1 ≤ x.length) && decide (x.length ≤ 2)) && ((chars x).all fun c => decide (c ∈ chars figuresS))
theorem figs1 : ∀ c ∈ chars figuresS, (intText? ⟨#[c]⟩).isSome = true := by decide +kernel
theorem figs2 : ∀ c ∈ chars figuresS, ∀ d ∈ chars figuresS, (intText? ⟨#[c, d]⟩).isSome = true := by decide +kernel
theorem str_len (x : Str) : x.length = (chars x).length := rfl
theorem str_of (x : Str) : x = ⟨(chars x).toArray⟩ := by
  cases x
  rfl
theorem _root_.L2.atI_zero {α : Type} {c : α} {r : List α} : L2.atI (c :: r) 0 = some c := by
  unfold L2.atI L2.ixN
  rw [if_pos (by omega), if_pos (by simp only [List.length_cons]; omega)]
  rfl
theorem numShape {x : Str} (h : numOk x = true) : x.length ≤ 2 ∧ ∃ c, (chars x).head? = some c ∧ L2.atI x.cps.toList 0 = some c ∧ ∃ n, intText? x = some n := by
  unfold numOk at h
  simp only [Bool.and_eq_true, decide_eq_true_eq, List.all_eq_true] at h
  obtain ⟨⟨h1, h2⟩, h3⟩ := h
  refine ⟨h2, ?_⟩
  have e := str_of x
  rw [str_len] at h1 h2
  cases hc : chars x with
  | nil => rw [hc] at h1; simp at h1
  | cons c r =>
    have hcc : c ∈ chars figuresS := h3 c (by rw [hc]; simp)
    have hat : L2.atI x.cps.toList 0 = some c := by
      show L2.atI (chars x) 0 = some c
      rw [hc]
      exact L2.atI_zero
    refine ⟨c, rfl, hat, ?_⟩
    cases r with
    | nil =>
      rw [hc] at e
      rw [e]
      exact Option.isSome_iff_exists.mp (figs1 c hcc)
    | cons d r2 =>
      have hd : d ∈ chars figuresS := h3 d (by rw [hc]; simp)
      cases r2 with
      | nil =>
        rw [hc] at e
        rw [e]
        exact Option.isSome_iff_exists.mp (figs2 c hcc d hd)
      | cons a b =>
        rw [hc] at h2
        simp at h2
theorem numIn_no {x : Str} (h : numOk x = false) : numIn x = none := by
  unfold numIn
  rw [if_neg (by
    have h' := h
    unfold numOk at h'
    rw [h']
    exact Bool.false_ne_true)]
theorem numIn_ok {x : Str} (h : numOk x = true) {c : Nat} {n : Int} (hc : (chars x).head? = some c) (hn : intText? x = some n) : numIn x = if (decide (x.length = 2) && decide (c = 48)) = true then none else some n := by
  unfold numIn
  rw [if_pos (by
    have h' := h
    unfold numOk at h'
    exact h'), hc, hn]
  congr 2
  simp
def R_num : List PyData → Out → Prop := fun ds o => ∃ x : Str, ds = [.str x] ∧ x.length ≤ big ∧ o = .rt (encO (numIn x))
theorem eqv_sign (c d : Nat) : PyData.eqv (.str ⟨#[c]⟩) (.str ⟨#[d]⟩) = decide (c = d) := by
  rw [PyData.eqv]
  by_cases h : c = d
  · subst h
    simp
  · have : ¬ (⟨#[c]⟩ : Str) = ⟨#[d]⟩ := fun e => h (by simpa using e)
    simp [h, this]
theorem eqv_lenS (x : Str) (k : Nat) : PyData.eqv (.int (x.length : Nat)) (.int (k : Nat)) = decide (x.length = k) := eqv_len _ _
theorem eqv_nilL (xs : List PyData) : PyData.eqv (.list xs) (.list []) = xs.isEmpty := by
  cases xs <;> simp [PyData.eqv, PyData.eqvAll]
theorem eqv_nilT (xs : List PyData) : PyData.eqv (.tuple xs) (.tuple []) = xs.isEmpty := by
  cases xs <;> simp [PyData.eqv, PyData.eqvAll]
theorem min_nilL (xs : List PyData) : min (PyData.list xs).depth (PyData.list []).depth ≤ 63 := by
  have : (PyData.list []).depth = 1 := by simp [PyData.depth, PyData.depthAll]
  omega
theorem min_nilT (xs : List PyData) : min (PyData.tuple xs).depth (PyData.tuple []).depth ≤ 63 := by
  have : (PyData.tuple []).depth = 1 := by simp [PyData.depth, PyData.depthAll]
  omega
abbrev N55 : List Str := ["word", "sign"]
theorem sc55 : FnScope N55 ["word"] (defScope (top 55)) := ⟨rfl, rfl, rfl, by decide +kernel, rfl, by decide +kernel, by decide +kernel⟩
theorem ok_number_in (T : Txt P K mg) : DefOk P w K mg base 2 "number_in" (spD K 1 R_num) := by
  refine def_of T (i := 55) (N := N55) (ps := ["word"]) (by decide +kernel) sc55 (fun _ _ _ _ _ _ us hl => match us, hl with | [_], _ => rfl) ?_
  intro f cdv A outer s H E hr ds o hR hl
  obtain ⟨x, rfl, hx, rfl⟩ := hR
  refine .inl (psd_if (pb_w (pbw_or (pb_not (pb_chain op_le op_le dr_IB (fun _ => dr_IB) pv_int (pv_callB call_ln (drc_lenS (Nat.le_trans hx big_le)) (T_fr T) (pvs_cons (pv_var (i := 0) rfl) pvs_nil)) pv_int)) fun _ => pbw_or1 (pb_not (pb_val (pv_allc (xs := chars x) (enc := fun c => .str ⟨#[c]⟩) (own := [("sign", 1)]) (g := fun c => decide (c ∈ chars figuresS)) (T_fr T) (iv_str (pv_var (i := 0) rfl)) sc55.nd (blkOk_by (N := N55) (sc := defScope (top 55)) (by decide +kernel)) (Nat.le_trans hx big_le) (by decide) (fun c _ _ _ _ _ _ => (pgd_name (i := 1) sc55.nd)) fun c _ _ _ _ _ _ => pv_cmp op_sgn dr_sign (pv_var (i := 1) rfl) (pv_gstr (z := figuresS) T)))))) (fun h => PSD.to (psd_ret pv_non) ?_) fun h => ?_)
  · have h' : numOk x = false := by
      unfold numOk
      have e1 : (decide ((1 : Int) ≤ (x.length : Nat)) && decide (((x.length : Nat) : Int) ≤ 2)) = (decide (1 ≤ x.length) && decide (x.length ≤ 2)) := by
        congr 1 <;> exact decide_eq_decide.mpr (by omega)
      rw [e1] at h
      cases q : (decide (1 ≤ x.length) && decide (x.length ≤ 2)) with
      | false => rfl
      | true =>
        rw [q] at h
        simpa using h
    rw [numIn_no h'] <;> rfl
  · have h' : numOk x = true := by
      unfold numOk
      have e1 : (decide ((1 : Int) ≤ (x.length : Nat)) && decide (((x.length : Nat) : Int) ≤ 2)) = (decide (1 ≤ x.length) && decide (x.length ≤ 2)) := by
        congr 1 <;> exact decide_eq_decide.mpr (by omega)
      rw [e1] at h
      cases q : (decide (1 ≤ x.length) && decide (x.length ≤ 2)) with
      | false =>
        rw [q] at h
        cases h
      | true =>
        rw [q] at h
        simpa using h
    obtain ⟨hl2, c, hc, hat, n, hn⟩ := numShape h'
    exact PSD.to (psd_ret (pv_if (pb_w (pbw_and (PB.to (pb_cmp (op_eqP (hu64 hr)) (dr_eq (by simp [PyData.depth])) (pv_callB call_ln (drc_lenS (Nat.le_trans hx big_le)) (T_fr T) (pvs_cons (pv_var (i := 0) rfl) pvs_nil)) pv_int) (eqv_lenS x 2)) fun _ => pbw_and1 (PB.to (pb_cmp (op_eqP (hu64 hr)) (dr_eq (by simp [PyData.depth])) (pv_ixS (i := 0) (pv_var (i := 0) rfl) pv_int (Nat.le_trans hx big_le) hat) pv_str) (eqv_sign c 48)))) (fun _ => pv_non) fun _ => pv_callTy call_intS (drc_intS hn (by omega)) (T_fr T) (pvs_cons (pv_var (i := 0) rfl) pvs_nil))) (by
      rw [numIn_ok h' hc hn]
      cases (decide (x.length = 2) && decide (c = 48)) <;> rfl)
theorem filter_none {α : Type} (l : List α) (p : α → Bool) (f : α → PyData) : (((l.filter fun c => !p c).map f).isEmpty) = l.all p := by
  induction l with
  | nil => rfl
  | cons a r ih =>
    cases h : p a
    · simp [h]
    · simp only [List.filter_cons, h, Bool.not_true, Bool.false_eq_true, if_false, List.all_cons, Bool.true_and]
      exact ih
abbrev N78 : List Str := ["_law_word", "_law_sign"]
theorem sc78 : FnScope N78 ["_law_word"] (defScope (top 78)) := ⟨rfl, rfl, rfl, by decide +kernel, rfl, by decide +kernel, by decide +kernel⟩
theorem ok_law_number (T : Txt P K mg) : DefOk P w K mg base 2 "_law_number" (spD K 1 R_num) := by
  refine def_of T (i := 78) (N := N78) (ps := ["_law_word"]) (by decide +kernel) sc78 (fun _ _ _ _ _ _ us hl => match us, hl with | [_], _ => rfl) ?_
  intro f cdv A outer s H E hr ds o hR hl
  obtain ⟨x, rfl, hx, rfl⟩ := hR
  refine .inl (psd_if (k := !numOk x) (PB.to (pb_w (pbw_or (pb_cmp (op_ninP (hu64 hr)) (dr_ninT (by simp [PyData.depth])) (pv_callB call_ln (drc_lenS (Nat.le_trans hx big_le)) (T_fr T) (pvs_cons (pv_var (i := 0) rfl) pvs_nil)) (pv_tup (pvs_cons pv_int (pvs_cons pv_int pvs_nil)))) fun _ => pbw_or1 (pb_cmp (op_neP (hu64 hr)) (dr_ne (min_nilL _)) (pv_lc (xs := chars x) (enc := fun c => .str ⟨#[c]⟩) (own := [("_law_sign", 1)]) (p := fun c => !decide (c ∈ chars figuresS)) (f := fun c => .str ⟨#[c]⟩) (iv_str (pv_var (i := 0) rfl)) sc78.nd (blkOk_by (N := N78) (sc := defScope (top 78)) (by decide +kernel)) (Nat.le_trans hx big_le) (by decide) (fun c _ _ _ _ _ _ => (pgd_name (i := 1) sc78.nd)) (fun c _ _ _ _ _ _ => pb_cmp op_nsgn (dr_nsign (z := figuresS)) (pv_var (i := 1) rfl) pv_str) fun c _ _ _ _ _ _ _ => (pv_var (i := 1) rfl)) (pv_lst pvs_nil)))) ?_) (fun h => PSD.to (psd_ret pv_non) ?_) fun h => ?_)
  · rw [eqv_nilL, filter_none]
    unfold numOk
    have e1 : ([PyData.int 1, PyData.int 2].any fun z => PyData.eqv z (.int (x.length : Nat))) = (decide (1 ≤ x.length) && decide (x.length ≤ 2)) := by
      simp only [List.any_cons, List.any_nil, Bool.or_false, PyData.eqv]
      by_cases h1 : x.length = 1
      · simp [h1]
      · by_cases h2 : x.length = 2
        · simp [h2]
        · have a1 : ¬ (1 : Int) = (x.length : Nat) := by omega
          have a2 : ¬ (2 : Int) = (x.length : Nat) := by omega
          have a3 : ¬ (1 ≤ x.length ∧ x.length ≤ 2) := by omega
          have b1 : ((1 : Int) == ((x.length : Nat) : Int)) = false := by simpa using a1
          have b2 : ((2 : Int) == ((x.length : Nat) : Int)) = false := by simpa using a2
          rw [b1, b2]
          symm
          rw [Bool.or_false, Bool.and_eq_false_iff, decide_eq_false_iff_not, decide_eq_false_iff_not]
          omega
    rw [e1, ← Bool.not_and] <;> rfl
  · have h' : numOk x = false := by simpa using h
    rw [numIn_no h'] <;> rfl
  · have h' : numOk x = true := by simpa using h
    obtain ⟨hl2, c, hc, hat, n, hn⟩ := numShape h'
    exact PSD.to (psd_ret (pv_if (pb_w (pbw_and (PB.to (pb_cmp (op_eqP (hu64 hr)) (dr_eq (by simp [PyData.depth])) (pv_callB call_ln (drc_lenS (Nat.le_trans hx big_le)) (T_fr T) (pvs_cons (pv_var (i := 0) rfl) pvs_nil)) pv_int) (eqv_lenS x 2)) fun _ => pbw_and1 (PB.to (pb_cmp (op_eqP (hu64 hr)) (dr_eq (by simp [PyData.depth])) (pv_ixS (i := 0) (pv_var (i := 0) rfl) pv_int (Nat.le_trans hx big_le) hat) pv_str) (eqv_sign c 48)))) (fun _ => pv_non) fun _ => pv_callTy call_intS (drc_intS hn (by omega)) (T_fr T) (pvs_cons (pv_var (i := 0) rfl) pvs_nil))) (by
      rw [numIn_ok h' hc hn]
      cases (decide (x.length = 2) && decide (c = 48)) <;> rfl)
end
end Wk
end G6_text
section G7_text
set_option maxRecDepth 100000
set_option maxHeartbeats 2000000
namespace Wk
open PySem PySem.Spec PyProof.Rows L2 DL
open PySem.W (alike dataLt)
section
variable {P : Program} {w : World} {K : PySem.W.Frag} {mg : Str → Option Value} {base : Heap}
structure Fit (ws : List Str) : Prop where
  len : ws.length ≤ big
  all : ∀ w ∈ ws, w.length ≤ big
theorem notT {b : Bool} (h : (!b) = true) : b = false := by simpa using h
theorem notF {b : Bool} (h : (!b) = false) : b = true := by simpa using h
theorem Fit.tl {w : Str} {r : List Str} (f : Fit (w :: r)) : Fit r := ⟨Nat.le_trans (Nat.le_succ _) f.len, fun x hx => f.all x (List.mem_cons_of_mem _ hx)⟩
theorem eqv_str (x y : Str) : PyData.eqv (.str x) (.str y) = decide (x = y) := by
  rw [PyData.eqv]
  by_cases h : x = y
  · subst h
    simp
  · simp [h]
def encOE : Option Edge → PyData
  | some x => encE x
  | none => .none
def encON : Option (List Int) → PyData
  | some xs => tI xs
  | none => .none
def encOS : Option (List Str) → PyData
  | some xs => tS xs
  | none => .none
def R_edgein : List PyData → Out → Prop := fun ds o => ∃ ws : List Str, ds = [.list (ws.map .str)] ∧ Fit ws ∧ o = .rt (encOE (edgeOf ws))
theorem isNone_encO (o : Option Int) : isNone (encO o) = o.isNone := by cases o <;> rfl
abbrev N56 : List Str := ["words", "begin", "end"]
theorem sc56 : FnScope N56 ["words"] (defScope (top 56)) := ⟨rfl, rfl, rfl, by decide +kernel, rfl, by decide +kernel, by decide +kernel⟩
theorem ok_edge_in (T : Txt P K mg) : DefOk P w K mg base 6 "edge_in" (spD K 1 R_edgein) := by
  refine def_of T (i := 56) (N := N56) (ps := ["words"]) (by decide +kernel) sc56 (fun _ _ _ _ _ _ us hl => match us, hl with | [_], _ => rfl) ?_
  intro f cdv A outer s H E hr ds o hR hl
  obtain ⟨ws, rfl, hf, rfl⟩ := hR
  match ws, hf with
  | [], hf => exact .inl (psd_ifT (pb_w (pbw_or (k1 := true) (k2 := true) (PB.to (pb_cmp op_lt dr_IB (pv_callB call_ln drc_lenL (T_fr T) (pvs_cons (pv_var (i := 0) rfl) pvs_nil)) pv_int) rfl) fun q => nomatch q)) (psd_ret pv_non))
  | [_], hf => exact .inl (psd_ifT (pb_w (pbw_or (k1 := true) (k2 := true) (PB.to (pb_cmp op_lt dr_IB (pv_callB call_ln drc_lenL (T_fr T) (pvs_cons (pv_var (i := 0) rfl) pvs_nil)) pv_int) rfl) fun q => nomatch q)) (psd_ret pv_non))
  | [_, _], hf => exact .inl (psd_ifT (pb_w (pbw_or (k1 := true) (k2 := true) (PB.to (pb_cmp op_lt dr_IB (pv_callB call_ln drc_lenL (T_fr T) (pvs_cons (pv_var (i := 0) rfl) pvs_nil)) pv_int) rfl) fun q => nomatch q)) (psd_ret pv_non))
  | w0 :: w1 :: w2 :: asks, hf =>
    have hl : (((List.map PyData.str (w0 :: w1 :: w2 :: asks)).length : Nat) : Int) = (asks.length : Nat) + 3 := by simp; omega
    refine .inl (psd_if (k := !(decide (w1 ∈ deedsS) && isAsks asks)) (PB.to (pb_w (pbw_or (pb_cmp op_lt dr_IB (pv_callB call_ln drc_lenL (T_fr T) (pvs_cons (pv_var (i := 0) rfl) pvs_nil)) pv_int) fun _ => pbw_or (pb_cmp (op_ninP (hu64 hr)) (dr_ninT (by simp [PyData.depth])) (pv_ixL (i := 1) (pv_var (i := 0) rfl) pv_int (atI_nat (i := 1) rfl)) (pv_gtup (xs := deedsS) T)) fun _ => pbw_or1 (pb_not (pb_val (pv_call (ok_is_asks T) (hr.mono (by decide)) (pvs_cons (pv_callTy call_to drc_tupL (T_fr T) (pvs_cons (pv_fromL (k := 3) (pv_var (i := 0) rfl)) pvs_nil)) pvs_nil) ⟨asks, rfl, Nat.le_trans (by simp only [List.length_cons]; omega) hf.len, rfl⟩))))) ?_) (fun h => PSD.to (psd_ret pv_non) ?_) fun h => ?_)
    · rw [hl, any_str]
      have : ¬ ((asks.length : Nat) : Int) + 3 < 3 := by omega
      simp [this]
    · have h' : (decide (w1 ∈ deedsS) && isAsks asks) = false := notT h
      simp only [edgeOf, h', Bool.false_eq_true, if_false, encOE]
    · have h' : (decide (w1 ∈ deedsS) && isAsks asks) = true := notF h
      have e : encOE (edgeOf (w0 :: w1 :: w2 :: asks)) = if ((numIn w0).isNone || (numIn w2).isNone) = true then .none else .tuple [encO (numIn w0), tS asks, .str w1, encO (numIn w2)] := by
        simp only [edgeOf, h', if_true]
        cases numIn w0 <;> cases numIn w2 <;> rfl
      rw [e]
      refine PSD.to (psd_par (i := 1) (j := 2) (pvs_cons (pv_call (ok_number_in T) (hr.mono (by decide)) (pvs_cons (pv_ixL (i := 0) (pv_var (i := 0) rfl) pv_int (atI_nat (i := 0) rfl)) pvs_nil) ⟨w0, rfl, hf.all _ (by simp), rfl⟩) (pvs_cons (pv_call (ok_number_in T) (hr.mono (by decide)) (pvs_cons (pv_ixL (i := 2) (pv_var (i := 0) rfl) pv_int (atI_nat (i := 2) rfl)) pvs_nil) ⟨w2, rfl, hf.all _ (by simp), rfl⟩) pvs_nil)) sc56.nd (psd_ret (pv_if (PB.to (pb_w (pbw_or (pb_cmp op_isNn dr_isN (pv_var (i := 1) rfl) pv_non) fun _ => pbw_or1 (pb_cmp op_isNn dr_isN (pv_var (i := 2) rfl) pv_non))) (by rw [isNone_encO, isNone_encO])) (fun _ => pv_non) fun _ => pv_tup (pvs_cons (pv_var (i := 1) rfl) (pvs_cons (pv_callTy call_to drc_tupL (T_fr T) (pvs_cons (pv_fromL (k := 3) (pv_var (i := 0) rfl)) pvs_nil)) (pvs_cons (pv_ixL (i := 1) (pv_var (i := 0) rfl) pv_int (atI_nat (i := 1) rfl)) (pvs_cons (pv_var (i := 2) rfl) pvs_nil))))))) rfl
theorem numsL_some : ∀ {ws : List Str} {xs : List Int}, numsL ws = some xs → ws.map (fun w => encO (numIn w)) = xs.map .int
  | [], xs, h => by
    have e : [] = xs := Option.some.inj h
    subst e
    rfl
  | w :: r, xs, h => by
    unfold numsL at h
    cases h1 : numIn w with
    | none => rw [h1] at h; cases h
    | some k =>
      cases h2 : numsL r with
      | none => rw [h1, h2] at h; cases h
      | some ys =>
        rw [h1, h2] at h
        have e : k :: ys = xs := Option.some.inj h
        subst e
        rw [List.map_cons, numsL_some h2, h1] <;> rfl
theorem numsL_len {ws : List Str} {xs : List Int} (h : numsL ws = some xs) : xs.length = ws.length := by
  have := congrArg List.length (numsL_some h)
  simpa using this.symm
theorem numsL_none : ∀ {ws : List Str}, numsL ws = none → ((ws.map fun w => encO (numIn w)).any fun z => PyData.eqv z .none) = true
  | [], h => by cases h
  | w :: r, h => by
    unfold numsL at h
    rw [List.map_cons, List.any_cons]
    cases h1 : numIn w with
    | none => simp [encO, PyData.eqv]
    | some k =>
      cases h2 : numsL r with
      | none => rw [numsL_none h2, Bool.or_true]
      | some ys => rw [h1, h2] at h; cases h
theorem any_noneI (xs : List Int) : ((xs.map PyData.int).any fun z => PyData.eqv z .none) = false := by
  rw [List.any_eq_false]
  intro x hx
  obtain ⟨i, _, rfl⟩ := List.mem_map.mp hx
  simp [PyData.eqv]
def R_nums : List PyData → Out → Prop := fun ds o => ∃ ws : List Str, ds = [.list (ws.map .str)] ∧ Fit ws ∧ o = .rt (encON (numsOf ws))
theorem isEmpty_map {α β : Type} (l : List α) (f : α → β) : (l.map f).isEmpty = l.isEmpty := by cases l <;> rfl
abbrev N57 : List Str := ["words", "found", "word"]
theorem sc57 : FnScope N57 ["words"] (defScope (top 57)) := ⟨rfl, rfl, rfl, by decide +kernel, rfl, by decide +kernel, by decide +kernel⟩
theorem ok_numbers_in (T : Txt P K mg) : DefOk P w K mg base 6 "numbers_in" (spD K 1 R_nums) := by
  refine def_of T (i := 57) (N := N57) (ps := ["words"]) (by decide +kernel) sc57 (fun _ _ _ _ _ _ us hl => match us, hl with | [_], _ => rfl) ?_
  intro f cdv A outer s H E hr ds o hR hl
  obtain ⟨ws, rfl, hf, rfl⟩ := hR
  refine .inl (psd_set (i := 1) (pv_callTy call_to drc_tupL (T_fr T) (pvs_cons (pv_lcA (xs := ws) (enc := .str) (own := [("word", 2)]) (f := fun w => encO (numIn w)) (iv_list (pv_var (i := 0) rfl)) sc57.nd (blkOk_by (N := N57) (sc := defScope (top 57)) (by decide +kernel)) (Nat.le_trans hf.len big_le) (by decide) (fun c _ _ _ _ _ _ => (pgd_name (i := 2) sc57.nd)) fun c hc _ _ _ _ _ => pv_call (ok_number_in T) (hr.mono (by decide)) (pvs_cons (pv_var (i := 2) rfl) pvs_nil) ⟨c, rfl, hf.all c hc, rfl⟩) pvs_nil)) ?_ sc57.nd)
  cases hm : numsL ws with
  | none =>
    have hany := numsL_none hm
    have e : numsOf ws = none := by unfold numsOf; rw [hm]
    rw [e]
    refine PSD.to (psd_ret (pv_if (d2 := .none) (PB.to (pb_w (pbw_or (k2 := true) (PB.to (pb_cmp (op_eqP (hu64 hr)) (dr_eq (min_nilT _)) (pv_var (i := 1) rfl) (pv_tup pvs_nil)) (eqv_nilT _)) fun _ => pbw_or (k1 := true) (k2 := true) (PB.to (pb_cmp (op_inP (hu64 hr)) (dr_inT (by simp [PyData.depth])) pv_non (pv_var (i := 1) rfl)) hany) fun q => nomatch q)) (b' := true) (by simp)) (fun _ => pv_non) fun q => nomatch q)) rfl
  | some xs =>
    rw [numsL_some hm]
    have hxl : xs.length ≤ big := by rw [numsL_len hm]; exact hf.len
    refine PSD.to (psd_ret (pv_if (PB.to (pb_w (pbw_or (PB.to (pb_cmp (op_eqP (hu64 hr)) (dr_eq (min_nilT _)) (pv_var (i := 1) rfl) (pv_tup pvs_nil)) (eqv_nilT _)) fun _ => pbw_or (pb_cmp (op_inP (hu64 hr)) (dr_inT (by simp [PyData.depth])) pv_non (pv_var (i := 1) rfl)) fun _ => pbw_or1 (pb_not (pb_val (pv_call (ok_is_ascending T) (hr.mono (by decide)) (pvs_cons (pv_var (i := 1) rfl) pvs_nil) ⟨xs.map .int, .inl rfl, by simpa using hxl, uniI xs, rfl⟩))))) (b' := !(decide (xs ≠ []) && ascD (xs.map .int))) (by
      rw [any_noneI, isEmpty_map]
      cases xs <;> simp)) (fun _ => pv_non) fun _ => (pv_var (i := 1) rfl))) ?_
    unfold numsOf
    rw [hm]
    show _ = SOut.out (Out.rt (encON (if (decide (xs ≠ []) && ascD (xs.map .int)) = true then some xs else none)))
    generalize (decide (xs ≠ []) && ascD (xs.map .int)) = b
    cases b <;> rfl
def R_names : List PyData → Out → Prop := fun ds o => ∃ ws : List Str, ds = [.list (ws.map .str)] ∧ Fit ws ∧ o = .rt (encOS (namesOf ws))
abbrev N58 : List Str := ["words", "word"]
theorem sc58 : FnScope N58 ["words"] (defScope (top 58)) := ⟨rfl, rfl, rfl, by decide +kernel, rfl, by decide +kernel, by decide +kernel⟩
theorem ok_names_in (T : Txt P K mg) : DefOk P w K mg base 6 "names_in" (spD K 1 R_names) := by
  refine def_of T (i := 58) (N := N58) (ps := ["words"]) (by decide +kernel) sc58 (fun _ _ _ _ _ _ us hl => match us, hl with | [_], _ => rfl) ?_
  intro f cdv A outer s H E hr ds o hR hl
  obtain ⟨ws, rfl, hf, rfl⟩ := hR
  refine .inl (psd_if (k := !(decide (ws ≠ []) && (ws.all isWord && ascD (ws.map .str)))) (PB.to (pb_w (pbw_or (PB.to (pb_cmp (op_eqP (hu64 hr)) (dr_eq (min_nilL _)) (pv_var (i := 0) rfl) (pv_lst pvs_nil)) (eqv_nilL _)) fun _ => pbw_or (pb_not (pb_val (pv_allc (xs := ws) (enc := .str) (own := [("word", 1)]) (g := isWord) (T_fr T) (iv_list (pv_var (i := 0) rfl)) sc58.nd (blkOk_by (N := N58) (sc := defScope (top 58)) (by decide +kernel)) (Nat.le_trans hf.len big_le) (by decide) (fun c _ _ _ _ _ _ => (pgd_name (i := 1) sc58.nd)) fun c hc _ _ _ _ _ => pv_call (ok_is_word T) (hr.mono (by decide)) (pvs_cons (pv_var (i := 1) rfl) pvs_nil) ⟨c, rfl, hf.all c hc, rfl⟩))) fun _ => pbw_or1 (pb_not (pb_val (pv_call (ok_is_ascending T) (hr.mono (by decide)) (pvs_cons (pv_var (i := 0) rfl) pvs_nil) ⟨ws.map .str, .inr rfl, by simpa using hf.len, uniS ws, rfl⟩))))) (by
    rw [isEmpty_map]
    cases ws <;> simp)) (fun h => PSD.to (psd_ret pv_non) ?_) fun h => PSD.to (psd_ret (pv_callTy call_to drc_tupL (T_fr T) (pvs_cons (pv_var (i := 0) rfl) pvs_nil))) ?_)
  · have h' : (decide (ws ≠ []) && (ws.all isWord && ascD (ws.map .str))) = false := notT h
    simp only [namesOf, h', Bool.false_eq_true, if_false, encOS]
  · have h' : (decide (ws ≠ []) && (ws.all isWord && ascD (ws.map .str))) = true := notF h
    simp only [namesOf, h', if_true, encOS, tS]
end
end Wk
end G7_text
section G8_text
set_option maxRecDepth 100000
set_option maxHeartbeats 2000000
namespace Wk
open PySem PySem.Spec PyProof.Rows L2 DL
open PySem.W (alike dataLt)
section
variable {P : Program} {w : World} {K : PySem.W.Frag} {mg : Str → Option Value} {base : Heap}
theorem numIn_kw : numIn "kind" = none ∧ numIn "up" = none ∧ numIn "deaf" = none ∧ numIn "below" = none := by decide +kernel
theorem edgeOf_no {w0 : Str} {r : List Str} (h : numIn w0 = none) : edgeOf (w0 :: r) = none := by
  unfold edgeOf
  split
  · rename_i a b c d e
    have e1 := (List.cons.inj e).1
    subst e1
    rw [h]
    split <;> rfl
  · rfl
def R_kindin : List PyData → Out → Prop := fun ds o => ∃ ws : List Str, ds = [.list (ws.map .str)] ∧ ws ≠ [] ∧ Fit ws ∧ o = .rt (encK (lineOf ws))
theorem encK_if (ws : List Str) (hne : ws ≠ []) : encK (lineOf ws) = match ws with
    | [k, a, b] => if k = ("kind" : Str) ∧ isWord a = true then (match numIn b with
      | some n => .tuple [.str a, .int n]
      | none => .none) else .none
    | _ => .none := by
  match ws, hne with
  | w0 :: r, _ =>
    unfold lineOf
    by_cases h0 : w0 = ("kind" : Str)
    · simp only [if_pos h0]
      match r with
      | [] => rfl
      | [_] => rfl
      | [a, b] =>
        simp only [kindOf, h0, true_and]
        cases isWord a
        · rfl
        · cases numIn b <;> rfl
      | _ :: _ :: _ :: _ => rfl
    · simp only [if_neg h0]
      have e : ∀ o : Option Ln, (∀ l, o = some l → ∀ n k, l ≠ .kind n k) → encK o = .none := fun o ho => by
        cases o with
        | none => rfl
        | some l =>
          cases l with
          | kind n k => exact absurd rfl (ho _ rfl n k)
          | _ => rfl
      rw [e _ fun l hl n k => ?_]
      · match r with
        | [] => rfl
        | [_] => rfl
        | [a, b] => simp [h0]
        | _ :: _ :: _ :: _ => rfl
      · rintro rfl
        by_cases h1 : w0 = ("up" : Str)
        · rw [if_pos h1] at hl
          cases q : numsOf r <;> rw [q] at hl <;> cases hl
        · rw [if_neg h1] at hl
          by_cases h2 : w0 = ("deaf" : Str)
          · rw [if_pos h2] at hl
            cases q : numsOf r <;> rw [q] at hl <;> cases hl
          · rw [if_neg h2] at hl
            by_cases h3 : w0 = ("below" : Str)
            · rw [if_pos h3] at hl
              cases q : namesOf r <;> rw [q] at hl <;> cases hl
            · rw [if_neg h3] at hl
              cases q : edgeOf (w0 :: r) <;> rw [q] at hl <;> cases hl
abbrev N60 : List Str := ["words"]
theorem sc60 : FnScope N60 ["words"] (defScope (top 60)) := ⟨rfl, rfl, rfl, by decide +kernel, rfl, by decide +kernel, by decide +kernel⟩
theorem ok_kind_in (T : Txt P K mg) : DefOk P w K mg base 4 "kind_in" (spD K 1 R_kindin) := by
  refine def_of T (i := 60) (N := N60) (ps := ["words"]) (by decide +kernel) sc60 (fun _ _ _ _ _ _ us hl => match us, hl with | [_], _ => rfl) ?_
  intro f cdv A outer s H E hr ds o hR hl
  obtain ⟨ws, rfl, hne, hf, rfl⟩ := hR
  rw [encK_if ws hne]
  match ws, hf, hne with
  | [_], hf, _ => exact .inl (psd_ifT (pb_w (pbw_or (k1 := true) (k2 := true) (PB.to (PB.to (pb_cmp (op_neP (hu64 hr)) (dr_ne (by simp [PyData.depth])) (pv_callB call_ln drc_lenL (T_fr T) (pvs_cons (pv_var (i := 0) rfl) pvs_nil)) pv_int) (congrArg not (eqv_len _ 3))) (by simp)) fun q => nomatch q)) (psd_ret pv_non))
  | [_, _], hf, _ => exact .inl (psd_ifT (pb_w (pbw_or (k1 := true) (k2 := true) (PB.to (PB.to (pb_cmp (op_neP (hu64 hr)) (dr_ne (by simp [PyData.depth])) (pv_callB call_ln drc_lenL (T_fr T) (pvs_cons (pv_var (i := 0) rfl) pvs_nil)) pv_int) (congrArg not (eqv_len _ 3))) (by simp)) fun q => nomatch q)) (psd_ret pv_non))
  | _ :: _ :: _ :: _ :: _, hf, _ => exact .inl (psd_ifT (pb_w (pbw_or (k1 := true) (k2 := true) (PB.to (PB.to (pb_cmp (op_neP (hu64 hr)) (dr_ne (by simp [PyData.depth])) (pv_callB call_ln drc_lenL (T_fr T) (pvs_cons (pv_var (i := 0) rfl) pvs_nil)) pv_int) (congrArg not (eqv_len _ 3))) (by simp)) fun q => nomatch q)) (psd_ret pv_non))
  | [w0, w1, w2], hf, _ =>
    refine .inl (psd_if (k := !(decide (w0 = ("kind" : Str)) && (isWord w1 && (numIn w2).isSome))) (PB.to (pb_w (pbw_or (PB.to (PB.to (pb_cmp (op_neP (hu64 hr)) (dr_ne (by simp [PyData.depth])) (pv_callB call_ln drc_lenL (T_fr T) (pvs_cons (pv_var (i := 0) rfl) pvs_nil)) pv_int) (congrArg not (eqv_len _ 3))) (by simp : _ = false)) fun _ => pbw_or (PB.to (pb_cmp (op_neP (hu64 hr)) (dr_ne (by simp [PyData.depth])) (pv_ixL (i := 0) (pv_var (i := 0) rfl) pv_int (atI_nat (i := 0) rfl)) (pv_gstr (z := "kind") T)) (congrArg not (eqv_str _ _))) fun _ => pbw_or (pb_not (pb_val (pv_call (ok_is_word T) (hr.mono (by decide)) (pvs_cons (pv_ixL (i := 1) (pv_var (i := 0) rfl) pv_int (atI_nat (i := 1) rfl)) pvs_nil) ⟨w1, rfl, hf.all _ (by simp), rfl⟩))) fun _ => pbw_or1 (pb_cmp op_isNn dr_isN (pv_call (ok_number_in T) (hr.mono (by decide)) (pvs_cons (pv_ixL (i := 2) (pv_var (i := 0) rfl) pv_int (atI_nat (i := 2) rfl)) pvs_nil) ⟨w2, rfl, hf.all _ (by simp), rfl⟩) pv_non))) (by
      rw [isNone_encO]
      cases numIn w2 <;> cases isWord w1 <;> simp)) (fun h => PSD.to (psd_ret pv_non) ?_) fun h => PSD.to (psd_ret (pv_tup (pvs_cons (pv_ixL (i := 1) (pv_var (i := 0) rfl) pv_int (atI_nat (i := 1) rfl)) (pvs_cons (pv_call (ok_number_in T) (hr.mono (by decide)) (pvs_cons (pv_ixL (i := 2) (pv_var (i := 0) rfl) pv_int (atI_nat (i := 2) rfl)) pvs_nil) ⟨w2, rfl, hf.all _ (by simp), rfl⟩) pvs_nil)))) ?_)
    · have h' := notT h
      by_cases h0 : w0 = ("kind" : Str)
      · cases h1 : isWord w1
        · simp [h1]
        · cases h2 : numIn w2
          · simp [h2]
          · rw [h1, h2, decide_eq_true h0] at h'
            cases h'
      · simp [h0]
    · have h' := notF h
      simp only [Bool.and_eq_true, decide_eq_true_eq] at h'
      obtain ⟨h0, h1, h2⟩ := h'
      obtain ⟨n, hn⟩ := Option.isSome_iff_exists.mp h2
      simp only [h0, h1, hn, and_self, if_true, encO]
def R_linein : List PyData → Out → Prop := fun ds o => ∃ ws : List Str, ds = [.list (ws.map .str)] ∧ ws ≠ [] ∧ Fit ws ∧ o = .rt (encP (lineOf ws))
theorem isNone_encOE (o : Option Edge) : isNone (encOE o) = o.isNone := by cases o <;> rfl
theorem isNone_encON (o : Option (List Int)) : isNone (encON o) = o.isNone := by cases o <;> rfl
theorem isNone_encOS (o : Option (List Str)) : isNone (encOS o) = o.isNone := by cases o <;> rfl
theorem lineOf_edge {w0 : Str} {r : List Str} {x : Edge} (h : edgeOf (w0 :: r) = some x) : lineOf (w0 :: r) = some (.edge x) := by
  have hn : numIn w0 ≠ none := fun e => by
    rw [edgeOf_no e] at h
    cases h
  obtain ⟨k1, k2, k3, k4⟩ := numIn_kw
  have a1 : ¬ w0 = ("kind" : Str) := fun e => hn (by rw [e]; exact k1)
  have a2 : ¬ w0 = ("up" : Str) := fun e => hn (by rw [e]; exact k2)
  have a3 : ¬ w0 = ("deaf" : Str) := fun e => hn (by rw [e]; exact k3)
  have a4 : ¬ w0 = ("below" : Str) := fun e => hn (by rw [e]; exact k4)
  simp only [lineOf, if_neg a1, if_neg a2, if_neg a3, if_neg a4, h, Option.map_some]
theorem kw_ne : (("up" : Str) = "below") = False ∧ (("deaf" : Str) = "below") = False ∧ (("below" : Str) = "up") = False ∧ (("below" : Str) = "deaf") = False ∧ (("deaf" : Str) = "up") = False ∧ (("up" : Str) = "deaf") = False ∧ (("up" : Str) = "kind") = False ∧ (("deaf" : Str) = "kind") = False ∧ (("below" : Str) = "kind") = False ∧ (("kind" : Str) = "up") = False ∧ (("kind" : Str) = "deaf") = False ∧ (("kind" : Str) = "below") = False := by decide +kernel
abbrev N59 : List Str := ["words", "sort", "found"]
theorem sc59 : FnScope N59 ["words"] (defScope (top 59)) := ⟨rfl, rfl, rfl, by decide +kernel, rfl, by decide +kernel, by decide +kernel⟩
theorem ok_line_in (T : Txt P K mg) : DefOk P w K mg base 8 "line_in" (spD K 1 R_linein) := by
  refine def_of T (i := 59) (N := N59) (ps := ["words"]) (by decide +kernel) sc59 (fun _ _ _ _ _ _ us hl => match us, hl with | [_], _ => rfl) ?_
  intro f cdv A outer s H E hr ds o hR hl
  obtain ⟨ws, rfl, hne, hf, rfl⟩ := hR
  match ws, hf, hne with
  | w0 :: r, hf, _ =>
    refine .inl (psd_par (i := 1) (j := 2) (pvs_cons (pv_gstr (z := "edges") T) (pvs_cons (pv_call (ok_edge_in T) (hr.mono (by decide)) (pvs_cons (pv_var (i := 0) rfl) pvs_nil) ⟨w0 :: r, rfl, hf, rfl⟩) pvs_nil)) sc59.nd ?_)
    cases he : edgeOf (w0 :: r) with
    | some x =>
      rw [lineOf_edge he]
      exact psd_ifF (pb_w (pbw_and (k1 := false) (k2 := false) (PB.to (pb_cmp op_isNn dr_isN (pv_var (i := 2) rfl) pv_non) rfl) fun q => nomatch q)) psd_nil (psd_ifF (pb_w (pbw_and (k1 := false) (k2 := false) (PB.to (pb_cmp op_isNn dr_isN (pv_var (i := 2) rfl) pv_non) rfl) fun q => nomatch q)) psd_nil (PSD.to (psd_ret (pv_if (d1 := .none) (PB.to (pb_cmp op_isNn dr_isN (pv_var (i := 2) rfl) pv_non) (b' := false) rfl) (fun q => nomatch q) fun _ => pv_tup (pvs_cons (pv_var (i := 1) rfl) (pvs_cons (pv_var (i := 2) rfl) pvs_nil)))) rfl))
    | none =>
      by_cases h0 : w0 = ("up" : Str)
      · subst h0
        obtain ⟨m1, m2, m3, m4, m5, m6, m7, m8, m9, m10, m11, m12⟩ := kw_ne
        have el : lineOf (("up" : Str) :: r) = (numsOf r).map .up := by simp only [lineOf, m5, m7, m8, if_false, if_true]
        rw [el]
        refine psd_ifTn (PB.to (pb_w (pbw_and (pb_cmp op_isNn dr_isN (pv_var (i := 2) rfl) pv_non) fun _ => pbw_and1 (PB.to (pb_cmp (op_inP (hu64 hr)) (dr_inT (by simp [PyData.depth])) (pv_ixL (i := 0) (pv_var (i := 0) rfl) pv_int (atI_nat (i := 0) rfl)) (pv_tup (pvs_cons (pv_gstr (z := "up") T) (pvs_cons (pv_gstr (z := "deaf") T) pvs_nil)))) (any_str ["up", "deaf"] _)))) (b' := true) (by simp [isNone, encOE])) (psd_par (i := 1) (j := 2) (pvs_cons (pv_ixL (i := 0) (pv_var (i := 0) rfl) pv_int (atI_nat (i := 0) rfl)) (pvs_cons (pv_call (ok_numbers_in T) (hr.mono (by decide)) (pvs_cons (pv_fromL (k := 1) (pv_var (i := 0) rfl)) pvs_nil) ⟨r, rfl, hf.tl, rfl⟩) pvs_nil)) sc59.nd psd_nil) ?_
        refine psd_ifF (PB.to (pb_w (pbw_and (pb_cmp op_isNn dr_isN (pv_var (i := 2) rfl) pv_non) fun _ => pbw_and1 (PB.to (pb_cmp (op_eqP (hu64 hr)) (dr_eq (by simp [PyData.depth])) (pv_ixL (i := 0) (pv_var (i := 0) rfl) pv_int (atI_nat (i := 0) rfl)) (pv_gstr (z := "below") T)) (eqv_str _ _)))) (b' := false) (by simp [m1, m2])) psd_nil ?_
        refine PSD.to (psd_ret (pv_if (pb_cmp op_isNn dr_isN (pv_var (i := 2) rfl) pv_non) (fun _ => pv_tup (pvs_cons pv_non (pvs_cons pv_non pvs_nil))) fun _ => pv_tup (pvs_cons (pv_var (i := 1) rfl) (pvs_cons (pv_var (i := 2) rfl) pvs_nil)))) ?_
        rw [isNone_encON]
        cases numsOf r <;> rfl
      by_cases h1 : w0 = ("deaf" : Str)
      · subst h1
        obtain ⟨m1, m2, m3, m4, m5, m6, m7, m8, m9, m10, m11, m12⟩ := kw_ne
        have el : lineOf (("deaf" : Str) :: r) = (numsOf r).map .deaf := by simp only [lineOf, m5, m7, m8, if_false, if_true]
        rw [el]
        refine psd_ifTn (PB.to (pb_w (pbw_and (pb_cmp op_isNn dr_isN (pv_var (i := 2) rfl) pv_non) fun _ => pbw_and1 (PB.to (pb_cmp (op_inP (hu64 hr)) (dr_inT (by simp [PyData.depth])) (pv_ixL (i := 0) (pv_var (i := 0) rfl) pv_int (atI_nat (i := 0) rfl)) (pv_tup (pvs_cons (pv_gstr (z := "up") T) (pvs_cons (pv_gstr (z := "deaf") T) pvs_nil)))) (any_str ["up", "deaf"] _)))) (b' := true) (by simp [isNone, encOE])) (psd_par (i := 1) (j := 2) (pvs_cons (pv_ixL (i := 0) (pv_var (i := 0) rfl) pv_int (atI_nat (i := 0) rfl)) (pvs_cons (pv_call (ok_numbers_in T) (hr.mono (by decide)) (pvs_cons (pv_fromL (k := 1) (pv_var (i := 0) rfl)) pvs_nil) ⟨r, rfl, hf.tl, rfl⟩) pvs_nil)) sc59.nd psd_nil) ?_
        refine psd_ifF (PB.to (pb_w (pbw_and (pb_cmp op_isNn dr_isN (pv_var (i := 2) rfl) pv_non) fun _ => pbw_and1 (PB.to (pb_cmp (op_eqP (hu64 hr)) (dr_eq (by simp [PyData.depth])) (pv_ixL (i := 0) (pv_var (i := 0) rfl) pv_int (atI_nat (i := 0) rfl)) (pv_gstr (z := "below") T)) (eqv_str _ _)))) (b' := false) (by simp [m1, m2])) psd_nil ?_
        refine PSD.to (psd_ret (pv_if (pb_cmp op_isNn dr_isN (pv_var (i := 2) rfl) pv_non) (fun _ => pv_tup (pvs_cons pv_non (pvs_cons pv_non pvs_nil))) fun _ => pv_tup (pvs_cons (pv_var (i := 1) rfl) (pvs_cons (pv_var (i := 2) rfl) pvs_nil)))) ?_
        rw [isNone_encON]
        cases numsOf r <;> rfl
      have ha : (decide (w0 ∈ (["up", "deaf"] : List Str))) = false := by simp [h0, h1]
      refine psd_ifF (PB.to (pb_w (pbw_and (pb_cmp op_isNn dr_isN (pv_var (i := 2) rfl) pv_non) fun _ => pbw_and1 (PB.to (pb_cmp (op_inP (hu64 hr)) (dr_inT (by simp [PyData.depth])) (pv_ixL (i := 0) (pv_var (i := 0) rfl) pv_int (atI_nat (i := 0) rfl)) (pv_tup (pvs_cons (pv_gstr (z := "up") T) (pvs_cons (pv_gstr (z := "deaf") T) pvs_nil)))) (any_str ["up", "deaf"] _)))) (b' := false) (by rw [ha, Bool.and_false])) psd_nil ?_
      by_cases h2 : w0 = ("below" : Str)
      · subst h2
        obtain ⟨m1, m2, m3, m4, m5, m6, m7, m8, m9, m10, m11, m12⟩ := kw_ne
        have el : lineOf (("below" : Str) :: r) = (namesOf r).map .below := by simp only [lineOf, m3, m4, m9, if_false, if_true]
        rw [el]
        refine psd_ifTn (PB.to (pb_w (pbw_and (pb_cmp op_isNn dr_isN (pv_var (i := 2) rfl) pv_non) fun _ => pbw_and1 (PB.to (pb_cmp (op_eqP (hu64 hr)) (dr_eq (by simp [PyData.depth])) (pv_ixL (i := 0) (pv_var (i := 0) rfl) pv_int (atI_nat (i := 0) rfl)) (pv_gstr (z := "below") T)) (eqv_str _ _)))) (b' := true) (by simp [isNone, encOE])) (psd_par (i := 1) (j := 2) (pvs_cons (pv_gstr (z := "below") T) (pvs_cons (pv_call (ok_names_in T) (hr.mono (by decide)) (pvs_cons (pv_fromL (k := 1) (pv_var (i := 0) rfl)) pvs_nil) ⟨r, rfl, hf.tl, rfl⟩) pvs_nil)) sc59.nd psd_nil) ?_
        refine PSD.to (psd_ret (pv_if (pb_cmp op_isNn dr_isN (pv_var (i := 2) rfl) pv_non) (fun _ => pv_tup (pvs_cons pv_non (pvs_cons pv_non pvs_nil))) fun _ => pv_tup (pvs_cons (pv_var (i := 1) rfl) (pvs_cons (pv_var (i := 2) rfl) pvs_nil)))) ?_
        rw [isNone_encOS]
        cases namesOf r <;> rfl
      · refine psd_ifF (PB.to (pb_w (pbw_and (pb_cmp op_isNn dr_isN (pv_var (i := 2) rfl) pv_non) fun _ => pbw_and1 (PB.to (pb_cmp (op_eqP (hu64 hr)) (dr_eq (by simp [PyData.depth])) (pv_ixL (i := 0) (pv_var (i := 0) rfl) pv_int (atI_nat (i := 0) rfl)) (pv_gstr (z := "below") T)) (eqv_str _ _)))) (b' := false) (by simp [h2])) psd_nil ?_
        refine PSD.to (psd_ret (pv_if (pb_cmp op_isNn dr_isN (pv_var (i := 2) rfl) pv_non) (fun _ => pv_tup (pvs_cons pv_non (pvs_cons pv_non pvs_nil))) fun _ => pv_tup (pvs_cons (pv_var (i := 1) rfl) (pvs_cons (pv_var (i := 2) rfl) pvs_nil)))) ?_
        have el : encP (lineOf (w0 :: r)) = .tuple [.none, .none] := by
          simp only [lineOf, if_neg h0, if_neg h1, if_neg h2, he]
          by_cases h3 : w0 = ("kind" : Str)
          · rw [if_pos h3]
            cases kindOf r <;> rfl
          · rw [if_neg h3] <;> rfl
        rw [el] <;> rfl
def notKind : Ln → Prop
  | .kind _ _ => False
  | _ => True
def orderS : List Str := ["up", "deaf", "edges", "below"]
theorem ord_idx {l : Ln} (h : notKind l) : orderS[ord l - 1]? = some (sortS l) ∧ ∀ m, m < ord l - 1 → orderS[m]? ≠ some (sortS l) := by
  cases l with
  | kind n k => exact h.elim
  | up xs => exact ⟨rfl, fun m hm => absurd hm (by simp [ord])⟩
  | deaf xs => exact ⟨rfl, fun m hm => by
      have : m = 0 := by simp [ord] at hm; omega
      subst this
      show orderS[0]? ≠ some ("deaf" : Str)
      decide⟩
  | edge x => exact ⟨rfl, fun m hm => by
      have : m = 0 ∨ m = 1 := by simp [ord] at hm; omega
      show orderS[m]? ≠ some ("edges" : Str)
      rcases this with rfl | rfl <;> decide⟩
  | below xs => exact ⟨rfl, fun m hm => by
      have : m = 0 ∨ m = 1 ∨ m = 2 := by simp [ord] at hm; omega
      show orderS[m]? ≠ some ("below" : Str)
      rcases this with rfl | rfl | rfl <;> decide⟩
theorem sort_edge {l : Ln} (h : notKind l) : decide (sortS l = "edges") = decide (ord l = 3) := by
  cases l with
  | kind n k => exact h.elim
  | up xs => exact (by decide +kernel : decide (("up" : Str) = "edges") = decide (1 = 3))
  | deaf xs => exact (by decide +kernel : decide (("deaf" : Str) = "edges") = decide (2 = 3))
  | edge x => exact (by decide +kernel : decide (("edges" : Str) = "edges") = decide (3 = 3))
  | below xs => exact (by decide +kernel : decide (("below" : Str) = "edges") = decide (4 = 3))
theorem ord_pos {l : Ln} (h : notKind l) : 1 ≤ ord l := by
  cases l with
  | kind n k => exact h.elim
  | _ => simp [ord]
theorem ord_three {l : Ln} (h : ord l = 3) : ∃ x, l = .edge x := by
  cases l with
  | edge x => exact ⟨x, rfl⟩
  | _ => cases h
def R_goes : List PyData → Out → Prop := fun ds o => ∃ (ls : List Ln) (l : Ln), ds = [.list (ls.map encP1), .str (sortS l), val l] ∧ notKind l ∧ (∀ a ∈ ls, notKind a) ∧ o = .rt (.bool (goesOn ls l))
abbrev N61 : List Str := ["lines", "sort", "found", "ahead", "last"]
theorem sc61 : FnScope N61 ["lines", "sort", "found"] (defScope (top 61)) := ⟨rfl, rfl, rfl, by decide +kernel, rfl, by decide +kernel, by decide +kernel⟩
theorem ok_goes_on (T : Txt P K mg) : DefOk P w K mg base 2 "goes_on" (spD K 3 R_goes) := by
  refine def_of T (i := 61) (N := N61) (ps := ["lines", "sort", "found"]) (by decide +kernel) sc61 (fun _ _ _ _ _ _ us hl => match us, hl with | [_, _, _], _ => rfl) ?_
  intro f cdv A outer s H E hr ds o hR hl
  obtain ⟨ls, l, rfl, hl1, hls, rfl⟩ := hR
  cases hg : ls.getLast? with
  | none =>
    have hn : ls = [] := List.getLast?_eq_none_iff.mp hg
    subst hn
    exact .inl (psd_ifT (PB.to (pb_cmp (op_eqP (hu64 hr)) (dr_eq (min_nilL _)) (pv_var (i := 0) rfl) (pv_lst pvs_nil)) (b' := true) rfl) (psd_ret pv_bl))
  | some a =>
    have hm : a ∈ ls := List.mem_of_getLast? hg
    have ha := hls a hm
    have hne : ls.isEmpty = false := by
      cases ls with
      | nil => cases hm
      | cons _ _ => rfl
    have hla : (ls.map encP1).getLast? = some (encP1 a) := by rw [List.getLast?_map, hg] <;> rfl
    have hgo : goesOn ls l = (decide (ord a < ord l) || edgeLt a l) := by unfold goesOn; rw [hg]
    have p1 := ord_pos ha
    have p2 := ord_pos hl1
    have hcmp : decide (((ord a - 1 : Nat) : Int) < ((ord l - 1 : Nat) : Int)) = decide (ord a < ord l) := decide_eq_decide.mpr (by omega)
    rw [hgo]
    refine .inl (psd_ifF (PB.to (pb_cmp (op_eqP (hu64 hr)) (dr_eq (min_nilL _)) (pv_var (i := 0) rfl) (pv_lst pvs_nil)) (b' := false) (by rw [eqv_nilL, isEmpty_map, hne])) psd_nil ?_)
    refine psd_asg (pv_ixL (i := -1) (d := encP1 a) (pv_var (i := 0) rfl) (pv_neg pv_int) (atI_last hla)) (pgd_tup (pgds_cons (pgd_name (i := 3) sc61.nd) (pgds_cons (pgd_name (i := 4) sc61.nd) pgds_nil))) ?_
    by_cases hb : ord l = 3 ∧ ord a = 3
    · obtain ⟨y, rfl⟩ := ord_three hb.1
      obtain ⟨x, rfl⟩ := ord_three hb.2
      refine PSD.to (psd_ret (pv_or (pv_cmp op_lt dr_IB (pv_tidx (ys := orderS) (j := ord (.edge x) - 1) T (pv_var (i := 3) rfl) (ord_idx ha).1 (ord_idx ha).2) (pv_tidx (ys := orderS) (j := ord (.edge y) - 1) T (pv_var (i := 1) rfl) (ord_idx hl1).1 (ord_idx hl1).2)) fun _ => pv_one (pv_and (PV.to (pv_cmp (op_eqP (hu64 hr)) (dr_eq (by simp [PyData.depth])) (pv_var (i := 1) rfl) (pv_gstr (z := "edges") T)) (d' := .bool true) rfl) fun _ => pv_and (PV.to (pv_cmp (op_eqP (hu64 hr)) (dr_eq (by simp [PyData.depth])) (pv_var (i := 3) rfl) (pv_gstr (z := "edges") T)) (d' := .bool true) rfl) fun _ => pv_one (pv_cmp (op_ltD (hu64 hr)) (dr_lt (d1 := encE x) (d2 := encE y) (alikeE _ _) (fun z => nomatch z) (by rw [depthE, depthE]; decide)) (pv_var (i := 4) rfl) (pv_var (i := 2) rfl))))) ?_
      rfl
    · refine PSD.to (psd_ret (pv_or (pv_cmp op_lt dr_IB (pv_tidx (ys := orderS) (j := ord a - 1) T (pv_var (i := 3) rfl) (ord_idx ha).1 (ord_idx ha).2) (pv_tidx (ys := orderS) (j := ord l - 1) T (pv_var (i := 1) rfl) (ord_idx hl1).1 (ord_idx hl1).2)) fun _ => pv_one (pv_and (k2 := false) (PV.to (pv_cmp (op_eqP (hu64 hr)) (dr_eq (by simp [PyData.depth])) (pv_var (i := 1) rfl) (pv_gstr (z := "edges") T)) (congrArg PyData.bool (eqv_str _ _))) fun q1 => PV.to (pv_and (k2 := false) (PV.to (pv_cmp (op_eqP (hu64 hr)) (dr_eq (by simp [PyData.depth])) (pv_var (i := 3) rfl) (pv_gstr (z := "edges") T)) (congrArg PyData.bool (eqv_str _ _))) fun q2 => absurd ⟨of_decide_eq_true ((sort_edge hl1).symm.trans q1), of_decide_eq_true ((sort_edge ha).symm.trans q2)⟩ hb) (congrArg PyData.bool (Bool.and_false _))))) ?_
      have hl0 : edgeLt a l = false := by
        cases a <;> cases l <;> first | rfl | exact absurd ⟨rfl, rfl⟩ hb
      rw [hl0, hcmp, Bool.and_false]
end
end Wk
end G8_text
section D8_text
set_option maxRecDepth 100000
set_option maxHeartbeats 2000000
namespace DL
open PySem PySem.Spec PyProof.Rows L2 StX
theorem Gr.own {G H G2 H2 : Hp} {a : Addr} {o : HO} (g : Gr G H G2 H2) (h : H a = some o) (n : G a = none) : H2 a = some o ∧ G2 a = none := ⟨g.hh _ _ h, by rw [g.new a (by rw [h]; exact fun z => nomatch z)]; exact n⟩
/-- what a def's body has made so far, seen from its entry; an object of its own changes -/
theorem Gr.mut {G0 H0 G H : Hp} {a : Addr} {o : HO} (g : Gr G0 H0 G H) (h0 : H0 a = none) (n : G a = none) : Gr G0 H0 G (L2.upd H a o) :=
  ⟨fun b u e => by rw [upd_ne (ne_of_none e n)]; exact g.sub b u e, g.gg, fun b u e => by rw [upd_ne (ne_of_none e h0)]; exact g.hh b u e, g.new⟩
/-- .. comes into the data -/
theorem Gr.frz {G0 H0 G H : Hp} {a : Addr} {o : HO} (g : Gr G0 H0 G H) (h : H a = some o) (n : G a = none) (h0 : H0 a = none) : Gr G0 H0 (L2.upd G a o) H :=
  ⟨fun b u e => by
    by_cases hb : b = a
    · rw [hb, upd_same] at e
      rw [hb, h]
      exact e
    · rw [upd_ne hb] at e
      exact g.sub b u e, g.gg.trans (Same.upd n), g.hh, fun b hb => by
    rw [upd_ne fun z => hb (by rw [z]; exact h0)]
    exact g.new b hb⟩
section
variable {X : Cx} {ρ ρ' : Rho} {a b c e tg iter : Expr} {d : PyData} {ys : List PyData} {pos : Pos} {sts rest body els : List Stmt} {st : Stmt} {σ : L2.St} {G H : Hp} {D : Ends} {x : Str}
theorem ws_cons (h : wS X st { D with nx := fun σ' H' => wSs X rest D σ' H' } σ H) : wSs X (st :: rest) D σ H := wSs_of (pss_cons ps_w pss_w) h
theorem ws_nil (h : D.nx σ H) : wSs X [] D σ H := wSs_of pss_nil h
theorem ws_set {i : Nat} {pos' : Pos} (u : Same G H) (s : SD X.K G σ ρ) (he : PV X e ρ d) (hN : X.N.Nodup) (k : ∀ v G1 H1, Gr G H G1 H1 → Dp X.K G1 v d → SD X.K G1 (σ.set i (some v)) (ρ.set i (some d)) → wSs X rest D (σ.set i (some v)) H1) (hi : X.N[i]? = some x := by rfl) (hx : Loc X.env.scope x := by first | exact Or.inl rfl | exact Or.inr rfl)
    (hs : swapsWith e (some (.Name x pos')) pos.line X.env = pure false := by rfl) (hf : X.fn x = true ∨ X.env.scope.names.lookup x = some .local := by first | exact .inl rfl | exact .inr rfl) : wSs X (.Assign [.Name x pos'] e pos :: rest) D σ H :=
  wSs_of (pss_cons (ps_set hN hi hx pe_w hs hf) pss_w) (he σ G H u s _ fun v G1 H1 g1 k1 => k v G1 H1 g1 k1 ((s.gr g1).set i k1))
/-- any value -/
theorem ws_setE {i : Nat} {pos' : Pos} (hN : X.N.Nodup) (h : wE X e σ H fun v H1 => wSs X rest D (σ.set i (some v)) H1) (hi : X.N[i]? = some x := by rfl) (hx : Loc X.env.scope x := by first | exact Or.inl rfl | exact Or.inr rfl)
    (hs : swapsWith e (some (.Name x pos')) pos.line X.env = pure false := by rfl) (hf : X.fn x = true ∨ X.env.scope.names.lookup x = some .local := by first | exact .inl rfl | exact .inr rfl) : wSs X (.Assign [.Name x pos'] e pos :: rest) D σ H :=
  wSs_of (pss_cons (ps_set hN hi hx pe_w hs hf) pss_w) h
theorem ws_asg {T : List Nat} (u : Same G H) (s : SD X.K G σ ρ) (he : PV X e ρ d) (hg : PGD X tg ρ d ρ' T) (k : ∀ σ' G1 H1, Gr G H G1 H1 → Touch T σ σ' → SD X.K G1 σ' ρ' → wSs X rest D σ' H1) (hs : swapsWithSole [tg] e pos.line X.env = pure false := by rfl) (hw : swappedStores [tg] e X.env = pure none := by rfl) (h1 : (assignEach [tg] X.env).map (·.2) = [assign tg X.env] := by rfl) : wSs X (.Assign [tg] e pos :: rest) D σ H :=
  wSs_of (pss_cons (ps_asg pe_w pg_w hs hw h1) pss_w) (he σ G H u s _ fun v G1 H1 g1 k1 => hg σ G1 H1 v g1.sub (s.gr g1) k1 _ fun σ' t s' => k σ' G1 H1 g1 t s')
theorem ws_if {k : Bool} (u : Same G H) (s : SD X.K G σ ρ) (hc : PB X c ρ k) (ht : k = true → ∀ G1 H1, Gr G H G1 H1 → wSs X body { D with nx := fun σ' H' => wSs X rest D σ' H' } σ H1) (hf : k = false → ∀ G1 H1, Gr G H G1 H1 → wSs X els { D with nx := fun σ' H' => wSs X rest D σ' H' } σ H1) : wSs X (.If c body els pos :: rest) D σ H :=
  wSs_of (pss_cons (ps_if pt_w pss_w pss_w) pss_w) (hc σ G H u s _ fun G1 H1 g1 => by
    cases k with
    | true =>
      show (if true = true then _ else _)
      rw [if_pos rfl]
      exact ht rfl G1 H1 g1
    | false =>
      show (if false = true then _ else _)
      rw [if_neg Bool.false_ne_true]
      exact hf rfl G1 H1 g1)
theorem ws_exprE (h : wE X e σ H fun _ H1 => wSs X rest D σ H1) (hs : swapsWith e none pos.line X.env = pure false := by rfl) : wSs X (.Expr e pos :: rest) D σ H := wSs_of (pss_cons (ps_expr pe_w hs) pss_w) h
theorem ws_retE (h : wE X e σ H D.rt) : wSs X (.Return (some e) pos :: rest) D σ H := wSs_of (pss_cons (ps_ret pe_w) pss_w) h
theorem ws_for (hi : IV X tg iter ρ ys) (u : Same G H) (s : SD X.K G σ ρ) (hp : PassesOwn (model X.prog X.w) X.A X.env X.xe)
    (k : ∀ G1 H1, Gr G H G1 H1 → ∃ Pv : Nat → L2.St → Hp → Hp → Prop, Pv 0 σ G1 H1 ∧ (∀ i σ' G' H', Pv i σ' G' H' → Same G' H' ∧ Same G1 G') ∧
      (∀ i y σ' G' H' v G2 H2, Pv i σ' G' H' → ys[i]? = some y → Gr G' H' G2 H2 → Dp X.K G2 v y → wG X tg v σ' H2 fun σ2 H3 => wSs X body { D with nx := fun σ3 H4 => ∃ G4, Pv (i + 1) σ3 G4 H4, ct := fun σ3 H4 => ∃ G4, Pv (i + 1) σ3 G4 H4, bk := fun σ3 H4 => wSs X rest D σ3 H4 } σ2 H3) ∧
      (∀ σ' G' H', Pv ys.length σ' G' H' → wSs X rest D σ' H')) (hc : X.calm = true := by rfl) (hs : ∀ x, foldedSetIterable iter X.env x = pure x := by intro _; rfl) : wSs X (.For tg iter body [] pos :: rest) D σ H := by
  refine wSs_of (pss_cons (ps_for hp hc pi_w pg_w pss_w hs) pss_w) (hi σ G H u s _ fun J G1 H1 g1 dw => ?_)
  obtain ⟨Y, w, hy⟩ := dw
  obtain ⟨Pv, p0, ps, pstep, pend⟩ := k G1 H1 g1
  refine for_it w (fun i σ' H' => ∃ G', Pv i σ' G' H') ⟨G1, p0⟩ ?_ ?_ ?_
  · rintro i σ' H' _ ⟨G', p⟩
    obtain ⟨h1, h2⟩ := ps i σ' G' H' p
    exact h2.trans h1
  · rintro i x σ' H' H'' hlt ⟨G', p⟩ y
    obtain ⟨h1, h2⟩ := ps i σ' G' H' p
    obtain ⟨G2, d, g2, hd, kd⟩ := hy i H' x H'' G' h1 h2 y
    exact pstep i d σ' G' H' x G2 H'' p hd g2 kd
  · rintro σ' H' ⟨G', p⟩
    exact pend σ' G' H' p
theorem PGD.go {T : List Nat} {v : V} {Q : L2.St → Hp → Prop} (h : PGD X tg ρ d ρ' T) (u : Same G H) (s : SD X.K G σ ρ) (hv : Dp X.K G v d) (k : ∀ σ', Touch T σ σ' → SD X.K G σ' ρ' → Q σ' H) : wG X tg v σ H Q := h σ G H v u s hv Q k
theorem PV.go {Q : VK} (h : PV X e ρ d) (u : Same G H) (s : SD X.K G σ ρ) (k : ∀ v G1 H1, Gr G H G1 H1 → Dp X.K G1 v d → Q v H1) : wE X e σ H Q := h σ G H u s Q k
theorem PO'.go {E : XK} {o : Out} {Q : VK} (h : PO' X E e ρ o) (u : Same G H) (s : SD X.K G σ ρ) (q : KO X.K E G H Q o) : wE X e σ H Q := h σ G H u s Q q
/-- a PSD within -/
theorem PSD.ws {E : XK} {o : SOut} (h : PSD X E sts ρ o) (u : Same G H) (s : SD X.K G σ ρ) (q : KS X.K E G H D o) : wSs X sts D σ H := h σ G H u s D q
/-- the slots grow by what one knows -/
theorem SD.know {K : PySem.W.Frag} {i : Nat} {v : V} (s : SD K G σ ρ) (hv : σ[i]? = some (some v)) (h : Dp K G v d) : SD K G σ (ρ.set i (some d)) := ⟨by rw [List.length_set]; exact s.1, fun j d' e => by
  by_cases hj : i = j
  · subst hj
    by_cases hl : i < ρ.length
    · rw [List.getElem?_set_self hl] at e
      have q := Option.some.inj (Option.some.inj e)
      subst q
      exact ⟨v, hv, h⟩
    · rw [List.getElem?_eq_none (by rw [List.length_set]; omega)] at e
      cases e
  · rw [List.getElem?_set_ne hj] at e
    exact s.2 j d' e⟩
end
end DL
end D8_text
section G9_text
set_option maxRecDepth 100000
set_option maxHeartbeats 2000000
namespace Wk
open PySem PySem.Spec PyProof.Rows L2 DL
open PySem.W (alike dataLt)
section
variable {P : Program} {w : World} {K : PySem.W.Frag} {mg : Str → Option Value} {base : Heap}
def itemD (ls : List Ln) (z : Str) : PyData := match (ls.filter fun l => decide (sortS l = z)).map val with
  | [] => .tuple []
  | x :: _ => x
def R_item : List PyData → Out → Prop := fun ds o => ∃ (ls : List Ln) (z : Str), ds = [.list (ls.map encP1), .str z] ∧ ls.length ≤ big ∧ o = .rt (itemD ls z)
abbrev N63 : List Str := ["lines", "sort", "found", "own", "row"]
theorem sc63 : FnScope N63 ["lines", "sort"] (defScope (top 63)) := ⟨rfl, rfl, rfl, by decide +kernel, rfl, by decide +kernel, by decide +kernel⟩
theorem ok_item_of (T : Txt P K mg) : DefOk P w K mg base 2 "item_of" (spD K 2 R_item) := by
  refine def_of T (i := 63) (N := N63) (ps := ["lines", "sort"]) (by decide +kernel) sc63 (fun _ _ _ _ _ _ us hl => match us, hl with | [_, _], _ => rfl) ?_
  intro f cdv A outer s H E hr ds o hR hl
  obtain ⟨ls, z, rfl, hz, rfl⟩ := hR
  refine .inl (psd_setLc (i := 2) (xs := ls) (enc := encP1) (own := [("own", 3), ("row", 4)]) (T := [3, 4]) (p := fun l => decide (sortS l = z)) (f := val) (iv_list (ds := ls.map encP1) (pv_var (i := 0) rfl)) sc63.nd (blkOk_by (N := N63) (sc := defScope (top 63)) (by decide +kernel)) (Nat.le_trans hz big_le) (by decide) (fun l _ _ _ _ _ _ => pgd_tup (pgds_cons (pgd_name (i := 3) sc63.nd) (pgds_cons (pgd_name (i := 4) sc63.nd) pgds_nil))) (fun l _ _ _ _ _ _ => (PB.to (pb_cmp (op_eqP (hu64 hr)) (dr_eq (by simp [PyData.depth])) (pv_var (i := 3) rfl) (pv_var (i := 1) rfl)) (eqv_str _ _))) (fun l _ _ _ _ _ _ _ => (pv_var (i := 4) rfl)) ?_)
  unfold itemD
  have ne : ∀ xs : List PyData, PB (CC P w K mg base N63 "item_of" (defScope (top 63)) f cdv A outer s H E) (.Compare (.Name "found" ⟨0, 0, 0, 0⟩) [.NotEq] [.List [] ⟨0, 0, 0, 0⟩] ⟨0, 0, 0, 0⟩) [none] true → True := fun _ _ => trivial
  cases hc : (ls.filter fun l => decide (sortS l = z)).map val with
  | nil => exact PSD.to (psd_ret (pv_if (d1 := .none) (PB.to (pb_cmp (op_neP (hu64 hr)) (dr_ne (min_nilL _)) (pv_var (i := 2) rfl) (pv_lst pvs_nil)) (b' := false) rfl) (fun q => nomatch q) fun _ => pv_tup pvs_nil)) rfl
  | cons x r => exact PSD.to (psd_ret (pv_if (d2 := .none) (PB.to (pb_cmp (op_neP (hu64 hr)) (dr_ne (min_nilL _)) (pv_var (i := 2) rfl) (pv_lst pvs_nil)) (b' := true) (by rw [eqv_nilL] <;> rfl)) (fun _ => pv_ixL (i := 0) (pv_var (i := 2) rfl) pv_int L2.atI_zero) fun q => nomatch q)) rfl
theorem itemD_up (ls : List Ln) : itemD ls "up" = tI (ups ls) := by
  unfold itemD
  induction ls with
  | nil => rfl
  | cons l r ih => cases l with
    | up xs => rfl
    | _ => exact ih
theorem itemD_deaf (ls : List Ln) : itemD ls "deaf" = tI (deafs ls) := by
  unfold itemD
  induction ls with
  | nil => rfl
  | cons l r ih => cases l with
    | deaf xs => rfl
    | _ => exact ih
theorem itemD_below (ls : List Ln) : itemD ls "below" = tS (belows ls) := by
  unfold itemD
  induction ls with
  | nil => rfl
  | cons l r ih => cases l with
    | below xs => rfl
    | _ => exact ih
theorem edges_filter (ls : List Ln) : (ls.filter fun l => decide (sortS l = ("edges" : Str))).map val = (edges ls).map encE := by
  induction ls with
  | nil => rfl
  | cons l r ih => cases l with
    | edge x =>
      show encE x :: (r.filter fun l => decide (sortS l = ("edges" : Str))).map val = encE x :: (edges r).map encE
      rw [ih]
    | _ => exact ih
def R_kindof : List PyData → Out → Prop := fun ds o => ∃ (k : Int) (ls : List Ln), ds = [.int k, .list (ls.map encP1)] ∧ ls.length ≤ big ∧ o = .rt (.tuple [.tuple [.int k, tI (ups ls), tI (deafs ls), .tuple ((edges ls).map encE)], tS (belows ls)])
abbrev N64 : List Str := ["stands", "lines", "edges", "sort", "row"]
theorem sc64 : FnScope N64 ["stands", "lines"] (defScope (top 64)) := ⟨rfl, rfl, rfl, by decide +kernel, rfl, by decide +kernel, by decide +kernel⟩
theorem ok_kind_of (T : Txt P K mg) : DefOk P w K mg base 4 "kind_of" (spD K 2 R_kindof) := by
  refine def_of T (i := 64) (N := N64) (ps := ["stands", "lines"]) (by decide +kernel) sc64 (fun _ _ _ _ _ _ us hl => match us, hl with | [_, _], _ => rfl) ?_
  intro f cdv A outer s H E hr ds o hR hl
  obtain ⟨k, ls, rfl, hz, rfl⟩ := hR
  refine .inl (psd_set (i := 2) (pv_callTy call_to drc_tupL (T_fr T) (pvs_cons (pv_lc (xs := ls) (enc := encP1) (own := [("sort", 3), ("row", 4)]) (T := [3, 4]) (p := fun l => decide (sortS l = "edges")) (f := val) (iv_list (ds := ls.map encP1) (pv_var (i := 1) rfl)) sc64.nd (blkOk_by (N := N64) (sc := defScope (top 64)) (by decide +kernel)) (Nat.le_trans hz big_le) (by decide) (fun l _ _ _ _ _ _ => pgd_tup (pgds_cons (pgd_name (i := 3) sc64.nd) (pgds_cons (pgd_name (i := 4) sc64.nd) pgds_nil))) (fun l _ _ _ _ _ _ => (PB.to (pb_cmp (op_eqP (hu64 hr)) (dr_eq (by simp [PyData.depth])) (pv_var (i := 3) rfl) (pv_gstr (z := "edges") T)) (eqv_str _ _))) (fun l _ _ _ _ _ _ _ => (pv_var (i := 4) rfl))) pvs_nil)) ?_ sc64.nd)
  rw [edges_filter]
  refine PSD.to (psd_ret (pv_tup (pvs_cons (pv_tup (pvs_cons (pv_var (i := 0) rfl) (pvs_cons (pv_call (ok_item_of T) (hr.mono (by decide)) (pvs_cons (pv_var (i := 1) rfl) (pvs_cons (pv_gstr (z := "up") T) pvs_nil)) ⟨ls, _, rfl, hz, rfl⟩) (pvs_cons (pv_call (ok_item_of T) (hr.mono (by decide)) (pvs_cons (pv_var (i := 1) rfl) (pvs_cons (pv_gstr (z := "deaf") T) pvs_nil)) ⟨ls, _, rfl, hz, rfl⟩) (pvs_cons (pv_var (i := 2) rfl) pvs_nil))))) (pvs_cons (pv_call (ok_item_of T) (hr.mono (by decide)) (pvs_cons (pv_var (i := 1) rfl) (pvs_cons (pv_gstr (z := "below") T) pvs_nil)) ⟨ls, _, rfl, hz, rfl⟩) pvs_nil)))) ?_
  rw [itemD_up, itemD_deaf, itemD_below]
end
end Wk
end G9_text
section P1_text
set_option maxRecDepth 100000
set_option maxHeartbeats 2000000
namespace Wk
open PySem
open PySem.Builtin.Str
theorem fold_len (y : Str) : ∀ (ps : List Str) (a : Array Nat), (ps.foldl (fun acc p => acc ++ y.cps ++ p.cps) a).size + 0 = a.size + (ps.map fun p => y.length + p.length).sum
  | [], a => by simp
  | p :: ps, a => by
    rw [List.foldl_cons, fold_len y ps, List.map_cons, List.sum_cons, Array.size_append, Array.size_append]
    show a.size + y.cps.size + p.cps.size + _ = a.size + (y.cps.size + p.cps.size + _)
    omega
theorem glued_len (y : Str) (p : Str) (ps : List Str) : (glued y (p :: ps)).length = p.length + (ps.map fun q => y.length + q.length).sum := by
  have := fold_len y ps p.cps
  unfold glued
  show ((((p :: ps).drop 1).foldl (fun acc p => acc ++ y.cps ++ p.cps) ((p :: ps).headD Str.empty).cps)).size = p.cps.size + _
  rw [List.drop_one, List.tail_cons, List.headD_cons]
  omega
theorem sum_add (k : Nat) : ∀ ps : List Str, (ps.map fun q => k + q.length).sum = (ps.map (·.length)).sum + ps.length * k
  | [] => by simp
  | p :: ps => by
    rw [List.map_cons, List.sum_cons, sum_add k ps, List.map_cons, List.sum_cons, List.length_cons, Nat.succ_mul]
    omega
theorem join_len (y : Str) (ps : List Str) (h : ps ≠ []) : (Txt.join y ps).length + y.length = (ps.map (·.length)).sum + ps.length * y.length := by
  cases ps with
  | nil => exact absurd rfl h
  | cons p ps =>
    show (glued y (p :: ps)).length + y.length = _
    rw [glued_len, sum_add, List.map_cons, List.sum_cons, List.length_cons, Nat.succ_mul]
    omega
theorem join_split (x y : Str) : Txt.join y (Txt.split x y) = x := by
  unfold Txt.split
  split
  · rfl
  · split
    · rfl
    · exact StrLaws.glued_between_self x y _
theorem split_ne (x y : Str) : Txt.split x y ≠ [] := by
  unfold Txt.split
  split
  · simp
  · split
    · simp
    · intro e
      have := congrArg List.length e
      rw [length_partsBetween] at this
      simp at this
theorem split_sum (x : Str) (c : Nat) : ((Txt.split x ⟨#[c]⟩).map (·.length)).sum + (Txt.split x ⟨#[c]⟩).length = x.length + 1 := by
  have h := join_len ⟨#[c]⟩ _ (split_ne x ⟨#[c]⟩)
  rw [join_split] at h
  have e : (⟨#[c]⟩ : Str).length = 1 := rfl
  rw [e, Nat.mul_one] at h
  exact h.symm
theorem le_sum {l : List Str} {w : Str} (h : w ∈ l) : w.length ≤ (l.map (·.length)).sum := by
  induction l with
  | nil => cases h
  | cons a r ih =>
    rw [List.map_cons, List.sum_cons]
    rcases List.mem_cons.mp h with rfl | h
    · omega
    · have := ih h
      omega
theorem split_fit (x : Str) (c : Nat) : (Txt.split x ⟨#[c]⟩).length ≤ x.length + 1 ∧ (∀ w ∈ Txt.split x ⟨#[c]⟩, w.length ≤ x.length) ∧ Txt.split x ⟨#[c]⟩ ≠ [] := by
  have h := split_sum x c
  have hn := split_ne x ⟨#[c]⟩
  refine ⟨by omega, fun w hw => ?_, hn⟩
  have := le_sum hw
  have hl : 1 ≤ (Txt.split x ⟨#[c]⟩).length := List.length_pos_iff.mpr hn
  omega
end Wk
end P1_text
section G10_text
set_option maxRecDepth 100000
set_option maxHeartbeats 2000000
namespace Wk
open PySem PySem.Spec PyProof.Rows L2 DL
open PySem.W (alike dataLt)
section
variable {P : Program} {w : World} {K : PySem.W.Frag} {mg : Str → Option Value} {base : Heap}
def encB (b : Blk) : PyData := .tuple [.str b.name, .int b.k, .list (b.lines.map encP1)]
/-- the blocks as they grow: the last one's pair and its rows are the def's own -/
def Bl (K : PySem.W.Frag) (H0 G H : Hp) (a : Addr) (bs : List Blk) : Prop := G a = none ∧ H0 a = none ∧ ((bs = [] ∧ H a = some (.lst [])) ∨ ∃ (init : List Blk) (b : Blk) (vs : List V) (t l : Addr) (ws : List V), bs = init ++ [b] ∧ H a = some (.lst (vs ++ [.ref t])) ∧ DpAll K G vs (init.map encB) ∧
  H t = some (.tup [.str b.name, .int b.k, .ref l]) ∧ H l = some (.lst ws) ∧ DpAll K G ws (b.lines.map encP1) ∧ G t = none ∧ G l = none ∧ H0 t = none ∧ H0 l = none ∧ a ≠ l)
section
variable {H0 G H G2 H2 : Hp} {a : Addr} {bs : List Blk}
theorem Bl.gr (h : Bl K H0 G H a bs) (g : Gr G H G2 H2) : Bl K H0 G2 H2 a bs := by
  obtain ⟨h1, h2, h3 | ⟨init, b, vs, t, l, ws, e, ha, hv, ht, hl, hw, gt, gl, h0t, h0l, al⟩⟩ := h
  · obtain ⟨e1, e2⟩ := Gr.own g h3.2 h1
    exact ⟨e2, h2, .inl ⟨h3.1, e1⟩⟩
  · obtain ⟨e1, e2⟩ := Gr.own g ha h1
    obtain ⟨e3, e4⟩ := Gr.own g ht gt
    obtain ⟨e5, e6⟩ := Gr.own g hl gl
    exact ⟨e2, h2, .inr ⟨init, b, vs, t, l, ws, e, e1, DpAll.same g.gg hv, e3, e5, DpAll.same g.gg hw, e4, e6, h0t, h0l, al⟩⟩
/-- seen as data -/
theorem Bl.snap (h : Bl K H0 G H a bs) (sub : Same G H) : ∃ G', Same G G' ∧ Same G' H ∧ Dp K G' (.ref a) (.list (bs.map encB)) ∧ ∀ c, H0 c ≠ none → G' c = G c := by
  obtain ⟨h1, h2, h3 | ⟨init, b, vs, t, l, ws, e, ha, hv, ht, hl, hw, gt, gl, h0t, h0l, al⟩⟩ := h
  · obtain ⟨rfl, h4⟩ := h3
    refine ⟨L2.upd G a (.lst []), Same.upd h1, fun c o hc => ?_, .lst (SqL.of upd_same) .nil, fun c hc => upd_ne fun z => hc (by rw [z]; exact h2)⟩
    by_cases hca : c = a
    · rw [hca, upd_same] at hc
      rw [hca, h4]
      exact hc
    · rw [upd_ne hca] at hc
      exact sub c o hc
  · have hta : t ≠ a := fun z => by rw [z, ha] at ht; cases ht
    have htl : t ≠ l := fun z => by rw [z, hl] at ht; cases ht
    subst e
    have s1 : Same G (L2.upd G l (.lst ws)) := Same.upd gl
    have g1t : L2.upd G l (.lst ws) t = none := by rw [upd_ne htl]; exact gt
    have s2 : Same (L2.upd G l (.lst ws)) (L2.upd (L2.upd G l (.lst ws)) t (.tup [.str b.name, .int b.k, .ref l])) := Same.upd g1t
    have g2a : L2.upd (L2.upd G l (.lst ws)) t (.tup [.str b.name, .int b.k, .ref l]) a = none := by rw [upd_ne (Ne.symm hta), upd_ne al]; exact h1
    have s3 : Same (L2.upd (L2.upd G l (.lst ws)) t (.tup [.str b.name, .int b.k, .ref l])) (L2.upd (L2.upd (L2.upd G l (.lst ws)) t (.tup [.str b.name, .int b.k, .ref l])) a (.lst (vs ++ [.ref t]))) := Same.upd g2a
    refine ⟨_, s1.trans (s2.trans s3), fun c o hc => ?_, .lst (SqL.of upd_same) ?_, fun c hc => ?_⟩
    · by_cases hca : c = a
      · rw [hca, upd_same] at hc
        rw [hca, ha]
        exact hc
      · rw [upd_ne hca] at hc
        by_cases hct : c = t
        · rw [hct, upd_same] at hc
          rw [hct, ht]
          exact hc
        · rw [upd_ne hct] at hc
          by_cases hcl : c = l
          · rw [hcl, upd_same] at hc
            rw [hcl, hl]
            exact hc
          · rw [upd_ne hcl] at hc
            exact sub c o hc
    · rw [List.map_append]
      refine DpAll.app (DpAll.same (s1.trans (s2.trans s3)) hv) (.cons (.tup (SqT.of (by rw [upd_ne hta]; exact upd_same)) ?_) .nil)
      refine .cons (.str _) (.cons (.int _) (.cons (.lst (SqL.of (by rw [upd_ne (Ne.symm al), upd_ne (Ne.symm htl)]; exact upd_same)) (DpAll.same (s1.trans (s2.trans s3)) hw)) .nil))
    · rw [upd_ne fun z => hc (by rw [z]; exact h2), upd_ne fun z => hc (by rw [z]; exact h0t), upd_ne fun z => hc (by rw [z]; exact h0l)]
theorem Bl.len (h : Bl K H0 G H a bs) : ∃ xs, H a = some (.lst xs) ∧ xs.length = bs.length := by
  obtain ⟨h1, h2, h3 | ⟨init, b, vs, t, l, ws, e, ha, hv, ht, hl, hw, gt, gl, h0t, h0l, al⟩⟩ := h
  · exact ⟨[], h3.2, by rw [h3.1] <;> rfl⟩
  · refine ⟨_, ha, ?_⟩
    have := DpAll.length hv
    rw [e, List.length_append, List.length_append, this, List.length_map] <;> rfl
theorem sub_upd {G H : Hp} {a : Addr} {o : HO} (s : Same G H) (n : G a = none) : Same G (L2.upd H a o) := fun c u e => by
  rw [upd_ne (ne_of_none e n)]
  exact s c u e
/-- a new block at the end -/
theorem Bl.push {G0 : Hp} {l' t' : Addr} {n : Str} {k : Int} {xs : List V} (h : Bl K H0 G H a bs) (g : Gr G0 H0 G H) (hx : H a = some (.lst xs)) (hl' : H l' = none) (ht' : H t' = none) (hlt : t' ≠ l') :
    ∃ G', Same G G' ∧ Gr G0 H0 G' (L2.upd (L2.upd (L2.upd H l' (.lst [])) t' (.tup [.str n, .int k, .ref l'])) a (.lst (xs ++ [.ref t']))) ∧ Bl K H0 G' (L2.upd (L2.upd (L2.upd H l' (.lst [])) t' (.tup [.str n, .int k, .ref l'])) a (.lst (xs ++ [.ref t']))) a (bs ++ [⟨n, k, []⟩]) := by
  have hal : a ≠ l' := fun z => by rw [z, hl'] at hx; cases hx
  have hat : a ≠ t' := fun z => by rw [z, ht'] at hx; cases hx
  have gl' := L2.Same.free g.sub hl'
  have gt' := L2.Same.free g.sub ht'
  have h0l' := L2.Same.free g.hh hl'
  have h0t' := L2.Same.free g.hh ht'
  have Ha : L2.upd (L2.upd (L2.upd H l' (.lst [])) t' (.tup [.str n, .int k, .ref l'])) a (.lst (xs ++ [.ref t'])) a = some (.lst (xs ++ [.ref t'])) := upd_same
  have Ht : L2.upd (L2.upd (L2.upd H l' (.lst [])) t' (.tup [.str n, .int k, .ref l'])) a (.lst (xs ++ [.ref t'])) t' = some (.tup [.str n, .int k, .ref l']) := by rw [upd_ne (Ne.symm hat)]; exact upd_same
  have Hl : L2.upd (L2.upd (L2.upd H l' (.lst [])) t' (.tup [.str n, .int k, .ref l'])) a (.lst (xs ++ [.ref t'])) l' = some (.lst []) := by rw [upd_ne (Ne.symm hal), upd_ne (Ne.symm hlt)]; exact upd_same
  obtain ⟨h1, h2, h3⟩ := h
  have hh : Same H0 (L2.upd (L2.upd (L2.upd H l' (.lst [])) t' (.tup [.str n, .int k, .ref l'])) a (.lst (xs ++ [.ref t']))) := sub_upd (sub_upd (sub_upd g.hh h0l') h0t') h2
  rcases h3 with h3 | ⟨init, b, vs, t, l, ws, e, ha, hv, ht, hl, hw, gt, gl, h0t, h0l, al⟩
  · obtain ⟨rfl, h4⟩ := h3
    have ex : xs = [] := by
      rw [h4] at hx
      exact (HO.lst.inj (Option.some.inj hx)).symm
    subst ex
    exact ⟨G, L2.Same.refl G, ⟨sub_upd (sub_upd (sub_upd g.sub gl') gt') h1, g.gg, hh, g.new⟩, h1, h2, .inr ⟨[], ⟨n, k, []⟩, [], t', l', [], rfl, Ha, .nil, Ht, Hl, .nil, gt', gl', h0t', h0l', hal⟩⟩
  · have ex : xs = vs ++ [.ref t] := by
      rw [ha] at hx
      exact (HO.lst.inj (Option.some.inj hx)).symm
    subst ex
    have hta : t ≠ a := fun z => by rw [z, ha] at ht; cases ht
    have htl : t ≠ l := fun z => by rw [z, hl] at ht; cases ht
    have htt : t ≠ t' := fun z => by rw [z, ht'] at ht; cases ht
    have htl' : t ≠ l' := fun z => by rw [z, hl'] at ht; cases ht
    have hlt' : l ≠ t' := fun z => by rw [z, ht'] at hl; cases hl
    have hll' : l ≠ l' := fun z => by rw [z, hl'] at hl; cases hl
    have s1 : Same G (L2.upd G l (.lst ws)) := Same.upd gl
    have g1t : L2.upd G l (.lst ws) t = none := by rw [upd_ne htl]; exact gt
    have s2 : Same (L2.upd G l (.lst ws)) (L2.upd (L2.upd G l (.lst ws)) t (.tup [.str b.name, .int b.k, .ref l])) := Same.upd g1t
    have gr1 : Gr G0 H0 (L2.upd (L2.upd G l (.lst ws)) t (.tup [.str b.name, .int b.k, .ref l])) H := (g.frz hl gl h0l).frz ht g1t h0t
    have n1 : ∀ c, G c = none → c ≠ l → c ≠ t → L2.upd (L2.upd G l (.lst ws)) t (.tup [.str b.name, .int b.k, .ref l]) c = none := fun c hc h1 h2 => by rw [upd_ne h2, upd_ne h1]; exact hc
    have na := n1 a h1 al (Ne.symm hta)
    have nl := n1 l' gl' (Ne.symm hll') (Ne.symm htl')
    have nt := n1 t' gt' (Ne.symm hlt') (Ne.symm htt)
    refine ⟨_, s1.trans s2, ⟨sub_upd (sub_upd (sub_upd gr1.sub nl) nt) na, gr1.gg, hh, gr1.new⟩, na, h2, .inr ⟨bs, ⟨n, k, []⟩, vs ++ [.ref t], t', l', [], rfl, Ha, ?_, Ht, Hl, .nil, nt, nl, h0t', h0l', hal⟩⟩
    subst e
    rw [List.map_append]
    refine DpAll.app (DpAll.same (s1.trans s2) hv) (.cons (.tup (SqT.of upd_same) ?_) .nil)
    exact .cons (.str _) (.cons (.int _) (.cons (.lst (SqL.of (by rw [upd_ne (Ne.symm htl)]; exact upd_same)) (DpAll.same (s1.trans s2) hw)) .nil))
end
def sD : Option Ln → PyData
  | some (.kind _ _) => .none
  | some l => .str (sortS l)
  | none => .none
def vD : Option Ln → PyData
  | some (.kind _ _) => .none
  | some l => val l
  | none => .none
theorem encP_sv (o : Option Ln) : encP o = .tuple [sD o, vD o] := by
  cases o with
  | none => rfl
  | some l => cases l <;> rfl
theorem stepB_other {bs : List Blk} {l : Ln} (h : notKind l) : stepB bs l = match bs.getLast? with
    | none => none
    | some b => if goesOn b.lines l = true then some (bs.dropLast ++ [{ b with lines := b.lines ++ [l] }]) else none := by
  cases l with
  | kind n k => exact h.elim
  | _ => rfl
theorem enum_at {ds : List PyData} {i : Nat} {y : PyData} (h : (enumD ds)[i]? = some y) : ∃ d, ds[i]? = some d ∧ y = pairD (.int (i : Nat)) d := by
  have hl := (List.getElem?_eq_some_iff.mp h).1
  have hl' : i < ds.length := by simpa [enumD] using hl
  have e := enum_get (ds := ds) (i := i) (d := ds[i]) (by simp [hl'])
  rw [e] at h
  exact ⟨ds[i], by simp [hl'], (Option.some.inj h).symm⟩
theorem Gr.drop {G Gs H G2 H2 : Hp} (s : Same G Gs) (g : Gr Gs H G2 H2) : Gr G H G H2 := ⟨s.trans (g.gg.trans g.sub), L2.Same.refl _, g.hh, fun _ _ => rfl⟩
def outBl (mg : Str → Option Value) : List Blk ⊕ Nat → Out
  | .inl bs => .rt (.list (bs.map encB))
  | .inr n => .ex (ca mg "BadText") "line" (.int (n : Nat))
def R_blocks (mg : Str → Option Value) : List PyData → Out → Prop := fun ds o => ∃ x : Str, ds = [.str x] ∧ x.length + 2 ≤ big ∧ o = outBl mg (readB 1 [] (rowsOf x))
theorem fit_of {x : Str} {c : Nat} (hx : x.length + 2 ≤ big) : Fit (Txt.split x ⟨#[c]⟩) ∧ Txt.split x ⟨#[c]⟩ ≠ [] :=
  ⟨⟨Nat.le_trans (split_fit x c).1 (by omega), fun w hw => Nat.le_trans ((split_fit x c).2.1 w hw) (by omega)⟩, (split_fit x c).2.2⟩
abbrev N62 : List Str := ["text", "blocks", "number", "line", "words", "kind", "sort", "found"]
theorem sc62 : FnScope N62 ["text"] (defScope (top 62)) := ⟨rfl, rfl, rfl, by decide +kernel, rfl, by decide +kernel, by decide +kernel⟩
theorem ok_blocks_in (T : Txt P K mg) : DefOk P w K mg base 10 "blocks_in" (spD K 1 (R_blocks mg)) := by
  refine def_of T (i := 62) (N := N62) (ps := ["text"]) (by decide +kernel) sc62 (fun _ _ _ _ _ _ us hl => match us, hl with | [_], _ => rfl) ?_
  intro f cdv A outer s H E hr ds o hR hl
  obtain ⟨x, rfl, hx, rfl⟩ := hR
  have hxl : x.length + 2 ≤ sizeLine := Nat.le_trans hx big_le
  refine .inl fun σ G0 H0 u0 s0 D q => ?_
  -- blocks = []
  refine ws_setE (i := 1) sc62.nd (wE_of (pe_lst pa_nil) ⟨by decide, fun a ha0 => ?_⟩)
  have hGa : G0 a = none := L2.Same.free u0 ha0
  have gr0 : Gr G0 H0 G0 (L2.upd H0 a (.lst [])) := (Gr.refl u0).mut ha0 hGa
  have sl0 : σ.length = 8 := s0.1
  have s1 : SD K G0 (σ.set 1 (some (.ref a))) [some (.str x), none, none, none, none, none, none, none] := (s0.setN (o := some (.ref a)) 1)
  refine ws_for (ρ := [some (.str x), none, none, none, none, none, none, none]) (iv_enumL (pv_split (pv_var (i := 0) rfl) pv_str rfl hxl) (T_fr T)) gr0.sub s1 cxOwn fun G1 H1 g1 => ?_
  refine ⟨fun i σ' G' H' => ∃ bs : List Blk, Gr G0 H0 G' H' ∧ Same G1 G' ∧ SD K G' σ' [some (.str x), none, none, none, none, none, none, none] ∧ σ'[1]? = some (some (.ref a)) ∧ Bl K H0 G' H' a bs ∧ readB 1 [] (rowsOf x) = readB (i + 1) bs ((rowsOf x).drop i) ∧ (∀ b ∈ bs, b.lines.length ≤ i ∧ ∀ l ∈ b.lines, notKind l) ∧ bs.length ≤ i, ?_, ?_, ?_, ?_⟩
  · refine ⟨[], gr0.trans g1, L2.Same.refl _, s1.gr g1, ?_, Bl.gr ⟨hGa, ha0, .inl ⟨rfl, upd_same⟩⟩ g1, by rw [List.drop_zero], (fun b hb => nomatch hb), Nat.le_refl _⟩
    rw [List.getElem?_set_self (by omega)]
  · rintro i σ' G' H' ⟨bs, g', s', _⟩
    exact ⟨g'.sub, s'⟩
  · rintro i y σ' G' H' v G2 H2 ⟨bs, g', sm, s', h1, hb, hr', hk, hbl⟩ hy g2 hv
    obtain ⟨d, hd, rfl⟩ := enum_at hy
    rw [List.getElem?_map] at hd
    obtain ⟨r, hrr, rfl⟩ : ∃ r, (Txt.split x "\n")[i]? = some r ∧ d = .str r := by
      cases e : (Txt.split x "\n")[i]? with
      | none => rw [e] at hd; cases hd
      | some r => rw [e] at hd; exact ⟨r, rfl, (Option.some.inj hd).symm⟩
    have hrm : r ∈ Txt.split x "\n" := List.mem_of_getElem? hrr
    have hrl : r.length ≤ x.length := (split_fit x 10).2.1 r hrm
    have hil : i < (Txt.split x "\n").length := (List.getElem?_eq_some_iff.mp hrr).1
    have hib : i < big := by
      have e : (Txt.split x "\n").length ≤ x.length + 1 := (split_fit x 10).1
      omega
    have hdrop : (rowsOf x).drop i = Txt.split r " " :: (rowsOf x).drop (i + 1) := by
      have hil' : i < (rowsOf x).length := by simpa [rowsOf] using hil
      rw [List.drop_eq_getElem_cons hil']
      congr 1
      have : (rowsOf x)[i]? = some (Txt.split r " ") := by
        unfold rowsOf
        rw [List.getElem?_map, hrr] <;> rfl
      rw [List.getElem?_eq_getElem hil'] at this
      exact Option.some.inj this
    refine PGD.go (pgd_tup (pgds_cons (pgd_name (i := 2) sc62.nd) (pgds_cons (pgd_name (i := 3) sc62.nd) pgds_nil))) g2.sub (s'.gr g2) hv fun σ2 t2 s2 => ?_
    have h12 : σ2[1]? = some (some (.ref a)) := by rw [t2.2 1 (by decide)]; exact h1
    obtain ⟨hfit, hwne⟩ : Fit (Txt.split r " ") ∧ Txt.split r " " ≠ [] := fit_of (x := r) (c := 32) (by omega)
    have hrl2 : r.length + 2 ≤ sizeLine := Nat.le_trans (by omega : r.length + 2 ≤ big) big_le
    -- words
    refine ws_set (i := 4) g2.sub s2 (pv_split (pv_var (i := 3) rfl) pv_str rfl hrl2) sc62.nd fun v3 G3 H3 g3 k3 s3 => ?_
    have h13 : (σ2.set 4 (some v3))[1]? = some (some (.ref a)) := by rw [List.getElem?_set_ne (by decide)]; exact h12
    -- kind, sort, found
    refine ws_asg g3.sub s3 (pv_tup (pvs_cons (pv_call (ok_kind_in T) (hr.mono (by decide)) (pvs_cons (pv_var (i := 4) rfl) pvs_nil) ⟨Txt.split r " ", rfl, hwne, hfit, rfl⟩) (pvs_cons (pv_call (d := .tuple [sD (lineOf (Txt.split r " ")), vD (lineOf (Txt.split r " "))]) (ok_line_in T) (hr.mono (by decide)) (pvs_cons (pv_var (i := 4) rfl) pvs_nil) ⟨Txt.split r " ", rfl, hwne, hfit, by rw [encP_sv]⟩) pvs_nil))) (pgd_tup (pgds_cons (pgd_name (i := 5) sc62.nd) (pgds_cons (pgd_tup (pgds_cons (pgd_name (i := 6) sc62.nd) (pgds_cons (pgd_name (i := 7) sc62.nd) pgds_nil))) pgds_nil))) fun σ4 G4 H4 g4 t4 s4 => ?_
    have h14 : σ4[1]? = some (some (.ref a)) := by rw [t4.2 1 (by decide)]; exact h13
    have f4 : Gr G0 H0 G4 H4 := g'.trans (g2.trans (g3.trans g4))
    have b4 : Bl K H0 G4 H4 a bs := ((hb.gr g2).gr g3).gr g4
    have m4 : Same G1 G4 := sm.trans (g2.gg.trans (g3.gg.trans g4.gg))
    rw [hdrop] at hr'
    generalize hlo : lineOf (Txt.split r " ") = lo at s4
    have fin : ∀ (bs' : List Blk) (G9 H9 : Hp) (h : stepB bs ((lo).getD (.up [])) = some bs') (hs : lo ≠ none) (gr : Gr G0 H0 G9 H9) (m9 : Same G4 G9) (b9 : Bl K H0 G9 H9 a bs') (hk' : ∀ b ∈ bs', b.lines.length ≤ i + 1 ∧ ∀ l ∈ b.lines, notKind l) (hl' : bs'.length ≤ i + 1),
        ∃ G4, (fun i σ' G' H' => ∃ bs : List Blk, Gr G0 H0 G' H' ∧ Same G1 G' ∧ SD K G' σ' [some (.str x), none, none, none, none, none, none, none] ∧ σ'[1]? = some (some (.ref a)) ∧ Bl K H0 G' H' a bs ∧ readB 1 [] (rowsOf x) = readB (i + 1) bs ((rowsOf x).drop i) ∧ (∀ b ∈ bs, b.lines.length ≤ i ∧ ∀ l ∈ b.lines, notKind l) ∧ bs.length ≤ i) (i + 1) σ4 G4 H9 := by
      intro bs' G9 H9 h hs gr m9 b9 hk' hl'
      refine ⟨G9, bs', gr, m4.trans m9, (s4.same m9).forget ⟨.inr rfl, .inr rfl, .inl rfl, .inl rfl, .inl rfl, .inl rfl, .inl rfl, .inl rfl, trivial⟩, h14, b9, ?_, hk', hl'⟩
      rw [hr']
      cases lo with
      | none => exact absurd rfl hs
      | some l =>
        have h' : stepB bs l = some bs' := h
        show (match lineOf (Txt.split r " ") with | none => _ | some l => _) = _
        rw [hlo]
        show (match stepB bs l with | none => _ | some bs' => _) = _
        rw [h']
    have badS : ∀ (G9 H9 : Hp) (h : lo = none ∨ ∃ l, lo = some l ∧ stepB bs l = none) (gr : Gr G4 H4 G9 H9) {D' : Ends} (hrt : D'.rt = D.rt) {p p1 p2 p3 pos pos2 : Pos} {jj : Nat},
        wSs (CC P w K mg base N62 "blocks_in" (defScope (top 62)) f cdv A outer s H E) [.Raise (some (.Call (.Name "BadText" p) [.BinOp (.Name "number" p1) .Add (.Constant (.int 1) jj p2) p3] [] pos)) none pos2] D' σ4 H9 := by
      intro G9 H9 h gr D' hrt p p1 p2 p3 pos pos2 jj
      have e : readB 1 [] (rowsOf x) = .inr (i + 1) := by
        rw [hr']
        rcases h with h | ⟨l, h, h'⟩
        · rw [h] at hlo
          show (match lineOf (Txt.split r " ") with | none => _ | some l => _) = _
          rw [hlo]
        · rw [h] at hlo
          show (match lineOf (Txt.split r " ") with | none => _ | some l => _) = _
          rw [hlo]
          show (match stepB bs l with | none => _ | some bs' => _) = _
          rw [h']
      rw [e] at q
      have q2 : KO K E G0 H0 D'.rt (.ex (ca mg "BadText") "line" (.int ((i + 1 : Nat) : Int))) := by
        rw [hrt]
        exact q
      have s9 : SD K G9 σ4 [some (.str x), none, some (.int (i : Nat)), none, none, none, none, none] := (s4.gr gr).forget ⟨.inr rfl, .inr rfl, .inr rfl, .inl rfl, .inl rfl, .inl rfl, .inl rfl, .inl rfl, trivial⟩
      refine PSD.ws (psd_raise (d := .int ((i + 1 : Nat) : Int)) (C := ca mg "BadText") (F := "line") cxTk T.xt.2.choose_spec PySem.OwnX.clsF_line T.xt.1 T.tp (hr.mono (by decide : 1 ≤ _)) (PV.to (pv_bin op_add dr_II (pv_var (i := 2) rfl) pv_int) (congrArg PyData.int (by omega)))) gr.sub s9 (KO.gr (o := .ex (ca mg "BadText") "line" (.int ((i + 1 : Nat) : Int))) (f4.trans gr) q2)
    have hbb : bs.length < big := by omega
    cases lo with
    | none =>
      refine ws_if f4.sub s4 (pb_w (pbw_and (k1 := false) (k2 := false) (PB.to (pb_cmp op_notNn dr_notN (pv_var (i := 5) rfl) pv_non) rfl) fun q => nomatch q)) (fun q => nomatch q) fun _ G5 H5 g5 => ?_
      refine ws_if g5.sub (s4.gr g5) (pb_w (pbw_and (k1 := false) (k2 := false) (PB.to (pb_cmp op_notNn dr_notN (pv_var (i := 6) rfl) pv_non) rfl) fun q => nomatch q)) (fun q => nomatch q) fun _ G6 H6 g6 => ?_
      exact badS G6 H6 (.inl rfl) (g5.trans g6) (by rfl)
    | some ln =>
    by_cases hk0 : notKind ln
    case neg =>
      obtain ⟨n, k, rfl⟩ : ∃ n k, ln = .kind n k := by
        cases ln with
        | kind n k => exact ⟨n, k, rfl⟩
        | _ => exact absurd trivial hk0
      obtain ⟨Gs, m1, m2, m3, m5⟩ := Bl.snap b4 f4.sub
      have ss := (s4.same m1).know h14 m3
      have hgl : (bs.map encB).isEmpty = bs.isEmpty := isEmpty_map _ _
      cases hg : bs.getLast? with
      | none =>
        have hn : bs = [] := List.getLast?_eq_none_iff.mp hg
        refine ws_if m2 ss (PB.to (pb_w (pbw_and (k1 := true) (PB.to (pb_cmp op_notNn dr_notN (pv_var (i := 5) rfl) pv_non) rfl) fun _ => pbw_and1 (pb_w (pbw_or (k1 := true) (k2 := true) (PB.to (pb_cmp (op_eqP (hu64 hr)) (dr_eq (min_nilL _)) (pv_var (i := 1) rfl) (pv_lst pvs_nil)) (by rw [eqv_nilL, hgl, hn] <;> rfl)) fun q => nomatch q)))) (b' := true) rfl) (fun _ G6 H6 g6 => ?_) fun q => nomatch q
        have hst : stepB bs (.kind n k) = some (bs ++ [⟨n, k, []⟩]) := by
          unfold stepB
          rw [hg, hn] <;> rfl
        have hd6 := Gr.drop m1 g6
        have b6 := b4.gr hd6
        have s6 := s4.gr hd6
        have f6 := f4.trans hd6
        obtain ⟨xs, hxa, hxl2⟩ := Bl.len b6
        refine ws_exprE (wE_of (pe_bm PySem.F.plainAttrs_list PySem.F.slot_list_append PySem.F.type_list_append mt_append (L2.pv 1) (pa_cons (pe_tup (pa_cons pe_w (pa_cons pe_w (pa_cons (pe_lst pa_nil) pa_nil)))) pa_nil)) ?_)
        refine ⟨.ref a, h14, .inl ⟨rfl, xs, SqL.of hxa⟩, ?_⟩
        refine PV.go (pv_ixT (i := 0) (pv_var (i := 5) rfl) pv_int rfl) f6.sub s6 fun v7 G7 H7 g7 k7 => ?_
        refine PV.go (pv_ixT (i := 1) (pv_var (i := 5) rfl) pv_int rfl) g7.sub (s6.gr g7) fun v8 G8 H8 g8 k8 => ?_
        have e7 := Dp.strE k7
        have e8 := Dp.intE k8
        subst e7 e8
        refine ⟨by decide, fun l' hl' => ⟨by show 3 ≤ sizeLine; decide, fun t' ht' => ?_⟩⟩
        have hlt' : t' ≠ l' := fun z => by rw [z, upd_same] at ht'; cases ht'
        rw [upd_ne hlt'] at ht'
        have g78 := g7.trans g8
        have ha8 := g78.hh _ _ hxa
        have hal : a ≠ l' := fun z => by rw [z, hl'] at ha8; cases ha8
        have hat : a ≠ t' := fun z => by rw [z, ht'] at ha8; cases ha8
        refine ⟨a, xs, .ref t', rfl, rfl, by rw [upd_ne hat, upd_ne hal]; exact ha8, by have := big_le; rw [hxl2]; omega, ws_nil (ws_nil ?_)⟩
        obtain ⟨G9, q1, q2, q3⟩ := Bl.push (n := n) (k := k) (b6.gr g78) (f6.trans g78) ha8 hl' ht' hlt'
        refine fin _ G9 _ hst (fun z => nomatch z) q2 (hd6.gg.trans (g78.gg.trans q1)) q3 ?_ ?_
        · intro b hb'
          rcases List.mem_append.mp hb' with hb' | hb'
          · exact ⟨Nat.le_succ_of_le (hk b hb').1, (hk b hb').2⟩
          · have eb := List.mem_singleton.mp hb'
            subst eb
            exact ⟨Nat.zero_le _, fun l hl => nomatch hl⟩
        · simp only [List.length_append, List.length_singleton]
          omega
      | some b =>
        have hm : b ∈ bs := List.mem_of_getLast? hg
        have hne : bs.isEmpty = false := by
          cases bs with
          | nil => cases hm
          | cons _ _ => rfl
        have hla : (bs.map encB).getLast? = some (encB b) := by rw [List.getLast?_map, hg] <;> rfl
        refine ws_if (k := dataLt (.str b.name) (.str n)) m2 ss (PB.to (pb_w (pbw_and (k1 := true) (PB.to (pb_cmp op_notNn dr_notN (pv_var (i := 5) rfl) pv_non) rfl) fun _ => pbw_and1 (pb_w (pbw_or (k1 := false) (PB.to (pb_cmp (op_eqP (hu64 hr)) (dr_eq (min_nilL _)) (pv_var (i := 1) rfl) (pv_lst pvs_nil)) (by rw [eqv_nilL, hgl, hne] <;> rfl)) fun _ => pbw_or1 (pb_cmp (op_ltD (hu64 hr)) (dr_lt (d1 := .str b.name) (d2 := .str n) (by simp [alike]) (fun z => nomatch z) (by simp [PyData.depth])) (pv_ixT (i := 0) (pv_ixL (i := -1) (d := encB b) (pv_var (i := 1) rfl) (pv_neg pv_int) (atI_last hla)) pv_int rfl) (pv_ixT (i := 0) (pv_var (i := 5) rfl) pv_int rfl)))))) (by simp)) (fun hlt G6 H6 g6 => ?_) fun hlt G6 H6 g6 => ?_
        · have hst : stepB bs (.kind n k) = some (bs ++ [⟨n, k, []⟩]) := by
            unfold stepB
            rw [hg]
            show (if dataLt (.str b.name) (.str n) = true then _ else _) = _
            rw [hlt, if_pos rfl]
          have hd6 := Gr.drop m1 g6
          have b6 := b4.gr hd6
          have s6 := s4.gr hd6
          have f6 := f4.trans hd6
          obtain ⟨xs, hxa, hxl2⟩ := Bl.len b6
          refine ws_exprE (wE_of (pe_bm PySem.F.plainAttrs_list PySem.F.slot_list_append PySem.F.type_list_append mt_append (L2.pv 1) (pa_cons (pe_tup (pa_cons pe_w (pa_cons pe_w (pa_cons (pe_lst pa_nil) pa_nil)))) pa_nil)) ?_)
          refine ⟨.ref a, h14, .inl ⟨rfl, xs, SqL.of hxa⟩, ?_⟩
          refine PV.go (pv_ixT (i := 0) (pv_var (i := 5) rfl) pv_int rfl) f6.sub s6 fun v7 G7 H7 g7 k7 => ?_
          refine PV.go (pv_ixT (i := 1) (pv_var (i := 5) rfl) pv_int rfl) g7.sub (s6.gr g7) fun v8 G8 H8 g8 k8 => ?_
          have e7 := Dp.strE k7
          have e8 := Dp.intE k8
          subst e7 e8
          refine ⟨by decide, fun l' hl' => ⟨by show 3 ≤ sizeLine; decide, fun t' ht' => ?_⟩⟩
          have hlt' : t' ≠ l' := fun z => by rw [z, upd_same] at ht'; cases ht'
          rw [upd_ne hlt'] at ht'
          have g78 := g7.trans g8
          have ha8 := g78.hh _ _ hxa
          have hal : a ≠ l' := fun z => by rw [z, hl'] at ha8; cases ha8
          have hat : a ≠ t' := fun z => by rw [z, ht'] at ha8; cases ha8
          refine ⟨a, xs, .ref t', rfl, rfl, by rw [upd_ne hat, upd_ne hal]; exact ha8, by have := big_le; rw [hxl2]; omega, ws_nil (ws_nil ?_)⟩
          obtain ⟨G9, q1, q2, q3⟩ := Bl.push (n := n) (k := k) (b6.gr g78) (f6.trans g78) ha8 hl' ht' hlt'
          refine fin _ G9 _ hst (fun z => nomatch z) q2 (hd6.gg.trans (g78.gg.trans q1)) q3 ?_ ?_
          · intro b hb'
            rcases List.mem_append.mp hb' with hb' | hb'
            · exact ⟨Nat.le_succ_of_le (hk b hb').1, (hk b hb').2⟩
            · have eb := List.mem_singleton.mp hb'
              subst eb
              exact ⟨Nat.zero_le _, fun l hl => nomatch hl⟩
          · simp only [List.length_append, List.length_singleton]
            omega
        · refine ws_if (f4.trans (Gr.drop m1 g6)).sub (s4.gr (Gr.drop m1 g6)) (pb_w (pbw_and (k1 := false) (k2 := false) (PB.to (pb_cmp op_notNn dr_notN (pv_var (i := 6) rfl) pv_non) rfl) fun q => nomatch q)) (fun q => nomatch q) fun _ G7 H7 g7 => ?_
          exact badS G7 H7 (.inr ⟨_, rfl, by unfold stepB; rw [hg]; show (if dataLt (.str b.name) (.str n) = true then _ else _) = _; rw [hlt]; rfl⟩) ((Gr.drop m1 g6).trans g7) (by rfl)
    case pos =>
      have e1 : encK (some ln) = .none := by
        cases ln with
        | kind n k => exact hk0.elim
        | _ => rfl
      have e2 : sD (some ln) = .str (sortS ln) := by
        cases ln with
        | kind n k => exact hk0.elim
        | _ => rfl
      have e3 : vD (some ln) = val ln := by
        cases ln with
        | kind n k => exact hk0.elim
        | _ => rfl
      rw [e1, e2, e3] at s4
      refine ws_if f4.sub s4 (pb_w (pbw_and (k1 := false) (k2 := false) (PB.to (pb_cmp op_notNn dr_notN (pv_var (i := 5) rfl) pv_non) rfl) fun q => nomatch q)) (fun q => nomatch q) fun _ G5 H5 g5 => ?_
      have b5 := b4.gr g5
      have s5 := s4.gr g5
      have f5 := f4.trans g5
      obtain ⟨Gs, m1, m2, m3, m6⟩ := Bl.snap b5 f5.sub
      have ss := (s5.same m1).know h14 m3
      have hgl : (bs.map encB).isEmpty = bs.isEmpty := isEmpty_map _ _
      cases hg : bs.getLast? with
      | none =>
        have hn : bs = [] := List.getLast?_eq_none_iff.mp hg
        refine ws_if m2 ss (pb_w (pbw_and (k1 := true) (k2 := false) (PB.to (pb_cmp op_notNn dr_notN (pv_var (i := 6) rfl) pv_non) rfl) fun _ => pbw_and (k1 := false) (k2 := false) (PB.to (pb_cmp (op_neP (hu64 hr)) (dr_ne (min_nilL _)) (pv_var (i := 1) rfl) (pv_lst pvs_nil)) (by rw [eqv_nilL, hgl, hn] <;> rfl)) fun q => nomatch q)) (fun q => nomatch q) fun _ G6 H6 g6 => ?_
        exact badS G5 H6 (.inr ⟨ln, rfl, by rw [stepB_other hk0, hg]⟩) (g5.trans (Gr.drop m1 g6)) (by rfl)
      | some b =>
        have hm : b ∈ bs := List.mem_of_getLast? hg
        have hne : bs.isEmpty = false := by
          cases bs with
          | nil => cases hm
          | cons _ _ => rfl
        have hla : (bs.map encB).getLast? = some (encB b) := by rw [List.getLast?_map, hg] <;> rfl
        refine ws_if (k := goesOn b.lines ln) m2 ss (PB.to (pb_w (pbw_and (k1 := true) (PB.to (pb_cmp op_notNn dr_notN (pv_var (i := 6) rfl) pv_non) rfl) fun _ => pbw_and (k1 := true) (PB.to (pb_cmp (op_neP (hu64 hr)) (dr_ne (min_nilL _)) (pv_var (i := 1) rfl) (pv_lst pvs_nil)) (by rw [eqv_nilL, hgl, hne] <;> rfl)) fun _ => pbw_and1 (pb_val (pv_call (ok_goes_on T) (hr.mono (by decide)) (pvs_cons (pv_ixT (i := 2) (pv_ixL (i := -1) (d := encB b) (pv_var (i := 1) rfl) (pv_neg pv_int) (atI_last hla)) pv_int rfl) (pvs_cons (pv_var (i := 6) rfl) (pvs_cons (pv_var (i := 7) rfl) pvs_nil))) ⟨b.lines, ln, rfl, hk0, (hk b hm).2, rfl⟩)))) (by simp)) (fun hgo G6 H6 g6 => ?_) fun hgo G6 H6 g6 => ?_
        · have hd6 := Gr.drop m1 g6
          obtain ⟨c1, c2, c3 | ⟨init, b', vs, t, l, ws, e, ha, hv', ht, hll, hw, gt, gl, h0t, h0l, al⟩⟩ := b5.gr hd6
          · rw [c3.1] at hm
            cases hm
          · have eb : b' = b := by
              rw [e, List.getLast?_concat] at hg
              exact Option.some.inj hg
            subst eb
            have s6 := s5.gr hd6
            have f6 := f5.trans hd6
            refine ws_exprE (wE_of (pe_bm PySem.F.plainAttrs_list PySem.F.slot_list_append PySem.F.type_list_append mt_append (pe_ix ix_tup (pe_ix ix_list (L2.pv 1) (pe_un un_neg pe_int) (by exact fun _ _ => rfl)) pe_int (by exact fun _ _ => rfl)) (pa_cons pe_w pa_nil)) ?_)
            refine ⟨.ref a, h14, 1, rfl, a, vs ++ [.ref t], -1, .ref t, rfl, rfl, SqL.of ha, atI_last (by rw [List.getLast?_concat]), t, [.str b'.name, .int b'.k, .ref l], 2, .ref l, rfl, rfl, SqT.of ht, atI_nat (i := 2) rfl, .inl ⟨rfl, ws, SqL.of hll⟩, ?_⟩
            refine PV.go (pv_tup (pvs_cons (pv_var (i := 6) rfl) (pvs_cons (pv_var (i := 7) rfl) pvs_nil))) f6.sub s6 fun v7 G7 H7 g7 k7 => ?_
            obtain ⟨e1, e2⟩ := Gr.own g7 ha c1
            obtain ⟨e3, e4⟩ := Gr.own g7 ht gt
            obtain ⟨e5, e6⟩ := Gr.own g7 hll gl
            have hwl := DpAll.length hw
            have hbl2 := (hk b' hm).1
            have hta : t ≠ l := fun z => by rw [z, hll] at ht; cases ht
            refine ⟨l, ws, v7, rfl, rfl, e5, by have := big_le; rw [hwl, List.length_map]; omega, ws_nil (ws_nil (ws_nil ?_))⟩
            refine fin (init ++ [{ b' with lines := b'.lines ++ [ln] }]) G7 _ (by show stepB bs ln = _; rw [stepB_other hk0, hg]; show (if goesOn b'.lines ln = true then _ else _) = _; rw [hgo, if_pos rfl, e, List.dropLast_concat]) (fun z => nomatch z) ((f6.trans g7).mut h0l e6) (g5.gg.trans (hd6.gg.trans g7.gg)) ⟨e2, c2, .inr ⟨init, { b' with lines := b'.lines ++ [ln] }, vs, t, l, ws ++ [v7], rfl, by rw [upd_ne al]; exact e1, DpAll.same g7.gg hv', by rw [upd_ne hta]; exact e3, upd_same, by rw [List.map_append]; exact DpAll.app (DpAll.same g7.gg hw) (.cons k7 .nil), e4, e6, h0t, h0l, al⟩⟩ ?_ ?_
            · intro b hb'
              rcases List.mem_append.mp hb' with hb' | hb'
              · have := hk b (by rw [e]; exact List.mem_append_left _ hb')
                exact ⟨Nat.le_succ_of_le this.1, this.2⟩
              · have eb := List.mem_singleton.mp hb'
                subst eb
                refine ⟨by simp only [List.length_append, List.length_singleton]; omega, fun l hl => ?_⟩
                rcases List.mem_append.mp hl with hl | hl
                · exact (hk b' hm).2 l hl
                · rw [List.mem_singleton.mp hl]
                  exact hk0
            · have : (init ++ [b']).length = (init ++ [{ b' with lines := b'.lines ++ [ln] }]).length := by simp
              rw [← this, ← e]
              omega
        · exact badS G5 H6 (.inr ⟨ln, rfl, by rw [stepB_other hk0, hg]; show (if goesOn b.lines ln = true then _ else _) = _; rw [hgo]; rfl⟩) (g5.trans (Gr.drop m1 g6)) (by rfl)
  · rintro σ' G' H' ⟨bs, g', sm, s', h1, hb, hr', hk, hbl⟩
    obtain ⟨Gs, m1, m2, m3, m4⟩ := Bl.snap hb g'.sub
    have e : readB 1 [] (rowsOf x) = .inl bs := by
      rw [hr']
      have : (enumD ((Txt.split x "
").map PyData.str)).length = (rowsOf x).length := by simp [enumD, rowsOf]
      rw [this, List.drop_length]
      rfl
    rw [e] at q
    exact ws_retE (wE_of (L2.pv 1) ⟨.ref a, h1, q (.ref a) Gs H' ⟨m2, g'.gg.trans m1, g'.hh, fun c hc => (m4 c hc).trans (g'.new c hc)⟩ m3⟩)
end
end Wk
end G10_text
section P2_text
set_option maxRecDepth 100000
set_option maxHeartbeats 2000000
namespace Wk
open PySem
def LnFit : Ln → Prop
  | .kind n _ => n.length ≤ big
  | .up xs => xs.length ≤ big
  | .deaf xs => xs.length ≤ big
  | .edge x => x.asks.length ≤ big
  | .below xs => xs.length ≤ big
theorem lineOf_fit {ws : List Str} {l : Ln} (f : Fit ws) (h : lineOf ws = some l) : LnFit l := by
  match ws, f, h with
  | w0 :: r, f, h =>
    have hr : r.length ≤ big := f.tl.len
    unfold lineOf at h
    simp only [] at h
    split at h
    · cases hk : kindOf r with
      | none => rw [hk] at h; cases h
      | some q =>
        rw [hk] at h
        have e : Ln.kind q.1 q.2 = l := Option.some.inj h
        subst e
        unfold kindOf at hk
        split at hk
        · rename_i a b
          split at hk
          · cases hn : numIn b with
            | none => rw [hn] at hk; cases hk
            | some k =>
              rw [hn] at hk
              have e : (a, k) = q := Option.some.inj hk
              subst e
              exact f.all a (by simp)
          · cases hk
        · cases hk
    · have nums : ∀ xs, numsOf r = some xs → xs.length ≤ big := fun xs hx => by
        unfold numsOf at hx
        cases hm : numsL r with
        | none => rw [hm] at hx; cases hx
        | some ys =>
          rw [hm] at hx
          simp only [] at hx
          split at hx
          · have e : ys = xs := Option.some.inj hx
            subst e
            rw [numsL_len hm]
            exact hr
          · cases hx
      split at h
      · cases hn : numsOf r with
        | none => rw [hn] at h; cases h
        | some xs =>
          rw [hn] at h
          have e : Ln.up xs = l := Option.some.inj h
          subst e
          exact nums xs hn
      · split at h
        · cases hn : numsOf r with
          | none => rw [hn] at h; cases h
          | some xs =>
            rw [hn] at h
            have e : Ln.deaf xs = l := Option.some.inj h
            subst e
            exact nums xs hn
        · split at h
          · cases hn : namesOf r with
            | none => rw [hn] at h; cases h
            | some xs =>
              rw [hn] at h
              have e : Ln.below xs = l := Option.some.inj h
              subst e
              unfold namesOf at hn
              split at hn
              · have e : r = xs := Option.some.inj hn
                subst e
                exact hr
              · cases hn
          · cases hn : edgeOf (w0 :: r) with
            | none => rw [hn] at h; cases h
            | some x =>
              rw [hn] at h
              have e : Ln.edge x = l := Option.some.inj h
              subst e
              unfold edgeOf at hn
              split at hn
              · rename_i a b c d e2
                split at hn
                · split at hn
                  · have e3 := Option.some.inj hn
                    subst e3
                    show d.length ≤ big
                    have hl := congrArg List.length e2
                    have hf := f.len
                    simp only [List.length_cons] at hl hf
                    omega
                  · cases hn
                · cases hn
              · cases hn
/-- blocks of n rows at most, each row fit -/
def BsFit (n : Nat) (bs : List Blk) : Prop := bs.length ≤ n ∧ ∀ b ∈ bs, b.name.length ≤ big ∧ b.lines.length ≤ n ∧ ∀ l ∈ b.lines, LnFit l
theorem stepB_fit {n : Nat} {bs bs' : List Blk} {l : Ln} (h : BsFit n bs) (hl : LnFit l) (e : stepB bs l = some bs') : BsFit (n + 1) bs' := by
  have add : ∀ (nm : Str) (k : Int), nm.length ≤ big → BsFit (n + 1) (bs ++ [⟨nm, k, []⟩]) := fun nm k hn => by
    refine ⟨by simp only [List.length_append, List.length_singleton]; have := h.1; omega, fun b hb => ?_⟩
    rcases List.mem_append.mp hb with hb | hb
    · obtain ⟨h1, h2, h3⟩ := h.2 b hb
      exact ⟨h1, Nat.le_succ_of_le h2, h3⟩
    · have e := List.mem_singleton.mp hb
      subst e
      exact ⟨hn, Nat.zero_le _, fun l hl => nomatch hl⟩
  by_cases hk : notKind l
  · rw [stepB_other hk] at e
    cases hg : bs.getLast? with
    | none => rw [hg] at e; cases e
    | some b =>
      rw [hg] at e
      simp only [] at e
      split at e
      · have e2 := Option.some.inj e
        subst e2
        have hb := List.mem_of_getLast? hg
        obtain ⟨h1, h2, h3⟩ := h.2 b hb
        have hd : bs.dropLast.length = bs.length - 1 := List.length_dropLast
        refine ⟨by simp only [List.length_append, List.length_singleton]; have := h.1; omega, fun b' hb' => ?_⟩
        rcases List.mem_append.mp hb' with hb' | hb'
        · obtain ⟨h1, h2, h3⟩ := h.2 b' ((List.dropLast_sublist bs).subset hb')
          exact ⟨h1, Nat.le_succ_of_le h2, h3⟩
        · have e := List.mem_singleton.mp hb'
          subst e
          refine ⟨h1, by simp only [List.length_append, List.length_singleton]; omega, fun l' hl' => ?_⟩
          rcases List.mem_append.mp hl' with hl' | hl'
          · exact h3 l' hl'
          · rw [List.mem_singleton.mp hl']
            exact hl
      · cases e
  · cases l with
    | kind nm k =>
      unfold stepB at e
      simp only [] at e
      cases hg : bs.getLast? with
      | none =>
        rw [hg] at e
        have hn : bs = [] := List.getLast?_eq_none_iff.mp hg
        have e2 := Option.some.inj e
        subst e2
        have := add nm k hl
        rw [hn] at this
        exact this
      | some b =>
        rw [hg] at e
        simp only [] at e
        split at e
        · have e2 := Option.some.inj e
          subst e2
          exact add nm k hl
        · cases e
    | _ => exact absurd trivial hk
theorem readB_fit : ∀ {rs : List (List Str)} {n k : Nat} {bs bs' : List Blk}, BsFit n bs → (∀ r ∈ rs, Fit r) → readB k bs rs = .inl bs' → BsFit (n + rs.length) bs'
  | [], n, k, bs, bs', h, _, e => by
    have e2 : bs = bs' := Sum.inl.inj e
    subst e2
    exact h
  | r :: rs, n, k, bs, bs', h, hf, e => by
    unfold readB at e
    cases hl : lineOf r with
    | none => rw [hl] at e; cases e
    | some l =>
      rw [hl] at e
      simp only [] at e
      cases hs : stepB bs l with
      | none => rw [hs] at e; cases e
      | some bs1 =>
        rw [hs] at e
        have := readB_fit (stepB_fit h (lineOf_fit (hf r (by simp)) hl) hs) (fun r hr => hf r (List.mem_cons_of_mem _ hr)) e
        rw [List.length_cons]
        rwa [show n + 1 + rs.length = n + (rs.length + 1) by omega] at this
theorem ups_fit : ∀ {ls : List Ln}, (∀ l ∈ ls, LnFit l) → (ups ls).length ≤ big
  | [], _ => Nat.zero_le _
  | l :: r, h => by
    have h0 := h l (by simp)
    have ih := ups_fit (ls := r) fun l hl => h l (List.mem_cons_of_mem _ hl)
    cases l <;> first | exact ih | exact h0
theorem deafs_fit : ∀ {ls : List Ln}, (∀ l ∈ ls, LnFit l) → (deafs ls).length ≤ big
  | [], _ => Nat.zero_le _
  | l :: r, h => by
    have h0 := h l (by simp)
    have ih := deafs_fit (ls := r) fun l hl => h l (List.mem_cons_of_mem _ hl)
    cases l <;> first | exact ih | exact h0
theorem belows_fit : ∀ {ls : List Ln}, (∀ l ∈ ls, LnFit l) → (belows ls).length ≤ big
  | [], _ => Nat.zero_le _
  | l :: r, h => by
    have h0 := h l (by simp)
    have ih := belows_fit (ls := r) fun l hl => h l (List.mem_cons_of_mem _ hl)
    cases l <;> first | exact ih | exact h0
theorem edges_fit : ∀ {ls : List Ln}, (∀ l ∈ ls, LnFit l) → (edges ls).length ≤ ls.length ∧ ∀ e ∈ edges ls, e.asks.length ≤ big
  | [], _ => ⟨Nat.zero_le _, fun e h => nomatch h⟩
  | l :: r, h => by
    have h0 := h l (by simp)
    obtain ⟨i1, i2⟩ := edges_fit (ls := r) fun l hl => h l (List.mem_cons_of_mem _ hl)
    cases l with
    | edge x =>
      refine ⟨by show (edges r).length + 1 ≤ r.length + 1; omega, fun e he => ?_⟩
      rcases List.mem_cons.mp he with rfl | he
      · exact h0
      · exact i2 e he
    | _ => exact ⟨by show (edges r).length ≤ r.length + 1; omega, i2⟩
theorem text_fit {x : Str} (hx : x.length + 2 ≤ big) {bs : List Blk} (h : readB 1 [] (rowsOf x) = .inl bs) : bs.length ≤ big ∧ (∀ b ∈ bs, b.lines.length ≤ big) ∧ ∀ k ∈ bs.map kdOf, KdFit k := by
  have hs := split_fit x 10
  have f := readB_fit (n := 0) (bs := []) ⟨Nat.zero_le _, fun b hb => nomatch hb⟩ (fun r hr => by
    obtain ⟨w, hw, rfl⟩ := List.mem_map.mp hr
    have := hs.2.1 w hw
    exact (fit_of (x := w) (c := 32) (by omega)).1) h
  have hn : 0 + (rowsOf x).length ≤ big := by
    unfold rowsOf
    rw [List.length_map]
    have : (Txt.split x "\n").length ≤ x.length + 1 := hs.1
    omega
  refine ⟨Nat.le_trans f.1 hn, fun b hb => Nat.le_trans (f.2 b hb).2.1 hn, fun k hk => ?_⟩
  obtain ⟨b, hb, rfl⟩ := List.mem_map.mp hk
  obtain ⟨h1, h2, h3⟩ := f.2 b hb
  exact ⟨h1, ups_fit h3, deafs_fit h3, Nat.le_trans (edges_fit h3).1 (Nat.le_trans h2 hn), (edges_fit h3).2, belows_fit h3⟩
end Wk
end P2_text
section G11_text
set_option maxRecDepth 100000
set_option maxHeartbeats 2000000
namespace Wk
open PySem PySem.Spec PyProof.Rows L2 DL
open PySem.W (alike dataLt)
section
variable {P : Program} {w : World} {K : PySem.W.Frag} {mg : Str → Option Value} {base : Heap}
/-- what a reader answers -/
def outRd (mg : Str → Option Value) : List Blk ⊕ Nat → Out
  | .inl bs => outR mg (encH (bs.map kdOf)) (needH (bs.map kdOf))
  | .inr n => .ex (ca mg "BadText") "line" (.int (n : Nat))
def R_read (mg : Str → Option Value) : List PyData → Out → Prop := fun ds o => ∃ x : Str, ds = [.str x] ∧ x.length + 2 ≤ big ∧ o = outRd mg (readB 1 [] (rowsOf x))
abbrev N65 : List Str := ["text", "name", "stands", "lines"]
theorem sc65 : FnScope N65 ["text"] (defScope (top 65)) := ⟨rfl, rfl, rfl, by decide +kernel, rfl, by decide +kernel, by decide +kernel⟩
theorem ok_read_house (T : Txt P K mg) : DefOk P w K mg base 14 "read_house" (spD K 1 (R_read mg)) := by
  refine def_of T (i := 65) (N := N65) (ps := ["text"]) (by decide +kernel) sc65 (fun _ _ _ _ _ _ us hl => match us, hl with | [_], _ => rfl) ?_
  intro f cdv A outer s H E hr ds o hR hl
  obtain ⟨x, rfl, hx, rfl⟩ := hR
  refine .inl (psd_ifF (PB.to (pb_not (pb_val (pv_is "str" "str" true T (pv_var (i := 0) rfl)))) rfl) psd_nil ?_)
  cases hb : readB 1 [] (rowsOf x) with
  | inl bs =>
    obtain ⟨f1, f2, f3⟩ := text_fit hx hb
    refine PSD.to (psd_retX (po_call (ok_need_house T) (hr.mono (by decide)) cxPass (pvs_cons (pv_callTy call_to drc_tupL (T_fr T) (pvs_cons (pv_lcA (xs := bs) (enc := encB) (own := [("name", 1), ("stands", 2), ("lines", 3)]) (T := [1, 2, 3]) (f := fun b => encKd (kdOf b)) (iv_list (ds := bs.map encB) (pv_call (ok_blocks_in T) (hr.mono (by decide)) (pvs_cons (pv_var (i := 0) rfl) pvs_nil) ⟨x, rfl, hx, by rw [hb] <;> rfl⟩)) sc65.nd (blkOk_by (N := N65) (sc := defScope (top 65)) (by decide +kernel)) (Nat.le_trans f1 big_le) (by decide) (fun b _ _ _ _ _ _ => pgd_tup (pgds_cons (pgd_name (i := 1) sc65.nd) (pgds_cons (pgd_name (i := 2) sc65.nd) (pgds_cons (pgd_name (i := 3) sc65.nd) pgds_nil)))) fun b hbm _ _ _ _ _ => pv_tup (pvs_cons (pv_var (i := 1) rfl) (pvs_cons (pv_call (ok_kind_of T) (hr.mono (by decide)) (pvs_cons (pv_var (i := 2) rfl) (pvs_cons (pv_var (i := 3) rfl) pvs_nil)) ⟨b.k, b.lines, rfl, f2 b hbm, rfl⟩) pvs_nil))) pvs_nil)) pvs_nil) ⟨bs.map kdOf, ?_, ?_, f3, rfl⟩)) rfl
    · show [PyData.tuple (bs.map fun b => encKd (kdOf b))] = [encH (bs.map kdOf)]
      unfold encH
      rw [List.map_map] <;> rfl
    · rw [List.length_map]
      exact f1
  | inr n =>
    intro σ G H1 u s1 D q
    refine wSs_of (pss_cons (ps_ret pe_w) pss_w) ?_
    refine wE_callX (ok_need_house T) (hr.mono (by decide)) cxPass ?_
    refine wA_of (pa_cons pe_w pa_nil) ?_
    refine wE_of (pe_callTy call_to rfl (T_fr T) (by decide +kernel) (pa_cons pe_w pa_nil)) ?_
    refine wE_of (pe_lc (own := [("name", 1), ("stands", 2), ("lines", 3)]) rfl sc65.nd pi_w (blkOk_by (N := N65) (sc := defScope (top 65)) (by decide +kernel)) pg_b pts_b pe_b) ?_
    refine wI_of (pi_list pe_w) ?_
    exact PO'.go (E := E) (o := .ex (ca mg "BadText") "line" (.int (n : Nat))) (po_call (ok_blocks_in T) (hr.mono (by decide)) cxPass (pvs_cons (pv_var (i := 0) rfl) pvs_nil) ⟨x, rfl, hx, by rw [hb] <;> rfl⟩) u s1 q
end
end Wk
end G11_text
section G12_text
set_option maxRecDepth 100000
set_option maxHeartbeats 2000000
namespace Wk
open PySem PySem.Spec PyProof.Rows L2 DL
open PySem.W (alike dataLt)
section
variable {P : Program} {w : World} {K : PySem.W.Frag} {mg : Str → Option Value} {base : Heap}
abbrev N79 : List Str := ["_law_word", "_law_letters", "_law_sign"]
theorem sc79 : FnScope N79 ["_law_word"] (defScope (top 79)) := ⟨rfl, rfl, rfl, by decide +kernel, rfl, by decide +kernel, by decide +kernel⟩
theorem ok_law_is_word (T : Txt P K mg) : DefOk P w K mg base 2 "_law_is_word" (spD K 1 R_word) := by
  refine def_of T (i := 79) (N := N79) (ps := ["_law_word"]) (by decide +kernel) sc79 (fun _ _ _ _ _ _ us hl => match us, hl with | [_], _ => rfl) ?_
  intro f cdv A outer s H E hr ds o hR hl
  obtain ⟨x, rfl, hx, rfl⟩ := hR
  refine .inl (psd_set (i := 1) (d := .str lettersS) pv_str (PSD.to (psd_ret (pv_and (pv_chain op_lt op_lt dr_IB (fun _ => dr_IB) pv_int (pv_callB call_ln (drc_lenS (Nat.le_trans hx big_le)) (T_fr T) (pvs_cons (pv_var (i := 0) rfl) pvs_nil)) pv_int) fun _ => pv_one (pv_cmp (op_eqP (hu64 hr)) (dr_eq (min_nilL _)) (pv_lc (xs := chars x) (enc := fun c => .str ⟨#[c]⟩) (own := [("_law_sign", 2)]) (p := fun c => !decide (c ∈ chars lettersS)) (f := fun c => .str ⟨#[c]⟩) (iv_str (pv_var (i := 0) rfl)) sc79.nd (blkOk_by (N := N79) (sc := defScope (top 79)) (by decide +kernel)) (Nat.le_trans hx big_le) (by decide) (fun c _ _ _ _ _ _ => (pgd_name (i := 2) sc79.nd)) (fun c _ _ _ _ _ _ => pb_cmp op_nsgn (dr_nsign (z := lettersS)) (pv_var (i := 2) rfl) (pv_var (i := 1) rfl)) fun c _ _ _ _ _ _ _ => (pv_var (i := 2) rfl)) (pv_lst pvs_nil)))) ?_) sc79.nd)
  rw [eqv_nilL, filter_none]
  unfold isWord
  congr 4
  congr 1 <;> exact decide_eq_decide.mpr (by omega)
theorem asc_range : ∀ xs : List PyData, ((List.range (xs.length - 1)).all fun i => dataLt (xs.getD i .none) (xs.getD (i + 1) .none)) = ascD xs
  | [] => rfl
  | [x] => rfl
  | x :: y :: r => by
    have ih := asc_range (y :: r)
    have e : (x :: y :: r).length - 1 = (y :: r).length - 1 + 1 := by simp
    rw [e, List.range_succ_eq_map, List.all_cons, List.all_map]
    show (dataLt x y && _) = (dataLt x y && ascD (y :: r))
    rw [← ih] <;> rfl
def R_rises : List PyData → Out → Prop := fun ds o => ∃ (xs : List PyData), ds = [.list xs] ∧ xs.length ≤ big ∧ Uni xs ∧ o = .rt (.bool (ascD xs))
abbrev N80 : List Str := ["_law_some_here", "_law_k"]
theorem sc80 : FnScope N80 ["_law_some_here"] (defScope (top 80)) := ⟨rfl, rfl, rfl, by decide +kernel, rfl, by decide +kernel, by decide +kernel⟩
theorem ok_law_rises (T : Txt P K mg) : DefOk P w K mg base 2 "_law_rises" (spD K 1 R_rises) := by
  refine def_of T (i := 80) (N := N80) (ps := ["_law_some_here"]) (by decide +kernel) sc80 (fun _ _ _ _ _ _ us hl => match us, hl with | [_], _ => rfl) ?_
  intro f cdv A outer s H E hr ds o hR hl
  obtain ⟨xs, rfl, hx, u, rfl⟩ := hR
  have hb : (2 : Int) ^ 62 = 4611686018427387904 := by decide
  have hbig := big_eq
  have h1 : ∀ i ∈ List.range (xs.length - 1), i + 1 < xs.length := fun i hi => by
    have := List.mem_range.mp hi
    omega
  refine .inl (PSD.to (psd_ret (pv_cmp (op_eqP (hu64 hr)) (dr_eq (min_nilL _)) (pv_lc (xs := List.range (xs.length - 1)) (enc := fun i => .int (1 + (i : Nat))) (own := [("_law_k", 1)]) (T := [1]) (p := fun i => !dataLt (xs.getD i .none) (xs.getD (i + 1) .none)) (f := fun i => .int (1 + (i : Nat))) (by
      have e : intsD 1 ((xs.length : Int) - 1).toNat = (List.range (xs.length - 1)).map fun i => .int (1 + (i : Nat)) := by
        unfold intsD
        rw [show ((xs.length : Int) - 1).toNat = xs.length - 1 by omega]
      rw [← e]
      exact iv_range2 pv_int (pv_callB call_ln drc_lenL (T_fr T) (pvs_cons (pv_var (i := 0) rfl) pvs_nil)) ⟨by omega, by omega, by omega, by omega⟩ (T_fr T)) sc80.nd (blkOk_by (N := N80) (sc := defScope (top 80)) (by decide +kernel)) (by rw [List.length_range]; have := big_le; omega) (by decide) (fun i _ _ _ _ _ _ => (pgd_name (i := 1) sc80.nd)) (fun i hi _ _ _ _ _ => by
      have h2 := h1 i hi
      have a1 : xs[i]? = some (xs.getD i .none) := by simp [List.getD, Nat.lt_of_succ_lt h2]
      have a2 : xs[i + 1]? = some (xs.getD (i + 1) .none) := by simp [List.getD, h2]
      obtain ⟨b1, b2, b3⟩ := u.at (List.mem_of_getElem? a1) (List.mem_of_getElem? a2)
      exact pb_not (pb_cmp (op_ltD (hu64 hr)) (dr_lt b1 b2 b3) (pv_ixL (i := (i : Nat)) (pv_var (i := 0) rfl) (PV.to (pv_bin op_sub dr_II (pv_var (i := 1) rfl) pv_int) (congrArg PyData.int (by omega))) (DL.atI_nat a1)) (pv_ixL (i := ((i + 1 : Nat) : Int)) (pv_var (i := 0) rfl) (PV.to (pv_var (i := 1) rfl) (congrArg PyData.int (by omega))) (DL.atI_nat a2)))) fun i _ _ _ _ _ _ _ => (pv_var (i := 1) rfl)) (pv_lst pvs_nil))) ?_)
  rw [eqv_nilL, filter_none, asc_range]
end
end Wk
end G12_text
section D9_text
set_option maxRecDepth 100000
set_option maxHeartbeats 2000000
namespace DL
open PySem PySem.Spec PyProof.Rows L2 StX
/-- list + list, by what they read as -/
def rCatL (K : PySem.W.Frag) : R2 := fun x y H Q => ∃ l b xs zs, x = .ref l ∧ y = .ref b ∧ SqL K H l xs ∧ SqL K H b zs ∧ xs.length + zs.length ≤ sizeLine ∧ ∀ p, H p = none → Q (.ref p) (upd H p (.lst (xs ++ zs)))
theorem op_catL {X : Cx} : OpR X (binaryOp .Add) (rCatL X.K) := by
  intro pins s σ H x y v u Q I rx ry h
  obtain ⟨l, b, xs, zs, rfl, rfl, hH, hB, hz, q⟩ := h
  cases rx
  cases ry
  obtain ⟨its, r, ⟨o, n, e, ec, ed, es⟩, hl⟩ := I.list hH
  obtain ⟨its2, r2, ⟨o2, n2, e2, ec2, ed2, es2⟩, hl2⟩ := I.list hB
  obtain ⟨oc, od, dt, sl⟩ := o
  obtain ⟨oc2, od2, dt2, sl2⟩ := o2
  simp only at ec ed es ec2 ed2 es2
  subst ec ed es ec2 ed2 es2
  have e0 : its.toArray ++ its2.toArray = (its ++ its2).toArray := by simp
  have k1 := r.length
  have k2 := r2.length
  refine concat_meets ⟨_, e, rfl⟩ ⟨_, e2, rfl⟩ noFill_list_add seq_list_add PySem.F.slot_list_add PySem.F.entry_list_add (PySem.F.args_list_add_2 _ _) (list_addW l b its.toArray its2.toArray n n2 _ _ sl sl2 (by rw [List.size_toArray, List.size_toArray]; omega)) ⟨e, e2, ?_⟩
  rw [e0]
  exact ⟨.ref _, _, I.lnew (t' := s.toks) (r.append r2) (by rw [List.length_append]; omega), rfl, q _ I.fresh⟩
theorem dr_cat {K : PySem.W.Frag} {xs ys : List PyData} (hz : xs.length + ys.length ≤ sizeLine) : DR2 K (rCatL K) (.list xs) (.list ys) (.list (xs ++ ys)) := fun G H x y u h1 h2 Q q => by
  obtain ⟨a, vs, rfl, h3, h4⟩ := Dp.lstE h1
  obtain ⟨b, ws, rfl, h5, h6⟩ := Dp.lstE h2
  exact ⟨a, b, vs, ws, rfl, rfl, L2.Same.seq u h3, L2.Same.seq u h5, by rw [DpAll.length h4, DpAll.length h6]; exact hz, fun p hp => q _ _ _ (Gr.upd u hp) (.lst (SqL.of upd_same) (DpAll.app (L2.DpAll.gr (Gr.upd u hp) h4) (L2.DpAll.gr (Gr.upd u hp) h6)))⟩
/-! ### values under something that is known of the slots and the heap besides -/
def PVX (Φ : L2.St → Hp → Prop) (X : Cx) (e : Expr) (ρ : Rho) (d : PyData) : Prop := ∀ σ G H, Φ σ H → Same G H → SD X.K G σ ρ → ∀ Q : VK, KD X.K G H Q d → wE X e σ H Q
def PVXs (Φ : L2.St → Hp → Prop) (X : Cx) (es : List Expr) (ρ : Rho) (ds : List PyData) : Prop := ∀ σ G H, Φ σ H → Same G H → SD X.K G σ ρ → ∀ Q : List V → Hp → Prop, (∀ vs G2 H2, Gr G H G2 H2 → DpAll X.K G2 vs ds → Q vs H2) → wA X es σ H Q
def Stay (Φ : L2.St → Hp → Prop) : Prop := ∀ σ H H2, Φ σ H → Same H H2 → Φ σ H2
section
variable {Φ : L2.St → Hp → Prop} {X : Cx} {ρ : Rho} {a b e : Expr} {es : List Expr} {d d1 d2 : PyData} {ds : List PyData} {pos : Pos}
theorem PV.x (h : PV X e ρ d) : PVX Φ X e ρ d := fun σ G H _ u s Q q => h σ G H u s Q q
theorem PVX.to {d' : PyData} (h : PVX Φ X e ρ d) (q : d = d') : PVX Φ X e ρ d' := q ▸ h
theorem pvxs_nil : PVXs Φ X [] ρ [] := fun σ G H _ u _ Q q => wA_of pa_nil (q [] G H (Gr.refl u) .nil)
theorem pvxs_cons (st : Stay Φ) (ha : PVX Φ X e ρ d) (hr : PVXs Φ X es ρ ds) (hs : starEach (e :: es) X.env = (false, eval e X.env) :: starEach es X.env := by rfl) : PVXs Φ X (e :: es) ρ (d :: ds) :=
  fun σ G H φ u s Q q => wA_of (pa_cons pe_w pa_w hs) (ha σ G H φ u s _ fun v G1 H1 g1 k1 => hr σ G1 H1 (st _ _ _ φ g1.hh) g1.sub (s.gr g1) _ fun vs G2 H2 g2 k2 => q (v :: vs) G2 H2 (g1.trans g2) (.cons (k1.gr g2) k2))
theorem pvx_tup {x1} (h : PVXs Φ X es ρ ds) (hl : ds.length ≤ sizeLine := by first | decide | simp [sizeLine_eq]) : PVX Φ X (.Tuple es x1 pos) ρ (.tuple ds) :=
  fun σ G H φ u s Q q => wE_of (pe_tup pa_w) (h σ G H φ u s _ fun vs G1 H1 g1 k1 => ⟨by rw [DpAll.length k1]; exact hl, fun p hp => q _ _ _ (g1.trans (Gr.upd g1.sub hp)) (.tup (SqT.of upd_same) (L2.DpAll.gr (Gr.upd g1.sub hp) k1))⟩)
theorem pvx_lst (h : PVXs Φ X es ρ ds) (hl : ds.length ≤ sizeLine := by first | decide | simp [sizeLine_eq]) : PVX Φ X (.List es pos) ρ (.list ds) :=
  fun σ G H φ u s Q q => wE_of (pe_lst pa_w) (h σ G H φ u s _ fun vs G1 H1 g1 k1 => ⟨by rw [DpAll.length k1]; exact hl, fun p hp => q _ _ _ (g1.trans (Gr.upd g1.sub hp)) (.lst (SqL.of upd_same) (L2.DpAll.gr (Gr.upd g1.sub hp) k1))⟩)
theorem pvx_bin {op : Operator} {r : R2} (st : Stay Φ) (ho : OpR X (binaryOp op) r) (hr : DR2 X.K r d1 d2 d) (ha : PVX Φ X a ρ d1) (hb : PVX Φ X b ρ d2) : PVX Φ X (.BinOp a op b pos) ρ d :=
  fun σ G H φ u s Q q => wE_of (pe_op ho pe_w pe_w) (ha σ G H φ u s _ fun v G1 H1 g1 k1 => hb σ G1 H1 (st _ _ _ φ g1.hh) g1.sub (s.gr g1) _ fun w G2 H2 g2 k2 => hr G2 H2 v w g2.sub (k1.gr g2) k2 Q fun z G3 H3 g3 k3 => q z G3 H3 (g1.trans (g2.trans g3)) k3)
theorem PVX.go {σ : L2.St} {G H : Hp} {Q : VK} (h : PVX Φ X e ρ d) (φ : Φ σ H) (u : Same G H) (s : SD X.K G σ ρ) (k : ∀ v G1 H1, Gr G H G1 H1 → Dp X.K G1 v d → Q v H1) : wE X e σ H Q := h σ G H φ u s Q k
end
section
variable {X : Cx} {ρ ρ' : Rho} {a b c e tg iter elt : Expr} {d : PyData} {ys : List PyData} {pos : Pos} {sts rest body els : List Stmt} {st : Stmt} {σ : L2.St} {G H : Hp} {D : Ends} {x : Str} {E : XK} {o : SOut}
theorem psd_setLcA {α : Type} {xs : List α} {enc : α → PyData} {f : α → PyData} {scope : Scope} {own : List (Str × Nat)} {T : List Nat} {r' : α → Rho} {i : Nat} {y : Str} {py spos : Pos} (hi : IV X tg iter ρ (xs.map enc)) (hN : X.N.Nodup) (ok : BlkOk X.N X.env.scope scope own) (hz : xs.length ≤ sizeLine)
    (hT : ∀ j ∈ T, j ∈ own.map (·.2)) (hg : ∀ x ∈ xs, Blks X scope fun B => PGD B tg (wipeD ρ (own.map (·.2))) (enc x) (r' x) T) (he : ∀ x ∈ xs, Blks X scope fun B => PV B elt (r' x) (f x))
    (hr : PSD X E rest (ρ.set i (some (.list (xs.map f)))) o) (hy : X.N[i]? = some y := by rfl) (hyl : X.env.scope.names.lookup y = some .local := by rfl) (hsw : swapsWith (.ListComp elt [⟨tg, iter, [], 0⟩] scope pos) (some (.Name y py)) spos.line X.env = pure true := by exact sw_true rfl rfl rfl rfl) (hc : X.calm = true := by rfl) (hs : ∀ x, foldedSetIterable iter X.env x = pure x := by intro _; rfl) : PSD X E (.Assign [.Name y py] (.ListComp elt [⟨tg, iter, [], 0⟩] scope pos) spos :: rest) ρ o :=
  psd_setLc (p := fun _ => true) (f := f) (ifs := []) hi hN ok hz hT hg (fun _ _ _ _ _ _ _ => rfl) (fun x hx _ => he x hx) (by rw [List.filter_eq_self.mpr (fun _ _ => rfl)]; exact hr) hy hyl hsw hc hs
theorem ws_setLc {α : Type} {xs : List α} {enc : α → PyData} {p : α → Bool} {f : α → PyData} {ifs : List Expr} {scope : Scope} {own : List (Str × Nat)} {T : List Nat} {r' : α → Rho} {i : Nat} {y : Str} {py spos : Pos} (u : Same G H) (s : SD X.K G σ ρ) (hi : IV X tg iter ρ (xs.map enc)) (hN : X.N.Nodup) (ok : BlkOk X.N X.env.scope scope own) (hz : xs.length ≤ sizeLine)
    (hT : ∀ j ∈ T, j ∈ own.map (·.2)) (hg : ∀ x ∈ xs, Blks X scope fun B => PGD B tg (wipeD ρ (own.map (·.2))) (enc x) (r' x) T) (ht : ∀ x ∈ xs, Blks X scope fun B => PBs B ifs (r' x) (p x)) (he : ∀ x ∈ xs, p x = true → Blks X scope fun B => PV B elt (r' x) (f x))
    (k : ∀ v G1 H1, Gr G H G1 H1 → Dp X.K G1 v (.list ((xs.filter p).map f)) → SD X.K G1 (σ.set i (some v)) (ρ.set i (some (.list ((xs.filter p).map f)))) → wSs X rest D (σ.set i (some v)) H1) (hy : X.N[i]? = some y := by rfl) (hyl : X.env.scope.names.lookup y = some .local := by rfl) (hsw : swapsWith (.ListComp elt [⟨tg, iter, ifs, 0⟩] scope pos) (some (.Name y py)) spos.line X.env = pure true := by exact sw_true rfl rfl rfl rfl) (hc : X.calm = true := by rfl) (hs : ∀ x, foldedSetIterable iter X.env x = pure x := by intro _; rfl) : wSs X (.Assign [.Name y py] (.ListComp elt [⟨tg, iter, ifs, 0⟩] scope pos) spos :: rest) D σ H :=
  wSs_of (pss_cons (ps_setLc hc hN hy hyl hsw pi_w ok pg_b pts_b pe_b hs) pss_w) (lc_data hi hz hT hg ht he u s fun v G1 H1 g1 k1 => k v G1 H1 g1 k1 ((s.gr g1).set i k1))
theorem ws_setX {Φ : L2.St → Hp → Prop} {i : Nat} {pos' : Pos} (φ : Φ σ H) (u : Same G H) (s : SD X.K G σ ρ) (he : PVX Φ X e ρ d) (hN : X.N.Nodup) (k : ∀ v G1 H1, Gr G H G1 H1 → Dp X.K G1 v d → SD X.K G1 (σ.set i (some v)) (ρ.set i (some d)) → wSs X rest D (σ.set i (some v)) H1) (hi : X.N[i]? = some x := by rfl) (hx : Loc X.env.scope x := by first | exact Or.inl rfl | exact Or.inr rfl)
    (hs : swapsWith e (some (.Name x pos')) pos.line X.env = pure false := by rfl) (hf : X.fn x = true ∨ X.env.scope.names.lookup x = some .local := by first | exact .inl rfl | exact .inr rfl) : wSs X (.Assign [.Name x pos'] e pos :: rest) D σ H :=
  wSs_of (pss_cons (ps_set hN hi hx pe_w hs hf) pss_w) (he σ G H φ u s _ fun v G1 H1 g1 k1 => k v G1 H1 g1 k1 ((s.gr g1).set i k1))
end
end DL
end D9_text
section G13_text
set_option maxRecDepth 100000
set_option maxHeartbeats 2000000
namespace Wk
open PySem PySem.Spec PyProof.Rows L2 DL
open PySem.W (alike dataLt)
section
variable {P : Program} {w : World} {K : PySem.W.Frag} {mg : Str → Option Value} {base : Heap}
def R_line : List PyData → Out → Prop := fun ds o => ∃ ws : List Str, ds = [.list (ws.map .str)] ∧ ws ≠ [] ∧ Fit ws ∧ o = .rt (encL (lineOf ws))
theorem encL_kind (r : List Str) : encL (lineOf (("kind" : Str) :: r)) = match r with
    | [a, b] => if (isWord a && (numIn b).isSome) = true then .tuple [.int 0, .tuple [.str a, encO (numIn b)]] else .none
    | _ => .none := by
  have e : lineOf (("kind" : Str) :: r) = (kindOf r).map fun q => .kind q.1 q.2 := by simp only [lineOf, if_true]
  rw [e]
  match r with
  | [] => rfl
  | [_] => rfl
  | [a, b] =>
    simp only [kindOf]
    cases isWord a
    · rfl
    · cases numIn b <;> rfl
  | _ :: _ :: _ :: _ => rfl
theorem idxUD (j : Nat) (h : j < 2) : True ∧ ∀ m, m < j → ((["up", "deaf"] : List Str))[m]? ≠ (["up", "deaf"] : List Str)[j]? := by
  refine ⟨trivial, fun m hm => ?_⟩
  have : j = 1 := by omega
  subst this
  have : m = 0 := by omega
  subst this
  decide
theorem gt1 (n : Nat) : decide ((1 : Int) < (n : Nat)) = decide (1 < n) := decide_eq_decide.mpr (by omega)
abbrev N81 : List Str := ["_law_words", "_law_is_good", "_law_found", "_law_word", "_law_begin", "_law_end", "_law_asks_here", "_law_known"]
theorem sc81 : FnScope N81 ["_law_words"] (defScope (top 81)) := ⟨rfl, rfl, rfl, by decide +kernel, rfl, by decide +kernel, by decide +kernel⟩
theorem ok_law_line (T : Txt P K mg) : DefOk P w K mg base 6 "_law_line" (spD K 1 R_line) := by
  refine def_of T (i := 81) (N := N81) (ps := ["_law_words"]) (by decide +kernel) sc81 (fun _ _ _ _ _ _ us hl => match us, hl with | [_], _ => rfl) ?_
  intro f cdv A outer s H E hr ds o hR hl
  obtain ⟨ws, rfl, hne, hf, rfl⟩ := hR
  match ws, hf, hne with
  | w0 :: r, hf, _ =>
  refine .inl ?_
  by_cases h0 : w0 = ("kind" : Str)
  · subst h0
    rw [encL_kind]
    refine psd_ifT (PB.to (PB.to (pb_cmp (op_eqP (hu64 hr)) (dr_eq (by simp [PyData.depth])) (pv_ixL (i := 0) (pv_var (i := 0) rfl) pv_int (DL.atI_nat (i := 0) rfl)) (pv_str (x := "kind"))) (eqv_str _ _)) (by simp)) ?_
    match r, hf with
    | [], hf => exact PSD.to (psd_set (i := 1) (d := .bool false) (PV.to (pv_and (k1 := false) (k2 := false) (PV.to (PV.to (pv_cmp (op_eqP (hu64 hr)) (dr_eq (by simp [PyData.depth])) (pv_callB call_ln drc_lenL (T_fr T) (pvs_cons (pv_var (i := 0) rfl) pvs_nil)) pv_int) (congrArg PyData.bool (eqv_len _ 3))) rfl) fun q => nomatch q) rfl) (psd_ret (pv_if (d1 := .none) (pb_val (pv_var (i := 1) rfl)) (fun q => nomatch q) fun _ => pv_non)) sc81.nd) rfl
    | [_], hf => exact PSD.to (psd_set (i := 1) (d := .bool false) (PV.to (pv_and (k1 := false) (k2 := false) (PV.to (PV.to (pv_cmp (op_eqP (hu64 hr)) (dr_eq (by simp [PyData.depth])) (pv_callB call_ln drc_lenL (T_fr T) (pvs_cons (pv_var (i := 0) rfl) pvs_nil)) pv_int) (congrArg PyData.bool (eqv_len _ 3))) rfl) fun q => nomatch q) rfl) (psd_ret (pv_if (d1 := .none) (pb_val (pv_var (i := 1) rfl)) (fun q => nomatch q) fun _ => pv_non)) sc81.nd) rfl
    | _ :: _ :: _ :: _, hf => exact PSD.to (psd_set (i := 1) (d := .bool false) (PV.to (pv_and (k1 := false) (k2 := false) (PV.to (PV.to (pv_cmp (op_eqP (hu64 hr)) (dr_eq (by simp [PyData.depth])) (pv_callB call_ln drc_lenL (T_fr T) (pvs_cons (pv_var (i := 0) rfl) pvs_nil)) pv_int) (congrArg PyData.bool (eqv_len _ 3))) rfl) fun q => nomatch q) rfl) (psd_ret (pv_if (d1 := .none) (pb_val (pv_var (i := 1) rfl)) (fun q => nomatch q) fun _ => pv_non)) sc81.nd) rfl
    | [a, b], hf =>
      refine PSD.to (psd_set (i := 1) (d := .bool (isWord a && (numIn b).isSome)) (PV.to (pv_and (k1 := true) (PV.to (PV.to (pv_cmp (op_eqP (hu64 hr)) (dr_eq (by simp [PyData.depth])) (pv_callB call_ln drc_lenL (T_fr T) (pvs_cons (pv_var (i := 0) rfl) pvs_nil)) pv_int) (congrArg PyData.bool (eqv_len _ 3))) rfl) fun _ => pv_and (pv_call (ok_law_is_word T) (hr.mono (by decide)) (pvs_cons (pv_ixL (i := 1) (pv_var (i := 0) rfl) pv_int (DL.atI_nat (i := 1) rfl)) pvs_nil) ⟨a, rfl, hf.all _ (by simp), rfl⟩) fun _ => pv_one (pv_cmp op_notNn dr_notN (pv_call (ok_law_number T) (hr.mono (by decide)) (pvs_cons (pv_ixL (i := 2) (pv_var (i := 0) rfl) pv_int (DL.atI_nat (i := 2) rfl)) pvs_nil) ⟨b, rfl, hf.all _ (by simp), rfl⟩) pv_non)) (by rw [isNone_encO]; cases numIn b <;> rfl)) (psd_ret (pv_if (pb_val (pv_var (i := 1) rfl)) (fun _ => pv_tup (pvs_cons pv_int (pvs_cons (pv_tup (pvs_cons (pv_ixL (i := 1) (pv_var (i := 0) rfl) pv_int (DL.atI_nat (i := 1) rfl)) (pvs_cons (pv_call (ok_law_number T) (hr.mono (by decide)) (pvs_cons (pv_ixL (i := 2) (pv_var (i := 0) rfl) pv_int (DL.atI_nat (i := 2) rfl)) pvs_nil) ⟨b, rfl, hf.all _ (by simp), rfl⟩) pvs_nil))) pvs_nil))) fun _ => pv_non)) sc81.nd) rfl
  · by_cases h1 : w0 = ("up" : Str)
    · subst h1
      obtain ⟨m1, m2, m3, m4, m5, m6, m7, m8, m9, m10, m11, m12⟩ := kw_ne
      have el : lineOf (("up" : Str) :: r) = (numsOf r).map .up := by simp only [lineOf, m5, m7, m8, if_false, if_true]
      rw [el]
      refine psd_ifF (PB.to (PB.to (pb_cmp (op_eqP (hu64 hr)) (dr_eq (by simp [PyData.depth])) (pv_ixL (i := 0) (pv_var (i := 0) rfl) pv_int (DL.atI_nat (i := 0) rfl)) (pv_str (x := "kind"))) (eqv_str _ _)) (by simp [m7, m8])) psd_nil (psd_ifT (PB.to (PB.to (pb_cmp (op_inP (hu64 hr)) (dr_inT (by simp [PyData.depth])) (pv_ixL (i := 0) (pv_var (i := 0) rfl) pv_int (DL.atI_nat (i := 0) rfl)) (pv_tup (pvs_cons pv_str (pvs_cons pv_str pvs_nil)))) (any_str ["up", "deaf"] _)) (by simp)) ?_)
      refine psd_setLcA (i := 2) (xs := r) (enc := .str) (own := [("_law_word", 3)]) (f := fun w => encO (numIn w)) (iv_list (ds := r.map .str) (PV.to (pv_fromL (k := 1) (pv_var (i := 0) rfl)) rfl)) sc81.nd (blkOk_by (N := N81) (sc := defScope (top 81)) (by decide +kernel)) (Nat.le_trans hf.tl.len big_le) (by decide) (fun c _ _ _ _ _ _ => (pgd_name (i := 3) sc81.nd)) (fun c hc _ _ _ _ _ => pv_call (ok_law_number T) (hr.mono (by decide)) (pvs_cons (pv_var (i := 3) rfl) pvs_nil) ⟨c, rfl, hf.tl.all c hc, rfl⟩) ?_
      cases hm : numsL r with
      | none =>
        have hany := numsL_none hm
        have e : numsOf r = none := by unfold numsOf; rw [hm]
        rw [e]
        exact psd_ifT (PB.to (pb_w (pbw_or (k2 := true) (PB.to (pb_cmp (op_eqP (hu64 hr)) (dr_eq (min_nilL _)) (pv_var (i := 2) rfl) (pv_lst pvs_nil)) (eqv_nilL _)) fun _ => pbw_or (k1 := true) (k2 := true) (PB.to (pb_cmp (op_inP (hu64 hr)) (dr_inL (by simp [PyData.depth])) pv_non (pv_var (i := 2) rfl)) hany) fun q => nomatch q)) (by simp)) (psd_ret pv_non)
      | some xs =>
        rw [numsL_some hm]
        have hxl : xs.length ≤ big := by rw [numsL_len hm]; exact hf.tl.len
        have e : numsOf r = if (decide (xs ≠ []) && ascD (xs.map .int)) = true then some xs else none := by unfold numsOf; rw [hm]
        rw [e]
        refine psd_if (k := !(decide (xs ≠ []) && ascD (xs.map .int))) (PB.to (pb_w (pbw_or (PB.to (pb_cmp (op_eqP (hu64 hr)) (dr_eq (min_nilL _)) (pv_var (i := 2) rfl) (pv_lst pvs_nil)) (eqv_nilL _)) fun _ => pbw_or (pb_cmp (op_inP (hu64 hr)) (dr_inL (by simp [PyData.depth])) pv_non (pv_var (i := 2) rfl)) fun _ => pbw_or1 (pb_not (pb_val (pv_call (ok_law_rises T) (hr.mono (by decide)) (pvs_cons (pv_var (i := 2) rfl) pvs_nil) ⟨xs.map .int, rfl, by simpa using hxl, uniI xs, rfl⟩))))) (by
          rw [any_noneI, isEmpty_map]
          cases xs <;> simp)) (fun h => PSD.to (psd_ret pv_non) ?_) fun h => PSD.to (psd_ret (pv_tup (pvs_cons (pv_bin op_add dr_II (pv_lidx (ys := ["up", "deaf"]) (j := 0) (pv_lst (pvs_cons pv_str (pvs_cons pv_str pvs_nil))) (pv_ixL (i := 0) (pv_var (i := 0) rfl) pv_int (DL.atI_nat (i := 0) rfl)) rfl (idxUD 0 (by decide)).2) pv_int) (pvs_cons (pv_callTy call_to drc_tupL (T_fr T) (pvs_cons (pv_var (i := 2) rfl) pvs_nil)) pvs_nil)))) ?_
        · rw [notT h] <;> rfl
        · rw [notF h] <;> rfl
    · by_cases h2 : w0 = ("deaf" : Str)
      · subst h2
        obtain ⟨m1, m2, m3, m4, m5, m6, m7, m8, m9, m10, m11, m12⟩ := kw_ne
        have el : lineOf (("deaf" : Str) :: r) = (numsOf r).map .deaf := by simp only [lineOf, m5, m7, m8, if_false, if_true]
        rw [el]
        refine psd_ifF (PB.to (PB.to (pb_cmp (op_eqP (hu64 hr)) (dr_eq (by simp [PyData.depth])) (pv_ixL (i := 0) (pv_var (i := 0) rfl) pv_int (DL.atI_nat (i := 0) rfl)) (pv_str (x := "kind"))) (eqv_str _ _)) (by simp [m7, m8])) psd_nil (psd_ifT (PB.to (PB.to (pb_cmp (op_inP (hu64 hr)) (dr_inT (by simp [PyData.depth])) (pv_ixL (i := 0) (pv_var (i := 0) rfl) pv_int (DL.atI_nat (i := 0) rfl)) (pv_tup (pvs_cons pv_str (pvs_cons pv_str pvs_nil)))) (any_str ["up", "deaf"] _)) (by simp)) ?_)
        refine psd_setLcA (i := 2) (xs := r) (enc := .str) (own := [("_law_word", 3)]) (f := fun w => encO (numIn w)) (iv_list (ds := r.map .str) (PV.to (pv_fromL (k := 1) (pv_var (i := 0) rfl)) rfl)) sc81.nd (blkOk_by (N := N81) (sc := defScope (top 81)) (by decide +kernel)) (Nat.le_trans hf.tl.len big_le) (by decide) (fun c _ _ _ _ _ _ => (pgd_name (i := 3) sc81.nd)) (fun c hc _ _ _ _ _ => pv_call (ok_law_number T) (hr.mono (by decide)) (pvs_cons (pv_var (i := 3) rfl) pvs_nil) ⟨c, rfl, hf.tl.all c hc, rfl⟩) ?_
        cases hm : numsL r with
        | none =>
          have hany := numsL_none hm
          have e : numsOf r = none := by unfold numsOf; rw [hm]
          rw [e]
          exact psd_ifT (PB.to (pb_w (pbw_or (k2 := true) (PB.to (pb_cmp (op_eqP (hu64 hr)) (dr_eq (min_nilL _)) (pv_var (i := 2) rfl) (pv_lst pvs_nil)) (eqv_nilL _)) fun _ => pbw_or (k1 := true) (k2 := true) (PB.to (pb_cmp (op_inP (hu64 hr)) (dr_inL (by simp [PyData.depth])) pv_non (pv_var (i := 2) rfl)) hany) fun q => nomatch q)) (by simp)) (psd_ret pv_non)
        | some xs =>
          rw [numsL_some hm]
          have hxl : xs.length ≤ big := by rw [numsL_len hm]; exact hf.tl.len
          have e : numsOf r = if (decide (xs ≠ []) && ascD (xs.map .int)) = true then some xs else none := by unfold numsOf; rw [hm]
          rw [e]
          refine psd_if (k := !(decide (xs ≠ []) && ascD (xs.map .int))) (PB.to (pb_w (pbw_or (PB.to (pb_cmp (op_eqP (hu64 hr)) (dr_eq (min_nilL _)) (pv_var (i := 2) rfl) (pv_lst pvs_nil)) (eqv_nilL _)) fun _ => pbw_or (pb_cmp (op_inP (hu64 hr)) (dr_inL (by simp [PyData.depth])) pv_non (pv_var (i := 2) rfl)) fun _ => pbw_or1 (pb_not (pb_val (pv_call (ok_law_rises T) (hr.mono (by decide)) (pvs_cons (pv_var (i := 2) rfl) pvs_nil) ⟨xs.map .int, rfl, by simpa using hxl, uniI xs, rfl⟩))))) (by
            rw [any_noneI, isEmpty_map]
            cases xs <;> simp)) (fun h => PSD.to (psd_ret pv_non) ?_) fun h => PSD.to (psd_ret (pv_tup (pvs_cons (pv_bin op_add dr_II (pv_lidx (ys := ["up", "deaf"]) (j := 1) (pv_lst (pvs_cons pv_str (pvs_cons pv_str pvs_nil))) (pv_ixL (i := 0) (pv_var (i := 0) rfl) pv_int (DL.atI_nat (i := 0) rfl)) rfl (idxUD 1 (by decide)).2) pv_int) (pvs_cons (pv_callTy call_to drc_tupL (T_fr T) (pvs_cons (pv_var (i := 2) rfl) pvs_nil)) pvs_nil)))) ?_
          · rw [notT h] <;> rfl
          · rw [notF h] <;> rfl
      · have ha : (decide (w0 ∈ (["up", "deaf"] : List Str))) = false := by simp [h1, h2]
        refine psd_ifF (PB.to (PB.to (pb_cmp (op_eqP (hu64 hr)) (dr_eq (by simp [PyData.depth])) (pv_ixL (i := 0) (pv_var (i := 0) rfl) pv_int (DL.atI_nat (i := 0) rfl)) (pv_str (x := "kind"))) (eqv_str _ _)) (by simp [h0])) psd_nil (psd_ifF (PB.to (PB.to (pb_cmp (op_inP (hu64 hr)) (dr_inT (by simp [PyData.depth])) (pv_ixL (i := 0) (pv_var (i := 0) rfl) pv_int (DL.atI_nat (i := 0) rfl)) (pv_tup (pvs_cons pv_str (pvs_cons pv_str pvs_nil)))) (any_str ["up", "deaf"] _)) ha) psd_nil ?_)
        by_cases h3 : w0 = ("below" : Str)
        · subst h3
          obtain ⟨m1, m2, m3, m4, m5, m6, m7, m8, m9, m10, m11, m12⟩ := kw_ne
          have el : lineOf (("below" : Str) :: r) = (namesOf r).map .below := by simp only [lineOf, m3, m4, m9, if_false, if_true]
          rw [el]
          refine psd_ifT (PB.to (PB.to (pb_cmp (op_eqP (hu64 hr)) (dr_eq (by simp [PyData.depth])) (pv_ixL (i := 0) (pv_var (i := 0) rfl) pv_int (DL.atI_nat (i := 0) rfl)) (pv_str (x := "below"))) (eqv_str _ _)) (by simp)) ?_
          refine PSD.to (psd_set (i := 1) (d := .bool (decide (r ≠ []) && r.all isWord)) (PV.to (pv_and (pv_cmp op_gt dr_IB (pv_callB call_ln drc_lenL (T_fr T) (pvs_cons (pv_var (i := 0) rfl) pvs_nil)) pv_int) fun _ => pv_one (pv_cmp (op_eqP (hu64 hr)) (dr_eq (min_nilL _)) (pv_lc (xs := r) (enc := .str) (own := [("_law_word", 3)]) (p := fun w => !isWord w) (f := .str) (iv_list (ds := r.map .str) (PV.to (pv_fromL (k := 1) (pv_var (i := 0) rfl)) rfl)) sc81.nd (blkOk_by (N := N81) (sc := defScope (top 81)) (by decide +kernel)) (Nat.le_trans hf.tl.len big_le) (by decide) (fun c _ _ _ _ _ _ => (pgd_name (i := 3) sc81.nd)) (fun c hc _ _ _ _ _ => pb_not (pb_val (pv_call (ok_law_is_word T) (hr.mono (by decide)) (pvs_cons (pv_var (i := 3) rfl) pvs_nil) ⟨c, rfl, hf.tl.all c hc, rfl⟩))) fun c _ _ _ _ _ _ _ => (pv_var (i := 3) rfl)) (pv_lst pvs_nil))) (by
            rw [eqv_nilL, filter_none]
            cases r with
            | nil => rfl
            | cons a b =>
              have : (1 : Int) < (((("below" : Str) :: a :: b).map PyData.str).length : Nat) := by simp; omega
              rw [decide_eq_true this] <;> rfl)) (psd_ret (pv_if (k := (decide (r ≠ []) && r.all isWord) && ascD (r.map .str)) (pb_w (pbw_and (pb_val (pv_var (i := 1) rfl)) fun _ => pbw_and1 (pb_val (pv_call (ok_law_rises T) (hr.mono (by decide)) (pvs_cons (PV.to (pv_fromL (k := 1) (pv_var (i := 0) rfl)) rfl) pvs_nil) ⟨r.map .str, rfl, by simpa using hf.tl.len, uniS r, rfl⟩)))) (fun _ => pv_tup (pvs_cons pv_int (pvs_cons (pv_callTy call_to drc_tupL (T_fr T) (pvs_cons (PV.to (pv_fromL (k := 1) (pv_var (i := 0) rfl)) rfl) pvs_nil)) pvs_nil))) fun _ => pv_non)) sc81.nd) ?_
          have e : namesOf r = if ((decide (r ≠ []) && r.all isWord) && ascD (r.map .str)) = true then some r else none := by
            unfold namesOf
            rw [Bool.and_assoc]
          rw [e]
          generalize ((decide (r ≠ []) && r.all isWord) && ascD (r.map .str)) = b
          cases b <;> rfl
        · refine psd_ifF (PB.to (PB.to (pb_cmp (op_eqP (hu64 hr)) (dr_eq (by simp [PyData.depth])) (pv_ixL (i := 0) (pv_var (i := 0) rfl) pv_int (DL.atI_nat (i := 0) rfl)) (pv_str (x := "below"))) (eqv_str _ _)) (by simp [h3])) psd_nil ?_
          have el : lineOf (w0 :: r) = (edgeOf (w0 :: r)).map .edge := by simp only [lineOf, if_neg h0, if_neg h1, if_neg h2, if_neg h3]
          rw [el]
          match r, hf with
          | [], hf => exact (psd_ifT (pb_w (pbw_or (k1 := true) (k2 := true) (PB.to (pb_cmp op_lt dr_IB (pv_callB call_ln drc_lenL (T_fr T) (pvs_cons (pv_var (i := 0) rfl) pvs_nil)) pv_int) rfl) fun q => nomatch q)) (psd_ret pv_non))
          | [_], hf => exact (psd_ifT (pb_w (pbw_or (k1 := true) (k2 := true) (PB.to (pb_cmp op_lt dr_IB (pv_callB call_ln drc_lenL (T_fr T) (pvs_cons (pv_var (i := 0) rfl) pvs_nil)) pv_int) rfl) fun q => nomatch q)) (psd_ret pv_non))
          | w1 :: w2 :: asks, hf =>
            have hl3 : (((List.map PyData.str (w0 :: w1 :: w2 :: asks)).length : Nat) : Int) = (asks.length : Nat) + 3 := by simp; omega
            have hal : asks.length ≤ big := Nat.le_trans (by simp only [List.length_cons]; omega) hf.len
            have n3 : ¬ ((asks.length : Nat) : Int) + 3 < 3 := by omega
            refine psd_if (k := !decide (w1 ∈ deedsS)) (PB.to (pb_w (pbw_or (pb_cmp op_lt dr_IB (pv_callB call_ln drc_lenL (T_fr T) (pvs_cons (pv_var (i := 0) rfl) pvs_nil)) pv_int) fun _ => pbw_or1 (PB.to (pb_cmp (op_ninP (hu64 hr)) (dr_ninT (by simp [PyData.depth])) (pv_ixL (i := 1) (pv_var (i := 0) rfl) pv_int (DL.atI_nat (i := 1) rfl)) (pv_tup (pvs_cons pv_str (pvs_cons pv_str (pvs_cons pv_str (pvs_cons pv_str pvs_nil)))))) (congrArg not (any_str deedsS _))))) (by rw [hl3]; simp [n3])) (fun h => PSD.to (psd_ret pv_non) ?_) fun h => ?_
            · simp only [edgeOf, notT h, Bool.false_and, Bool.false_eq_true, if_false, Option.map_none, encL]
            · have hd := notF h
              refine psd_par3 (i := 4) (j := 5) (l := 6) (d1 := encO (numIn w0)) (d2 := encO (numIn w2)) (d3 := .list (asks.map .str)) (pvs_cons (pv_call (ok_law_number T) (hr.mono (by decide)) (pvs_cons (pv_ixL (i := 0) (pv_var (i := 0) rfl) pv_int (DL.atI_nat (i := 0) rfl)) pvs_nil) ⟨w0, rfl, hf.all _ (by simp), rfl⟩) (pvs_cons (pv_call (ok_law_number T) (hr.mono (by decide)) (pvs_cons (pv_ixL (i := 2) (pv_var (i := 0) rfl) pv_int (DL.atI_nat (i := 2) rfl)) pvs_nil) ⟨w2, rfl, hf.all _ (by simp), rfl⟩) (pvs_cons (PV.to (pv_fromL (k := 3) (pv_var (i := 0) rfl)) rfl) pvs_nil))) sc81.nd ?_
              refine psd_set (i := 7) (d := .list (asksS.map .str)) (pv_lst (pvs_cons pv_str (pvs_cons pv_str (pvs_cons pv_str (pvs_cons pv_str (pvs_cons pv_str pvs_nil)))))) ?_ sc81.nd
              refine psd_if (k := (numIn w0).isNone || ((numIn w2).isNone || (!(asks.all fun w => decide (w ∈ asksS)) || !ascD (asks.map .str)))) (PB.to (pb_w (pbw_or (pb_cmp op_isNn dr_isN (pv_var (i := 4) rfl) pv_non) fun _ => pbw_or (pb_cmp op_isNn dr_isN (pv_var (i := 5) rfl) pv_non) fun _ => pbw_or (pb_cmp (op_neP (hu64 hr)) (dr_ne (min_nilL _)) (pv_lc (xs := asks) (enc := .str) (own := [("_law_word", 3)]) (p := fun w => !decide (w ∈ asksS)) (f := .str) (iv_list (ds := asks.map .str) (pv_var (i := 6) rfl)) sc81.nd (blkOk_by (N := N81) (sc := defScope (top 81)) (by decide +kernel)) (Nat.le_trans hal big_le) (by decide) (fun c _ _ _ _ _ _ => (pgd_name (i := 3) sc81.nd)) (fun c hc _ _ _ _ _ => PB.to (pb_cmp (op_ninP (hu64 hr)) (dr_ninL (by simp [PyData.depth])) (pv_var (i := 3) rfl) (pv_var (i := 7) rfl)) (congrArg not (any_str asksS _))) fun c _ _ _ _ _ _ _ => (pv_var (i := 3) rfl)) (pv_lst pvs_nil)) fun _ => pbw_or1 (pb_not (pb_val (pv_call (ok_law_rises T) (hr.mono (by decide)) (pvs_cons (pv_var (i := 6) rfl) pvs_nil) ⟨asks.map .str, rfl, by simpa using hal, uniS asks, rfl⟩))))) (by rw [isNone_encO, isNone_encO, eqv_nilL, filter_none])) (fun h => PSD.to (psd_ret pv_non) ?_) fun h => ?_
              · have e : edgeOf (w0 :: w1 :: w2 :: asks) = none := by
                  unfold edgeOf
                  simp only [hd, Bool.true_and]
                  cases ha : isAsks asks with
                  | false => rfl
                  | true =>
                    unfold isAsks at ha
                    simp only [Bool.and_eq_true] at ha
                    rw [ha.1, ha.2.1] at h
                    cases hn0 : numIn w0 with
                    | none => rfl
                    | some a =>
                      cases hn2 : numIn w2 with
                      | none => rfl
                      | some b =>
                        rw [hn0, hn2] at h
                        cases h
                rw [e] <;> rfl
              · simp only [Bool.or_eq_false_iff, Bool.not_eq_false'] at h
                obtain ⟨q0, q2, q3, q4⟩ := h
                obtain ⟨b, hb⟩ : ∃ b, numIn w0 = some b := by
                  cases hn : numIn w0 with
                  | none => rw [hn] at q0; cases q0
                  | some b => exact ⟨b, rfl⟩
                obtain ⟨e, he⟩ : ∃ b, numIn w2 = some b := by
                  cases hn : numIn w2 with
                  | none => rw [hn] at q2; cases q2
                  | some b => exact ⟨b, rfl⟩
                have hia : isAsks asks = decide ((asks.filter fun x => decide (x ∈ holdS)).length < 2) := by
                  unfold isAsks
                  rw [q3, q4] <;> rfl
                have hed : edgeOf (w0 :: w1 :: w2 :: asks) = if isAsks asks = true then some ⟨b, asks, w1, e⟩ else none := by
                  unfold edgeOf
                  simp only [hd, Bool.true_and, hb, he]
                rw [hed, hia]
                refine psd_if (k := !decide ((asks.filter fun x => decide (x ∈ holdS)).length < 2)) (PB.to (pb_cmp op_gt dr_IB (pv_callB call_ln drc_lenL (T_fr T) (pvs_cons (pv_lc (xs := asks) (enc := .str) (own := [("_law_word", 3)]) (p := fun w => decide (w ∈ holdS)) (f := .str) (iv_list (ds := asks.map .str) (pv_var (i := 6) rfl)) sc81.nd (blkOk_by (N := N81) (sc := defScope (top 81)) (by decide +kernel)) (Nat.le_trans hal big_le) (by decide) (fun c _ _ _ _ _ _ => (pgd_name (i := 3) sc81.nd)) (fun c hc _ _ _ _ _ => PB.to (pb_cmp (op_inP (hu64 hr)) (dr_inT (by simp [PyData.depth])) (pv_var (i := 3) rfl) (pv_tup (pvs_cons pv_str (pvs_cons pv_str (pvs_cons pv_str pvs_nil))))) (any_str holdS _)) fun c _ _ _ _ _ _ _ => (pv_var (i := 3) rfl)) pvs_nil)) pv_int) (by
                  rw [List.length_map, gt1, ← decide_not]
                  exact decide_eq_decide.mpr (by omega))) (fun h => PSD.to (psd_ret pv_non) ?_) fun h => PSD.to (psd_ret (pv_tup (pvs_cons pv_int (pvs_cons (pv_tup (pvs_cons (pv_var (i := 4) rfl) (pvs_cons (pv_callTy call_to drc_tupL (T_fr T) (pvs_cons (pv_var (i := 6) rfl) pvs_nil)) (pvs_cons (pv_ixL (i := 1) (pv_var (i := 0) rfl) pv_int (DL.atI_nat (i := 1) rfl)) (pvs_cons (pv_var (i := 5) rfl) pvs_nil))))) pvs_nil)))) ?_
                · rw [notT h] <;> rfl
                · rw [notF h, hb, he] <;> rfl
end
end Wk
end G13_text
section G14_text
set_option maxRecDepth 100000
set_option maxHeartbeats 2000000
namespace Wk
open PySem PySem.Spec PyProof.Rows L2 DL
open PySem.W (alike dataLt)
section
variable {P : Program} {w : World} {K : PySem.W.Frag} {mg : Str → Option Value} {base : Heap}
def encF (b : Blk) : PyData := .tuple [.tuple [.str b.name, .int b.k], .list (b.lines.map encL1)]
def mayB (bs : List Blk) : Option Ln → Bool
  | none => false
  | some l => (stepB bs l).isSome
def R_may : List PyData → Out → Prop := fun ds o => ∃ (bs : List Blk) (lo : Option Ln), ds = [.list (bs.map encF), encL lo] ∧ (∀ b ∈ bs, ∀ l ∈ b.lines, notKind l) ∧ o = .rt (.bool (mayB bs lo))
theorem ord_ne0 {l : Ln} (h : notKind l) : decide (ord l = 0) = false := by
  have := ord_pos h
  simp
  omega
abbrev N82 : List Str := ["_law_found", "_law_line_here", "_law_rows"]
theorem sc82 : FnScope N82 ["_law_found", "_law_line_here"] (defScope (top 82)) := ⟨rfl, rfl, rfl, by decide +kernel, rfl, by decide +kernel, by decide +kernel⟩
theorem ok_law_may_follow (T : Txt P K mg) : DefOk P w K mg base 2 "_law_may_follow" (spD K 2 R_may) := by
  refine def_of T (i := 82) (N := N82) (ps := ["_law_found", "_law_line_here"]) (by decide +kernel) sc82 (fun _ _ _ _ _ _ us hl => match us, hl with | [_, _], _ => rfl) ?_
  intro f cdv A outer s H E hr ds o hR hl
  obtain ⟨bs, lo, rfl, hk, rfl⟩ := hR
  cases lo with
  | none => exact .inl (PSD.to (psd_ifT (pb_w (pbw_or (k1 := true) (k2 := true) (PB.to (pb_cmp op_isNn dr_isN (pv_var (i := 1) rfl) pv_non) rfl) fun q => nomatch q)) (psd_ret (pv_and (k1 := false) (k2 := false) (PV.to (pv_cmp op_notNn dr_notN (pv_var (i := 1) rfl) pv_non) rfl) fun q => nomatch q))) rfl)
  | some l =>
  cases hg : bs.getLast? with
  | none =>
    have hn : bs = [] := List.getLast?_eq_none_iff.mp hg
    subst hn
    refine .inl (PSD.to (psd_ifT (PB.to (pb_w (pbw_or (k1 := false) (PB.to (pb_cmp op_isNn dr_isN (pv_var (i := 1) rfl) pv_non) rfl) fun _ => pbw_or1 (PB.to (pb_cmp (op_eqP (hu64 hr)) (dr_eq (min_nilL _)) (pv_var (i := 0) rfl) (pv_lst pvs_nil)) (by first | (rw [eqv_nilL, isEmpty_map]; done) | (rw [eqv_nilL, isEmpty_map]; rfl))))) rfl) (psd_ret (pv_and (k1 := true) (PV.to (pv_cmp op_notNn dr_notN (pv_var (i := 1) rfl) pv_non) rfl) fun _ => pv_one (PV.to (pv_cmp (op_eqP (hu64 hr)) (dr_eq (by simp [PyData.depth])) (pv_ixT (i := 0) (ds := [.int (ord l : Nat), val l]) (pv_var (i := 1) rfl) pv_int rfl) pv_int) (congrArg PyData.bool (eqv_len (ord l) 0)))))) ?_)
    cases l <;> rfl
  | some b =>
    have hm : b ∈ bs := List.mem_of_getLast? hg
    have hne : bs.isEmpty = false := by
      cases bs with
      | nil => cases hm
      | cons _ _ => rfl
    have hla : (bs.map encF).getLast? = some (encF b) := by rw [List.getLast?_map, hg] <;> rfl
    refine .inl (psd_ifF (PB.to (pb_w (pbw_or (k1 := false) (PB.to (pb_cmp op_isNn dr_isN (pv_var (i := 1) rfl) pv_non) rfl) fun _ => pbw_or1 (PB.to (pb_cmp (op_eqP (hu64 hr)) (dr_eq (min_nilL _)) (pv_var (i := 0) rfl) (pv_lst pvs_nil)) (by first | (rw [eqv_nilL, isEmpty_map]; done) | (rw [eqv_nilL, isEmpty_map]; rfl))))) (by rw [hne] <;> rfl)) psd_nil ?_)
    by_cases hk0 : notKind l
    case neg =>
      obtain ⟨n, k, rfl⟩ : ∃ n k, l = .kind n k := by
        cases l with
        | kind n k => exact ⟨n, k, rfl⟩
        | _ => exact absurd trivial hk0
      refine PSD.to (psd_ifT (PB.to (pb_cmp (op_eqP (hu64 hr)) (dr_eq (by simp [PyData.depth])) (pv_ixT (i := 0) (ds := [.int (ord (.kind n k) : Nat), val (.kind n k)]) (pv_var (i := 1) rfl) pv_int rfl) pv_int) rfl) (psd_ret (pv_cmp (op_ltD (hu64 hr)) (dr_lt (d1 := .str b.name) (d2 := .str n) (by simp [alike]) (fun z => nomatch z) (by simp [PyData.depth])) (pv_ixT (i := 0) (pv_ixT (i := 0) (pv_ixL (i := -1) (d := encF b) (pv_var (i := 0) rfl) (pv_neg pv_int) (atI_last hla)) pv_int rfl) pv_int rfl) (pv_ixT (i := 0) (pv_ixT (i := 1) (pv_var (i := 1) rfl) pv_int rfl) pv_int rfl)))) ?_
      show _ = SOut.out (.rt (.bool (match bs.getLast? with | none => _ | some b => _ : Option (List Blk)).isSome))
      rw [hg]
      show _ = SOut.out (.rt (.bool (if dataLt (.str b.name) (.str n) = true then _ else _ : Option (List Blk)).isSome))
      cases dataLt (.str b.name) (.str n) <;> rfl
    case pos =>
      have hmay : mayB bs (some l) = goesOn b.lines l := by
        show (stepB bs l).isSome = _
        rw [stepB_other hk0, hg]
        show (if goesOn b.lines l = true then _ else _ : Option (List Blk)).isSome = _
        cases goesOn b.lines l <;> rfl
      rw [hmay]
      refine psd_ifF (PB.to (pb_cmp (op_eqP (hu64 hr)) (dr_eq (by simp [PyData.depth])) (pv_ixT (i := 0) (ds := [.int (ord l : Nat), val l]) (pv_var (i := 1) rfl) pv_int rfl) pv_int) ((eqv_len (ord l) 0).trans (ord_ne0 hk0))) psd_nil ?_
      refine psd_set (i := 2) (d := .list (b.lines.map encL1)) (pv_ixT (i := 1) (pv_ixL (i := -1) (d := encF b) (pv_var (i := 0) rfl) (pv_neg pv_int) (atI_last hla)) pv_int rfl) ?_ sc82.nd
      cases hg2 : b.lines.getLast? with
      | none =>
        have hn : b.lines = [] := List.getLast?_eq_none_iff.mp hg2
        refine PSD.to (psd_ifT (PB.to (PB.to (pb_cmp (op_eqP (hu64 hr)) (dr_eq (min_nilL _)) (pv_var (i := 2) rfl) (pv_lst pvs_nil)) (by first | (rw [eqv_nilL, isEmpty_map]; done) | (rw [eqv_nilL, isEmpty_map]; rfl))) (by rw [hn] <;> rfl)) (psd_ret pv_bl)) ?_
        unfold goesOn
        rw [hg2]
      | some a =>
        have hm2 : a ∈ b.lines := List.mem_of_getLast? hg2
        have ha := hk b hm a hm2
        have hne2 : b.lines.isEmpty = false := by
          cases h : b.lines with
          | nil => rw [h] at hm2; cases hm2
          | cons _ _ => rfl
        have hla2 : (b.lines.map encL1).getLast? = some (encL1 a) := by rw [List.getLast?_map, hg2] <;> rfl
        have hgo : goesOn b.lines l = (decide (ord a < ord l) || edgeLt a l) := by unfold goesOn; rw [hg2]
        rw [hgo]
        refine psd_ifF (PB.to (PB.to (pb_cmp (op_eqP (hu64 hr)) (dr_eq (min_nilL _)) (pv_var (i := 2) rfl) (pv_lst pvs_nil)) (by first | (rw [eqv_nilL, isEmpty_map]; done) | (rw [eqv_nilL, isEmpty_map]; rfl))) hne2) psd_nil ?_
        have hcmp : decide (((ord a : Nat) : Int) < ((ord l : Nat) : Int)) = decide (ord a < ord l) := decide_eq_decide.mpr (by omega)
        by_cases hb : ord l = 3 ∧ ord a = 3
        · obtain ⟨y, rfl⟩ := ord_three hb.1
          obtain ⟨x, rfl⟩ := ord_three hb.2
          exact PSD.to (psd_ret (pv_or (pv_cmp op_lt dr_IB (pv_ixT (i := 0) (pv_ixL (i := -1) (d := encL1 (.edge x)) (pv_var (i := 2) rfl) (pv_neg pv_int) (atI_last hla2)) pv_int rfl) (pv_ixT (i := 0) (pv_var (i := 1) rfl) pv_int rfl)) fun _ => pv_one (pv_and (PV.to (pv_cmp (op_eqP (hu64 hr)) (dr_eq (by simp [PyData.depth])) (pv_ixT (i := 0) (pv_var (i := 1) rfl) pv_int rfl) pv_int) (d' := .bool true) rfl) fun _ => pv_and (PV.to (pv_cmp (op_eqP (hu64 hr)) (dr_eq (by simp [PyData.depth])) (pv_ixT (i := 0) (pv_ixL (i := -1) (d := encL1 (.edge x)) (pv_var (i := 2) rfl) (pv_neg pv_int) (atI_last hla2)) pv_int rfl) pv_int) (d' := .bool true) rfl) fun _ => pv_one (pv_cmp (op_ltD (hu64 hr)) (dr_lt (d1 := encE x) (d2 := encE y) (alikeE _ _) (fun z => nomatch z) (by rw [depthE, depthE]; decide)) (pv_ixT (i := 1) (pv_ixL (i := -1) (d := encL1 (.edge x)) (pv_var (i := 2) rfl) (pv_neg pv_int) (atI_last hla2)) pv_int rfl) (pv_ixT (i := 1) (pv_var (i := 1) rfl) pv_int rfl))))) rfl
        · refine PSD.to (psd_ret (pv_or (pv_cmp op_lt dr_IB (pv_ixT (i := 0) (ds := [.int (ord a : Nat), val a]) (pv_ixL (i := -1) (d := encL1 a) (pv_var (i := 2) rfl) (pv_neg pv_int) (atI_last hla2)) pv_int rfl) (pv_ixT (i := 0) (ds := [.int (ord l : Nat), val l]) (pv_var (i := 1) rfl) pv_int rfl)) fun _ => pv_one (PV.to (pv_and (k2 := false) (PV.to (pv_cmp (op_eqP (hu64 hr)) (dr_eq (by simp [PyData.depth])) (pv_ixT (i := 0) (ds := [.int (ord l : Nat), val l]) (pv_var (i := 1) rfl) pv_int rfl) pv_int) (congrArg PyData.bool (eqv_len (ord l) 3))) fun q1 => PV.to (pv_and (k2 := false) (PV.to (pv_cmp (op_eqP (hu64 hr)) (dr_eq (by simp [PyData.depth])) (pv_ixT (i := 0) (ds := [.int (ord a : Nat), val a]) (pv_ixL (i := -1) (d := encL1 a) (pv_var (i := 2) rfl) (pv_neg pv_int) (atI_last hla2)) pv_int rfl) pv_int) (congrArg PyData.bool (eqv_len (ord a) 3))) fun q2 => absurd ⟨of_decide_eq_true q1, of_decide_eq_true q2⟩ hb) (congrArg PyData.bool (Bool.and_false _))) (congrArg PyData.bool (Bool.and_false _))))) ?_
          have hl0 : edgeLt a l = false := by
            cases a <;> cases l <;> first | rfl | exact absurd ⟨rfl, rfl⟩ hb
          rw [hl0, hcmp]
end
end Wk
end G14_text
section X2_text
set_option maxRecDepth 100000
set_option maxHeartbeats 4000000
namespace DL
open PySem PySem.Spec PyProof.Rows L2 StX
open PySem.HandSPX
theorem fly_keeps {B : Heap} {l : List Env} {e : Addr} {Z : Obj → Prop} {h1 h2 : Heap} (f : FlyingZ B l e Z h1) (k : ∀ b o, h1.get? b = some o → h2.get? b = some o) : FlyingZ B l e Z h2 := by
  obtain ⟨c1, c2, c3, oe, vs, T, oT, ts, z1, z2, z3, z4, z5, z6, z7, z8, z9⟩ := f
  exact ⟨fun b o q => k b o (c1 b o q), c2, c3.of_keeps fun b o q _ => ⟨o, k b o q, rfl⟩, oe, vs, T, oT, ts, k _ _ z1, z2, z3, z4, z5, z6, k _ _ z7, z8, z9⟩
/-- an exception that was caught, kept as a value: its class, its dict -/
def Kept (cls : Value) (d : Option Addr) (a : Addr) : HO := .ext fun h => ∃ (oe : Obj) (vs : Array Value), h.get? a = some oe ∧ Zc cls d oe ∧ oe.data = .fields vs
theorem kept_ok {P : Program} {w : World} {H : Hp} {h : Heap} {a : Addr} {cls : Value} {d : Option Addr} {oe : Obj} {vs : Array Value} (e : h.get? a = some oe) (z : Zc cls d oe) (hd : oe.data = .fields vs) : ObjOk P w H h a (Kept cls d a) :=
  ⟨⟨oe, vs, e, z, hd⟩, ⟨oe, e⟩, fun _ _ ⟨o2, v2, e2, z2, d2⟩ k => ⟨o2, v2, k _ e2, z2, d2⟩⟩
section
variable {X : Cx} {ps : List (Addr × Obj)} {σ : L2.St} {H : Hp} {s : Shared}
/-- an object that is there and not tracked is tracked from now on -/
theorem track {a : Addr} {o : HO} (J : Inv X ps σ H s) (na : H a = none) (n0 : X.s_0.heap.get? a = none) (nL : a ≠ X.env.locals) (nC : ∀ x c, X.env.cells.lookup x = some c → c ≠ a) (nP : ∀ p ∈ X.pn ++ ps, p.1 ≠ a) (new : ObjOk X.prog X.w (L2.upd H a o) s.heap a o) : Inv X ps σ (L2.upd H a o) s where
  ok := J.ok
  os := J.os
  bare := J.bare
  base := ⟨fun b u q n f x => J.base.keep b u q n f x, fun b u q n f x => J.base.slot b u q n f x, fun b u q n x => by
      rw [upd_ne fun z => by rw [z, n0] at q; cases q]
      exact J.base.free b u q n x, fun b u q x => J.base.there b u q x, fun b xs q => by
      have q2 := J.base.tups b xs q
      rw [upd_ne (ne_of_none q2 na)]
      exact q2, fun b u v q => by
      have q2 := J.base.frzs b u v q
      rw [upd_ne (ne_of_none q2 na)]
      exact q2, fun b p q => by
      obtain ⟨m, q2⟩ := J.base.tbls b p q
      exact ⟨m, by rw [upd_ne (ne_of_none q2 na)]; exact q2⟩⟩
  loc := J.loc
  cell := J.cell
  free := by
    rw [upd_ne (Ne.symm nL)]
    exact J.free
  freeC := fun x c q => by
    rw [upd_ne (nC x c q)]
    exact J.freeC x c q
  pin := fun p hp => by
    obtain ⟨p1, p2, p3⟩ := J.pin p hp
    exact ⟨p1, by rw [upd_ne (nP p hp)]; exact p2, p3⟩
  hok := J.hok.laidN (fun _ _ q => q) na new
  len := J.len
variable {x1 x2 x3 n : Str} {c1 c2 c3 : Value} {i : Nat} {body suite : List Stmt} {b₀ : Stmt} {np1 np2 np3 tp pos pos' : Pos} {kk : Nat} {tb : WX → TS} {ts : Addr → Value → Option Addr → TS} {Wout : WX}
/-- what «except (x1, x2, x3) as n» wishes of an exception of the body -/
def wKeep (K : PySem.W.Frag) (cs : List Value) (i : Nat) (ts : Addr → Value → Option Addr → TS) (Wout : WX) (D : Ends) : WX := fun cls d σ H => ∃ b, PySem.W.exmAny K cls cs = some b ∧
  (b = true → ∀ a, H a = none → ts a cls d { nx := fun σ1 H1 => D.nx (σ1.set i none) (L2.upd H1 a (Kept cls d a)), rt := fun v H1 => D.rt v (L2.upd H1 a (Kept cls d a)), bk := fun σ1 H1 => D.bk (σ1.set i none) (L2.upd H1 a (Kept cls d a)), ct := fun σ1 H1 => D.ct (σ1.set i none) (L2.upd H1 a (Kept cls d a)) } (σ.set i (some (.ref a))) H) ∧
  (b = false → Wout cls d σ H)
theorem ps_try_keep (hs : X.stack = X.env :: X.outer) (hf : X.env.frame = some X.env.locals) (hex : X.ex = []) (hN : X.N.Nodup) (hi : X.N[i]? = some n) (hln : X.env.kindOf n = some .local) (g1 : Gl X x1) (g2 : Gl X x2) (g3 : Gl X x3) (m1 : X.mg x1 = some c1) (m2 : X.mg x2 = some c2) (m3 : X.mg x3 = some c3) (d1 : (x1 == ("__debug__" : Str)) = false) (d2 : (x2 == ("__debug__" : Str)) = false) (d3 : (x3 == ("__debug__" : Str)) = false) (tk : Takes X Wout)
    (hb : ∀ (W : WX) (pn : List (Addr × Obj)) (xe : Value → Shared → Prop), Takes (X.tr pn xe) W → PassesOwn (model X.prog X.w) X.A X.env xe → PSs (X.tr pn xe) body (tb W))
    (hsu : ∀ (a : Addr) (oe : Obj) (cls : Value) (d : Option Addr) (pn : List (Addr × Obj)), Zc cls d oe → (∃ vs, oe.data = .fields vs) → PSs (X.suite a ((a, oe) :: pn)) (b₀ :: suite) (ts a cls d))
    (he1 : starEach [.Name x1 np1, .Name x2 np2, .Name x3 np3] X.env = (false, eval (.Name x1 np1) X.env) :: starEach [.Name x2 np2, .Name x3 np3] X.env := by rfl) (he2 : starEach [.Name x2 np2, .Name x3 np3] X.env = (false, eval (.Name x2 np2) X.env) :: starEach [.Name x3 np3] X.env := by rfl) (he3 : starEach [.Name x3 np3] X.env = (false, eval (.Name x3 np3) X.env) :: starEach [] X.env := by rfl) :
    PS X (.Try body [.ExceptHandler (some (.Tuple [.Name x1 np1, .Name x2 np2, .Name x3 np3] kk tp)) (some n) (b₀ :: suite) pos'] [] [] pos) (fun D σ H => tb (wKeep X.K [c1, c2, c3] i ts Wout D) D σ H) := by
  constructor
  intro ps s σ H D I h
  have okX := I.ok
  have frs0 : X.A.frames = some (X.env :: X.outer) := by rw [okX.frames, hs]
  apply wpAny_Try_except
  refine wpAny_mono ((hb (wKeep X.K [c1, c2, c3] i ts Wout D) (X.pn ++ ps) (fun e t1 => wpAny (model X.prog X.w) X.A (noteFrame e X.env) (fun _ t2 => wpAny (model X.prog X.w) X.A (setFlight e none)
    (fun _ t3 => wpAny (model X.prog X.w) X.A (handleBy e X.env [.ExceptHandler (some (.Tuple [.Name x1 np1, .Name x2 np2, .Name x3 np3] kk tp)) (some n) (b₀ :: suite) pos']) (SP X ps D) X.xe t3) X.xe t2) X.xe t1) ?inair PassesOwn.looking).run [] s σ H D (I.toTry _) h) (fun fl s1 hsp => ?thru) fun e s1 he => he
  case inair =>
    rintro u t ⟨a, B, sI, ps', σ1, H1, cls, d, rfl, J0, nb, up, sky, na, os, ag, b, hb1, hyes, hno⟩
    have J : Inv X ps σ1 H1 sI := J0.ofTry okX
    have skyE : Sky B (X.env :: X.outer) a (Zc cls d) X.env.locals t.heap := by rw [← hs]; exact sky
    show wpAny (model X.prog X.w) X.A (noteFrame (.ref a) X.env) _ _ _
    refine Sky.land Zc.steady frs0 hf skyE fun k3 f3 u3 => ?_
    have J3 : Inv X ps σ1 H1 { t with heap := k3 } := J.landed nb f3.1 (up.trans u3) os ag
    obtain ⟨o3, w3, e3, z3, q3⟩ := f3.there
    have anf : a ∉ frs (X.env :: X.outer) := fun hm => by
      obtain ⟨_, o', e', hnf⟩ := f3.2.2.1.mem hm
      rw [e3] at e'
      cases e'
      exact hnf _ q3
    have anL : a ≠ X.env.locals := fun z => anf (List.mem_filterMap.mpr ⟨X.env, List.mem_cons_self, by rw [hf, z]⟩)
    have anF : a ∉ X.fs := fun hm => by
      obtain ⟨e, he, q⟩ := List.mem_filterMap.mp hm
      exact anf (List.mem_filterMap.mpr ⟨e, List.mem_cons_of_mem _ he, q⟩)
    -- it was not there before
    have gone : sI.heap.get? a = none := by
      cases q : sI.heap.get? a with
      | none => rfl
      | some o =>
        have hn : a ∉ frs X.stack := by rw [hs]; exact anf
        have z := nb a o q hn
        rw [f3.2.1] at z
        cases z
    have n0 : X.s_0.heap.get? a = none := by
      cases q : X.s_0.heap.get? a with
      | none => rfl
      | some o =>
        obtain ⟨o', z⟩ := J.base.there a o q (by rw [hex]; exact fun z => nomatch z)
        rw [gone] at z
        cases z
    have nC : ∀ x c, X.env.cells.lookup x = some c → c ≠ a := fun x c q z => by
      obtain ⟨v, o, ho, _⟩ := J.cell x c q
      rw [z, gone] at ho
      cases ho
    have nP : ∀ p ∈ X.pn ++ ps, p.1 ≠ a := fun p hp z => by
      have e := (J.pin p hp).1
      rw [z, gone] at e
      cases e
    have S3 := J3.suite e3 q3 na anL anF
    refine wpAny_handleBy_cons (codeAny_handlers_test ?_) (by intro q; cases q)
    have L3 : PySem.W.Looks (model X.prog X.w) k3 (typeOf (.ref a)) cls := fun A Q E s k q => wpAny_typeOf_ref (k _ _ e3) (by rw [z3.1]; exact q)
    have kp : ∀ b o, k3.get? b = some o → (k3.push { cls := .type "tuple", data := .seq [c1, c2, c3].toArray }).get? b = some o := fun _ _ z => Heap.get?_push_of_some _ z
    have L4 := PySem.W.exm_tup3 (M := model X.prog X.w) (J3.kIn.keeps kp) (L3.keeps kp) (Heap.get?_push_size k3 rfl) hb1
    have f4 := fly_keeps f3 kp
    have u4 : t.heap.UpToSlots (k3.push { cls := .type "tuple", data := .seq [c1, c2, c3].toArray }) := u3.trans (Heap.UpToSlots.of_keeps kp)
    refine wpAny_Tuple (wpAny_items_cons (ld_glob (X := X.suite a ((a, o3) :: (X.pn ++ ps))) S3 g1 m1 ?_ d1) he1)
    refine wpAny_items_cons (ld_glob (X := X.suite a ((a, o3) :: (X.pn ++ ps))) S3 g2 m2 ?_ d2) he2
    refine wpAny_items_cons (ld_glob (X := X.suite a ((a, o3) :: (X.pn ++ ps))) S3 g3 m3 ?_ d3) he3
    refine wpAny_items_nil ⟨by show 3 ≤ sizeLine; rw [sizeLine_eq]; decide, ?_⟩
    refine L4.here ?_
    cases b with
    | true =>
      refine codeAny_handlers_suite_as (HandSPX.lands_againZ f4 fun k5 f5 u5 => ?_)
      have J5 : Inv X ps σ1 H1 { t with heap := k5 } := J.landed nb f5.1 ((up.trans u4).trans u5) os ag
      obtain ⟨o5, w5, e5, z5, q5⟩ := f5.there
      have S5 := J5.suite e5 q5 na anL anF
      refine store_ok (X := X.suite a ((a, o5) :: (X.pn ++ ps))) (v := .ref a) S5 hN hi (.inl hln) rfl (fun s6 S6 => ?_) (.inr hln)
      refine wpAny_mono ((hsu a o5 cls d (X.pn ++ ps) z5 ⟨_, q5⟩).run [] s6 _ H1 _ S6 (hyes rfl a na)) (fun fl s7 hsp => ?_) (fun _ _ z => False.elim z)
      have fin : ∀ {σ7 : L2.St} {H7 : Hp} {Q : Shared → Prop}, Inv (X.suite a ((a, o5) :: (X.pn ++ ps))) [] σ7 H7 s7 → (∀ s8, Inv X ps (σ7.set i none) (L2.upd H7 a (Kept cls d a)) s8 → Q s8) →
          wpAny (model X.prog X.w) X.A (do bindName X.env n .none; unbindBehindTheSuite X.env n pos') (fun _ s8 => Q s8) X.xe s7 := by
        intro σ7 H7 Q S7 hq
        obtain ⟨p1, p2, _⟩ := S7.pin (a, o5) (List.mem_append_left _ List.mem_cons_self)
        exact gone_ok (track (S7.unsuite okX) p2 n0 anL nC nP (kept_ok p1 z5 q5)) hN hi hln hq
      cases fl with
      | next =>
        obtain ⟨σ7, H7, S7, r7⟩ := hsp
        exact fin S7 fun s8 J8 => ⟨_, _, J8, r7⟩
      | brk =>
        obtain ⟨σ7, H7, S7, r7⟩ := hsp
        exact fin S7 fun s8 J8 => ⟨_, _, J8, r7⟩
      | cont =>
        obtain ⟨σ7, H7, S7, r7⟩ := hsp
        exact fin S7 fun s8 J8 => ⟨_, _, J8, r7⟩
      | ret u =>
        obtain ⟨v7, σ7, H7, S7, rv, r7⟩ := hsp
        exact fin S7 fun s8 J8 => ⟨_, _, _, J8, rv, r7⟩
    | false =>
      show wpAny _ X.A (handleBy (.ref a) X.env []) _ _ _
      apply wpAny_handleBy_nil
      obtain ⟨_, _, _, oe, vs, T, oT, ts', he, hz, hd, h1, hr⟩ := id f4
      unfold PySem.passOn
      refine wpAny_bind (wpAny_field he hd h1 ?_)
      rw [if_neg (show ¬ ((Value.ref T == Value.none) = true) from by simp)]
      have out : wpAny (model X.prog X.w) X.A (setFlight (.ref a) X.env.frame) (fun _ t4 => wpAny (model X.prog X.w) X.A (throw (.ref a) : Sem Flow) (SP X ps D) X.xe t4) X.xe { t with heap := k3.push { cls := .type "tuple", data := .seq [c1, c2, c3].toArray } } := by
        rw [hf]
        refine HandSPX.setFlight_upZ f4 fun k5 hh5 u5 => wpAny_throw (tk _ _ ?_)
        exact ⟨a, B, sI, ps, σ1, H1, cls, d, rfl, J, nb, (up.trans u4).trans u5, .inr (.inr (by rw [hs]; exact hh5)), na, os, ag, hno rfl⟩
      first
        | exact wpAny_bind (wpAny_pure (wpAny_bind out))
        | exact wpAny_bind out
  case thru =>
   cases fl with
   | next =>
     obtain ⟨σ', H', J', q⟩ := hsp
     exact wpAny_execs_nil ⟨σ', H', J'.ofTry okX, q⟩
   | brk =>
     obtain ⟨σ', H', J', q⟩ := hsp
     exact ⟨σ', H', J'.ofTry okX, q⟩
   | cont =>
     obtain ⟨σ', H', J', q⟩ := hsp
     exact ⟨σ', H', J'.ofTry okX, q⟩
   | ret u =>
     obtain ⟨v, σ', H', J', r, q⟩ := hsp
     exact ⟨v, σ', H', J'.ofTry okX, r, q⟩
end
end DL
end X2_text
section X3_text
set_option maxRecDepth 100000
set_option maxHeartbeats 4000000
namespace DL
open PySem PySem.Spec PyProof.Rows L2 StX
/-- what an exception class says, so that isinstance and the fields of its instances are known -/
structure ExA (K : PySem.W.Frag) (C : Addr) : Prop where
  cl : (PySem.W.clsIn K C).isSome = true
  ga : PySem.W.findIn K (.ref C) "__getattribute__" = some (some (.builtin "BaseException.__getattribute__"))
  gg : PySem.W.findIn K (.ref C) "__getattr__" = some none
  sb : PySem.W.subIn K (.ref C) (.type "BaseException") = some true
  ca : PySem.W.findIn K (.ref C) "__class__" = some (some (.builtin "object.__class__"))
  sp : PySem.W.specialIn K (.builtin "object.__class__") "__get__" = some (some (.builtin "getset_descriptor.__get__"))
  tk : PySem.W.takesIn K (.builtin "object.__class__") = some true
  ob : PySem.W.mroIn K C (.type "object") = some true
  hd : PySem.W.hasDictIn K C = true
section
variable {X : Cx} {ps : List (Addr × Obj)} {σ : L2.St} {G H : Hp} {s : Shared} {a dd C : Addr} {fs : List (Str × V)} {F : Str} {v : V}
/-- the kept exception as an instance -/
theorem kept_at (I : Inv X ps σ H s) (ha : H a = some (Kept (.ref C) (some dd) a)) (hd : H dd = some (.xd fs)) : ∃ (oe od : Obj) (mA : Str → Option Value), PySem.W.InstAt s.heap a oe C (some od) ∧ (∀ name, PySem.W.lookIn name od = some (mA name)) ∧ ∀ f, RelO (fs.lookup f) (mA f) := by
  obtain ⟨⟨oe, vs, e1, e2, e3⟩, _⟩ := (show ObjOk X.prog X.w H s.heap a (Kept (.ref C) (some dd) a) from I.hok a _ ha)
  obtain ⟨mA, hn, hr⟩ := (show ObjOk X.prog X.w H s.heap dd (.xd fs) from I.hok dd _ hd)
  obtain ⟨od, ho, hl⟩ := lookIn_ns hn
  exact ⟨oe, od, mA, ⟨e1, e2.1, by unfold PySem.W.notCls; rw [e3] <;> rfl, by rw [e2.2]; exact ho⟩, hl, hr⟩
def rIsK (K : PySem.W.Frag) : List V → Hp → VK → Prop := fun xs H Q => ∃ (a C D dd : Addr) (fs : List (Str × V)) (b : Bool), xs = [.ref a, .ref D] ∧ ExA K C ∧ H a = some (Kept (.ref C) (some dd) a) ∧ H dd = some (.xd fs) ∧ PySem.W.kitOne K (.ref C) (.ref D) = some b ∧ Q (.bl b) H
theorem call_isK : CallR X (.builtin "isinstance") (rIsK X.K) := by
  intro pins s σ H xs us Q I r h
  obtain ⟨a, C, D, dd, fs, b, rfl, A, ha, hd, e, q⟩ := h
  cases r with
  | cons rx rr =>
    cases rr with
    | cons ry rn =>
      cases rn
      cases rx
      cases ry
      obtain ⟨oe, od, mA, J, _, _⟩ := kept_at I ha hd
      exact PySem.W.kia_one (PySem.W.kitx_exc A.cl A.ga A.gg A.sb A.ca A.sp A.tk A.ob) I.kIn J e (fun z => nomatch z) fun tk => ⟨.bl b, H, I.kept (t' := tk) fun _ _ z => z, rfl, q⟩
/-- e.F, e a kept exception -/
def tFld (K : PySem.W.Frag) (F : Str) (te : TE) : TE := fun σ H Q => te σ H fun x H1 => ∃ (a C dd : Addr) (v : V), x = .ref a ∧ ExA K C ∧ PySem.W.findIn K (.ref C) F = some none ∧ H1 a = some (Kept (.ref C) (some dd) a) ∧ H1 dd = some (.xd [(F, v)]) ∧ Q v H1
theorem pe_fld {e : Expr} {te : TE} {pos : Pos} (he : PE X e te) (hb : attributeBase e F X.env (eval e X.env) = eval e X.env := by rfl) : PE X (.Attribute e F pos) (tFld X.K F te) := by
  constructor
  intro pins s σ H Q I h
  refine attr_of hb (thn (he.run pins s σ H _ I h) fun u s1 hh => ?_)
  obtain ⟨x, H1, I1, rx, a, C, dd, v, ex, A, hno, ha, hd, q⟩ := hh
  subst ex
  obtain rfl : u = Value.ref a := rx
  obtain ⟨oe, od, mA, J, hl, hr⟩ := kept_at I1 ha hd
  have l : List.lookup F [(F, v)] = some v := by simp [List.lookup]
  obtain ⟨u, hu, ru⟩ := RelO.some_of (v := v) (o := mA F) (by rw [← l]; exact hr F)
  exact HandSPX.exc_get I1.kIn J A.ga A.gg A.sb (PySem.W.findObj_own A.hd hno rfl (by rw [hl, hu])) (handed_of ru) ⟨v, H1, I1.tok _, ru, q⟩
/-- slot 0 holds a kept exception of the class at C, its field F reads as d -/
def PhiE (K : PySem.W.Frag) (C a dd : Addr) (F : Str) (v : V) : L2.St → Hp → Prop := fun σ H => σ[0]? = some (some (.ref a)) ∧ H a = some (Kept (.ref C) (some dd) a) ∧ H dd = some (.xd [(F, v)])
theorem phiE_stay {K : PySem.W.Frag} : Stay (PhiE K C a dd F v) := fun σ H H2 ⟨h1, h2, h3⟩ e => ⟨h1, e _ _ h2, e _ _ h3⟩
theorem PhiE.set {K : PySem.W.Frag} {i : Nat} {o : Option V} (h : PhiE K C a dd F v σ H) (hi : i ≠ 0) : PhiE K C a dd F v (σ.set i o) H := ⟨by rw [List.getElem?_set_ne hi]; exact h.1, h.2⟩
variable {ρ : Rho} {d : PyData} {x y : Str} {p p0 p1 pos : Pos} {b : Bool}
theorem pvx_isk {D : Addr} (A : ExA X.K C) (hk : PySem.W.kitOne X.K (.ref C) (.ref D) = some b) (hi : X.mg "isinstance" = none) (hD : X.mg y = some (.ref D)) (hN : X.N[0]? = some x := by rfl) (hv : Vis X.env.scope x := by first | exact Or.inl rfl | exact Or.inr (Or.inl rfl) | exact Or.inr (Or.inr rfl)) (hd : (x == ("__debug__" : Str)) = false := by decide) (hcd : (x == ("__classdict__" : Str)) = false := by decide)
    (hgi : Gl X "isinstance" := by rfl) (hgy : Gl X y := by rfl) (hdb : (y == ("__debug__" : Str)) = false := by decide) (he : starEach (.Name x p0 :: [.Name y p1]) X.env = (false, eval (.Name x p0) X.env) :: starEach [.Name y p1] X.env := by rfl) (he2 : starEach (.Name y p1 :: []) X.env = (false, eval (.Name y p1) X.env) :: starEach [] X.env := by rfl) (hpl : (backTo pos (starEach [.Name y p1] X.env)).any (·.1) = false := by rfl) :
    PVX (PhiE X.K C a dd F v) X (.Call (.Name "isinstance" p) [.Name x p0, .Name y p1] [] pos) ρ (.bool b) :=
  fun σ G H φ u s Q q => wE_of (pe_callB call_isK hgi hi (by decide +kernel) (pa_cons (pe_var hN hv hd hcd) (pa_cons (pe_glob (v := .ref D) hgy hD rfl hdb) pa_nil he2) he) (by decide) (by decide) he hpl)
    ⟨.ref a, φ.1, a, C, D, dd, _, b, rfl, A, φ.2.1, φ.2.2, hk, q _ G H (Gr.refl u) (.bl b)⟩
theorem pvx_fld (A : ExA X.K C) (hno : PySem.W.findIn X.K (.ref C) F = some none) {σ : L2.St} {G H : Hp} (φ : PhiE X.K C a dd F v σ H) (u : Same G H) (kd : Dp X.K G v d) {Q : VK} (q : KD X.K G H Q d) (hN : X.N[0]? = some x := by rfl) (hv : Vis X.env.scope x := by first | exact Or.inl rfl | exact Or.inr (Or.inl rfl) | exact Or.inr (Or.inr rfl)) (hdb : (x == ("__debug__" : Str)) = false := by decide) (hcd : (x == ("__classdict__" : Str)) = false := by decide)
    (hb : attributeBase (.Name x p) F X.env (eval (.Name x p) X.env) = eval (.Name x p) X.env := by rfl) : wE X (.Attribute (.Name x p) F pos) σ H Q :=
  wE_of (pe_fld (pe_var hN hv hdb hcd) hb) ⟨.ref a, φ.1, a, C, dd, v, rfl, A, hno, φ.2.1, φ.2.2, q v G H (Gr.refl u) kd⟩
end
end DL
namespace Wk
open PySem PySem.Spec PyProof.Rows L2 DL
def clsL : List Str := ["BadHouse", "BadTree", "BadMove", "BadShape", "BadName", "BadCut", "BadRow", "BadOrder", "BadNumber", "BadText", "TooGreat", "NothingLeft"]
def twoL : List Str := ["BadHouse", "BadText"]
structure TxE (K : PySem.W.Frag) (mg : Str → Option Value) : Prop where
  cls : ∀ x ∈ ("WakeError" : Str) :: clsL, mg x = some (.ref (ca mg x))
  exa : ∀ x ∈ twoL, ExA K (ca mg x)
  kit : ∀ x ∈ twoL, ∀ y ∈ clsL, PySem.W.kitOne K (.ref (ca mg x)) (.ref (ca mg y)) = some (decide (x = y))
  exm : ∀ x ∈ twoL, PySem.W.exmAny K (.ref (ca mg x)) [.ref (ca mg "WakeError"), .ref (ca mg "TooGreat"), .ref (ca mg "NothingLeft")] = some true
section
variable {P : Program} {w : World} {K : PySem.W.Frag} {mg : Str → Option Value} {base : Heap}
/-- a def by any promise -/
theorem def_raw (T : Txt P K mg) {x : Str} {i k : Nat} {N ps : List Str} {sp : Sp} (hm : (x, i) ∈ fnL) (S : FnScope N ps (defScope (top i)))
    (hb : ∀ (kV doc pm : Value) (an : Option Addr) (cdv ct : Value) (us : List Value), us.length = ps.length → bindArgs (PySem.W.fnOf x x (defArgs (top i)) (defBody (top i)) (defScope (top i)) .none kV doc pm an cdv ct) ⟨us, []⟩ = pure (ps.zip us)) (len : ∀ vs H Q E, sp vs H Q E → vs.length = ps.length)
    (body : ∀ (f : Addr) (cdv : Value) (A : Around) (outer : List Env) (s : Shared) (H : Hp) (E : XK) (vs : List V) (Q : VK), Room k (A.deeper (envOfC x (defScope (top i)) s.heap.objs.size f cdv)) → sp vs H Q E →
      wSs (CC P w K mg base N x (defScope (top i)) f cdv A outer s H E) (defBody (top i)) { nx := fun _ H' => Q .non H', rt := Q } (L2.start N vs) H) : DefOk P w K mg base (k + 1) x sp := by
  obtain ⟨f, fd, hg, F⟩ := T.fn _ hm
  refine ⟨⟨L2.CX P w, f, fd, ps, hg, F.kp, F.bindsN hb, ?_, .inr rfl⟩⟩
  exact F.ok S len fun cdv A outer s H vs Q E hr h => ⟨wSs _ _, pss_w, body f cdv A outer s H E vs Q hr h⟩
end
end Wk
end X3_text
section HD0_text
set_option maxRecDepth 100000
set_option maxHeartbeats 2000000
namespace Hd
open PySem PySem.Spec PyProof.Rows L2 Wk DL
/-! ### what is looked at of the heap that the text's top leaves -/
def asC (g : Addr → Option Obj) : Nat → List Addr
  | 0 => [mainGlobals, cStatics]
  | n + 1 => He.growD g (asC g n)
abbrev KC (n : Nat) (g : Addr → Option Obj) : PySem.W.Frag := He.frT g (asC g n)
/-- an exception class of the text over ValueError, with a constructor of its own -/
def clsB (K : PySem.W.Frag) (C : Addr) : Bool := match K.lookup C with
  | some ⟨.type "type", _, .cls cd, sl⟩ => (match cd.mro, sl.toList with
    | .ref C' :: bm, [_, _, _, _, some (.builtin n), _] => (decide (C' = C) && decide (n = "ValueError.__new__")) && (!cd.hasDel && (cd.hasDict && PySem.HandSPX.refsVE bm))
    | _, _ => false)
  | _ => false
theorem clsB_ok {K : PySem.W.Frag} {C : Addr} (h : clsB K C = true) : ∃ nm q N bs bm sn sub ab col dd k0 k1 k2 k3 k5, K.lookup C = some (excClassObj nm q C N bs bm true sn sub ab col dd k0 k1 k2 k3 k5 "ValueError.__new__") ∧ PySem.HandSPX.refsVE bm = true := by
  unfold clsB at h
  split at h
  case h_2 => cases h
  case h_1 dd cd sl hk =>
    split at h
    case h_2 => cases h
    case h_1 C' bm k0 k1 k2 k3 n k5 hm hs =>
      simp only [Bool.and_eq_true, decide_eq_true_eq, Bool.not_eq_true'] at h
      obtain ⟨⟨e1, e2⟩, e3, e4, e5⟩ := h
      obtain ⟨l⟩ := sl
      obtain ⟨nm, bs, mro, ns, qn, hd, sn, sub, ab, col, del⟩ := cd
      simp only at hs hm e3 e4
      subst hs hm e1 e2 e3 e4
      exact ⟨nm, qn, ns, bs, bm, sn, sub, ab, col, dd, k0, k1, k2, k3, k5, hk, e5⟩
/-- what a constructor is, as far as the text tells -/
abbrev IV : Type := Option (Str × Arguments × FuncBody × Scope × Addr × List Str × Value × Addr)
def iniV (K : PySem.W.Frag) (x : Str) : IV := match K.lookup (He.ma K (He.ga K x) "__init__") with
  | some ⟨_, _, .func fd, _⟩ => some (fd.name, fd.params, fd.body, fd.scope, fd.globals, fd.closure.map (·.1), fd.defaults, fd.builtins)
  | _ => none
/-- .. and what the heap tells of it: its cell, its code -/
def iniF (K : PySem.W.Frag) (x : Str) (file : Str) : Bool := match K.lookup (He.ma K (He.ga K x) "__init__") with
  | some ⟨_, _, .func fd, _⟩ => (match fd.closure, fd.code with
    | [(_, cc)], .ref cda => (match K.lookup cc with
      | some ⟨_, _, .cell (some (.ref C')), _⟩ => decide (C' = He.ga K x)
      | _ => false) && (PySem.W.codeIn K (.ref cda) fd.qualname && (match K.lookup cda with
      | some ⟨_, _, .fields vs, _⟩ => (match (vs[2]? : Option Value) with
        | some (.str f _) => file == f
        | _ => false)
      | _ => false))
    | _, _ => false)
  | _ => false
def iniB (K : PySem.W.Frag) (x F : Str) : Bool :=
  (clsB K (He.ga K x) && (He.eqO (PySem.W.findIn K (.ref (He.ga K x)) "__setattr__") (some (some (.builtin "object.__setattr__"))) && (He.eqO (PySem.W.findIn K (.ref (He.ga K x)) "__getattribute__") (some (some (.builtin "BaseException.__getattribute__"))) && (He.eqO (PySem.W.findIn K (.ref (He.ga K x)) "__getattr__") (some none) &&
  (He.eqO (PySem.W.findIn K (.ref (He.ga K x)) F) (some none) && (He.eqO (PySem.W.findIn K (.ref (He.ga K x)) "__init__") (some (some (.ref (He.ma K (He.ga K x) "__init__")))) && (decide (PySem.W.typeIn K (.ref (He.ma K (He.ga K x) "__init__")) = some (.type "function")) && (PySem.W.keepIn K (.ref (He.ga K x)) &&
  (decide (PySem.W.subIn K (.ref (He.ga K x)) (.type "BaseException") = some true) && (decide (PySem.W.subIn K (.ref (He.ga K x)) (.type "ValueError") = some true) && (decide (PySem.W.typeIn K (.ref (He.ga K x)) = some (.type "type")) && (PySem.W.hasDictIn K (He.ga K x) &&
  (decide (PySem.W.mroIn K (He.ga K x) (.ref (He.ga K x)) = some true) && (He.eqO (PySem.W.ks_superIn K (He.ga K x) (He.ga K x) "__init__") (some (some (.builtin "ValueError.__init__"))) && (He.eqO (PySem.W.nsIn K mainGlobals "super") (some none) && He.eqO (PySem.W.nsIn K cStatics "thirdparty.any") (some none))))))))))))))))
/-- an exception class as an instance's class -/
def exaB (K : PySem.W.Frag) (C : Addr) : Bool :=
  (PySem.W.clsIn K C).isSome && (He.eqO (PySem.W.findIn K (.ref C) "__getattribute__") (some (some (.builtin "BaseException.__getattribute__"))) && (He.eqO (PySem.W.findIn K (.ref C) "__getattr__") (some none) && (decide (PySem.W.subIn K (.ref C) (.type "BaseException") = some true) && (He.eqO (PySem.W.findIn K (.ref C) "__class__") (some (some (.builtin "object.__class__"))) &&
  (He.eqO (PySem.W.specialIn K (.builtin "object.__class__") "__get__") (some (some (.builtin "getset_descriptor.__get__"))) && (decide (PySem.W.takesIn K (.builtin "object.__class__") = some true) && (decide (PySem.W.mroIn K C (.type "object") = some true) && PySem.W.hasDictIn K C)))))))
def tupC (K : PySem.W.Frag) (q : Str × List Str) : Bool := He.eqO (PySem.W.nsIn K mainGlobals q.1) (some (some (.ref (He.ga K q.1)))) && (He.tupB K q.1 (q.2.map He.Dv.str) && (match K.lookup (He.ga K q.1) with
  | some ⟨.type c, none, _, _⟩ => decide (c = "tuple")
  | _ => false))
def kitB2 (K : PySem.W.Frag) : Bool := (twoL.all fun x => clsL.all fun y => decide (PySem.W.kitOne K (.ref (He.ga K x)) (.ref (He.ga K y)) = some (decide (x = y)))) && twoL.all fun x => decide (PySem.W.exmAny K (.ref (He.ga K x)) [.ref (He.ga K "WakeError"), .ref (He.ga K "TooGreat"), .ref (He.ga K "NothingLeft")] = some true)
def fileH : Str := PySem.Challenge.pw_wakebook_k61_whole_texts_refused.main.file
def exH (K : PySem.W.Frag) : Bool := (tupL.all (tupC K) && decide ((He.cT K ("_law_due", none)).2 ≠ (He.cT K ("law", none)).2)) && ((iniB K "BadHouse" "place" && iniB K "BadText" "line") && ((iniF K "BadHouse" fileH && iniF K "BadText" fileH) && ((exaB K (He.ga K "BadHouse") && exaB K (He.ga K "BadText")) && kitB2 K)))
/-- a class statement's constructor -/
def initOf : Stmt → Stmt
  | .ClassDef (body := b) .. => b.headD (.Pass ⟨0, 0, 0, 0⟩)
  | s => s
def iniVal (i : Nat) : IV := some ("__init__", defArgs (initOf (top i)), .stmts (defBody (initOf (top i))), defScope (initOf (top i)), mainGlobals, ["__class__"], .none, builtinsNs)
def fnsH : List He.DefD := (fnL ++ [((("law" : Str), 85) : Str × Nat)]).map fun q => { at_ := (q.1, none), name := q.1, qual := q.1, params := defArgs (top q.2), body := defBody (top q.2), scope := defScope (top q.2) }
def faH : List He.Fa := freeL.map .free ++ ((strL.map fun q => .str q.1 q.2) ++ ((intL.map fun q => .int q.1 q.2) ++ ((("WakeError" : Str) :: clsL).map .glo ++ (fnL ++ [((("law" : Str), 85) : Str × Nat)]).map fun q => .glo q.1)))
def tfH : List He.Defn := [("_law_due", none), ("law", none)]
abbrev AlH : Type := He.AlX × IV × IV
def obsC (n : Nat) (g : Addr → Option Obj) : AlH := ((He.obsT faH fnsH [] (KC n g), exH (KC n g) && He.tabsB g tfH (KC n g)), iniV (KC n g) "BadHouse", iniV (KC n g) "BadText")
def valC (w : World) : AlH := (He.valX fnsH [] w, iniVal 2, iniVal 11)
structure SaysC (w : World) (h : Heap) (K : PySem.W.Frag) : Prop where
  x : He.SaysX faH fnsH [] tfH exH w h K
  bh : iniV K "BadHouse" = iniVal 2
  bt : iniV K "BadText" = iniVal 11
theorem saysC_of {n : Nat} {w : World} {h : Heap} (e : obsC n h.get? = valC w) : SaysC w h (KC n h.get?) := by
  have e0 := congrArg (fun z : AlH => z.1) e
  have e1 : He.obsT faH fnsH [] (KC n h.get?) = He.valT fnsH [] w := congrArg (fun z : He.AlX => z.1) e0
  have e2 : (exH (KC n h.get?) && He.tabsB h.get? tfH (KC n h.get?)) = true := congrArg (fun z : He.AlX => z.2) e0
  rw [Bool.and_eq_true] at e2
  have tab : ∀ p ∈ tfH, PySem.W.codeHdIn (KC n h.get?) (He.cT (KC n h.get?) p).1 (He.cT (KC n h.get?) p).2 = true ∧ ∃ o, h.get? (He.cT (KC n h.get?) p).2 = some o ∧ He.emptyTab o = true := fun p hp => by
    have z := List.all_eq_true.mp e2.2 p hp
    rw [Bool.and_eq_true] at z
    refine ⟨z.1, ?_⟩
    have z2 := z.2
    split at z2
    · exact ⟨_, by assumption, z2⟩
    · cases z2
  refine ⟨⟨e1, e2.1, fun p hp => (tab p hp).1, fun p hp => ?_, fun p hp => ?_⟩, congrArg (fun z : AlH => z.2.1) e, congrArg (fun z : AlH => z.2.2) e⟩
  · obtain ⟨_, o, h1, h2⟩ := tab p hp
    exact He.frT_none h1 h2
  · obtain ⟨_, o, h1, h2⟩ := tab p hp
    rw [h1, He.emptyTab_eq h2]
def hookC (n : Nat) : PySem.W.Hook where
  α := AlH
  obs := fun s => obsC n s.heap.get?
  val := valC
  says := fun w h => ∃ K : PySem.W.Frag, K.In h ∧ SaysC w h K
  of := fun _ _ e => ⟨_, He.frT_in, saysC_of e⟩
  keeps := fun _ _ _ ⟨K, hK, c⟩ k => ⟨K, PySem.W.Frag.In.keeps hK k, ⟨⟨c.x.t, c.x.more, c.x.hd, c.x.out, fun p hp => k _ _ (c.x.empty p hp)⟩, c.bh, c.bt⟩⟩
theorem obsC_eq {n : Nat} {g : Addr → Option Obj} {s : Shared} (h : ∀ a, g a = s.heap.get? a) : obsC n g = (hookC n).obs s := by
  have e : g = s.heap.get? := funext h
  rw [e] <;> rfl
end Hd
end HD0_text
section HD1_text
set_option maxRecDepth 100000
set_option maxHeartbeats 0
namespace Hd
open PySem PySem.Spec PyProof.Rows L2
/-! ### the run of the text's top -/
def names0 : List PySem.Str := ["WakeError", "BadHouse", "BadTree", "BadMove", "BadShape", "BadName", "BadCut", "BadRow", "BadOrder", "BadNumber", "BadText", "TooGreat", "NothingLeft", "MOST_KINDS", "MOST_STANDS", "MOST_EDGES", "MOST_LETTERS", "LETTERS", "CALM", "HELD"]
def names1 : List PySem.Str := ["OVER", "RUNG", "UNHELD", "ASKS", "GIVE", "GO", "HOLD", "HUSH", "DEEDS", "is_whole", "is_word", "is_tuple_of", "is_ascending", "is_stands", "is_asks", "is_edge", "need_edges", "is_below", "need_kind", "is_pair"]
def names2 : List PySem.Str := ["need_house", "FIGURES", "KIND", "UP", "DEAF", "BELOW", "EDGES", "ORDER", "spaced", "edge_words", "kind_lines", "house_text", "number_in", "edge_in", "numbers_in", "names_in", "line_in", "kind_in", "goes_on", "blocks_in"]
def names3 : List PySem.Str := ["item_of", "kind_of", "read_house", "_law_begun", "_law_draw", "_law_like", "_law_some", "_law_order", "_law_word_of", "_law_told", "_law_asks", "_law_edge", "_law_book", "_law_house", "_law_number", "_law_is_word", "_law_rises", "_law_line", "_law_may_follow", "_law_due"]
def names4 : List PySem.Str := ["_law_bent"]
def names : List PySem.Str := names0 ++ names1 ++ names2 ++ names3 ++ names4
abbrev R : PySem.W.OpenRow := PySem.W.OpenLaw.row PySem.Challenge.rw_wakebook_k61_whole_texts_refused
def ob (s : PySem.W.SharedT) : AlH := obsC 5 (HandSHeadRun.getT s)
theorem ob_eq (s : PySem.W.SharedT) : ob s = (hookC 5).obs s.abs := obsC_eq (HandSHeadRun.getT_eq s)
theorem run (w : World) : HandSHeadRun.RunEq R (PySem.W.view R.prog [85]) (hookC 5) ob 20000 names w := by
  intro os
  kernel_rfl
end Hd
end HD1_text
section G15_text
set_option maxRecDepth 100000
set_option maxHeartbeats 2000000
namespace Wk
open PySem PySem.Spec PyProof.Rows L2 DL
open PySem.W (alike dataLt)
section
variable {P : Program} {w : World} {K : PySem.W.Frag} {mg : Str → Option Value} {base : Heap}
def wordD (x : Str) (d : PyData) : PyData := .tuple [.str (if x = ("BadHouse" : Str) then "house" else "text"), d]
def fieldS (x : Str) : Str := if x = ("BadHouse" : Str) then "place" else "line"
def spWord (K : PySem.W.Frag) (mg : Str → Option Value) : Sp := fun vs H Q _ => ∃ (x : Str) (a dd : Addr) (v : V) (d : PyData) (G : Hp), x ∈ twoL ∧ vs = [.ref a] ∧ H a = some (Kept (.ref (ca mg x)) (some dd) a) ∧ H dd = some (.xd [(fieldS x, v)]) ∧ Same G H ∧ Dp K G v d ∧ KD K G H Q (wordD x d)
def rowsX (x : Str) : List (Str × Bool) := [("house", decide (x = ("BadHouse" : Str))), ("tree", decide (x = ("BadTree" : Str))), ("move", decide (x = ("BadMove" : Str))), ("shape", decide (x = ("BadShape" : Str))), ("name", decide (x = ("BadName" : Str))), ("cut", decide (x = ("BadCut" : Str))), ("row", decide (x = ("BadRow" : Str))), ("order", decide (x = ("BadOrder" : Str))), ("number", decide (x = ("BadNumber" : Str))), ("text", decide (x = ("BadText" : Str))), ("great", decide (x = ("TooGreat" : Str))), ("left", decide (x = ("NothingLeft" : Str)))]
theorem rowsX_two {x : Str} (h : x ∈ twoL) : (x = "BadHouse" ∧ ((rowsX x).filter (·.2)).map (fun q => PyData.str q.1) = [.str "house"]) ∨ (x = "BadText" ∧ ((rowsX x).filter (·.2)).map (fun q => PyData.str q.1) = [.str "text"]) := by
  have h' : x = "BadHouse" ∨ x = "BadText" := by simpa [twoL] using h
  rcases h' with rfl | rfl
  · exact .inl ⟨rfl, rfl⟩
  · exact .inr ⟨rfl, rfl⟩
abbrev N72 : List Str := ["_law_error", "_law_rows", "_law_words", "_law_word", "_law_holds"]
theorem sc72 : FnScope N72 ["_law_error"] (defScope (top 72)) := ⟨rfl, rfl, rfl, by decide +kernel, rfl, by decide +kernel, by decide +kernel⟩
theorem ok_law_word_of (T : Txt P K mg) (U : TxE K mg) : DefOk P w K mg base 2 "_law_word_of" (spWord K mg) := by
  refine def_raw T (i := 72) (N := N72) (ps := ["_law_error"]) (by decide +kernel) sc72 (fun _ _ _ _ _ _ us hl => match us, hl with | [_], _ => rfl) (fun vs H Q E h => ?_) ?_
  · obtain ⟨x, a, dd, v, d, G, hx, rfl, _⟩ := h
    rfl
  intro f cdv A outer s H E vs Q hr h
  obtain ⟨x, a, dd, v, d, G, hx, rfl, ha, hdd, u, kv, q⟩ := h
  have A := U.exa x hx
  have kt := U.kit x hx
  have φ0 : PhiE K (ca mg x) a dd (fieldS x) v (L2.start N72 [V.ref a]) H := ⟨rfl, ha, hdd⟩
  have s0 : SD K G (L2.start N72 [V.ref a]) [none, none, none, none, none] := ⟨rfl, fun i d e => by
    match i with
    | 0 => cases e
    | 1 => cases e
    | 2 => cases e
    | 3 => cases e
    | 4 => cases e
    | i + 5 => simp at e⟩
  have i10 : (1 : Nat) ≠ 0 := by decide
  refine ws_setX (i := 1) (d := .list [pairD (.str "house") (.bool (decide (x = ("BadHouse" : Str)))), pairD (.str "tree") (.bool (decide (x = ("BadTree" : Str))))]) φ0 u s0 (pvx_lst (pvxs_cons phiE_stay (pvx_tup (pvxs_cons phiE_stay (PV.x pv_str) (pvxs_cons phiE_stay (pvx_isk A (kt "BadHouse" (by decide)) (T_fr T) (U.cls "BadHouse" (by decide))) pvxs_nil))) (pvxs_cons phiE_stay (pvx_tup (pvxs_cons phiE_stay (PV.x pv_str) (pvxs_cons phiE_stay (pvx_isk A (kt "BadTree" (by decide)) (T_fr T) (U.cls "BadTree" (by decide))) pvxs_nil))) pvxs_nil))) sc72.nd fun v1 G1 H1 g1 k1 s1 => ?_
  have φ1 : PhiE K (ca mg x) a dd (fieldS x) v _ H1 := (phiE_stay _ _ _ φ0 g1.hh).set (i := 1) (o := some v1) i10
  refine ws_setX (i := 1) (d := .list [pairD (.str "house") (.bool (decide (x = ("BadHouse" : Str)))), pairD (.str "tree") (.bool (decide (x = ("BadTree" : Str)))), pairD (.str "move") (.bool (decide (x = ("BadMove" : Str)))), pairD (.str "shape") (.bool (decide (x = ("BadShape" : Str))))]) φ1 g1.sub s1 (PVX.to (pvx_bin phiE_stay op_catL (dr_cat (by rw [sizeLine_eq]; exact (by decide : 2 + 2 ≤ 16777216))) (PV.x (pv_var (i := 1) rfl)) (pvx_lst (pvxs_cons phiE_stay (pvx_tup (pvxs_cons phiE_stay (PV.x pv_str) (pvxs_cons phiE_stay (pvx_isk A (kt "BadMove" (by decide)) (T_fr T) (U.cls "BadMove" (by decide))) pvxs_nil))) (pvxs_cons phiE_stay (pvx_tup (pvxs_cons phiE_stay (PV.x pv_str) (pvxs_cons phiE_stay (pvx_isk A (kt "BadShape" (by decide)) (T_fr T) (U.cls "BadShape" (by decide))) pvxs_nil))) pvxs_nil)))) rfl) sc72.nd fun v2 G2 H2 g2 k2 s2 => ?_
  have φ2 : PhiE K (ca mg x) a dd (fieldS x) v _ H2 := (phiE_stay _ _ _ φ1 g2.hh).set (i := 1) (o := some v2) i10
  refine ws_setX (i := 1) (d := .list [pairD (.str "house") (.bool (decide (x = ("BadHouse" : Str)))), pairD (.str "tree") (.bool (decide (x = ("BadTree" : Str)))), pairD (.str "move") (.bool (decide (x = ("BadMove" : Str)))), pairD (.str "shape") (.bool (decide (x = ("BadShape" : Str)))), pairD (.str "name") (.bool (decide (x = ("BadName" : Str)))), pairD (.str "cut") (.bool (decide (x = ("BadCut" : Str))))]) φ2 g2.sub s2 (PVX.to (pvx_bin phiE_stay op_catL (dr_cat (by rw [sizeLine_eq]; exact (by decide : 4 + 2 ≤ 16777216))) (PV.x (pv_var (i := 1) rfl)) (pvx_lst (pvxs_cons phiE_stay (pvx_tup (pvxs_cons phiE_stay (PV.x pv_str) (pvxs_cons phiE_stay (pvx_isk A (kt "BadName" (by decide)) (T_fr T) (U.cls "BadName" (by decide))) pvxs_nil))) (pvxs_cons phiE_stay (pvx_tup (pvxs_cons phiE_stay (PV.x pv_str) (pvxs_cons phiE_stay (pvx_isk A (kt "BadCut" (by decide)) (T_fr T) (U.cls "BadCut" (by decide))) pvxs_nil))) pvxs_nil)))) rfl) sc72.nd fun v3 G3 H3 g3 k3 s3 => ?_
  have φ3 : PhiE K (ca mg x) a dd (fieldS x) v _ H3 := (phiE_stay _ _ _ φ2 g3.hh).set (i := 1) (o := some v3) i10
  refine ws_setX (i := 1) (d := .list [pairD (.str "house") (.bool (decide (x = ("BadHouse" : Str)))), pairD (.str "tree") (.bool (decide (x = ("BadTree" : Str)))), pairD (.str "move") (.bool (decide (x = ("BadMove" : Str)))), pairD (.str "shape") (.bool (decide (x = ("BadShape" : Str)))), pairD (.str "name") (.bool (decide (x = ("BadName" : Str)))), pairD (.str "cut") (.bool (decide (x = ("BadCut" : Str)))), pairD (.str "row") (.bool (decide (x = ("BadRow" : Str)))), pairD (.str "order") (.bool (decide (x = ("BadOrder" : Str))))]) φ3 g3.sub s3 (PVX.to (pvx_bin phiE_stay op_catL (dr_cat (by rw [sizeLine_eq]; exact (by decide : 6 + 2 ≤ 16777216))) (PV.x (pv_var (i := 1) rfl)) (pvx_lst (pvxs_cons phiE_stay (pvx_tup (pvxs_cons phiE_stay (PV.x pv_str) (pvxs_cons phiE_stay (pvx_isk A (kt "BadRow" (by decide)) (T_fr T) (U.cls "BadRow" (by decide))) pvxs_nil))) (pvxs_cons phiE_stay (pvx_tup (pvxs_cons phiE_stay (PV.x pv_str) (pvxs_cons phiE_stay (pvx_isk A (kt "BadOrder" (by decide)) (T_fr T) (U.cls "BadOrder" (by decide))) pvxs_nil))) pvxs_nil)))) rfl) sc72.nd fun v4 G4 H4 g4 k4 s4 => ?_
  have φ4 : PhiE K (ca mg x) a dd (fieldS x) v _ H4 := (phiE_stay _ _ _ φ3 g4.hh).set (i := 1) (o := some v4) i10
  refine ws_setX (i := 1) (d := .list [pairD (.str "house") (.bool (decide (x = ("BadHouse" : Str)))), pairD (.str "tree") (.bool (decide (x = ("BadTree" : Str)))), pairD (.str "move") (.bool (decide (x = ("BadMove" : Str)))), pairD (.str "shape") (.bool (decide (x = ("BadShape" : Str)))), pairD (.str "name") (.bool (decide (x = ("BadName" : Str)))), pairD (.str "cut") (.bool (decide (x = ("BadCut" : Str)))), pairD (.str "row") (.bool (decide (x = ("BadRow" : Str)))), pairD (.str "order") (.bool (decide (x = ("BadOrder" : Str)))), pairD (.str "number") (.bool (decide (x = ("BadNumber" : Str)))), pairD (.str "text") (.bool (decide (x = ("BadText" : Str))))]) φ4 g4.sub s4 (PVX.to (pvx_bin phiE_stay op_catL (dr_cat (by rw [sizeLine_eq]; exact (by decide : 8 + 2 ≤ 16777216))) (PV.x (pv_var (i := 1) rfl)) (pvx_lst (pvxs_cons phiE_stay (pvx_tup (pvxs_cons phiE_stay (PV.x pv_str) (pvxs_cons phiE_stay (pvx_isk A (kt "BadNumber" (by decide)) (T_fr T) (U.cls "BadNumber" (by decide))) pvxs_nil))) (pvxs_cons phiE_stay (pvx_tup (pvxs_cons phiE_stay (PV.x pv_str) (pvxs_cons phiE_stay (pvx_isk A (kt "BadText" (by decide)) (T_fr T) (U.cls "BadText" (by decide))) pvxs_nil))) pvxs_nil)))) rfl) sc72.nd fun v5 G5 H5 g5 k5 s5 => ?_
  have φ5 : PhiE K (ca mg x) a dd (fieldS x) v _ H5 := (phiE_stay _ _ _ φ4 g5.hh).set (i := 1) (o := some v5) i10
  refine ws_setX (i := 1) (d := .list [pairD (.str "house") (.bool (decide (x = ("BadHouse" : Str)))), pairD (.str "tree") (.bool (decide (x = ("BadTree" : Str)))), pairD (.str "move") (.bool (decide (x = ("BadMove" : Str)))), pairD (.str "shape") (.bool (decide (x = ("BadShape" : Str)))), pairD (.str "name") (.bool (decide (x = ("BadName" : Str)))), pairD (.str "cut") (.bool (decide (x = ("BadCut" : Str)))), pairD (.str "row") (.bool (decide (x = ("BadRow" : Str)))), pairD (.str "order") (.bool (decide (x = ("BadOrder" : Str)))), pairD (.str "number") (.bool (decide (x = ("BadNumber" : Str)))), pairD (.str "text") (.bool (decide (x = ("BadText" : Str)))), pairD (.str "great") (.bool (decide (x = ("TooGreat" : Str)))), pairD (.str "left") (.bool (decide (x = ("NothingLeft" : Str))))]) φ5 g5.sub s5 (PVX.to (pvx_bin phiE_stay op_catL (dr_cat (by rw [sizeLine_eq]; exact (by decide : 10 + 2 ≤ 16777216))) (PV.x (pv_var (i := 1) rfl)) (pvx_lst (pvxs_cons phiE_stay (pvx_tup (pvxs_cons phiE_stay (PV.x pv_str) (pvxs_cons phiE_stay (pvx_isk A (kt "TooGreat" (by decide)) (T_fr T) (U.cls "TooGreat" (by decide))) pvxs_nil))) (pvxs_cons phiE_stay (pvx_tup (pvxs_cons phiE_stay (PV.x pv_str) (pvxs_cons phiE_stay (pvx_isk A (kt "NothingLeft" (by decide)) (T_fr T) (U.cls "NothingLeft" (by decide))) pvxs_nil))) pvxs_nil)))) rfl) sc72.nd fun v6 G6 H6 g6 k6 s6 => ?_
  have φ6 : PhiE K (ca mg x) a dd (fieldS x) v _ H6 := (phiE_stay _ _ _ φ5 g6.hh).set (i := 1) (o := some v6) i10
  refine ws_setLc (i := 2) g6.sub s6 (xs := rowsX x) (enc := fun q => pairD (.str q.1) (.bool q.2)) (own := [("_law_word", 3), ("_law_holds", 4)]) (T := [3, 4]) (p := (·.2)) (f := fun q => .str q.1) (iv_list (ds := (rowsX x).map fun q => pairD (.str q.1) (.bool q.2)) (pv_var (i := 1) rfl)) sc72.nd (blkOk_by (N := N72) (sc := defScope (top 72)) (by decide +kernel)) (by rw [sizeLine_eq]; exact (by decide : 12 ≤ 16777216)) (by decide) (fun q _ _ _ _ _ _ => pgd_tup (pgds_cons (pgd_name (i := 3) sc72.nd) (pgds_cons (pgd_name (i := 4) sc72.nd) pgds_nil))) (fun q _ _ _ _ _ _ => pb_val (pv_var (i := 4) rfl)) (fun q _ _ _ _ _ _ _ => (pv_var (i := 3) rfl)) fun v7 G7 H7 g7 k7 s7 => ?_
  have φ7 : PhiE K (ca mg x) a dd (fieldS x) v _ H7 := (phiE_stay _ _ _ φ6 g7.hh).set (i := 2) (o := some v7) (by decide)
  have f7 : Gr G H G7 H7 := g1.trans (g2.trans (g3.trans (g4.trans (g5.trans (g6.trans g7)))))
  have D0 : ∀ z : PyData, min (PyData.str ("house" : Str)).depth z.depth ≤ 63 := fun z => by simp [PyData.depth]
  rcases rowsX_two hx with ⟨ex, er⟩ | ⟨ex, er⟩
  · rw [er] at s7
    subst ex
    have eF : fieldS "BadHouse" = "place" := by decide +kernel
    rw [eF] at φ7
    refine ws_if f7.sub s7 (PB.to (pb_cmp (op_neP (hu64 hr)) (dr_ne (by simp [PyData.depth])) (pv_callB call_ln drc_lenL (T_fr T) (pvs_cons (pv_var (i := 2) rfl) pvs_nil)) pv_int) (b' := false) rfl) (fun q => nomatch q) fun _ G8 H8 g8 => ws_nil ?_
    refine ws_if g8.sub (s7.gr g8) (PB.to (pb_cmp (op_inP (hu64 hr)) (dr_inT (by simp [PyData.depth])) (pv_ixL (i := 0) (pv_var (i := 2) rfl) pv_int L2.atI_zero) (pv_tup (pvs_cons pv_str (pvs_cons pv_str (pvs_cons pv_str pvs_nil))))) (b' := true) (by decide +kernel)) (fun _ G9 H9 g9 => ?_) fun q => nomatch q
    have f9 := f7.trans (g8.trans g9)
    have φ9 := phiE_stay _ _ _ φ7 (g8.trans g9).hh
    refine ws_retE (wE_of (pe_tup (pa_cons pe_w (pa_cons pe_w pa_nil))) ?_)
    refine PV.go (pv_ixL (i := 0) (pv_var (i := 2) rfl) pv_int L2.atI_zero) g9.sub (s7.gr (g8.trans g9)) fun w1 Ga Ha ga ka => ?_
    refine pvx_fld (d := d) A T.xh.2.choose_spec.noN (phiE_stay _ _ _ φ9 ga.hh) ga.sub (kv.gr (f9.trans ga)) fun w2 Gb Hb gb kb => ?_
    exact ⟨by show 2 ≤ sizeLine; decide, fun pp hp => q _ _ _ (f9.trans (ga.trans (gb.trans (Gr.upd gb.sub hp)))) (.tup (SqT.of upd_same) (.cons (ka.gr (gb.trans (Gr.upd gb.sub hp))) (.cons (kb.gr (Gr.upd gb.sub hp)) .nil)))⟩
  · rw [er] at s7
    subst ex
    have eF : fieldS "BadText" = "line" := by decide +kernel
    rw [eF] at φ7
    refine ws_if f7.sub s7 (PB.to (pb_cmp (op_neP (hu64 hr)) (dr_ne (by simp [PyData.depth])) (pv_callB call_ln drc_lenL (T_fr T) (pvs_cons (pv_var (i := 2) rfl) pvs_nil)) pv_int) (b' := false) rfl) (fun q => nomatch q) fun _ G8 H8 g8 => ws_nil ?_
    refine ws_if g8.sub (s7.gr g8) (PB.to (pb_cmp (op_inP (hu64 hr)) (dr_inT (by simp [PyData.depth])) (pv_ixL (i := 0) (pv_var (i := 2) rfl) pv_int L2.atI_zero) (pv_tup (pvs_cons pv_str (pvs_cons pv_str (pvs_cons pv_str pvs_nil))))) (b' := false) (by decide +kernel)) (fun q => nomatch q) fun _ G9 H9 g9 => ws_nil ?_
    refine ws_if g9.sub (s7.gr (g8.trans g9)) (PB.to (pb_cmp (op_eqP (hu64 hr)) (dr_eq (by simp [PyData.depth])) (pv_ixL (i := 0) (pv_var (i := 2) rfl) pv_int L2.atI_zero) pv_str) (b' := true) (by decide +kernel)) (fun _ Ga Ha ga => ?_) fun q => nomatch q
    have fa := f7.trans (g8.trans (g9.trans ga))
    have φa := phiE_stay _ _ _ φ7 (g8.trans (g9.trans ga)).hh
    refine ws_retE (wE_of (pe_tup (pa_cons pe_w (pa_cons pe_w pa_nil))) ?_)
    refine PV.go (d := .str "text") pv_str ga.sub (s7.gr (g8.trans (g9.trans ga))) fun w1 Gb Hb gb kb => ?_
    refine pvx_fld (d := d) A T.xt.2.choose_spec.noN (phiE_stay _ _ _ φa gb.hh) gb.sub (kv.gr (fa.trans gb)) fun w2 Gc Hc gc kc => ?_
    exact ⟨by show 2 ≤ sizeLine; decide, fun pp hp => q _ _ _ (fa.trans (gb.trans (gc.trans (Gr.upd gc.sub hp)))) (.tup (SqT.of upd_same) (.cons (kb.gr (gc.trans (Gr.upd gc.sub hp))) (.cons (kc.gr (Gr.upd gc.sub hp)) .nil)))⟩
end
end Wk
end G15_text
section G16_text
set_option maxRecDepth 100000
set_option maxHeartbeats 4000000
namespace Wk
open PySem PySem.Spec PyProof.Rows L2 DL LamX
/-- how a call within a told ends: it gives d, or an error of the class named x, its field reads as d -/
inductive TOut where
  | ok (d : PyData)
  | er (x : Str) (d : PyData)
def TOut.out (mg : Str → Option Value) : TOut → Out
  | .ok d => .rt d
  | .er x d => .ex (ca mg x) (fieldS x) d
def TOut.tell : TOut → PyData
  | .ok d => .list [d]
  | .er x d => wordD x d
def TOut.fine : TOut → Prop
  | .ok _ => True
  | .er x _ => x ∈ twoL
/-- told(lambda: ..), by what the lambda does -/
def TTk (K : PySem.W.Frag) (mg : Str → Option Value) : (XK → Hp → VK → Prop) → Hp → VK → Prop := fun tl H Q => ∃ (o : TOut) (G : Hp), o.fine ∧ Same G H ∧ (∀ G1 H1, Gr G H G1 H1 → ∀ E Q', KO K E G1 H1 Q' (o.out mg) → tl E H1 Q') ∧ KD K G H Q o.tell
abbrev N73 : List Str := ["_law_call", "_law_found", "_law_error", "e"]
theorem sc73 : FnScope N73 ["_law_call"] (defScope (top 73)) := ⟨rfl, rfl, rfl, by decide +kernel, rfl, by decide +kernel, by decide +kernel⟩
theorem st73 (f : Addr) : L2.start N73 [V.ref f] = [some (.ref f), none, none, none] := rfl
theorem told_gives {X : Cx} {g : Addr} {cdg : Value} {q : Str} {k : Nat} (T : Txt X.prog X.K X.mg) (U : TxE X.K X.mg) (W : DefOk X.prog X.w X.K X.mg X.base k "_law_word_of" (spWord X.K X.mg)) (hr : Room (k + 1) X.A) :
    GivesTo X N73 "_law_told" (defScope (top 73)) g cdg (defBody (top 73)) "_law_call" q (TTk X.K X.mg) := by
  intro f c' s H Q tl act hc h
  obtain ⟨o, G, hfine, hu, htl, hq⟩ := h
  refine ⟨wSs _ _, pss_w, ?_⟩
  rw [st73]
  -- _law_found, _law_error = None, None
  have s0 : SD X.K G [some (V.ref f), none, none, none] [none, none, none, none] := ⟨rfl, fun i e he => by
    match i with
    | 0 => cases he
    | 1 => cases he
    | 2 => cases he
    | 3 => cases he
    | i + 4 => simp at he⟩
  refine ws_asg (ρ' := [none, some .none, some .none, none]) (T := [1, 2]) hu s0 (pv_tup (pvs_cons pv_non (pvs_cons pv_non pvs_nil))) (pgd_tup (pgds_cons (pgd_name (i := 1) sc73.nd) (pgds_cons (pgd_name (i := 2) sc73.nd) pgds_nil))) fun σ1 G1 H1 g1 t1 s1 => ?_
  have h10 : σ1[0]? = some (some (V.ref f)) := by rw [t1.2 0 (by decide)] <;> rfl
  -- try
  refine wSs_of (pss_cons (ps_try_keep (X := (cxOf C8.CX0 X.prog X.w X.K X.mg X.base N73 "_law_told" (defScope (top 73)) g cdg X.A X.stack s H C8.E0).nox) (i := 3)
    (tb := fun W D σ H => ∃ Ech : XK, (∀ cls d σ' H', Ech cls d H' → W cls d σ' H') ∧ σ[0]? = some (some (.ref f)) ∧ H c' = some (CodeO c' q) ∧ tl Ech H fun v H1 => D.nx (σ.set 1 (some v)) H1)
    (ts := fun _ _ _ D σ H => σ.length = 4 → tAsg (tVar 3) (gName 2) D σ H) (Wout := fun _ _ _ _ => False)
    rfl rfl rfl sc73.nd rfl rfl rfl rfl rfl (U.cls _ (by decide)) (U.cls _ (by decide)) (U.cls _ (by decide)) (by decide) (by decide) (by decide) LamX.takes0 (fun W pn xe tk _ => ?body) (fun a oe cls d pn _ _ => ?suite)) pss_w) ?rest
  case body =>
    constructor
    intro pins s' σ H' D I h'
    obtain ⟨Ech, hW, h1, h2, h3⟩ := h'
    have hp := fun p1 p2 => act W pn xe Ech p1 p2 tk hW
    exact (pss_one (ps_set (i := 1) sc73.nd rfl (Or.inl rfl) (hp _ _))).run pins s' σ H' D I ⟨h1, h2, h3⟩
  case suite =>
    constructor
    intro pins s' σ H' D I h'
    exact (pss_one (ps_set (i := 2) sc73.nd rfl (Or.inl rfl) (L2.pv 3))).run pins s' σ H' D I (h' I.len)
  case rest =>
    refine ⟨fun cls d H' => ∀ σ', wKeep X.K [.ref (ca X.mg "WakeError"), .ref (ca X.mg "TooGreat"), .ref (ca X.mg "NothingLeft")] 3 (fun _ _ _ D σ H => σ.length = 4 → tAsg (tVar 3) (gName 2) D σ H) (fun _ _ _ _ => False) _ cls d σ' H', fun cls d σ' H' z => z σ', h10, g1.hh _ _ hc, ?_⟩
    refine htl _ _ g1 _ _ ?_
    cases o with
    | ok d =>
      intro v G2 H2 g2 kv
      have s2 : SD X.K G2 (σ1.set 1 (some v)) [none, some d, some .none, none] := (s1.gr g2).set 1 kv
      refine PSD.ws (E := C8.E0) (o := .out (.rt (.list [d]))) (PSD.to (psd_ret (pv_if (d2 := .none) (PB.to (pb_cmp op_isNn dr_isN (pv_var (i := 2) rfl) pv_non) (b' := true) rfl) (fun _ => pv_lst (pvs_cons (pv_var (i := 1) rfl) pvs_nil)) fun z => nomatch z)) rfl) g2.sub s2 ?_
      exact fun w G3 H3 g3 kw => hq w G3 H3 (g1.trans (g2.trans g3)) kw
    | er x d =>
      intro dd v G2 H2 g2 hdd kv σ'
      refine ⟨true, U.exm x hfine, fun _ a ha => ?_, fun z => nomatch z⟩
      intro hlen
      have hlen' : σ'.length = 4 := by rw [List.length_set] at hlen; exact hlen
      refine ⟨.ref a, by rw [List.getElem?_set_self (by omega)], ?_⟩
      have g3 : Gr G2 H2 G2 (L2.upd H2 a (Kept (.ref (ca X.mg x)) (some dd) a)) := ⟨fun b u e => by rw [upd_ne (ne_of_none (g2.sub b u e) ha)]; exact g2.sub b u e, L2.Same.refl _, Same.upd ha, fun _ _ => rfl⟩
      have h2 : (((σ'.set 3 (some (V.ref a))).set 2 (some (V.ref a))).set 3 none)[2]? = some (some (V.ref a)) := by
        rw [List.getElem?_set_ne (by decide), List.getElem?_set_self (by rw [List.length_set]; omega)]
      refine wSs_of (pss_cons (ps_ret (pe_ifExp (pt_cmpR op_isNn (pe_var (i := 2) rfl (Or.inl rfl)) pe_non (nomark _)) pe_w pe_w)) pss_w) ?_
      refine ⟨.ref a, h2, rfl, false, by simp, ?_⟩
      show (if false = true then _ else _)
      rw [if_neg Bool.false_ne_true]
      refine wE_call (X := (cxOf C8.CX0 X.prog X.w X.K X.mg X.base N73 "_law_told" (defScope (top 73)) g cdg X.A X.stack s H C8.E0).nox) (k := k) W (hr.deeper _) (wA_of (pa_cons (pe_var (i := 2) rfl (Or.inl rfl)) pa_nil) ⟨.ref a, h2, ?_⟩)
      exact ⟨x, a, dd, v, d, G2, hfine, rfl, upd_same, by rw [upd_ne (ne_of_none hdd ha)]; exact hdd, g3.sub, kv, fun w G4 H4 g4 kw => hq w G4 H4 (g1.trans (g2.trans (g3.trans g4))) kw⟩
end Wk
end G16_text
section P3_text
set_option maxRecDepth 100000
set_option maxHeartbeats 2000000
namespace Wk
open PySem PySem.Spec PyProof.Rows L2 DL
/-! ### rows in order -/
def Srt (ls : List Ln) : Prop := ls.Pairwise fun a b => ord a < ord b ∨ (ord a = 3 ∧ ord b = 3)
theorem edgeLt_ord {a l : Ln} (h : edgeLt a l = true) : ord a = 3 ∧ ord l = 3 := by
  cases a <;> cases l <;> first | exact ⟨rfl, rfl⟩ | cases h
theorem srt_snoc {ls : List Ln} {l : Ln} (h : Srt ls) (g : goesOn ls l = true) : Srt (ls ++ [l]) := by
  unfold Srt at h ⊢
  rw [List.pairwise_append]
  refine ⟨h, List.pairwise_singleton _ _, fun a ha b hb => ?_⟩
  rw [List.mem_singleton.mp hb]
  cases hl : ls.getLast? with
  | none =>
    rw [List.getLast?_eq_none_iff.mp hl] at ha
    cases ha
  | some z =>
    unfold goesOn at g
    rw [hl] at g
    have hz : ord z < ord l ∨ (ord z = 3 ∧ ord l = 3) := by
      have g' : (decide (ord z < ord l) || edgeLt z l) = true := g
      rw [Bool.or_eq_true, decide_eq_true_eq] at g'
      exact g'.imp id edgeLt_ord
    obtain ⟨i, e⟩ := List.getLast?_eq_some_iff.mp hl
    rw [e] at ha h
    rcases List.mem_append.mp ha with ha | ha
    · have := (List.pairwise_append.mp h).2.2 a ha z (by simp)
      omega
    · rw [List.mem_singleton.mp ha]
      exact hz
theorem stepB_srt {bs bs' : List Blk} {l : Ln} (h : ∀ b ∈ bs, Srt b.lines) (e : stepB bs l = some bs') : ∀ b ∈ bs', Srt b.lines := by
  have add : ∀ (nm : Str) (k : Int), ∀ b ∈ bs ++ [⟨nm, k, []⟩], Srt b.lines := fun nm k b hb => by
    rcases List.mem_append.mp hb with hb | hb
    · exact h b hb
    · rw [List.mem_singleton.mp hb]
      exact List.Pairwise.nil
  by_cases hk : notKind l
  · rw [stepB_other hk] at e
    cases hg : bs.getLast? with
    | none => rw [hg] at e; cases e
    | some b =>
      rw [hg] at e
      simp only [] at e
      split at e
      · rename_i hgo
        have e2 := Option.some.inj e
        subst e2
        intro b' hb'
        rcases List.mem_append.mp hb' with hb' | hb'
        · exact h b' ((List.dropLast_sublist bs).subset hb')
        · rw [List.mem_singleton.mp hb']
          exact srt_snoc (h b (List.mem_of_getLast? hg)) hgo
      · cases e
  · cases l with
    | kind nm k =>
      unfold stepB at e
      simp only [] at e
      cases hg : bs.getLast? with
      | none =>
        rw [hg] at e
        have hn : bs = [] := List.getLast?_eq_none_iff.mp hg
        have e2 := Option.some.inj e
        subst e2
        have := add nm k
        rw [hn] at this
        exact this
      | some b =>
        rw [hg] at e
        simp only [] at e
        split at e
        · have e2 := Option.some.inj e
          subst e2
          exact add nm k
        · cases e
    | _ => exact absurd trivial hk
/-! ### the rows' table -/
def rowsT (ls : List Ln) : List Ln := ls.filter fun l => decide (ord l ≠ 3)
theorem rowsT_nodup {ls : List Ln} (h : Srt ls) : ((rowsT ls).map ord).Nodup := by
  unfold rowsT
  rw [List.Nodup, List.pairwise_map]
  have h2 := List.Pairwise.filter (fun l => decide (ord l ≠ 3)) h
  refine h2.imp_of_mem fun {a b} ha hb r => ?_
  have h3 : ord a ≠ 3 := by simpa using (List.mem_filter.mp ha).2
  rcases r with r | r
  · omega
  · exact absurd r.1 h3
inductive All2 {α β : Type} (R : α → β → Prop) : List α → List β → Prop
  | nil : All2 R [] []
  | cons {a b l m} : R a b → All2 R l m → All2 R (a :: l) (b :: m)
theorem put_new : ∀ (kvs : List (Key × V)) (k : Key) (v : V), (∀ q ∈ kvs, q.1 ≠ k) → putK kvs k v = kvs ++ [(k, v)] := fun kvs k v h => by
  unfold putK
  rw [if_neg]
  simp only [List.any_eq_true, decide_eq_true_eq, not_exists, not_and]
  exact fun q hq => h q hq
theorem merge_new : ∀ (more kvs : List (Key × V)), ((kvs ++ more).map (·.1)).Nodup → mergeK kvs more = kvs ++ more
  | [], kvs, _ => by simp [mergeK]
  | p :: r, kvs, h => by
    have hp : putK kvs p.1 p.2 = kvs ++ [p] := put_new kvs p.1 p.2 fun q hq e => by
      rw [List.map_append, List.nodup_append] at h
      exact h.2.2 q.1 (List.mem_map_of_mem hq) p.1 (by simp) e
    show mergeK (putK kvs p.1 p.2) r = _
    rw [hp, merge_new r (kvs ++ [p]) (by rw [List.append_assoc]; exact h), List.append_assoc]
    rfl
variable {K : PySem.W.Frag} {G : Hp}
/-- the pairs of the table -/
def KvOk (K : PySem.W.Frag) (G : Hp) (kv : Key × V) (l : Ln) : Prop := kv.1 = .inl (ord l : Nat) ∧ Dp K G kv.2 (val l)
theorem pairs_data : ∀ {ls : List Ln} {xs : List V}, DpAll K G xs (ls.map encL1) → ∃ (ps : List Addr) (kvs : List (Key × V)), xs = ps.map V.ref ∧ Paired (fun p kv => SqT K G p [kV kv.1, kv.2]) ps kvs ∧ All2 (KvOk K G) kvs ls
  | [], xs, h => by
    have h' : DpAll K G xs [] := h
    cases h'
    exact ⟨[], [], rfl, .nil, .nil⟩
  | l :: ls, xs, h => by
    have h' : DpAll K G xs (encL1 l :: ls.map encL1) := h
    cases h' with
    | cons h1 h2 =>
      obtain ⟨p, ys, rfl, hq, hd⟩ := Dp.tupE (show Dp K G _ (.tuple [.int (ord l : Nat), val l]) from h1)
      obtain ⟨u, v, rfl, hu, hv⟩ := DpAll.twoE hd
      obtain ⟨ps, kvs, rfl, i2, i3⟩ := pairs_data h2
      have eu := Dp.intE hu
      subst eu
      exact ⟨p :: ps, (.inl (ord l : Nat), v) :: kvs, rfl, .cons hq i2, .cons ⟨rfl, hv⟩ i3⟩
theorem keys_of {kvs : List (Key × V)} {ls : List Ln} (h : All2 (KvOk K G) kvs ls) : kvs.map (·.1) = (ls.map ord).map fun n => (.inl (n : Nat) : Key) := by
  induction h with
  | nil => rfl
  | cons h1 _ ih =>
    rw [List.map_cons, List.map_cons, List.map_cons, ih, h1.1]
theorem nodup_keys {kvs : List (Key × V)} {ls : List Ln} (h : All2 (KvOk K G) kvs ls) (n : (ls.map ord).Nodup) : (kvs.map (·.1)).Nodup := by
  rw [keys_of h, List.Nodup, List.pairwise_map]
  refine List.Pairwise.imp (fun {a b} r e => r ?_) n
  have := Sum.inl.inj e
  exact Int.ofNat.inj this
/-- the value of a key, or what is given instead -/
theorem get_of {kvs : List (Key × V)} {ls : List Ln} (h : All2 (KvOk K G) kvs ls) (j : Nat) (z : V) (d : PyData) (hz : (∀ l ∈ ls, ord l ≠ j) → Dp K G z d) (hl : ∀ l, ls.find? (fun l => decide (ord l = j)) = some l → val l = d) : Dp K G ((valV kvs (.inl (j : Nat))).getD z) d := by
  induction h with
  | nil => exact hz fun l hl => nomatch hl
  | @cons kv l kvs ls h1 _ ih =>
    by_cases hj : ord l = j
    · have e : kv.1 = .inl (j : Nat) := by rw [h1.1, hj]
      rw [valV_pos e]
      have := hl l (by rw [List.find?_cons_of_pos (by simpa using hj)])
      rw [← this]
      exact h1.2
    · have e : ¬ kv.1 = .inl (j : Nat) := fun e => hj (by
        rw [h1.1] at e
        exact Int.ofNat.inj (Sum.inl.inj e))
      rw [valV_neg e]
      exact ih (fun hn => hz fun l' hl' => by
        rcases List.mem_cons.mp hl' with rfl | hl'
        · exact hj
        · exact hn l' hl') fun l' hl' => hl l' (by rw [List.find?_cons_of_neg (by simpa using hj)]; exact hl')
theorem find_rows (ls : List Ln) (j : Nat) (hj : j ≠ 3) : (rowsT ls).find? (fun l => decide (ord l = j)) = ls.find? fun l => decide (ord l = j) := by
  unfold rowsT
  induction ls with
  | nil => rfl
  | cons l r ih =>
    by_cases h3 : ord l = 3
    · rw [List.filter_cons_of_neg (by simpa using h3), ih, List.find?_cons_of_neg (by simp; omega)]
    · rw [List.filter_cons_of_pos (by simpa using h3)]
      by_cases hl : ord l = j
      · rw [List.find?_cons_of_pos (by simpa using hl), List.find?_cons_of_pos (by simpa using hl)]
      · rw [List.find?_cons_of_neg (by simpa using hl), List.find?_cons_of_neg (by simpa using hl), ih]
theorem ups_find (ls : List Ln) : (∀ l, ls.find? (fun l => decide (ord l = 1)) = some l → val l = tI (ups ls)) ∧ ((∀ l ∈ ls, ord l ≠ 1) → tI (ups ls) = .tuple []) := by
  induction ls with
  | nil => exact ⟨(fun l h => nomatch h), fun _ => rfl⟩
  | cons a r ih => cases a with
    | up xs => exact ⟨fun l h => by have := Option.some.inj h; subst this; rfl, fun h => absurd rfl (h (.up xs) (by simp))⟩
    | kind n k => exact ⟨fun l h => ih.1 l h, fun h => ih.2 fun l hl => h l (List.mem_cons_of_mem _ hl)⟩
    | deaf xs => exact ⟨fun l h => ih.1 l h, fun h => ih.2 fun l hl => h l (List.mem_cons_of_mem _ hl)⟩
    | edge x => exact ⟨fun l h => ih.1 l h, fun h => ih.2 fun l hl => h l (List.mem_cons_of_mem _ hl)⟩
    | below xs => exact ⟨fun l h => ih.1 l h, fun h => ih.2 fun l hl => h l (List.mem_cons_of_mem _ hl)⟩
theorem deafs_find (ls : List Ln) : (∀ l, ls.find? (fun l => decide (ord l = 2)) = some l → val l = tI (deafs ls)) ∧ ((∀ l ∈ ls, ord l ≠ 2) → tI (deafs ls) = .tuple []) := by
  induction ls with
  | nil => exact ⟨(fun l h => nomatch h), fun _ => rfl⟩
  | cons a r ih => cases a with
    | deaf xs => exact ⟨fun l h => by have := Option.some.inj h; subst this; rfl, fun h => absurd rfl (h (.deaf xs) (by simp))⟩
    | kind n k => exact ⟨fun l h => ih.1 l h, fun h => ih.2 fun l hl => h l (List.mem_cons_of_mem _ hl)⟩
    | up xs => exact ⟨fun l h => ih.1 l h, fun h => ih.2 fun l hl => h l (List.mem_cons_of_mem _ hl)⟩
    | edge x => exact ⟨fun l h => ih.1 l h, fun h => ih.2 fun l hl => h l (List.mem_cons_of_mem _ hl)⟩
    | below xs => exact ⟨fun l h => ih.1 l h, fun h => ih.2 fun l hl => h l (List.mem_cons_of_mem _ hl)⟩
theorem belows_find (ls : List Ln) : (∀ l, ls.find? (fun l => decide (ord l = 4)) = some l → val l = tS (belows ls)) ∧ ((∀ l ∈ ls, ord l ≠ 4) → tS (belows ls) = .tuple []) := by
  induction ls with
  | nil => exact ⟨(fun l h => nomatch h), fun _ => rfl⟩
  | cons a r ih => cases a with
    | below xs => exact ⟨fun l h => by have := Option.some.inj h; subst this; rfl, fun h => absurd rfl (h (.below xs) (by simp))⟩
    | kind n k => exact ⟨fun l h => ih.1 l h, fun h => ih.2 fun l hl => h l (List.mem_cons_of_mem _ hl)⟩
    | up xs => exact ⟨fun l h => ih.1 l h, fun h => ih.2 fun l hl => h l (List.mem_cons_of_mem _ hl)⟩
    | edge x => exact ⟨fun l h => ih.1 l h, fun h => ih.2 fun l hl => h l (List.mem_cons_of_mem _ hl)⟩
    | deaf xs => exact ⟨fun l h => ih.1 l h, fun h => ih.2 fun l hl => h l (List.mem_cons_of_mem _ hl)⟩
theorem edges_filter3 (ls : List Ln) : (ls.filter fun l => decide (ord l = 3)).map val = (edges ls).map encE := by
  induction ls with
  | nil => rfl
  | cons l r ih => cases l with
    | edge x =>
      show encE x :: (r.filter fun l => decide (ord l = 3)).map val = encE x :: (edges r).map encE
      rw [ih]
    | _ => exact ih
end Wk
end P3_text
section G17a_text
set_option maxRecDepth 100000
set_option maxHeartbeats 2000000
namespace Wk
open PySem PySem.Spec PyProof.Rows L2 DL LamX
section
variable {K : PySem.W.Frag}
def hdD (b : Blk) : PyData := .tuple [.str b.name, .int b.k]
/-- the law's blocks as they grow -/
def Fl (K : PySem.W.Frag) (H0 G H : Hp) (a : Addr) (bs : List Blk) : Prop := G a = none ∧ H0 a = none ∧ ((bs = [] ∧ H a = some (.lst [])) ∨ ∃ (init : List Blk) (b : Blk) (vs : List V) (t l : Addr) (ws : List V) (vh : V), bs = init ++ [b] ∧ H a = some (.lst (vs ++ [.ref t])) ∧ DpAll K G vs (init.map encF) ∧
  H t = some (.tup [vh, .ref l]) ∧ H l = some (.lst ws) ∧ DpAll K G ws (b.lines.map encL1) ∧ G t = none ∧ G l = none ∧ H0 t = none ∧ H0 l = none ∧ a ≠ l ∧ Dp K G vh (hdD b))
variable {H0 G H G2 H2 : Hp} {a : Addr} {bs : List Blk}
theorem Fl.gr (h : Fl K H0 G H a bs) (g : Gr G H G2 H2) : Fl K H0 G2 H2 a bs := by
  obtain ⟨h1, h2, h3 | ⟨init, b, vs, t, l, ws, vh, e, ha, hv, ht, hl, hw, gt, gl, h0t, h0l, al, dh⟩⟩ := h
  · obtain ⟨e1, e2⟩ := Gr.own g h3.2 h1
    exact ⟨e2, h2, .inl ⟨h3.1, e1⟩⟩
  · obtain ⟨e1, e2⟩ := Gr.own g ha h1
    obtain ⟨e3, e4⟩ := Gr.own g ht gt
    obtain ⟨e5, e6⟩ := Gr.own g hl gl
    exact ⟨e2, h2, .inr ⟨init, b, vs, t, l, ws, vh, e, e1, DpAll.same g.gg hv, e3, e5, DpAll.same g.gg hw, e4, e6, h0t, h0l, al, dh.gr g⟩⟩
theorem Fl.snap (h : Fl K H0 G H a bs) (sub : Same G H) : ∃ G', Same G G' ∧ Same G' H ∧ Dp K G' (.ref a) (.list (bs.map encF)) ∧ ∀ c, H0 c ≠ none → G' c = G c := by
  obtain ⟨h1, h2, h3 | ⟨init, b, vs, t, l, ws, vh, e, ha, hv, ht, hl, hw, gt, gl, h0t, h0l, al, dh⟩⟩ := h
  · obtain ⟨rfl, h4⟩ := h3
    refine ⟨L2.upd G a (.lst []), Same.upd h1, fun c o hc => ?_, .lst (SqL.of upd_same) .nil, fun c hc => upd_ne fun z => hc (by rw [z]; exact h2)⟩
    by_cases hca : c = a
    · rw [hca, upd_same] at hc
      rw [hca, h4]
      exact hc
    · rw [upd_ne hca] at hc
      exact sub c o hc
  · have hta : t ≠ a := fun z => by rw [z, ha] at ht; cases ht
    have htl : t ≠ l := fun z => by rw [z, hl] at ht; cases ht
    subst e
    have s1 : Same G (L2.upd G l (.lst ws)) := Same.upd gl
    have g1t : L2.upd G l (.lst ws) t = none := by rw [upd_ne htl]; exact gt
    have s2 : Same (L2.upd G l (.lst ws)) (L2.upd (L2.upd G l (.lst ws)) t (.tup [vh, .ref l])) := Same.upd g1t
    have g2a : L2.upd (L2.upd G l (.lst ws)) t (.tup [vh, .ref l]) a = none := by rw [upd_ne (Ne.symm hta), upd_ne al]; exact h1
    have s3 : Same (L2.upd (L2.upd G l (.lst ws)) t (.tup [vh, .ref l])) (L2.upd (L2.upd (L2.upd G l (.lst ws)) t (.tup [vh, .ref l])) a (.lst (vs ++ [.ref t]))) := Same.upd g2a
    refine ⟨_, s1.trans (s2.trans s3), fun c o hc => ?_, .lst (SqL.of upd_same) ?_, fun c hc => ?_⟩
    · by_cases hca : c = a
      · rw [hca, upd_same] at hc
        rw [hca, ha]
        exact hc
      · rw [upd_ne hca] at hc
        by_cases hct : c = t
        · rw [hct, upd_same] at hc
          rw [hct, ht]
          exact hc
        · rw [upd_ne hct] at hc
          by_cases hcl : c = l
          · rw [hcl, upd_same] at hc
            rw [hcl, hl]
            exact hc
          · rw [upd_ne hcl] at hc
            exact sub c o hc
    · rw [List.map_append]
      refine DpAll.app (DpAll.same (s1.trans (s2.trans s3)) hv) (.cons (.tup (SqT.of (by rw [upd_ne hta]; exact upd_same)) ?_) .nil)
      exact .cons (Dp.same (s1.trans (s2.trans s3)) dh) (.cons (.lst (SqL.of (by rw [upd_ne (Ne.symm al), upd_ne (Ne.symm htl)]; exact upd_same)) (DpAll.same (s1.trans (s2.trans s3)) hw)) .nil)
    · rw [upd_ne fun z => hc (by rw [z]; exact h2), upd_ne fun z => hc (by rw [z]; exact h0t), upd_ne fun z => hc (by rw [z]; exact h0l)]
theorem Fl.len (h : Fl K H0 G H a bs) : ∃ xs, H a = some (.lst xs) ∧ xs.length = bs.length := by
  obtain ⟨h1, h2, h3 | ⟨init, b, vs, t, l, ws, vh, e, ha, hv, ht, hl, hw, gt, gl, h0t, h0l, al, dh⟩⟩ := h
  · exact ⟨[], h3.2, by rw [h3.1] <;> rfl⟩
  · refine ⟨_, ha, ?_⟩
    have := DpAll.length hv
    rw [e, List.length_append, List.length_append, this, List.length_map] <;> rfl
theorem Fl.push {G0 : Hp} {l' t' : Addr} {n : Str} {k : Int} {xs : List V} {vh' : V} (h : Fl K H0 G H a bs) (g : Gr G0 H0 G H) (hx : H a = some (.lst xs)) (hl' : H l' = none) (ht' : H t' = none) (hlt : t' ≠ l') (dh' : Dp K G vh' (hdD ⟨n, k, []⟩)) :
    ∃ G', Same G G' ∧ Gr G0 H0 G' (L2.upd (L2.upd (L2.upd H l' (.lst [])) t' (.tup [vh', .ref l'])) a (.lst (xs ++ [.ref t']))) ∧ Fl K H0 G' (L2.upd (L2.upd (L2.upd H l' (.lst [])) t' (.tup [vh', .ref l'])) a (.lst (xs ++ [.ref t']))) a (bs ++ [⟨n, k, []⟩]) := by
  have hal : a ≠ l' := fun z => by rw [z, hl'] at hx; cases hx
  have hat : a ≠ t' := fun z => by rw [z, ht'] at hx; cases hx
  have gl' := L2.Same.free g.sub hl'
  have gt' := L2.Same.free g.sub ht'
  have h0l' := L2.Same.free g.hh hl'
  have h0t' := L2.Same.free g.hh ht'
  have Ha : L2.upd (L2.upd (L2.upd H l' (.lst [])) t' (.tup [vh', .ref l'])) a (.lst (xs ++ [.ref t'])) a = some (.lst (xs ++ [.ref t'])) := upd_same
  have Ht : L2.upd (L2.upd (L2.upd H l' (.lst [])) t' (.tup [vh', .ref l'])) a (.lst (xs ++ [.ref t'])) t' = some (.tup [vh', .ref l']) := by rw [upd_ne (Ne.symm hat)]; exact upd_same
  have Hl : L2.upd (L2.upd (L2.upd H l' (.lst [])) t' (.tup [vh', .ref l'])) a (.lst (xs ++ [.ref t'])) l' = some (.lst []) := by rw [upd_ne (Ne.symm hal), upd_ne (Ne.symm hlt)]; exact upd_same
  obtain ⟨h1, h2, h3⟩ := h
  have hh : Same H0 (L2.upd (L2.upd (L2.upd H l' (.lst [])) t' (.tup [vh', .ref l'])) a (.lst (xs ++ [.ref t']))) := sub_upd (sub_upd (sub_upd g.hh h0l') h0t') h2
  rcases h3 with h3 | ⟨init, b, vs, t, l, ws, vh, e, ha, hv, ht, hl, hw, gt, gl, h0t, h0l, al, dh⟩
  · obtain ⟨rfl, h4⟩ := h3
    have ex : xs = [] := by
      rw [h4] at hx
      exact (HO.lst.inj (Option.some.inj hx)).symm
    subst ex
    exact ⟨G, L2.Same.refl G, ⟨sub_upd (sub_upd (sub_upd g.sub gl') gt') h1, g.gg, hh, g.new⟩, h1, h2, .inr ⟨[], ⟨n, k, []⟩, [], t', l', [], vh', rfl, Ha, .nil, Ht, Hl, .nil, gt', gl', h0t', h0l', hal, dh'⟩⟩
  · have ex : xs = vs ++ [.ref t] := by
      rw [ha] at hx
      exact (HO.lst.inj (Option.some.inj hx)).symm
    subst ex
    have hta : t ≠ a := fun z => by rw [z, ha] at ht; cases ht
    have htl : t ≠ l := fun z => by rw [z, hl] at ht; cases ht
    have htt : t ≠ t' := fun z => by rw [z, ht'] at ht; cases ht
    have htl' : t ≠ l' := fun z => by rw [z, hl'] at ht; cases ht
    have hlt' : l ≠ t' := fun z => by rw [z, ht'] at hl; cases hl
    have hll' : l ≠ l' := fun z => by rw [z, hl'] at hl; cases hl
    have s1 : Same G (L2.upd G l (.lst ws)) := Same.upd gl
    have g1t : L2.upd G l (.lst ws) t = none := by rw [upd_ne htl]; exact gt
    have s2 : Same (L2.upd G l (.lst ws)) (L2.upd (L2.upd G l (.lst ws)) t (.tup [vh, .ref l])) := Same.upd g1t
    have gr1 : Gr G0 H0 (L2.upd (L2.upd G l (.lst ws)) t (.tup [vh, .ref l])) H := (g.frz hl gl h0l).frz ht g1t h0t
    have n1 : ∀ c, G c = none → c ≠ l → c ≠ t → L2.upd (L2.upd G l (.lst ws)) t (.tup [vh, .ref l]) c = none := fun c hc h1 h2 => by rw [upd_ne h2, upd_ne h1]; exact hc
    have na := n1 a h1 al (Ne.symm hta)
    have nl := n1 l' gl' (Ne.symm hll') (Ne.symm htl')
    have nt := n1 t' gt' (Ne.symm hlt') (Ne.symm htt)
    refine ⟨_, s1.trans s2, ⟨sub_upd (sub_upd (sub_upd gr1.sub nl) nt) na, gr1.gg, hh, gr1.new⟩, na, h2, .inr ⟨bs, ⟨n, k, []⟩, vs ++ [.ref t], t', l', [], vh', rfl, Ha, ?_, Ht, Hl, .nil, nt, nl, h0t', h0l', hal, Dp.same (s1.trans s2) dh'⟩⟩
    subst e
    rw [List.map_append]
    exact DpAll.app (DpAll.same (s1.trans s2) hv) (.cons (.tup (SqT.of upd_same) (.cons (Dp.same (s1.trans s2) dh) (.cons (.lst (SqL.of (by rw [upd_ne (Ne.symm htl)]; exact upd_same)) (DpAll.same (s1.trans s2) hw)) .nil))) .nil)
end
/-! ### data and tables -/
/-- without tables -/
def noTb (G : Hp) : Hp := fun b => match G b with
  | some (.tbl _) => none
  | o => o
theorem noTb_of {G : Hp} {b : Addr} {o : HO} (h : G b = some o) (n : ∀ ps, o ≠ .tbl ps) : noTb G b = some o := by
  unfold noTb
  rw [h]
  cases o <;> first | rfl | exact absurd rfl (n _)
theorem noTb_sub (G : Hp) : Same (noTb G) G := fun b o h => by
  unfold noTb at h
  split at h
  · cases h
  · exact h
theorem noTb_ne {G : Hp} {b : Addr} {o : HO} (h : noTb G b = some o) : ∀ ps, o ≠ .tbl ps := fun ps e => by
  unfold noTb at h
  split at h
  · cases h
  · rename_i hn
    rw [e] at h
    exact hn ps h
section
variable {K : PySem.W.Frag} {G : Hp}
theorem seq_noTb {a : Addr} {xs : List V} (h : SqL K G a xs) : SqL K (noTb G) a xs := by
  rcases h with (h | ⟨o, h⟩) | h
  · exact .inl (.inl (noTb_of h fun _ e => nomatch e))
  · exact .inl (.inr ⟨o, noTb_of h fun _ e => nomatch e⟩)
  · exact .inr h
theorem tup_noTb {a : Addr} {xs : List V} (h : SqT K G a xs) : SqT K (noTb G) a xs := by
  rcases h with (h | ⟨o, h⟩) | h
  · exact .inl (.inl (noTb_of h fun _ e => nomatch e))
  · exact .inl (.inr ⟨o, noTb_of h fun _ e => nomatch e⟩)
  · exact .inr h
mutual
theorem dp_noTb : ∀ {v : V} {d : PyData}, Dp K G v d → Dp K (noTb G) v d
  | _, _, .non => .non
  | _, _, .bl b => .bl b
  | _, _, .int i => .int i
  | _, _, .str x => .str x
  | _, _, .lst h1 h2 => .lst (seq_noTb h1) (dpAll_noTb h2)
  | _, _, .tup h1 h2 => .tup (tup_noTb h1) (dpAll_noTb h2)
theorem dpAll_noTb : ∀ {vs : List V} {ds : List PyData}, DpAll K G vs ds → DpAll K (noTb G) vs ds
  | _, _, .nil => .nil
  | _, _, .cons h1 h2 => .cons (dp_noTb h1) (dpAll_noTb h2)
end
theorem noTb_ext {H H1 : Hp} (u : Same G H) (e : ExtN H H1) : Same (noTb G) H1 := fun b o h => e b o (u b o (noTb_sub G b o h)) (noTb_ne h)
end
end Wk
end G17a_text
section G17_text
set_option maxRecDepth 100000
set_option maxHeartbeats 2000000
namespace Wk
open PySem PySem.Spec PyProof.Rows L2 DL LamX
open PySem.W (alike dataLt)
section
variable {P : Program} {w : World} {K : PySem.W.Frag} {mg : Str → Option Value} {base : Heap}
/-- a def that makes lambdas: its code object, its table -/
structure LamF (K : PySem.W.Frag) (mg : Str → Option Value) (base : Heap) (x : Str) (i : Nat) (c Pt : Addr) : Prop where
  ex : ∃ (f : Addr) (oc : Value) (od : Option Addr) (kV doc pm : Value) (an : Option Addr) (ct : Value) (osl : Array (Option Value)), mg x = some (.ref f) ∧ PySem.W.keepIn K (.ref f) = true ∧
    K.lookup f = some ⟨oc, od, .func (PySem.W.fnOf x x (defArgs (top i)) (defBody (top i)) (defScope (top i)) .none kV doc pm an (.ref c) ct), osl⟩ ∧ PySem.W.codeIn K (.ref c) x = true
  tb : TabB base mg c Pt
def qDue : Str := "_law_due" ++ ".<locals>." ++ "<lambda>"
def qLaw : Str := "law" ++ ".<locals>." ++ "<lambda>"
abbrev TTab (P1 P2 : Addr) : List (Addr × Str) := [(P1, qDue), (P2, qLaw)]
def noTbl (G : Hp) : Prop := ∀ b o, G b = some o → ∀ ps, o ≠ .tbl ps
def spDue (K : PySem.W.Frag) (TT : List (Addr × Str)) : Sp := fun vs H Q _ => ∃ x : Str, vs = [.str x] ∧ x.length + 2 ≤ big ∧ Tabs TT H ∧ ∀ v G2 H2, Same G2 H2 → noTbl G2 → Dp K G2 v (told x) → ExtN H H2 → Tabs TT H2 → Q v H2
theorem pe_of_w {X : Cx} {e : Expr} {t : TE} (h : ∀ σ H Q, t σ H Q → wE X e σ H Q) : PE X e t := ⟨fun pins s σ H Q I q => (h σ H Q q).run pins s I⟩
theorem all_gr {G H G2 H2 : Hp} {kvs : List (Key × V)} {ls : List Ln} (h : All2 (KvOk K G) kvs ls) (g : Gr G H G2 H2) : All2 (KvOk K G2) kvs ls := by
  induction h with
  | nil => exact .nil
  | cons h1 _ ih => exact .cons ⟨h1.1, h1.2.gr g⟩ ih
theorem hu1 {k : Nat} {A : Around} (hr : Room k A) : A.units + 1 < cLine := hu_of hr
theorem getr {σ : L2.St} {G H : Hp} {t8 : Addr} {kvs : List (Key × V)} {ls : List Ln} {j : Nat} {d : PyData} {Q : VK} (hσ : σ[8]? = some (some (.ref t8))) (hH : H t8 = some (.dK kvs)) (all : All2 (KvOk K G) kvs ls) (u : Same G H) (hz : (∀ l ∈ ls, ord l ≠ j) → d = .tuple []) (hl : ∀ l, ls.find? (fun l => decide (ord l = j)) = some l → val l = d)
    (k : ∀ v G2 H2, Gr G H G2 H2 → Dp K G2 v d → Q v H2) : tDGet2 (tVar 8) (tC (.int (j : Nat))) (tTup tNil) σ H Q := by
  refine ⟨.ref t8, hσ, t8, rfl, .inl ⟨kvs, .inl hH⟩, ⟨Nat.zero_le _, fun p hp => ?_⟩⟩
  have g := Gr.upd (o := .tup []) u hp
  refine ⟨valV kvs (.inl (j : Nat)), .inl ⟨kvs, .inl (j : Nat), .inl (by rw [upd_ne (ne_of_none hH hp)]; exact hH), rfl, rfl⟩, k _ _ _ g ?_⟩
  have all2 : All2 (KvOk K (L2.upd G p (.tup []))) kvs ls := by
    clear hz hl k hH
    induction all with
    | nil => exact .nil
    | cons h1 _ ih => exact .cons ⟨h1.1, h1.2.gr g⟩ ih
  exact get_of all2 j (.ref p) d (fun hn => by rw [hz hn]; exact .tup (SqT.of upd_same) .nil) hl
abbrev N83 : List Str := ["_law_text", "_law_found", "_law_number_here", "_law_row", "_law_line_here", "_law_house_here", "_law_head", "_law_rows", "_law_told_here", "_law_sort", "_law_edges"]
theorem sc83 : FnScope N83 ["_law_text"] (defScope (top 83)) := ⟨rfl, rfl, rfl, by decide +kernel, rfl, by decide +kernel, by decide +kernel⟩
theorem due_rest {f c P1 P2 : Addr} (T : Txt P K mg) (U : TxE K mg) (hP : P1 ≠ P2) (TB : TabB base mg c P1) {A : Around} {outer : List Env} {s : Shared} {H : Hp} {E : XK} {Q : VK} (hr : Room 16 (A.deeper (envOfC "_law_due" (defScope (top 83)) s.heap.objs.size f (.ref c)))) {x : Str} {bs : List Blk} (hx : x.length + 2 ≤ big) (e : readB 1 [] (rowsOf x) = .inl bs) (fb1 : bs.length ≤ big) (fb2 : ∀ b ∈ bs, b.lines.length ≤ big) (fb3 : ∀ k ∈ bs.map kdOf, KdFit k) (hnk : ∀ b ∈ bs, ∀ l ∈ b.lines, notKind l) (hsrt : ∀ b ∈ bs, Srt b.lines)
    {σ : L2.St} {G H' : Hp} (gs : Gr (fun _ => none) H G H') (ss : SD K G σ [some (.str x), some (.list (bs.map encF)), none, none, none, none, none, none, none, none, none]) (hT : Tabs (TTab P1 P2) H) (hQ : ∀ v G2 H2, Same G2 H2 → noTbl G2 → Dp K G2 v (told x) → ExtN H H2 → Tabs (TTab P1 P2) H2 → Q v H2) :
    wSs (CC P w K mg base N83 "_law_due" (defScope (top 83)) f (.ref c) A outer s H E) ((defBody (top 83)).drop 2) { nx := fun _ H' => Q .non H', rt := Q } σ H' := by
  refine ws_setE (i := 5) sc83.nd (wE_of (pe_lst pa_nil) ⟨by decide, fun c5 hc0 => ?_⟩)
  have hGc : G c5 = none := L2.Same.free gs.sub hc0
  have h0c : H c5 = none := L2.Same.free gs.hh hc0
  have g0 : Gr (fun _ => none) H G (L2.upd H' c5 (.lst [])) := gs.mut h0c hGc
  have s0 : SD K G (σ.set 5 (some (.ref c5))) [some (.str x), some (.list (bs.map encF)), none, none, none, none, none, none, none, none, none] := ss.setN (o := some (.ref c5)) 5
  have hσl : σ.length = 11 := ss.1
  refine ws_for (ρ := [some (.str x), some (.list (bs.map encF)), none, none, none, none, none, none, none, none, none]) (iv_list (ds := bs.map encF) (pv_var (i := 1) rfl)) g0.sub s0 cxOwn fun G1 H1 g1 => ?_
  refine ⟨fun i σ' G' H'' => ∃ vs : List V, Gr (fun _ => none) H G' H'' ∧ Same G1 G' ∧ SD K G' σ' [some (.str x), some (.list (bs.map encF)), none, none, none, none, none, none, none, none, none] ∧ σ'[5]? = some (some (.ref c5)) ∧ H'' c5 = some (.lst vs) ∧ G' c5 = none ∧ DpAll K G' vs ((bs.take i).map fun b => encKd (kdOf b)), ?_, ?_, ?_, ?_⟩
  · obtain ⟨e1, e2⟩ := Gr.own g1 (show L2.upd H' c5 (.lst []) c5 = some (.lst []) from upd_same) hGc
    exact ⟨[], g0.trans g1, L2.Same.refl _, s0.gr g1, by rw [List.getElem?_set_self (by omega)], e1, e2, .nil⟩
  · rintro i σ' G' H'' ⟨vs, g', s', _⟩
    exact ⟨g'.sub, s'⟩
  · rintro i y σ' G' H'' v G2 H2 ⟨vs, g', sm, s', h5, hc, gc, hvs⟩ hy g2 hv
    rw [List.getElem?_map] at hy
    obtain ⟨b, hb, rfl⟩ : ∃ b, bs[i]? = some b ∧ y = encF b := by
      cases e : bs[i]? with
      | none => rw [e] at hy; cases hy
      | some b => rw [e] at hy; exact ⟨b, rfl, (Option.some.inj hy).symm⟩
    have hbm : b ∈ bs := List.mem_of_getElem? hb
    have hib : i < bs.length := (List.getElem?_eq_some_iff.mp hb).1
    obtain ⟨hc2, gc2⟩ := Gr.own g2 hc gc
    refine PGD.go (d := .tuple [hdD b, .list (b.lines.map encL1)]) (pgd_tup (pgds_cons (pgd_name (i := 6) sc83.nd) (pgds_cons (pgd_name (i := 7) sc83.nd) pgds_nil))) g2.sub (s'.gr g2) hv fun σ2 t2 s2 => ?_
    have h52 : σ2[5]? = some (some (.ref c5)) := by rw [t2.2 5 (by decide)]; exact h5
    have hσ2 : σ2.length = 11 := s2.1
    -- dict([..])
    refine ws_setE (i := 8) sc83.nd (wE_of (pe_callTy (call_dictP rfl) rfl (T_fr T) (by decide +kernel) (pa_cons pe_w pa_nil)) ?_)
    refine PV.go (d := .list ((rowsT b.lines).map encL1)) (pv_lc (xs := b.lines) (enc := encL1) (own := [("_law_sort", 9), ("_law_row", 3)]) (T := [9, 3]) (p := fun l => decide (ord l ≠ 3)) (f := encL1) (iv_list (ds := b.lines.map encL1) (pv_var (i := 7) rfl)) sc83.nd (blkOk_by (N := N83) (sc := defScope (top 83)) (by decide +kernel)) (Nat.le_trans (fb2 b hbm) big_le) (by decide) (fun l _ _ _ _ _ _ => pgd_tup (pgds_cons (pgd_name (i := 9) sc83.nd) (pgds_cons (pgd_name (i := 3) sc83.nd) pgds_nil))) (fun l _ _ _ _ _ _ => PB.to (pb_cmp (op_neP (hu64 hr)) (dr_ne (by simp [PyData.depth])) (pv_var (i := 9) rfl) pv_int) (by
      have q := eqv_len (ord l) 3
      rw [show PyData.eqv (.int (ord l : Nat)) (.int 3) = decide (ord l = 3) from q, ← decide_not])) fun l _ _ _ _ _ _ _ => pv_tup (pvs_cons (pv_var (i := 9) rfl) (pvs_cons (pv_var (i := 3) rfl) pvs_nil))) g2.sub s2 fun w G3 H3 g3 k3 => ?_
    obtain ⟨al, ys, rfl, hsq, hdp⟩ := Dp.lstE k3
    obtain ⟨ps, kvs, rfl, hpp, hall⟩ := pairs_data hdp
    refine ⟨al, ps, kvs, rfl, L2.Same.seq g3.sub hsq, Paired.mapP hpp fun _ _ h => Same.tup g3.sub h, fun t8 ht8 => ?_⟩
    have hmk : mergeK [] kvs = kvs := merge_new kvs [] (nodup_keys hall (rowsT_nodup (hsrt b hbm)))
    rw [hmk]
    have f3 : Gr (fun _ => none) H G3 H3 := g'.trans (g2.trans g3)
    have f4 : Gr (fun _ => none) H G3 (L2.upd H3 t8 (.dK kvs)) := f3.mut (L2.Same.free f3.hh ht8) (L2.Same.free f3.sub ht8)
    obtain ⟨hc3, gc3⟩ := Gr.own g3 hc2 gc2
    have hc4 : L2.upd H3 t8 (.dK kvs) c5 = some (.lst vs) := by rw [upd_ne (ne_of_none hc3 ht8)]; exact hc3
    have s4 := (s2.gr g3).setN (o := some (.ref t8)) 8
    have h84 : (σ2.set 8 (some (V.ref t8)))[8]? = some (some (.ref t8)) := by rw [List.getElem?_set_self (by omega)]
    have h54 : (σ2.set 8 (some (V.ref t8)))[5]? = some (some (.ref c5)) := by rw [List.getElem?_set_ne (by decide)]; exact h52
    -- edges
    refine ws_set (i := 10) (d := .tuple ((edges b.lines).map encE)) f4.sub s4 (PV.to (pv_callTy call_to drc_tupL (T_fr T) (pvs_cons (pv_lc (xs := b.lines) (enc := encL1) (own := [("_law_sort", 9), ("_law_row", 3)]) (T := [9, 3]) (p := fun l => decide (ord l = 3)) (f := val) (iv_list (ds := b.lines.map encL1) (pv_var (i := 7) rfl)) sc83.nd (blkOk_by (N := N83) (sc := defScope (top 83)) (by decide +kernel)) (Nat.le_trans (fb2 b hbm) big_le) (by decide) (fun l _ _ _ _ _ _ => pgd_tup (pgds_cons (pgd_name (i := 9) sc83.nd) (pgds_cons (pgd_name (i := 3) sc83.nd) pgds_nil))) (fun l _ _ _ _ _ _ => PB.to (pb_cmp (op_eqP (hu64 hr)) (dr_eq (by simp [PyData.depth])) (pv_var (i := 9) rfl) pv_int) (eqv_len (ord l) 3)) fun l _ _ _ _ _ _ _ => (pv_var (i := 3) rfl)) pvs_nil)) (by rw [edges_filter3])) sc83.nd fun v5 G5 H5 g5 k5 s5 => ?_
    have h55 : ((σ2.set 8 (some (V.ref t8))).set 10 (some v5))[5]? = some (some (.ref c5)) := by rw [List.getElem?_set_ne (by decide)]; exact h54
    have h85 : ((σ2.set 8 (some (V.ref t8))).set 10 (some v5))[8]? = some (some (.ref t8)) := by rw [List.getElem?_set_ne (by decide)]; exact h84
    obtain ⟨hc5, gc5⟩ := Gr.own g5 hc4 gc3
    have ht5 := g5.hh _ _ (show L2.upd H3 t8 (.dK kvs) t8 = some (.dK kvs) from upd_same)
    have a5 := all_gr hall g5
    -- append
    refine ws_exprE (wE_of (pe_bm PySem.F.plainAttrs_list PySem.F.slot_list_append PySem.F.type_list_append mt_append (L2.pv 5) (pa_cons (pe_tup (pa_cons pe_w (pa_cons (pe_tup (pa_cons (pe_tup (pa_cons pe_w (pa_cons (pe_dget2 (hu1 hr) (L2.pv 8) pe_int (pe_tup pa_nil) ⟨rfl, rfl, rfl, rfl⟩) (pa_cons (pe_dget2 (hu1 hr) (L2.pv 8) pe_int (pe_tup pa_nil) ⟨rfl, rfl, rfl, rfl⟩) (pa_cons pe_w pa_nil))))) (pa_cons (pe_dget2 (hu1 hr) (L2.pv 8) pe_int (pe_tup pa_nil) ⟨rfl, rfl, rfl, rfl⟩) pa_nil))) pa_nil))) pa_nil)) ?_)
    refine ⟨.ref c5, h55, .inl ⟨rfl, vs, SqL.of hc5⟩, ?_⟩
    have fe := f4.trans g5
    refine PV.go (pv_ixT (i := 0) (ds := [.str b.name, .int b.k]) (pv_var (i := 6) rfl) pv_int rfl) g5.sub s5 fun w1 G6 H6 g6 k6 => ?_
    refine PV.go (pv_ixT (i := 1) (ds := [.str b.name, .int b.k]) (pv_var (i := 6) rfl) pv_int rfl) g6.sub (s5.gr g6) fun w2 G7 H7 g7 k7 => ?_
    have hr1 := ups_find b.lines
    have hr2 := deafs_find b.lines
    have hr4 := belows_find b.lines
    have nin : ∀ j, j ≠ 3 → (∀ l ∈ rowsT b.lines, ord l ≠ j) → ∀ l ∈ b.lines, ord l ≠ j := fun j hj h l hl e => h l (List.mem_filter.mpr ⟨hl, by simp; omega⟩) e
    refine getr (j := 1) h85 (g7.hh _ _ (g6.hh _ _ ht5)) (all_gr (all_gr a5 g6) g7) g7.sub (d := tI (ups b.lines)) (fun h => hr1.2 (nin 1 (by decide) h)) (fun l h => hr1.1 l (by rw [← find_rows _ 1 (by decide)]; exact h)) fun w3 G8 H8 g8 k8 => ?_
    refine getr (j := 2) h85 (g8.hh _ _ (g7.hh _ _ (g6.hh _ _ ht5))) (all_gr (all_gr (all_gr a5 g6) g7) g8) g8.sub (d := tI (deafs b.lines)) (fun h => hr2.2 (nin 2 (by decide) h)) (fun l h => hr2.1 l (by rw [← find_rows _ 2 (by decide)]; exact h)) fun w4 G9 H9 g9 k9 => ?_
    have g69 := g6.trans (g7.trans (g8.trans g9))
    refine PV.go (d := .tuple ((edges b.lines).map encE)) (pv_var (i := 10) rfl) g9.sub (s5.gr g69) fun w5 Ga Ha ga ka => ?_
    refine ⟨by show 4 ≤ sizeLine; decide, fun pA hA => ?_⟩
    have gA := Gr.upd (o := .tup [w2, w3, w4, w5]) ga.sub hA
    have g6A := g69.trans (ga.trans gA)
    have kA : Dp K (L2.upd Ga pA (.tup [w2, w3, w4, w5])) (.ref pA) (.tuple [.int b.k, tI (ups b.lines), tI (deafs b.lines), .tuple ((edges b.lines).map encE)]) := .tup (SqT.of upd_same) (.cons (k7.gr (g8.trans (g9.trans (ga.trans gA)))) (.cons (k8.gr (g9.trans (ga.trans gA))) (.cons (k9.gr (ga.trans gA)) (.cons (ka.gr gA) .nil))))
    refine getr (j := 4) h85 (g6A.hh _ _ ht5) (all_gr a5 g6A) gA.sub (d := tS (belows b.lines)) (fun h => hr4.2 (nin 4 (by decide) h)) (fun l h => hr4.1 l (by rw [← find_rows _ 4 (by decide)]; exact h)) fun w6 Gb Hb gb kb => ?_
    refine ⟨by show 2 ≤ sizeLine; decide, fun pB hB => ?_⟩
    have gB := Gr.upd (o := .tup [.ref pA, w6]) gb.sub hB
    refine ⟨by show 2 ≤ sizeLine; decide, fun pC hC => ?_⟩
    have gC := Gr.upd (o := .tup [w1, .ref pB]) gB.sub hC
    have gAC := gb.trans (gB.trans gC)
    have g6C := g6A.trans gAC
    have kC : Dp K _ (.ref pC) (encKd (kdOf b)) := .tup (SqT.of (show (L2.upd (L2.upd Gb pB (.tup [.ref pA, w6])) pC (.tup [w1, .ref pB])) pC = _ from upd_same)) (.cons (k6.gr (g7.trans (g8.trans (g9.trans (ga.trans (gA.trans gAC)))))) (.cons (Dp.gr gC (.tup (SqT.of upd_same) (.cons (kA.gr (gb.trans gB)) (.cons (kb.gr gB) .nil)))) .nil))
    obtain ⟨hcC, gcC⟩ := Gr.own g6C hc5 gc5
    have hvl := DpAll.length hvs
    rw [List.length_map, List.length_take] at hvl
    have fC := fe.trans g6C
    have mC := g2.gg.trans (g3.gg.trans (g5.gg.trans g6C.gg))
    refine ⟨c5, vs, .ref pC, rfl, rfl, hcC, by have := big_le; omega, ws_nil ?_⟩
    refine ⟨_, vs ++ [.ref pC], fC.mut h0c gcC, sm.trans mC, ((s5.gr g6C)).forget ⟨.inr rfl, .inr rfl, .inl rfl, .inl rfl, .inl rfl, .inl rfl, .inl rfl, .inl rfl, .inl rfl, .inl rfl, .inl rfl, trivial⟩, h55, upd_same, gcC, ?_⟩
    rw [List.take_succ, hb, List.map_append]
    exact DpAll.app (DpAll.same mC hvs) (.cons kC .nil)
  · rintro σ' G' H'' ⟨vs, g', sm, s', h5, hc, gc, hvs⟩
    rw [List.length_map, List.take_length] at hvs
    -- told(lambda: need_house(tuple(..)))
    have gf : Gr (fun _ => none) H (L2.upd G' c5 (.lst vs)) H'' := g'.frz hc gc h0c
    have hvf : DpAll K (L2.upd G' c5 (.lst vs)) vs ((bs.map kdOf).map encKd) := by
      rw [List.map_map]
      exact DpAll.same (Same.upd gc) hvs
    obtain ⟨fT, fdT, hgT, FT⟩ := T.fn ("_law_told", 73) (by decide +kernel)
    have FTb := FT.bindsN (ps := ["_law_call"]) (fun _ _ _ _ _ _ us hl => match us, hl with | [_], _ => rfl)
    obtain ⟨oc, od, dV, kV, doc, pm, an, cdT, ctT, osl, rfl, lkT, hcT, _, _⟩ := FT.ex
    obtain ⟨cT, ecT⟩ : ∃ cT, cdT = .ref cT := He.codeIn_ref hcT
    refine ws_retE (wE_of (pe_lamcall (X := (CC P w K mg base N83 "_law_due" (defScope (top 83)) f (.ref c) A outer s H E)) (T := TTab P1 P2) (TT := TTk K mg) (k := 14) (Ng := N73) (t := fun E1 σ1 H1 Q1 => ∃ z, σ1[5]? = some (some z) ∧ rTo K [z] H1 fun w H2 => spD K 1 (R_house mg) [w] H2 Q1 E1) rfl hgT FT.kp lkT hcT FTb sc73 rfl (.inl rfl)
      (told_gives (X := (CC P w K mg base N83 "_law_due" (defScope (top 83)) f (.ref c) A outer s H E)) (k := 15) T U ((ok_law_word_of T U).mono (by decide)) hr) TB rfl (by show (P1, qDue) ∈ TTab P1 P2; simp) (fun p hp ep => ?tabs) hr (lamS_by (sc := defScope (top 83)) (by decide +kernel)) rfl (fun _ _ _ _ _ => rfl) (fun A1 outer1 s1 H1 E1 f1 c1 hr1 => ?lam)) ?main)
    case tabs =>
      simp only [TTab, List.mem_cons, List.not_mem_nil, or_false] at hp
      rcases hp with rfl | rfl
      · rfl
      · exact absurd ep.symm hP
    case lam =>
      refine pe_of_w fun σ2 H2 Q2 h2 => ?_
      exact wE_callX (X := lamCx (CC P w K mg base N83 "_law_due" (defScope (top 83)) f (.ref c) A outer s H E) A1 outer1 s1 H1 E1 _ f1 c1) (ok_need_house T) (hr1.mono (by decide)) (passes_call (takes_of rfl rfl rfl rfl) fun _ _ _ _ h => h) (wA_of (pa_cons (pe_callTy (x := "tuple") call_to rfl (T_fr T) (by decide +kernel) (pa_cons (pe_var (i := 5) rfl (Or.inr (Or.inr rfl))) pa_nil)) pa_nil) h2)
    case main =>
      refine ⟨hT.ext g'.hh, fun H1 e1 T1 => ?_⟩
      have uf : Same (noTb (L2.upd G' c5 (.lst vs))) H1 := noTb_ext gf.sub e1
      have hvn := dpAll_noTb hvf
      have hcn : noTb (L2.upd G' c5 (.lst vs)) c5 = some (.lst vs) := noTb_of upd_same fun _ e => nomatch e
      obtain ⟨o, ho1, ho2, ho3⟩ : ∃ o : TOut, o.fine ∧ o.out mg = outR mg (encH (bs.map kdOf)) (needH (bs.map kdOf)) ∧ o.tell = told x := by
        have et : told x = (match needH (bs.map kdOf) with
            | some d => .tuple [.str "house", d]
            | none => .list [encH (bs.map kdOf)]) := by
          unfold told
          rw [e] <;> rfl
        rw [et]
        cases needH (bs.map kdOf) with
        | none => exact ⟨.ok (encH (bs.map kdOf)), trivial, rfl, rfl⟩
        | some d => exact ⟨.er "BadHouse" d, by show ("BadHouse" : Str) ∈ twoL; decide, by show Out.ex _ (fieldS "BadHouse") d = _; rw [show fieldS "BadHouse" = "place" by decide +kernel] <;> rfl, by show wordD "BadHouse" d = _; unfold wordD; rw [if_pos rfl]⟩
      refine ⟨o, noTb (L2.upd G' c5 (.lst vs)), ho1, uf, fun G8 H8 g8 E8 Q8 k8 => ?_, fun w G8 H8 g8 k8 => ?_⟩
      · refine ⟨.ref c5, h5, c5, vs, rfl, .inl ⟨SqL.of (g8.sub _ _ (g8.gg _ _ hcn)), fun l hl => ?_⟩⟩
        have gu := Gr.upd (o := .tup vs) g8.sub hl
        refine ⟨[encH (bs.map kdOf)], o.out mg, _, rfl, gu.sub, .cons (.tup (SqT.of upd_same) (DpAll.gr gu (DpAll.gr g8 hvn))) .nil, ⟨bs.map kdOf, rfl, by rw [List.length_map]; exact fb1, fb3, ho2⟩, KO.gr gu k8⟩
      · rw [ho3] at k8
        exact hQ w (noTb G8) H8 ((noTb_sub G8).trans g8.sub) (fun b o e => noTb_ne e) (dp_noTb k8) ((ExtN.of g'.hh).trans (e1.trans (ExtN.of g8.hh))) (T1.ext g8.hh)
theorem due_body {f c P1 P2 : Addr} (T : Txt P K mg) (U : TxE K mg) (hP : P1 ≠ P2) (TB : TabB base mg c P1) {A : Around} {outer : List Env} {s : Shared} {H : Hp} {E : XK} {vs0 : List V} {Q : VK} (hr : Room 16 (A.deeper (envOfC "_law_due" (defScope (top 83)) s.heap.objs.size f (.ref c)))) (hsp : spDue K (TTab P1 P2) vs0 H Q E) :
    wSs (CC P w K mg base N83 "_law_due" (defScope (top 83)) f (.ref c) A outer s H E) (defBody (top 83)) { nx := fun _ H' => Q .non H', rt := Q } (L2.start N83 vs0) H := by
  obtain ⟨x, rfl, hx, hT, hQ⟩ := hsp
  have hxl : x.length + 2 ≤ sizeLine := Nat.le_trans hx big_le
  have u0 : Same (fun _ => none : Hp) H := fun _ _ e => nomatch e
  have done : ∀ v G' H', Gr (fun _ => none) H G' H' → Dp K G' v (told x) → Q v H' := fun v G' H' g k => hQ v (noTb G') H' ((noTb_sub G').trans g.sub) (fun b o e => noTb_ne e) (dp_noTb k) (ExtN.of g.hh) (hT.ext g.hh)
  have s0 : SD K (fun _ => none) (L2.start N83 [V.str x]) [some (.str x), none, none, none, none, none, none, none, none, none, none] := sd_start (N := N83) (ds := [.str x]) (.cons (.str x) .nil)
  -- _law_found = []
  refine ws_setE (i := 1) sc83.nd (wE_of (pe_lst pa_nil) ⟨by decide, fun a ha0 => ?_⟩)
  have hGa : (fun _ => none : Hp) a = none := rfl
  have gr0 : Gr (fun _ => none) H (fun _ => none) (L2.upd H a (.lst [])) := (Gr.refl u0).mut ha0 hGa
  have s1 : SD K (fun _ => none) ((L2.start N83 [V.str x]).set 1 (some (.ref a))) [some (.str x), none, none, none, none, none, none, none, none, none, none] := (s0.setN (o := some (.ref a)) 1)
  refine ws_for (ρ := [some (.str x), none, none, none, none, none, none, none, none, none, none]) (iv_enumL (pv_split (pv_var (i := 0) rfl) pv_str rfl hxl) (T_fr T)) gr0.sub s1 cxOwn fun G1 H1 g1 => ?_
  refine ⟨fun i σ' G' H' => ∃ bs : List Blk, Gr (fun _ => none) H G' H' ∧ Same G1 G' ∧ SD K G' σ' [some (.str x), none, none, none, none, none, none, none, none, none, none] ∧ σ'[1]? = some (some (.ref a)) ∧ Fl K H G' H' a bs ∧ readB 1 [] (rowsOf x) = readB (i + 1) bs ((rowsOf x).drop i) ∧ (∀ b ∈ bs, b.lines.length ≤ i ∧ ∀ l ∈ b.lines, notKind l) ∧ bs.length ≤ i ∧ ∀ b ∈ bs, Srt b.lines, ?_, ?_, ?_, ?_⟩
  · refine ⟨[], gr0.trans g1, L2.Same.refl _, s1.gr g1, rfl, Fl.gr ⟨hGa, ha0, .inl ⟨rfl, upd_same⟩⟩ g1, by rw [List.drop_zero], (fun b hb => nomatch hb), Nat.le_refl _, fun b hb => nomatch hb⟩
  · rintro i σ' G' H' ⟨bs, g', s', _⟩
    exact ⟨g'.sub, s'⟩
  · rintro i y σ' G' H' v G2 H2 ⟨bs, g', sm, s', h1, hb, hr', hk, hbl, hsrt⟩ hy g2 hv
    obtain ⟨d, hd, rfl⟩ := enum_at hy
    rw [List.getElem?_map] at hd
    obtain ⟨r, hrr, rfl⟩ : ∃ r, (Txt.split x "\n")[i]? = some r ∧ d = .str r := by
      cases e : (Txt.split x "\n")[i]? with
      | none => rw [e] at hd; cases hd
      | some r => rw [e] at hd; exact ⟨r, rfl, (Option.some.inj hd).symm⟩
    have hrm : r ∈ Txt.split x "\n" := List.mem_of_getElem? hrr
    have hrl : r.length ≤ x.length := (split_fit x 10).2.1 r hrm
    have hil : i < (Txt.split x "\n").length := (List.getElem?_eq_some_iff.mp hrr).1
    have hib : i < big := by
      have e : (Txt.split x "\n").length ≤ x.length + 1 := (split_fit x 10).1
      omega
    have hdrop : (rowsOf x).drop i = Txt.split r " " :: (rowsOf x).drop (i + 1) := by
      have hil' : i < (rowsOf x).length := by simpa [rowsOf] using hil
      rw [List.drop_eq_getElem_cons hil']
      congr 1
      have : (rowsOf x)[i]? = some (Txt.split r " ") := by
        unfold rowsOf
        rw [List.getElem?_map, hrr] <;> rfl
      rw [List.getElem?_eq_getElem hil'] at this
      exact Option.some.inj this
    refine PGD.go (pgd_tup (pgds_cons (pgd_name (i := 2) sc83.nd) (pgds_cons (pgd_name (i := 3) sc83.nd) pgds_nil))) g2.sub (s'.gr g2) hv fun σ2 t2 s2 => ?_
    have h12 : σ2[1]? = some (some (.ref a)) := by rw [t2.2 1 (by decide)]; exact h1
    obtain ⟨hfit, hwne⟩ : Fit (Txt.split r " ") ∧ Txt.split r " " ≠ [] := fit_of (x := r) (c := 32) (by omega)
    have hrl2 : r.length + 2 ≤ sizeLine := Nat.le_trans (by omega : r.length + 2 ≤ big) big_le
    refine ws_set (i := 4) (d := encL (lineOf (Txt.split r " "))) g2.sub s2 (pv_call (ok_law_line T) (hr.mono (by decide)) (pvs_cons (pv_split (pv_var (i := 3) rfl) pv_str rfl hrl2) pvs_nil) ⟨Txt.split r " ", rfl, hwne, hfit, rfl⟩) sc83.nd fun v4 G4 H4 g4 k4 s4 => ?_
    have h14 : (σ2.set 4 (some v4))[1]? = some (some (.ref a)) := by rw [List.getElem?_set_ne (by decide)]; exact h12
    have f4 : Gr (fun _ => none) H G4 H4 := g'.trans (g2.trans g4)
    have b4 : Fl K H G4 H4 a bs := (hb.gr g2).gr g4
    have m4 : Same G1 G4 := sm.trans (g2.gg.trans g4.gg)
    rw [hdrop] at hr'
    have rd : ∀ l bs', lineOf (Txt.split r " ") = some l → stepB bs l = some bs' → readB 1 [] (rowsOf x) = readB (i + 2) bs' ((rowsOf x).drop (i + 1)) := by
      intro l bs' e1 e2
      rw [hr']
      show (match lineOf (Txt.split r " ") with | none => _ | some l => _) = _
      rw [e1]
      show (match stepB bs l with | none => _ | some bs' => _) = _
      rw [e2]
    have bad : mayB bs (lineOf (Txt.split r " ")) = false → told x = .tuple [.str "text", .int ((i : Nat) + 1)] := by
      intro hm
      have e : readB 1 [] (rowsOf x) = .inr (i + 1) := by
        rw [hr']
        cases e1 : lineOf (Txt.split r " ") with
        | none =>
          show (match lineOf (Txt.split r " ") with | none => _ | some l => _) = _
          rw [e1]
        | some l =>
          rw [e1] at hm
          show (match lineOf (Txt.split r " ") with | none => _ | some l => _) = _
          rw [e1]
          show (match stepB bs l with | none => _ | some bs' => _) = _
          cases e2 : stepB bs l with
          | none => rfl
          | some z =>
            have hm' : (stepB bs l).isSome = false := hm
            rw [e2] at hm'
            cases hm'
      unfold told
      rw [e]
      show PyData.tuple [.str "text", .int ((i + 1 : Nat) : Int)] = _
      rw [show ((i + 1 : Nat) : Int) = (i : Int) + 1 by omega]
    generalize hlo : lineOf (Txt.split r " ") = lo at s4 rd bad
    obtain ⟨Gs, m1, m2, m3, m5⟩ := Fl.snap b4 f4.sub
    have ss := (s4.same m1).know h14 m3
    refine ws_if m2 ss (pb_not (pb_val (pv_call (ok_law_may_follow T) (hr.mono (by decide)) (pvs_cons (pv_var (i := 1) rfl) (pvs_cons (pv_var (i := 4) rfl) pvs_nil)) ⟨bs, lo, rfl, fun b hb l hl => (hk b hb).2 l hl, rfl⟩))) (fun hm G5 H5 g5 => ?_) fun hm G5 H5 g5 => ws_nil ?_
    · have hd5 := Gr.drop m1 g5
      refine ws_retE (PV.go (pv_tup (pvs_cons (pv_str (x := "text")) (pvs_cons (pv_bin op_add dr_II (pv_var (i := 2) rfl) pv_int) pvs_nil))) (f4.trans hd5).sub (s4.gr hd5) fun w G6 H6 g6 k6 => ?_)
      exact done w G6 H6 (f4.trans (hd5.trans g6)) (by rw [bad (notT hm)]; exact k6)
    · have hm' : mayB bs lo = true := notF hm
      cases lo with
      | none => cases hm'
      | some ln =>
      obtain ⟨bs', hst⟩ := Option.isSome_iff_exists.mp (show (stepB bs ln).isSome = true from hm')
      have hd5 := Gr.drop m1 g5
      have s5 := s4.gr hd5
      have f5 := f4.trans hd5
      have b5 := b4.gr hd5
      have hsrt' := stepB_srt hsrt hst
      have fin : ∀ (G9 H9 : Hp) (gr : Gr (fun _ => none) H G9 H9) (m9 : Same G4 G9) (b9 : Fl K H G9 H9 a bs') (hk' : ∀ b ∈ bs', b.lines.length ≤ i + 1 ∧ ∀ l ∈ b.lines, notKind l) (hl' : bs'.length ≤ i + 1),
          ∃ G4, (fun i σ' G' H' => ∃ bs : List Blk, Gr (fun _ => none) H G' H' ∧ Same G1 G' ∧ SD K G' σ' [some (.str x), none, none, none, none, none, none, none, none, none, none] ∧ σ'[1]? = some (some (.ref a)) ∧ Fl K H G' H' a bs ∧ readB 1 [] (rowsOf x) = readB (i + 1) bs ((rowsOf x).drop i) ∧ (∀ b ∈ bs, b.lines.length ≤ i ∧ ∀ l ∈ b.lines, notKind l) ∧ bs.length ≤ i ∧ ∀ b ∈ bs, Srt b.lines) (i + 1) (σ2.set 4 (some v4)) G4 H9 := by
        intro G9 H9 gr m9 b9 hk' hl'
        exact ⟨G9, bs', gr, m4.trans m9, (s4.same m9).forget ⟨.inr rfl, .inr rfl, .inl rfl, .inl rfl, .inl rfl, .inl rfl, .inl rfl, .inl rfl, .inl rfl, .inl rfl, .inl rfl, trivial⟩, h14, b9, rd ln bs' rfl hst, hk', hl', hsrt'⟩
      by_cases hk0 : notKind ln
      case neg =>
        obtain ⟨n, k, rfl⟩ : ∃ n k, ln = .kind n k := by
          cases ln with
          | kind n k => exact ⟨n, k, rfl⟩
          | _ => exact absurd trivial hk0
        have ebs : bs' = bs ++ [⟨n, k, []⟩] := by
          unfold stepB at hst
          simp only [] at hst
          cases hg : bs.getLast? with
          | none =>
            rw [hg] at hst
            rw [List.getLast?_eq_none_iff.mp hg]
            exact (Option.some.inj hst).symm
          | some b =>
            rw [hg] at hst
            simp only [] at hst
            split at hst
            · exact (Option.some.inj hst).symm
            · cases hst
        refine ws_if f5.sub s5 (PB.to (pb_cmp (op_eqP (hu64 hr)) (dr_eq (by simp [PyData.depth])) (pv_ixT (i := 0) (ds := [.int (ord (.kind n k) : Nat), val (.kind n k)]) (pv_var (i := 4) rfl) pv_int rfl) pv_int) (b' := true) rfl) (fun _ G6 H6 g6 => ?_) fun z => nomatch z
        obtain ⟨xs, hxa, hxl2⟩ := Fl.len (b5.gr g6)
        refine ws_exprE (wE_of (pe_bm PySem.F.plainAttrs_list PySem.F.slot_list_append PySem.F.type_list_append mt_append (L2.pv 1) (pa_cons (pe_tup (pa_cons pe_w (pa_cons (pe_lst pa_nil) pa_nil))) pa_nil)) ?_)
        refine ⟨.ref a, h14, .inl ⟨rfl, xs, SqL.of hxa⟩, ?_⟩
        refine PV.go (pv_ixT (i := 1) (ds := [.int (ord (.kind n k) : Nat), val (.kind n k)]) (pv_var (i := 4) rfl) pv_int rfl) g6.sub (s5.gr g6) fun vh G8 H8 g8 k8 => ?_
        refine ⟨by decide, fun l' hl' => ⟨by show 2 ≤ sizeLine; decide, fun t' ht' => ?_⟩⟩
        have hlt' : t' ≠ l' := fun z => by rw [z, upd_same] at ht'; cases ht'
        rw [upd_ne hlt'] at ht'
        have ha8 := g8.hh _ _ hxa
        have hal : a ≠ l' := fun z => by rw [z, hl'] at ha8; cases ha8
        have hat : a ≠ t' := fun z => by rw [z, ht'] at ha8; cases ha8
        refine ⟨a, xs, .ref t', rfl, rfl, by rw [upd_ne hat, upd_ne hal]; exact ha8, by have := big_le; rw [hxl2]; omega, ws_nil (ws_nil ?_)⟩
        obtain ⟨G9, q1, q2, q3⟩ := Fl.push (n := n) (k := k) ((b5.gr g6).gr g8) (f5.trans (g6.trans g8)) ha8 hl' ht' hlt' k8
        refine fin G9 _ q2 (hd5.gg.trans (g6.gg.trans (g8.gg.trans q1))) (by rw [ebs]; exact q3) ?_ ?_
        · rw [ebs]
          intro b hb'
          rcases List.mem_append.mp hb' with hb' | hb'
          · exact ⟨Nat.le_succ_of_le (hk b hb').1, (hk b hb').2⟩
          · have eb := List.mem_singleton.mp hb'
            subst eb
            exact ⟨Nat.zero_le _, fun l hl => nomatch hl⟩
        · rw [ebs]
          simp only [List.length_append, List.length_singleton]
          omega
      case pos =>
        refine ws_if f5.sub s5 (PB.to (pb_cmp (op_eqP (hu64 hr)) (dr_eq (by simp [PyData.depth])) (pv_ixT (i := 0) (ds := [.int (ord ln : Nat), val ln]) (pv_var (i := 4) rfl) pv_int rfl) pv_int) ((eqv_len (ord ln) 0).trans (ord_ne0 hk0))) (fun z => nomatch z) fun _ G6 H6 g6 => ?_
        obtain ⟨c1, c2, c3 | ⟨init, b', vs, t, l, ws, vh, e, ha, hv', ht, hll, hw, gt, gl, h0t, h0l, al, dh⟩⟩ := b5.gr g6
        · rw [stepB_other hk0, c3.1] at hst
          cases hst
        · have hg : bs.getLast? = some b' := by rw [e, List.getLast?_concat]
          have hm2 : b' ∈ bs := List.mem_of_getLast? hg
          have ebs : bs' = init ++ [{ b' with lines := b'.lines ++ [ln] }] := by
            rw [stepB_other hk0, hg] at hst
            have hst' : (if goesOn b'.lines ln = true then some (bs.dropLast ++ [{ b' with lines := b'.lines ++ [ln] }]) else none) = some bs' := hst
            split at hst'
            · rw [← Option.some.inj hst', e, List.dropLast_concat]
            · cases hst'
          refine ws_exprE (wE_of (pe_bm PySem.F.plainAttrs_list PySem.F.slot_list_append PySem.F.type_list_append mt_append (pe_ix ix_tup (pe_ix ix_list (L2.pv 1) (pe_un un_neg pe_int) (by exact fun _ _ => rfl)) pe_int (by exact fun _ _ => rfl)) (pa_cons pe_w pa_nil)) ?_)
          refine ⟨.ref a, h14, 1, rfl, a, vs ++ [.ref t], -1, .ref t, rfl, rfl, SqL.of ha, atI_last (by rw [List.getLast?_concat]), t, [vh, .ref l], 1, .ref l, rfl, rfl, SqT.of ht, DL.atI_nat (i := 1) rfl, .inl ⟨rfl, ws, SqL.of hll⟩, ?_⟩
          refine PV.go (d := encL1 ln) (pv_var (i := 4) rfl) g6.sub (s5.gr g6) fun v7 G7 H7 g7 k7 => ?_
          obtain ⟨e1, e2⟩ := Gr.own g7 ha c1
          obtain ⟨e3, e4⟩ := Gr.own g7 ht gt
          obtain ⟨e5, e6⟩ := Gr.own g7 hll gl
          have hwl := DpAll.length hw
          have hbl2 := (hk b' hm2).1
          have hta : t ≠ l := fun z => by rw [z, hll] at ht; cases ht
          refine ⟨l, ws, v7, rfl, rfl, e5, by have := big_le; rw [hwl, List.length_map]; omega, ws_nil (ws_nil ?_)⟩
          refine fin G7 _ ((f5.trans (g6.trans g7)).mut h0l e6) (hd5.gg.trans (g6.gg.trans g7.gg)) (by rw [ebs]; exact ⟨e2, c2, .inr ⟨init, { b' with lines := b'.lines ++ [ln] }, vs, t, l, ws ++ [v7], vh, rfl, by rw [upd_ne al]; exact e1, DpAll.same g7.gg hv', by rw [upd_ne hta]; exact e3, upd_same, by rw [List.map_append]; exact DpAll.app (DpAll.same g7.gg hw) (.cons k7 .nil), e4, e6, h0t, h0l, al, dh.gr g7⟩⟩) ?_ ?_
          · rw [ebs]
            intro b hb'
            rcases List.mem_append.mp hb' with hb' | hb'
            · have := hk b (by rw [e]; exact List.mem_append_left _ hb')
              exact ⟨Nat.le_succ_of_le this.1, this.2⟩
            · have eb := List.mem_singleton.mp hb'
              subst eb
              refine ⟨by simp only [List.length_append, List.length_singleton]; omega, fun l hl => ?_⟩
              rcases List.mem_append.mp hl with hl | hl
              · exact (hk b' hm2).2 l hl
              · rw [List.mem_singleton.mp hl]
                exact hk0
          · rw [ebs]
            have : (init ++ [b']).length = (init ++ [{ b' with lines := b'.lines ++ [ln] }]).length := by simp
            rw [← this, ← e]
            omega
  · rintro σ' G' H' ⟨bs, g', sm, s', h1, hb, hr', hk, hbl, hsrt⟩
    have e : readB 1 [] (rowsOf x) = .inl bs := by
      rw [hr']
      have : (enumD ((Txt.split x "\n").map PyData.str)).length = (rowsOf x).length := by simp [enumD, rowsOf]
      rw [this, List.drop_length]
      rfl
    obtain ⟨fb1, fb2, fb3⟩ := text_fit hx e
    obtain ⟨Gs, m1, m2, m3, m5⟩ := Fl.snap hb g'.sub
    have gs : Gr (fun _ => none) H Gs H' := ⟨m2, (fun _ _ e => nomatch e), g'.hh, fun c hc => (m5 c hc).trans (g'.new c hc)⟩
    have ss : SD K Gs σ' [some (.str x), some (.list (bs.map encF)), none, none, none, none, none, none, none, none, none] := (s'.same m1).know h1 m3
    exact due_rest T U hP TB hr hx e fb1 fb2 fb3 (fun b hb => (hk b hb).2) hsrt gs ss hT hQ
end
end Wk
end G17_text
section D10_text
set_option maxRecDepth 100000
set_option maxHeartbeats 2000000
namespace DL
open PySem PySem.Spec PyProof.Rows L2 StX
/-! ### values under something that is known of the slots and both heaps -/
abbrev Phi3 := L2.St → Hp → Hp → Prop
def StayY (Φ : Phi3) : Prop := ∀ σ G H G2 H2, Φ σ G H → Gr G H G2 H2 → Φ σ G2 H2
def PVY (Φ : Phi3) (X : Cx) (e : Expr) (ρ : Rho) (d : PyData) : Prop := ∀ σ G H, Φ σ G H → Same G H → SD X.K G σ ρ → ∀ Q : VK, KD X.K G H Q d → wE X e σ H Q
def PBY (Φ : Phi3) (X : Cx) (e : Expr) (ρ : Rho) (b : Bool) : Prop := ∀ σ G H, Φ σ G H → Same G H → SD X.K G σ ρ → ∀ Q : Bool → Hp → Prop, (∀ G2 H2, Gr G H G2 H2 → Q b H2) → wT X e σ H Q
def PBWY (Φ : Phi3) (X : Cx) (e : Expr) (ρ : Rho) (b : Bool) : Prop := ∀ σ G H, Φ σ G H → Same G H → SD X.K G σ ρ → ∀ Q : Bool → Hp → Prop, (∀ G2 H2, Gr G H G2 H2 → Q b H2) → wW X e σ H Q
section
variable {Φ : Phi3} {X : Cx} {ρ : Rho} {a b e : Expr} {es rest : List Expr} {d d1 d2 : PyData} {ds : List PyData} {pos : Pos} {k k1 k2 : Bool}
theorem PV.y (h : PV X e ρ d) : PVY Φ X e ρ d := fun σ G H _ u s Q q => h σ G H u s Q q
theorem PVY.to {d' : PyData} (h : PVY Φ X e ρ d) (q : d = d') : PVY Φ X e ρ d' := q ▸ h
theorem PBY.to {b b' : Bool} (h : PBY Φ X e ρ b) (q : b = b') : PBY Φ X e ρ b' := q ▸ h
theorem PVY.go {σ : L2.St} {G H : Hp} {Q : VK} (h : PVY Φ X e ρ d) (φ : Φ σ G H) (u : Same G H) (s : SD X.K G σ ρ) (k : ∀ v G1 H1, Gr G H G1 H1 → Dp X.K G1 v d → Q v H1) : wE X e σ H Q := h σ G H φ u s Q k
theorem y_bin {op : Operator} {r : R2} (st : StayY Φ) (ho : OpR X (binaryOp op) r) (hr : DR2 X.K r d1 d2 d) (ha : PVY Φ X a ρ d1) (hb : PVY Φ X b ρ d2) : PVY Φ X (.BinOp a op b pos) ρ d :=
  fun σ G H φ u s Q q => wE_of (pe_op ho pe_w pe_w) (ha σ G H φ u s _ fun v G1 H1 g1 k1 => hb σ G1 H1 (st _ _ _ _ _ φ g1) g1.sub (s.gr g1) _ fun w G2 H2 g2 k2 => hr G2 H2 v w g2.sub (k1.gr g2) k2 Q fun z G3 H3 g3 k3 => q z G3 H3 (g1.trans (g2.trans g3)) k3)
theorem by_cmp {op : CmpOp} {r : R2} {k : Bool} (st : StayY Φ) (ho : OpR X (compareOp op) r) (hr : DR2 X.K r d1 d2 (.bool k)) (ha : PVY Φ X a ρ d1) (hb : PVY Φ X b ρ d2) (hm : behindInMarks op b = false := by first | exact nomark _ | rfl) : PBY Φ X (.Compare a [op] [b] pos) ρ k :=
  fun σ G H φ u s Q q => wT_of (pt_cmpR ho pe_w pe_w hm) (ha σ G H φ u s _ fun v G1 H1 g1 k1 => hb σ G1 H1 (st _ _ _ _ _ φ g1) g1.sub (s.gr g1) _ fun w G2 H2 g2 k2 => hr G2 H2 v w g2.sub (k1.gr g2) k2 _ fun z G3 H3 g3 k3 => ⟨k, Dp.blE k3, q G3 H3 (g1.trans (g2.trans g3))⟩)
theorem by_w (h : PBWY Φ X e ρ k) : PBY Φ X e ρ k := fun σ G H φ u s Q q => wT_of (PW.pt pw_w) (h σ G H φ u s Q q)
theorem bwy_and1 (h : PBY Φ X a ρ k) : PBWY Φ X (.BoolOp .And [a] pos) ρ k := fun σ G H φ u s Q q => wW_of (pw_and1 pt_w) (h σ G H φ u s Q q)
theorem bwy_and (st : StayY Φ) (h : PBY Φ X a ρ k1) (h2 : k1 = true → PBWY Φ X (.BoolOp .And (b :: rest) pos) ρ k2) : PBWY Φ X (.BoolOp .And (a :: b :: rest) pos) ρ (k1 && k2) := fun σ G H φ u s Q q => wW_of (pw_and pt_w pw_w) (h σ G H φ u s _ fun G1 H1 g1 => by
  cases k1 with
  | true =>
    rw [if_pos rfl]
    exact h2 rfl σ G1 H1 (st _ _ _ _ _ φ g1) g1.sub (s.gr g1) _ fun G2 H2 g2 => q G2 H2 (g1.trans g2)
  | false =>
    rw [if_neg Bool.false_ne_true]
    exact q G1 H1 g1)
theorem y_ixL {i : Int} (st : StayY Φ) (ha : PVY Φ X a ρ (.list ds)) (hb : PVY Φ X b ρ (.int i)) (h : L2.atI ds i = some d) (hs : PlainIx b := by exact fun _ _ => rfl) : PVY Φ X (.Subscript a b pos) ρ d :=
  fun σ G H φ u s Q q => wE_of (pe_ix ix_list pe_w pe_w hs) (ha σ G H φ u s _ fun v G1 H1 g1 k1 => hb σ G1 H1 (st _ _ _ _ _ φ g1) g1.sub (s.gr g1) _ fun w G2 H2 g2 k2 => dr_ixL h G2 H2 v w g2.sub (k1.gr g2) k2 Q fun z G3 H3 g3 k3 => q z G3 H3 (g1.trans (g2.trans g3)) k3)
theorem y_fromL {k : Nat} {j} {p2 p3 : Pos} (ha : PVY Φ X a ρ (.list ds)) : PVY Φ X (.Subscript a (.Slice (some (.Constant (.int (k : Int)) j p3)) none none p2) pos) ρ (.list (ds.drop k)) :=
  PVY.to (d := .list (cutD ds (some (k : Int)) none)) (fun σ G H φ u s Q q => wE_of (pe_slice sl_list pe_w po_w po_w) (ha σ G H φ u s _ fun v G1 H1 g1 k1 => wO_of (pp_some pv_int) g1.sub (s.gr g1) fun G2 H2 g2 => wO_of pp_none g2.sub (s.gr (g1.trans g2)) fun G3 H3 g3 => by
    obtain ⟨p, xs, rfl, h3, h4⟩ := Dp.lstE (k1.gr (g2.trans g3))
    exact ⟨p, xs, rfl, L2.Same.seq g3.sub h3, fun p hp => q _ _ _ (g1.trans (g2.trans (g3.trans (Gr.upd g3.sub hp)))) (.lst (SqL.of upd_same) (L2.DpAll.gr (Gr.upd g3.sub hp) (DpAll.cut h4 _ _)))⟩)) (by rw [cutD_from])
theorem y_call1 {T : String} {r : List V → Hp → VK → Prop} {x : Str} {p : Pos} (hc : CallR X (.type T) r) (hr : DRC X.K r [d1] d) (hm : X.mg x = none) (ha : PVY Φ X e ρ d1) (hv : bootBuiltins x = some (.type T) := by decide +kernel) (hg : Gl X x := by rfl) (hn : x ≠ "__name__" := by decide) (hdb : (x == ("__debug__" : Str)) = false := by decide)
    (he : starEach (e :: []) X.env = (false, eval e X.env) :: starEach [] X.env := by rfl) (hpl : (backTo pos (starEach [] X.env)).any (·.1) = false := by rfl) : PVY Φ X (.Call (.Name x p) [e] [] pos) ρ d :=
  fun σ G H φ u s Q q => wE_of (pe_callTy hc hg hm hv (pa_cons pe_w pa_nil he) hn hdb he hpl) (ha σ G H φ u s _ fun v G1 H1 g1 k1 => hr G1 H1 [v] g1.sub (.cons k1 .nil) Q fun v G2 H2 g2 k2 => q v G2 H2 (g1.trans g2) k2)
end
/-! ### the state of the draws: a dict at am, outside of the data -/
abbrev mkvs (vg : V) (sd at_ : Int) : List (Key × V) := [(.inr "great", vg), (.inr "seed", .int sd), (.inr "at", .int at_)]
def dkM (vg : V) (sd at_ : Int) : HO := .dK (mkvs vg sd at_)
abbrev kS (x : Str) : Key := .inr x
theorem kne1 : ¬ kS "great" = kS "seed" := by decide
theorem kne2 : ¬ kS "great" = kS "at" := by decide
theorem kne3 : ¬ kS "seed" = kS "at" := by decide
theorem m_great {vg : V} {sd at_ : Int} : valV (mkvs vg sd at_) (kS "great") = some vg := valV_pos rfl
theorem m_seed {vg : V} {sd at_ : Int} : valV (mkvs vg sd at_) (kS "seed") = some (.int sd) := (valV_neg kne1).trans (valV_pos rfl)
theorem m_at {vg : V} {sd at_ : Int} : valV (mkvs vg sd at_) (kS "at") = some (.int at_) := (valV_neg kne2).trans ((valV_neg kne3).trans (valV_pos rfl))
theorem m_putg {vg v : V} {sd at_ : Int} : putK (mkvs vg sd at_) (kS "great") v = mkvs v sd at_ := by
  unfold putK
  have e1 : ¬ kS "seed" = kS "great" := by decide
  have e2 : ¬ kS "at" = kS "great" := by decide
  simp [e1, e2]
theorem m_puta {vg : V} {sd at_ i : Int} : putK (mkvs vg sd at_) (kS "at") (.int i) = mkvs vg sd i := by
  unfold putK
  have e1 : ¬ kS "great" = kS "at" := kne2
  have e2 : ¬ kS "seed" = kS "at" := kne3
  have e3 : ¬ (Str.ofString "great" = Str.ofString "at") := by decide
  have e4 : ¬ (Str.ofString "seed" = Str.ofString "at") := by decide
  simp [e3, e4]
structure MstG (K : PySem.W.Frag) (G H : Hp) (am : Addr) (vg : V) (gs : List Int) (sd at_ : Int) : Prop where
  hm : H am = some (dkM vg sd at_)
  gm : G am = none
  gr : Dp K G vg (.list (gs.map .int))
  len : gs.length ≤ 63
  sd0 : 0 ≤ sd
  sd1 : sd < 2147483647
  at0 : 0 ≤ at_
def Mst (K : PySem.W.Frag) (G H : Hp) (am : Addr) (f : Nat) : Prop := ∃ vg gs sd at_, MstG K G H am vg gs sd at_ ∧ at_ + f ≤ 1048576
theorem MstG.go {K : PySem.W.Frag} {G H G2 H2 : Hp} {am : Addr} {vg : V} {gs : List Int} {sd at_ : Int} (m : MstG K G H am vg gs sd at_) (g : Gr G H G2 H2) : MstG K G2 H2 am vg gs sd at_ :=
  ⟨g.hh _ _ m.hm, by rw [g.new am (by rw [m.hm]; exact fun z => nomatch z)]; exact m.gm, m.gr.gr g, m.len, m.sd0, m.sd1, m.at0⟩
theorem Mst.go {K : PySem.W.Frag} {G H G2 H2 : Hp} {am : Addr} {f : Nat} (m : Mst K G H am f) (g : Gr G H G2 H2) : Mst K G2 H2 am f := by
  obtain ⟨vg, gs, sd, at_, h, hf⟩ := m
  exact ⟨vg, gs, sd, at_, h.go g, hf⟩
theorem Mst.mono {K : PySem.W.Frag} {G H : Hp} {am : Addr} {f f' : Nat} (m : Mst K G H am f) (h : f' ≤ f) : Mst K G H am f' := by
  obtain ⟨vg, gs, sd, at_, h1, hf⟩ := m
  exact ⟨vg, gs, sd, at_, h1, by omega⟩
/-- what a step with draws keeps: all but the state's dict -/
structure Gm (am : Addr) (G H G2 H2 : Hp) : Prop where
  sub : Same G2 H2
  gg : Same G G2
  hh : ∀ b o, b ≠ am → H b = some o → H2 b = some o
  dm : H am ≠ none → H2 am ≠ none
  new : ∀ a, H a ≠ none → G2 a = G a
theorem Gr.m {G H G2 H2 : Hp} {am : Addr} (g : Gr G H G2 H2) : Gm am G H G2 H2 := ⟨g.sub, g.gg, fun b o _ h => g.hh b o h, fun h => by
  cases e : H am with
  | none => exact absurd e h
  | some o => rw [g.hh _ _ e]; exact (fun z => nomatch z), g.new⟩
theorem Gm.trans {am : Addr} {G H G1 H1 G2 H2 : Hp} (a : Gm am G H G1 H1) (b : Gm am G1 H1 G2 H2) : Gm am G H G2 H2 := ⟨b.sub, a.gg.trans b.gg, fun c o h e => b.hh c o h (a.hh c o h e), fun h => b.dm (a.dm h), fun c hc => by
  have h1 : H1 c ≠ none := by
    by_cases hca : c = am
    · rw [hca]; exact a.dm (by rw [← hca]; exact hc)
    · cases e : H c with
      | none => exact absurd e hc
      | some o => rw [a.hh c o hca e]; exact fun z => nomatch z
  rw [b.new c h1, a.new c hc]⟩
theorem Gm.refl {am : Addr} {G H : Hp} (h : Same G H) : Gm am G H G H := (Gr.refl h).m
/-- the dict is written -/
theorem Gm.put {am : Addr} {G H : Hp} {o : HO} (u : Same G H) (g : G am = none) : Gm am G H G (L2.upd H am o) := ⟨fun b x e => by
    rw [upd_ne (fun z => by rw [z, g] at e; cases e)]
    exact u b x e, L2.Same.refl G, fun b x h e => by rw [upd_ne h]; exact e, (fun _ => by rw [upd_same]; exact (fun z => nomatch z)), fun _ _ => rfl⟩
theorem _root_.L2.Dp.gm {K : PySem.W.Frag} {am : Addr} {G H G2 H2 : Hp} {v : V} {d : PyData} (g : Gm am G H G2 H2) (h : Dp K G v d) : Dp K G2 v d := Dp.same g.gg h
theorem _root_.L2.DpAll.gm {K : PySem.W.Frag} {am : Addr} {G H G2 H2 : Hp} {v : List V} {d : List PyData} (g : Gm am G H G2 H2) (h : DpAll K G v d) : DpAll K G2 v d := DpAll.same g.gg h
theorem SD.gm {K : PySem.W.Frag} {am : Addr} {G H G2 H2 : Hp} {σ : L2.St} {ρ : Rho} (g : Gm am G H G2 H2) (h : SD K G σ ρ) : SD K G2 σ ρ := SD.same h g.gg
/-- slot 0 holds the state, it reads so -/
def PhiM (K : PySem.W.Frag) (am : Addr) (vg : V) (gs : List Int) (sd at_ : Int) : Phi3 := fun σ G H => σ[0]? = some (some (.ref am)) ∧ MstG K G H am vg gs sd at_
theorem phiM_stay {K : PySem.W.Frag} {am : Addr} {vg : V} {gs : List Int} {sd at_ : Int} : StayY (PhiM K am vg gs sd at_) := fun σ G H G2 H2 ⟨h1, h2⟩ g => ⟨h1, h2.go g⟩
section
variable {X : Cx} {ρ : Rho} {am : Addr} {vg : V} {gs : List Int} {sd at_ : Int} {pos p p1 : Pos} {j : Option Str}
theorem y_m {x : Str} {key : Str} {v : V} {d : PyData} (hu : X.A.units + 1 < cLine) (hv : valV (mkvs vg sd at_) (kS key) = some v) (hd : ∀ G H, MstG X.K G H am vg gs sd at_ → Dp X.K G v d) {kk} (hN : X.N[0]? = some x := by rfl) (hvis : Vis X.env.scope x := by first | exact Or.inl rfl | exact Or.inr (Or.inl rfl) | exact Or.inr (Or.inr rfl)) (hdb : (x == ("__debug__" : Str)) = false := by decide)
    (hcd : (x == ("__classdict__" : Str)) = false := by decide) : PVY (PhiM X.K am vg gs sd at_) X (.Subscript (.Name x p) (.Constant (.str key) kk p1) pos) ρ d := fun σ G H φ u s Q q =>
  wE_of (pe_dget hu (pe_var hN hvis hdb hcd) pe_str (fun _ _ => rfl)) ⟨.ref am, φ.1, am, v, rfl, .inl ⟨_, .inr key, .inl φ.2.hm, rfl, hv.symm⟩, q v G H (Gr.refl u) (hd G H φ.2)⟩
theorem ws_mput {Φ : Phi3} {σ : L2.St} {G H : Hp} {D : Ends} {rest : List Stmt} {e : Expr} {x : Str} {key : Str} {d : PyData} (hu : X.A.units + 1 < cLine) (φ : Φ σ G H) (h0 : σ[0]? = some (some (.ref am))) (hm : H am = some (dkM vg sd at_)) (u : Same G H) (s : SD X.K G σ ρ) (he : PVY Φ X e ρ d)
    (k : ∀ v G1 H1, Gr G H G1 H1 → Dp X.K G1 v d → wSs X rest D σ (L2.upd H1 am (.dK (putK (mkvs vg sd at_) (kS key) v)))) {kk} {p2 : Pos} (hN : X.N[0]? = some x := by rfl) (hvis : Vis X.env.scope x := by first | exact Or.inl rfl | exact Or.inr (Or.inl rfl) | exact Or.inr (Or.inr rfl)) (hdb : (x == ("__debug__" : Str)) = false := by decide)
    (hcd : (x == ("__classdict__" : Str)) = false := by decide) (hs : swapsWith e (some (.Subscript (.Name x p) (.Constant (.str key) kk p1) p2)) pos.line X.env = pure false := by rfl) : wSs X (.Assign [.Subscript (.Name x p) (.Constant (.str key) kk p1) p2] e pos :: rest) D σ H :=
  wSs_of (pss_cons (ps_dput hu (pe_var hN hvis hdb hcd) pe_str pe_w hs) pss_w) (he σ G H φ u s _ fun v G1 H1 g1 k1 => ⟨.ref am, h0, am, _, rfl, .inl ⟨_, kS key, g1.hh _ _ hm, rfl, by show 3 < sizeLine; rw [sizeLine_eq]; decide, rfl⟩, k v G1 H1 g1 k1⟩)
theorem ws_setY {Φ : Phi3} {σ : L2.St} {G H : Hp} {D : Ends} {rest : List Stmt} {e : Expr} {x : Str} {d : PyData} {i : Nat} {pos' : Pos} (φ : Φ σ G H) (u : Same G H) (s : SD X.K G σ ρ) (he : PVY Φ X e ρ d) (hN : X.N.Nodup) (k : ∀ v G1 H1, Gr G H G1 H1 → Dp X.K G1 v d → SD X.K G1 (σ.set i (some v)) (ρ.set i (some d)) → wSs X rest D (σ.set i (some v)) H1) (hi : X.N[i]? = some x := by rfl) (hx : Loc X.env.scope x := by first | exact Or.inl rfl | exact Or.inr rfl)
    (hs : swapsWith e (some (.Name x pos')) pos.line X.env = pure false := by rfl) (hf : X.fn x = true ∨ X.env.scope.names.lookup x = some .local := by first | exact .inl rfl | exact .inr rfl) : wSs X (.Assign [.Name x pos'] e pos :: rest) D σ H :=
  wSs_of (pss_cons (ps_set hN hi hx pe_w hs hf) pss_w) (he σ G H φ u s _ fun v G1 H1 g1 k1 => k v G1 H1 g1 k1 ((s.gr g1).set i k1))
theorem MstG.puta {K : PySem.W.Frag} {G H : Hp} {i : Int} (m : MstG K G H am vg gs sd at_) (h0 : 0 ≤ i) : MstG K G (L2.upd H am (.dK (putK (mkvs vg sd at_) (kS "at") (.int i)))) am vg gs sd i := ⟨by rw [m_puta, upd_same] <;> rfl, m.gm, m.gr, m.len, m.sd0, m.sd1, h0⟩
theorem MstG.putg {K : PySem.W.Frag} {G H : Hp} {v : V} {gs' : List Int} (m : MstG K G H am vg gs sd at_) (k : Dp K G v (.list (gs'.map .int))) (hl : gs'.length ≤ 63) : MstG K G (L2.upd H am (.dK (putK (mkvs vg sd at_) (kS "great") v))) am v gs' sd at_ := ⟨by rw [m_putg, upd_same] <;> rfl, m.gm, k, hl, m.sd0, m.sd1, m.at0⟩
end
end DL
end D10_text
section G18_text
set_option maxRecDepth 100000
set_option maxHeartbeats 2000000
namespace DL
open PySem PySem.Spec PyProof.Rows L2 StX
section
variable {X : Cx} {K : PySem.W.Frag} {i j : Int}
abbrev rMod : R2 := rI (fun _ j => 0 < j) fun i j => .int (i % j)
theorem dr_mod (h : 0 < j) : DR2 K rMod (.int i) (.int j) (.int (i % j)) := fun G H x y u h1 h2 _ q => by
  have e1 := Dp.intE h1
  have e2 := Dp.intE h2
  subst e1 e2
  exact ⟨i, j, rfl, rfl, h, q _ G H (Gr.refl u) (.int _)⟩
abbrev rMul : R2 := rI CMul fun i j => .int (i * j)
theorem dr_mul (h : CMul i j) : DR2 K rMul (.int i) (.int j) (.int (i * j)) := fun G H x y u h1 h2 _ q => by
  have e1 := Dp.intE h1
  have e2 := Dp.intE h2
  subst e1 e2
  exact ⟨i, j, rfl, rfl, h, q _ G H (Gr.refl u) (.int _)⟩
abbrev rDivW : R2 := rI CDivW fun i j => .int (i / j)
theorem dr_divW (h : CDivW i j) : DR2 K rDivW (.int i) (.int j) (.int (i / j)) := fun G H x y u h1 h2 _ q => by
  have e1 := Dp.intE h1
  have e2 := Dp.intE h2
  subst e1 e2
  exact ⟨i, j, rfl, rfl, h, q _ G H (Gr.refl u) (.int _)⟩
theorem cdiv_big {j : Int} (h : 0 < j) (h2 : j ≤ 1048576) : CDivW i j := ⟨h, by
  have : j.natAbs < 2 ^ 21 := by omega
  exact Nat.lt_trans (PySem.Flt.log2_lt_of (by decide) this) (by decide)⟩
end
end DL
namespace Wk
open PySem PySem.Spec PyProof.Rows L2 DL LamX
section
variable {P : Program} {w : World} {K : PySem.W.Frag} {mg : Str → Option Value} {base : Heap}
def spDraw (K : PySem.W.Frag) : Sp := fun vs H Q _ => ∃ am t G f, vs = [.ref am, .int t] ∧ 1 ≤ t ∧ t ≤ 1048576 ∧ Same G H ∧ Mst K G H am (f + 1) ∧ ∀ r G2 H2, Gm am G H G2 H2 → Mst K G2 H2 am f → 0 ≤ r → r < t → Q (.int r) H2
abbrev N68 : List Str := ["_law_m", "_law_top", "_law_cell", "_law_k", "_law_mixed"]
theorem sc68 : FnScope N68 ["_law_m", "_law_top"] (defScope (top 68)) := ⟨rfl, rfl, rfl, by decide +kernel, rfl, by decide +kernel, by decide +kernel⟩
theorem eqv_nil (gs : List Int) : PyData.eqv (.list (gs.map .int)) (.list []) = decide (gs = []) := by
  cases gs <;> simp [PyData.eqv, PyData.eqvAll]
theorem eqv_int (i j : Int) : PyData.eqv (.int i) (.int j) = decide (i = j) := by
  by_cases h : i = j <;> simp [PyData.eqv, h]
theorem ok_law_draw (T : Txt P K mg) : DefOk P w K mg base 2 "_law_draw" (spDraw K) := by
  refine def_raw T (i := 68) (N := N68) (ps := ["_law_m", "_law_top"]) (by decide +kernel) sc68 (fun _ _ _ _ _ _ us hl => match us, hl with | [_, _], _ => rfl) (fun vs H Q E ⟨am, t, G, f, e, _⟩ => by rw [e] <;> rfl) ?_
  intro f cdv A outer s H E vs Q hr hsp
  obtain ⟨am, t, G, n, rfl, ht1, ht2, u, ⟨vg, gs, sd, at_, m, hat⟩, hq⟩ := hsp
  have hu := hu1 hr
  have s0 : SD K G (L2.start N68 [V.ref am, .int t]) [none, some (.int t), none, none, none] := ⟨rfl, fun i e he => by
    match i with
    | 0 => cases he
    | 1 => cases he; exact ⟨.int t, rfl, .int t⟩
    | 2 => cases he
    | 3 => cases he
    | 4 => cases he
    | i + 5 => simp at he⟩
  have h00 : (L2.start N68 [V.ref am, V.int t])[0]? = some (some (.ref am)) := rfl
  refine wSs_of (pss_cons (ps_while cxOwn pt_w pss_w) pss_w) ⟨fun k σ' H' => σ' = L2.start N68 [V.ref am, .int t] ∧ ∃ vg' gs' G', k = gs'.length ∧ Gm am G H G' H' ∧ MstG K G' H' am vg' gs' sd at_, ⟨gs.length, rfl, vg, gs, G, rfl, Gm.refl u, m⟩, ?_⟩
  rintro k σ' H' ⟨rfl, vg', gs', G', rfl, g', m'⟩
  have s' := s0.gm g'
  have φ : PhiM K am vg' gs' sd at_ (L2.start N68 [V.ref am, .int t]) G' H' := ⟨h00, m'⟩
  have ymg : ∀ {pos p p1 kk} {ρ : Rho}, PVY (PhiM K am vg' gs' sd at_) (CC P w K mg base N68 "_law_draw" (defScope (top 68)) f cdv A outer s H E) (.Subscript (.Name "_law_m" p) (.Constant (.str "great") kk p1) pos) ρ (.list (gs'.map .int)) := by
    intro pos p p1 kk ρ
    exact y_m (X := (CC P w K mg base N68 "_law_draw" (defScope (top 68)) f cdv A outer s H E)) (key := "great") hu m_great fun _ _ h => h.gr
  refine (show PBY (PhiM K am vg' gs' sd at_) _ _ [none, some (.int t), none, none, none] (!decide (gs' = []) && decide (gs'.head? = some 0)) from by_w (bwy_and phiM_stay (PBY.to (by_cmp phiM_stay (op_neP (hu64 hr)) (dr_ne (by simp [PyData.depth, PyData.depthAll])) ymg (PV.y (pv_lst pvs_nil))) (by rw [eqv_nil])) fun hne => bwy_and1 (by
    cases gs' with
    | nil => simp at hne
    | cons g r => exact PBY.to (by_cmp phiM_stay (op_eqP (hu64 hr)) (dr_eq (by simp [PyData.depth])) (y_ixL (i := 0) (d := .int g) phiM_stay ymg (PV.y pv_int) (DL.atI_nat (i := 0) rfl)) (PV.y pv_int)) (by rw [eqv_int]; simp)))) _ G' H' φ g'.sub s' _ fun G1 H1 g1 => ?_
  have m1 := m'.go g1
  have g01 := g'.trans g1.m
  have φ1 : PhiM K am vg' gs' sd at_ (L2.start N68 [V.ref am, .int t]) G1 H1 := ⟨h00, m1⟩
  have s1 := s'.gr g1
  by_cases hb : (!decide (gs' = []) && decide (gs'.head? = some 0)) = true
  · rw [if_pos hb]
    obtain ⟨g, r, rfl⟩ : ∃ g r, gs' = g :: r := by
      cases gs' with
      | nil => simp at hb
      | cons g r => exact ⟨g, r, rfl⟩
    refine ⟨fun σ'' H'' => σ'' = L2.start N68 [V.ref am, .int t] ∧ ∃ vg'' G'', Gm am G H G'' H'' ∧ MstG K G'' H'' am vg'' r sd at_, ?_, ?_⟩
    · rintro σ'' H'' ⟨rfl, vg'', G'', h1, h2⟩
      exact ⟨r.length, by simp, rfl, vg'', r, G'', rfl, h1, h2⟩
    · refine ws_mput (key := "great") hu φ1 h00 m1.hm g1.sub s1 (y_fromL ymg) fun v G2 H2 g2 k2 => ?_
      refine ws_nil ?_
      refine ⟨rfl, v, G2, ?_, ?_⟩
      · exact g01.trans (g2.m.trans (Gm.put g2.sub (m1.go g2).gm))
      · have m2 := m1.go g2
        exact ⟨by rw [m_putg, upd_same] <;> rfl, m2.gm, k2, by have := m2.len; simp at this; omega, m2.sd0, m2.sd1, m2.at0⟩
  · rw [if_neg hb]
    have ym1 : ∀ {G1 : Hp} {pos p p1 kk} {ρ : Rho}, PVY (PhiM K am vg' gs' sd at_) (CC P w K mg base N68 "_law_draw" (defScope (top 68)) f cdv A outer s H E) (.Subscript (.Name "_law_m" p) (.Constant (.str "great") kk p1) pos) ρ (.list (gs'.map .int)) := ymg
    by_cases hn : gs' = []
    · subst hn
      refine wSs_of (pss_cons (ps_if pt_w pss_never pss_w) pss_w) ?_
      refine (show PBY (PhiM K am vg' [] sd at_) _ _ [none, some (.int t), none, none, none] false from PBY.to (by_cmp phiM_stay (op_neP (hu64 hr)) (dr_ne (by simp [PyData.depth, PyData.depthAll])) ymg (PV.y (pv_lst pvs_nil))) rfl) _ G1 H1 φ1 g1.sub s1 _ fun G2 H2 g2 => ?_
      show (if false = true then _ else _)
      rw [if_neg Bool.false_ne_true]
      refine ws_nil ?_
      have m2 := m1.go g2
      have g02 := g01.trans g2.m
      have hat1 := m.at0
      -- k = m['at'] + 1
      have φ2 : PhiM K am vg' [] sd at_ (L2.start N68 [V.ref am, .int t]) G2 H2 := ⟨h00, m2⟩
      have yat : ∀ {pos p p1 kk} {ρ : Rho}, PVY (PhiM K am vg' [] sd at_) (CC P w K mg base N68 "_law_draw" (defScope (top 68)) f cdv A outer s H E) (.Subscript (.Name "_law_m" p) (.Constant (.str "at") kk p1) pos) ρ (.int at_) := by
        intro pos p p1 kk ρ
        exact y_m (X := (CC P w K mg base N68 "_law_draw" (defScope (top 68)) f cdv A outer s H E)) (key := "at") hu m_at fun _ _ _ => .int _
      refine ws_setY (i := 3) φ2 g2.sub (s1.gr g2) (y_bin phiM_stay op_add dr_II yat (PV.y pv_int)) sc68.nd fun v3 G3 H3 g3 k3 s3 => ?_
      have m3 := m2.go g3
      have g03 := g02.trans g3.m
      have φ3 : PhiM K am vg' [] sd at_ ((L2.start N68 [V.ref am, .int t]).set 3 (some v3)) G3 H3 := ⟨rfl, m3⟩
      refine ws_mput (key := "at") (ρ := [none, some (.int t), none, some (.int (at_ + 1)), none]) hu φ3 rfl m3.hm g3.sub s3 (PV.y (pv_var (i := 3) rfl)) fun v4 G4 H4 g4 k4 => ?_
      have e4 := Dp.intE k4
      subst e4
      have m5 := (m3.go g4).puta (i := at_ + 1) (by omega)
      have u5 := (Gm.put (o := .dK (putK (mkvs vg' sd at_) (kS "at") (.int (at_ + 1)))) g4.sub (m3.go g4).gm)
      have g05 := g03.trans (g4.m.trans u5)
      have s5 := s3.gr g4
      have φ5 : PhiM K am vg' [] sd (at_ + 1) ((L2.start N68 [V.ref am, .int t]).set 3 (some v3)) G4 _ := ⟨rfl, m5⟩
      refine ws_setY (i := 4) (ρ := [none, some (.int t), none, some (.int (at_ + 1)), none]) φ5 u5.sub s5 (y_bin phiM_stay op_mod (dr_mod (by decide)) (y_call1 call_intI drc_intI (T_fr T) (y_bin phiM_stay op_mul (dr_mul (.inr (by decide))) (y_bin phiM_stay op_add dr_II (y_bin phiM_stay op_add dr_II (y_m (X := (CC P w K mg base N68 "_law_draw" (defScope (top 68)) f cdv A outer s H E)) (key := "seed") hu m_seed fun _ _ _ => .int _) (PV.y (pv_bin op_mul (dr_mul (.inl (by decide))) pv_int (pv_var (i := 3) rfl)))) (PV.y (pv_bin op_mul (dr_mul (.inr (by omega))) (pv_bin op_mul (dr_mul (.inl (by decide))) pv_int (pv_var (i := 3) rfl)) (pv_var (i := 3) rfl)))) (PV.y pv_int))) (PV.y pv_int)) sc68.nd fun v6 G6 H6 g6 k6 s6 => ?_
      refine ws_retE (PV.go (d := _) (pv_bin op_mod (dr_mod (by omega)) (pv_callTy call_intI drc_intI (T_fr T) (pvs_cons (pv_bin op_fdivW (dr_divW (cdiv_big (by decide) (by decide))) (pv_bin op_mod (dr_mod (by decide)) (pv_callTy call_intI drc_intI (T_fr T) (pvs_cons (pv_bin op_add dr_II (pv_bin op_mul (dr_mul (.inr (by decide))) (pv_var (i := 4) rfl) pv_int) (pv_bin op_mul (dr_mul (.inl (by decide))) pv_int (pv_var (i := 3) rfl))) pvs_nil)) pv_int) pv_int) pvs_nil)) (pv_var (i := 1) rfl)) g6.sub s6 fun v7 G7 H7 g7 k7 => ?_)
      have e7 := Dp.intE k7
      subst e7
      exact hq _ G7 H7 (g05.trans (g6.trans g7).m) ⟨vg', [], sd, at_ + 1, (m5.go g6).go g7, by omega⟩ (Int.emod_nonneg _ (by omega)) (Int.emod_lt_of_pos _ (by omega))
    · obtain ⟨g, r, rfl⟩ : ∃ g r, gs' = g :: r := by
        cases gs' with
        | nil => exact absurd rfl hn
        | cons g r => exact ⟨g, r, rfl⟩
      refine wSs_of (pss_cons (ps_if pt_w pss_w pss_never) pss_w) ?_
      refine (show PBY (PhiM K am vg' (g :: r) sd at_) _ _ [none, some (.int t), none, none, none] true from PBY.to (by_cmp phiM_stay (op_neP (hu64 hr)) (dr_ne (by simp [PyData.depth, PyData.depthAll])) ymg (PV.y (pv_lst pvs_nil))) rfl) _ G1 H1 φ1 g1.sub s1 _ fun G2 H2 g2 => ?_
      show (if true = true then _ else _)
      rw [if_pos rfl]
      have m2 := m1.go g2
      have g02 := g01.trans g2.m
      have φ2 : PhiM K am vg' (g :: r) sd at_ (L2.start N68 [V.ref am, .int t]) G2 H2 := ⟨h00, m2⟩
      refine ws_setY (i := 2) φ2 g2.sub (s1.gr g2) (y_ixL (i := 0) (d := .int g) phiM_stay ymg (PV.y pv_int) (DL.atI_nat (i := 0) rfl)) sc68.nd fun v3 G3 H3 g3 k3 s3 => ?_
      have m3 := m2.go g3
      have g03 := g02.trans g3.m
      have φ3 : PhiM K am vg' (g :: r) sd at_ ((L2.start N68 [V.ref am, .int t]).set 2 (some v3)) G3 H3 := ⟨rfl, m3⟩
      refine ws_mput (key := "great") (ρ := [none, some (.int t), some (.int g), none, none]) hu φ3 rfl m3.hm g3.sub s3 (y_bin phiM_stay op_catL (dr_cat (xs := [.int (g / t)]) (ys := r.map .int) (by have := m.len; have := m'.len; simp at this ⊢; rw [sizeLine_eq]; omega)) (PV.y (pv_lst (pvs_cons (pv_bin op_fdivW (dr_divW (cdiv_big (by omega) ht2)) (pv_var (i := 2) rfl) (pv_var (i := 1) rfl)) pvs_nil))) (PVY.to (y_fromL ymg) rfl)) fun v4 G4 H4 g4 k4 => ?_
      have m5 := (m3.go g4).putg (gs' := g / t :: r) k4 (by have := m'.len; simpa using this)
      have u5 := (Gm.put (o := .dK (putK (mkvs vg' sd at_) (kS "great") v4)) g4.sub (m3.go g4).gm)
      refine ws_retE (PV.go (ρ := [none, some (.int t), some (.int g), none, none]) (pv_bin op_mod (dr_mod (by omega)) (pv_callTy call_intI drc_intI (T_fr T) (pvs_cons (pv_var (i := 2) rfl) pvs_nil)) (pv_var (i := 1) rfl)) u5.sub (s3.gr g4) fun v7 G7 H7 g7 k7 => ?_)
      have e7 := Dp.intE k7
      subst e7
      exact hq _ G7 H7 (g03.trans (g4.m.trans (u5.trans g7.m))) ⟨v4, g / t :: r, sd, at_, m5.go g7, by omega⟩ (Int.emod_nonneg _ (by omega)) (Int.emod_lt_of_pos _ (by omega))
end
end Wk
end G18_text
section D11_text
set_option maxRecDepth 100000
set_option maxHeartbeats 2000000
namespace DL
open PySem PySem.Spec PyProof.Rows L2 StX
/-! ### values that hang on draws: c draws at most, the value is one of S -/
def PVM (X : Cx) (im : Nat) (e : Expr) (ρ : Rho) (c : Nat) (S : PyData → Prop) : Prop := ∀ am σ G H f, Same G H → SD X.K G σ ρ → σ[im]? = some (some (.ref am)) → Mst X.K G H am (f + c) → ∀ Q : VK, (∀ v d G2 H2, Gm am G H G2 H2 → Mst X.K G2 H2 am f → Dp X.K G2 v d → S d → Q v H2) → wE X e σ H Q
def PVMs (X : Cx) (im : Nat) (es : List Expr) (ρ : Rho) (c : Nat) (S : List PyData → Prop) : Prop := ∀ am σ G H f, Same G H → SD X.K G σ ρ → σ[im]? = some (some (.ref am)) → Mst X.K G H am (f + c) → ∀ Q : List V → Hp → Prop, (∀ vs ds G2 H2, Gm am G H G2 H2 → Mst X.K G2 H2 am f → DpAll X.K G2 vs ds → S ds → Q vs H2) → wA X es σ H Q
def PBM (X : Cx) (im : Nat) (e : Expr) (ρ : Rho) (c : Nat) : Prop := ∀ am σ G H f, Same G H → SD X.K G σ ρ → σ[im]? = some (some (.ref am)) → Mst X.K G H am (f + c) → ∀ Q : Bool → Hp → Prop, (∀ b G2 H2, Gm am G H G2 H2 → Mst X.K G2 H2 am f → Q b H2) → wT X e σ H Q
/-- a def's promise: the first argument is the state of the draws -/
def spM (K : PySem.W.Frag) (n c : Nat) (Pre : List PyData → Prop) (R : List PyData → PyData → Prop) : Sp := fun vs H Q _ => ∃ am ws ds G f, vs = .ref am :: ws ∧ ds.length = n ∧ Same G H ∧ DpAll K G ws ds ∧ Pre ds ∧ Mst K G H am (f + c) ∧ ∀ v d G2 H2, Gm am G H G2 H2 → Mst K G2 H2 am f → Dp K G2 v d → R ds d → Q v H2
section
variable {X : Cx} {im : Nat} {ρ : Rho} {a b e tg iter elt : Expr} {es rest : List Expr} {c c1 c2 : Nat} {S S1 : PyData → Prop} {Ss S2 : List PyData → Prop} {d d1 d2 : PyData} {ds : List PyData} {pos : Pos} {σ : L2.St} {G H : Hp} {am : Addr}
theorem PV.mm (h : PV X e ρ d) : PVM X im e ρ 0 (fun x => x = d) := fun am σ G H f u s _ m Q q => h σ G H u s Q fun v G1 H1 g1 k1 => q v d G1 H1 g1.m (m.go g1) k1 rfl
theorem PVs.mm (h : PVs X es ρ ds) : PVMs X im es ρ 0 (fun x => x = ds) := fun am σ G H f u s _ m Q q => h σ G H u s Q fun v G1 H1 g1 k1 => q v ds G1 H1 g1.m (m.go g1) k1 rfl
theorem PVM.imp {S' : PyData → Prop} {c' : Nat} (h : PVM X im e ρ c S) (hS : ∀ d, S d → S' d) (hc : c ≤ c' := by omega) : PVM X im e ρ c' S' := fun am σ G H f u s h0 m Q q => h am σ G H f u s h0 (m.mono (by omega)) Q fun v d G2 H2 g m k z => q v d G2 H2 g m k (hS d z)
theorem pvms_nil : PVMs X im [] ρ 0 (fun x => x = []) := PVs.mm pvs_nil
theorem pvms_cons (ha : PVM X im e ρ c1 S1) (hr : PVMs X im es ρ c2 S2) (hs : starEach (e :: es) X.env = (false, eval e X.env) :: starEach es X.env := by rfl) : PVMs X im (e :: es) ρ (c1 + c2) (fun x => ∃ d r, x = d :: r ∧ S1 d ∧ S2 r) :=
  fun am σ G H f u s h0 m Q q => wA_of (pa_cons pe_w pa_w hs) (ha am σ G H (f + c2) u s h0 (m.mono (by omega)) _ fun v d G1 H1 g1 m1 k1 z1 => hr am σ G1 H1 f g1.sub (s.gm g1) h0 m1 _ fun vs ds G2 H2 g2 m2 k2 z2 => q (v :: vs) (d :: ds) G2 H2 (g1.trans g2) m2 (.cons (k1.gm g2) k2) ⟨d, ds, rfl, z1, z2⟩)
theorem pvm_tup {x1} {n : Nat} (h : PVMs X im es ρ c Ss) (hl : ∀ ds, Ss ds → ds.length ≤ sizeLine) : PVM X im (.Tuple es x1 pos) ρ c (fun d => ∃ ds, Ss ds ∧ d = .tuple ds) :=
  fun am σ G H f u s h0 m Q q => wE_of (pe_tup pa_w) (h am σ G H f u s h0 m _ fun vs ds G1 H1 g1 m1 k1 z1 => ⟨by rw [DpAll.length k1]; exact hl ds z1, fun p hp => q _ _ _ _ (g1.trans (Gr.upd g1.sub hp).m) (m1.go (Gr.upd g1.sub hp)) (.tup (SqT.of upd_same) (L2.DpAll.gr (Gr.upd g1.sub hp) k1)) ⟨ds, z1, rfl⟩⟩)
theorem pvm_bin {op : Operator} {r : R2} {Sa Sb : PyData → Prop} (ho : OpR X (binaryOp op) r) (ha : PVM X im a ρ c1 Sa) (hb : PVM X im b ρ c2 Sb) (hr : ∀ d1 d2, Sa d1 → Sb d2 → ∃ d, DR2 X.K r d1 d2 d ∧ S d) : PVM X im (.BinOp a op b pos) ρ (c1 + c2) S :=
  fun am σ G H f u s h0 m Q q => wE_of (pe_op ho pe_w pe_w) (ha am σ G H (f + c2) u s h0 (m.mono (by omega)) _ fun v d1 G1 H1 g1 m1 k1 z1 => hb am σ G1 H1 f g1.sub (s.gm g1) h0 m1 _ fun w d2 G2 H2 g2 m2 k2 z2 => by
    obtain ⟨d, hd, hS⟩ := hr d1 d2 z1 z2
    exact hd G2 H2 v w g2.sub (k1.gm g2) k2 Q fun z G3 H3 g3 k3 => q z d G3 H3 (g1.trans (g2.trans g3.m)) (m2.go g3) k3 hS)
theorem pbm_cmp {op : CmpOp} {r : R2} {Sa Sb : PyData → Prop} (ho : OpR X (compareOp op) r) (ha : PVM X im a ρ c1 Sa) (hb : PVM X im b ρ c2 Sb) (hr : ∀ d1 d2, Sa d1 → Sb d2 → ∃ k, DR2 X.K r d1 d2 (.bool k)) (hm : behindInMarks op b = false := by first | exact nomark _ | rfl) : PBM X im (.Compare a [op] [b] pos) ρ (c1 + c2) :=
  fun am σ G H f u s h0 m Q q => wT_of (pt_cmpR ho pe_w pe_w hm) (ha am σ G H (f + c2) u s h0 (m.mono (by omega)) _ fun v d1 G1 H1 g1 m1 k1 z1 => hb am σ G1 H1 f g1.sub (s.gm g1) h0 m1 _ fun w d2 G2 H2 g2 m2 k2 z2 => by
    obtain ⟨k, hd⟩ := hr d1 d2 z1 z2
    exact hd G2 H2 v w g2.sub (k1.gm g2) k2 _ fun z G3 H3 g3 k3 => ⟨k, Dp.blE k3, q k G3 H3 (g1.trans (g2.trans g3.m)) (m2.go g3)⟩)
theorem pvm_ixL {Sa Sb : PyData → Prop} (ha : PVM X im a ρ c1 Sa) (hb : PVM X im b ρ c2 Sb) (hr : ∀ d1 d2, Sa d1 → Sb d2 → ∃ ds i d, d1 = .list ds ∧ d2 = .int i ∧ L2.atI ds i = some d ∧ S d) (hs : PlainIx b := by exact fun _ _ => rfl) : PVM X im (.Subscript a b pos) ρ (c1 + c2) S :=
  fun am σ G H f u s h0 m Q q => wE_of (pe_ix ix_list pe_w pe_w hs) (ha am σ G H (f + c2) u s h0 (m.mono (by omega)) _ fun v d1 G1 H1 g1 m1 k1 z1 => hb am σ G1 H1 f g1.sub (s.gm g1) h0 m1 _ fun w d2 G2 H2 g2 m2 k2 z2 => by
    obtain ⟨ds, i, d, rfl, rfl, h, hS⟩ := hr d1 d2 z1 z2
    exact dr_ixL h G2 H2 v w g2.sub (k1.gm g2) k2 Q fun z G3 H3 g3 k3 => q z d G3 H3 (g1.trans (g2.trans g3.m)) (m2.go g3) k3 hS)
/-- x(m, e, ..) -/
theorem pvm_call {n k : Nat} {Pre : List PyData → Prop} {R : List PyData → PyData → Prop} {x y : Str} {p py : Pos} (D : DefOk X.prog X.w X.K X.mg X.base k x (spM X.K n c2 Pre R)) (hr : Room k X.A) (ha : PVMs X im es ρ c1 Ss) (hp : ∀ ds, Ss ds → ds.length = n ∧ Pre ds) (hN : X.N[im]? = some y := by rfl) (hvis : Vis X.env.scope y := by first | exact Or.inl rfl | exact Or.inr (Or.inl rfl) | exact Or.inr (Or.inr rfl)) (hyd : (y == ("__debug__" : Str)) = false := by decide)
    (hcd : (y == ("__classdict__" : Str)) = false := by decide) (hg : Gl X x := by rfl) (hdb : (x == ("__debug__" : Str)) = false := by decide)
    (he : starEach (.Name y py :: es) X.env = (false, eval (.Name y py) X.env) :: starEach es X.env := by rfl) (hpl : (backTo pos (starEach es X.env)).any (·.1) = false := by rfl) : PVM X im (.Call (.Name x p) (.Name y py :: es) [] pos) ρ (c1 + c2) (fun d => ∃ ds, Ss ds ∧ R ds d) :=
  fun am σ G H f u s h0 m Q q => wE_call D hr (wA_of (pa_cons (pe_var hN hvis hyd hcd) pa_w he) ⟨.ref am, h0, ha am σ G H (f + c2) u s h0 (m.mono (by omega)) _ fun vs ds G1 H1 g1 m1 k1 z1 => ⟨am, vs, ds, G1, f, rfl, (hp ds z1).1, g1.sub, k1, (hp ds z1).2, m1, fun v d G2 H2 g2 m2 k2 z2 => q v d G2 H2 (g1.trans g2) m2 k2 ⟨ds, z1, z2⟩⟩⟩) hg hdb he hpl
/-- builtins over values that hang on draws: one argument -/
theorem pvm_call1 {fn : Value} {T : String} {r : List V → Hp → VK → Prop} {x : Str} {p : Pos} (hc : CallR X (.type T) r) (hm : X.mg x = none) (ha : PVM X im e ρ c S1) (hr : ∀ d1, S1 d1 → ∃ d, DRC X.K r [d1] d ∧ S d) (hv : bootBuiltins x = some (.type T) := by decide +kernel) (hg : Gl X x := by rfl) (hn : x ≠ "__name__" := by decide) (hdb : (x == ("__debug__" : Str)) = false := by decide)
    (he : starEach (e :: []) X.env = (false, eval e X.env) :: starEach [] X.env := by rfl) (hpl : (backTo pos (starEach [] X.env)).any (·.1) = false := by rfl) : PVM X im (.Call (.Name x p) [e] [] pos) ρ c S :=
  fun am σ G H f u s h0 m Q q => wE_of (pe_callTy hc hg hm hv (pa_cons pe_w pa_nil he) hn hdb he hpl) (ha am σ G H f u s h0 m _ fun v d1 G1 H1 g1 m1 k1 z1 => by
    obtain ⟨d, hd, hS⟩ := hr d1 z1
    exact hd G1 H1 [v] g1.sub (.cons k1 .nil) Q fun v G2 H2 g2 k2 => q v d G2 H2 (g1.trans g2.m) (m1.go g2) k2 hS)
/-! statements -/
variable {D : Ends} {stmts : List Stmt} {x : Str}
theorem ws_setM {i f : Nat} {pos' : Pos} (he : PVM X im e ρ c S) (u : Same G H) (s : SD X.K G σ ρ) (h0 : σ[im]? = some (some (.ref am))) (m : Mst X.K G H am (f + c)) (hN : X.N.Nodup) (k : ∀ v d G1 H1, Gm am G H G1 H1 → Mst X.K G1 H1 am f → Dp X.K G1 v d → S d → SD X.K G1 (σ.set i (some v)) (ρ.set i (some d)) → wSs X stmts D (σ.set i (some v)) H1) (hi : X.N[i]? = some x := by rfl) (hx : Loc X.env.scope x := by first | exact Or.inl rfl | exact Or.inr rfl)
    (hs : swapsWith e (some (.Name x pos')) pos.line X.env = pure false := by rfl) (hf : X.fn x = true ∨ X.env.scope.names.lookup x = some .local := by first | exact .inl rfl | exact .inr rfl) : wSs X (.Assign [.Name x pos'] e pos :: stmts) D σ H :=
  wSs_of (pss_cons (ps_set hN hi hx pe_w hs hf) pss_w) (he am σ G H f u s h0 m _ fun v d G1 H1 g1 m1 k1 z1 => k v d G1 H1 g1 m1 k1 z1 ((s.gm g1).set i k1))
theorem ws_retM {f : Nat} (he : PVM X im e ρ c S) (u : Same G H) (s : SD X.K G σ ρ) (h0 : σ[im]? = some (some (.ref am))) (m : Mst X.K G H am (f + c)) (k : ∀ v d G1 H1, Gm am G H G1 H1 → Mst X.K G1 H1 am f → Dp X.K G1 v d → S d → D.rt v H1) : wSs X (.Return (some e) pos :: stmts) D σ H := ws_retE (he am σ G H f u s h0 m _ k)
/-- [elt for tg in iter if test], the test hangs on draws -/
theorem pvm_lc {α : Type} {xs : List α} {enc : α → PyData} {fd : α → PyData} {test : Expr} {scope : Scope} {own : List (Str × Nat)} {T : List Nat} {r' : α → Rho} (hi : IV X tg iter ρ (xs.map enc)) (hN : X.N.Nodup) (ok : BlkOk X.N X.env.scope scope own) (hz : xs.length ≤ sizeLine) (him : im ∉ own.map (·.2))
    (hT : ∀ j ∈ T, j ∈ own.map (·.2)) (hg : ∀ x ∈ xs, Blks X scope fun B => PGD B tg (wipeD ρ (own.map (·.2))) (enc x) (r' x) T) (ht : ∀ x ∈ xs, Blks X scope fun B => PBM B im test (r' x) 1) (he : ∀ x ∈ xs, Blks X scope fun B => PV B elt (r' x) (fd x))
    (hc : X.calm = true := by rfl) (hs : ∀ x, foldedSetIterable iter X.env x = pure x := by intro _; rfl) : PVM X im (.ListComp elt [⟨tg, iter, [test], 0⟩] scope pos) ρ xs.length (fun d => ∃ ys : List α, List.Sublist ys xs ∧ d = .list (ys.map fd)) := by
  intro am σ G H f u s h0 m Q q
  refine wE_of (pe_lc (g := bG X scope tg) (tt := bT X scope test) (te := bE X scope elt) hc hN pi_w ok pg_b (fun s H C cl fp => pts_one (pt_b s H C cl fp)) pe_b hs) ?_
  refine hi σ G H u s _ fun J G1 H1 g1 dw D hD => ?_
  obtain ⟨Y, w, hy⟩ := dw
  have hG1 : G1 D = none := L2.Same.free g1.sub hD
  have m1 := m.go g1
  have hm1 : H1 am ≠ none := by
    obtain ⟨_, _, _, _, m2, _⟩ := m1
    rw [m2.hm]
    exact fun z => nomatch z
  have hDam : D ≠ am := fun z => hm1 (by rw [← z]; exact hD)
  refine lc_it w (fun i H => ∃ G acc ys, Same G1 G ∧ Same G H ∧ (∀ b o, b ≠ am → H1 b = some o → H b = some o) ∧ (∀ a, H1 a ≠ none → G a = G1 a) ∧ G D = none ∧ H D = some (.lst acc) ∧ Mst X.K G H am (f + (xs.length - i)) ∧ List.Sublist ys (xs.take i) ∧ DpAll X.K G acc (ys.map fd)) ?_ ?_ ?_ ?_
  · refine ⟨G1, [], [], L2.Same.refl _, g1.sub.trans (Same.upd hD), fun b o _ h => Same.upd hD b o h, fun _ _ => rfl, hG1, upd_same, ?_, List.nil_sublist _, .nil⟩
    obtain ⟨vg, gs, sd, at_, mm, hf⟩ := m1
    exact ⟨vg, gs, sd, at_, ⟨by rw [upd_ne (fun z => hDam z.symm)]; exact mm.hm, mm.gm, mm.gr, mm.len, mm.sd0, mm.sd1, mm.at0⟩, by omega⟩
  · rintro i H' _ ⟨G', acc, ys, a1, a2, _⟩
    exact a1.trans a2
  · rintro i x H' H'' hlt ⟨G', acc, ys, a1, a2, a3, a4, a5, a6, a7, a8, a9⟩ y
    obtain ⟨G2, d, g2, hd, kd⟩ := hy i H' x H'' G' a2 a1 y
    rw [List.getElem?_map] at hd
    cases hx : xs[i]? with
    | none =>
      rw [hx] at hd
      cases hd
    | some z =>
      rw [hx] at hd
      have ed : d = enc z := (Option.some.inj hd).symm
      subst ed
      have hmz : z ∈ xs := List.mem_of_getElem? hx
      have hil : i < xs.length := (List.getElem?_eq_some_iff.mp hx).1
      have sw : SD X.K G2 (L2.wipe σ (own.map (·.2))) (wipeD ρ (own.map (·.2))) := SD.wipe (SD.same s (g1.gg.trans (a1.trans g2.gg))) _
      intro s0 H0 C cl fp
      refine hg z hmz s0 H0 C cl fp _ G2 H'' x g2.sub sw kd _ fun σ' tch s' => ⟨wipe_touch tch hT, ?_⟩
      have h0' : σ'[im]? = some (some (.ref am)) := by
        rw [tch.2 im (fun z => him (hT im z)), wipe_out him]
        exact h0
      intro s1 H1' C1 cl1 fp1
      refine ht z hmz s1 H1' C1 cl1 fp1 am σ' G2 H'' (f + (xs.length - (i + 1))) g2.sub s' h0' ((a7.go g2).mono (by omega)) _ fun b G3 H3 g3 m3 => ?_
      have h3D : H3 D = some (.lst acc) := g3.hh _ _ hDam (g2.hh _ _ a6)
      have g3D : G3 D = none := by
        rw [g3.new D (by rw [g2.hh _ _ a6]; exact fun z => nomatch z), g2.new D (by rw [a6]; exact fun z => nomatch z)]
        exact a5
      have k3 : ∀ b o, b ≠ am → H1 b = some o → H3 b = some o := fun b o hb e => g3.hh _ _ hb (g2.hh _ _ (a3 b o hb e))
      have n3 : ∀ a, H1 a ≠ none → G3 a = G1 a := fun a ha => by
        have h1 : H' a ≠ none := by
          by_cases haa : a = am
          · obtain ⟨_, _, _, _, m2, _⟩ := a7
            rw [haa, m2.hm]
            exact fun z => nomatch z
          · cases e : H1 a with
            | none => exact absurd e ha
            | some o => rw [a3 a o haa e]; exact fun z => nomatch z
        have h2 : H'' a ≠ none := by
          cases e : H' a with
          | none => exact absurd e h1
          | some o => rw [g2.hh a o e]; exact fun z => nomatch z
        rw [g3.new a h2, g2.new a h1, a4 a ha]
      have tk : xs.take (i + 1) = xs.take i ++ [z] := by rw [List.take_succ, hx] <;> rfl
      cases b with
      | true =>
        rw [if_pos rfl]
        intro s2 H2' C2 cl2 fp2
        refine he z hmz s2 H2' C2 cl2 fp2 σ' G3 H3 g3.sub (s'.gm g3) _ fun v G4 H4 g4 k4 => ?_
        have h4D : H4 D = some (.lst acc) := g4.hh _ _ h3D
        have g4D : G4 D = none := by
          rw [g4.new D (by rw [h3D]; exact fun z => nomatch z)]
          exact g3D
        have la := DpAll.length a9
        have lb := a8.length_le
        rw [List.length_map] at la
        rw [List.length_take] at lb
        refine ⟨acc, h4D, by omega, G4, acc ++ [v], ys ++ [z], a1.trans (g2.gg.trans (g3.gg.trans g4.gg)), ?_, ?_, ?_, g4D, upd_same, ?_, by rw [tk]; exact a8.append (List.Sublist.refl _), ?_⟩
        · intro b o hb
          rw [upd_ne (ne_of_none hb g4D)]
          exact g4.sub b o hb
        · intro b o hb e
          rw [upd_ne (ne_of_none e hD)]
          exact g4.hh _ _ (k3 b o hb e)
        · intro a ha
          have h3 : H3 a ≠ none := by
            by_cases haa : a = am
            · obtain ⟨_, _, _, _, m2, _⟩ := m3
              rw [haa, m2.hm]
              exact fun z => nomatch z
            · cases e : H1 a with
              | none => exact absurd e ha
              | some o => rw [k3 a o haa e]; exact fun z => nomatch z
          rw [g4.new a h3, n3 a ha]
        · obtain ⟨vg, gs, sd, at_, mm, hf⟩ := m3.go g4
          exact ⟨vg, gs, sd, at_, ⟨by rw [upd_ne (fun z => hDam z.symm)]; exact mm.hm, mm.gm, mm.gr, mm.len, mm.sd0, mm.sd1, mm.at0⟩, by omega⟩
        · rw [List.map_append]
          exact DpAll.app (DpAll.same (g2.gg.trans (g3.gg.trans g4.gg)) a9) (.cons k4 .nil)
      | false =>
        rw [if_neg Bool.false_ne_true]
        exact ⟨G3, acc, ys, a1.trans (g2.gg.trans g3.gg), g3.sub, k3, n3, g3D, h3D, m3, by rw [tk]; exact a8.trans (List.sublist_append_left _ _), DpAll.same (g2.gg.trans g3.gg) a9⟩
  · rintro H' ⟨G', acc, ys, a1, a2, a3, a4, a5, a6, a7, a8, a9⟩
    rw [List.length_map, List.take_length] at a8
    rw [List.length_map, Nat.sub_self] at a7
    have ha : ∀ a, H a ≠ none → H1 a ≠ none := fun a ha => by
      cases e : H a with
      | none => exact absurd e ha
      | some o => rw [g1.hh a o e]; exact fun z => nomatch z
    refine q (.ref D) (.list (ys.map fd)) (L2.upd G' D (.lst acc)) H' ⟨?_, ?_, fun b o hb e => a3 b o hb (g1.hh _ _ e), fun _ => ?_, ?_⟩ ?_ (.lst (SqL.of upd_same) (DpAll.same (Same.upd a5) a9)) ⟨ys, a8, rfl⟩
    · intro b o hb
      by_cases hbd : b = D
      · rw [hbd, upd_same] at hb
        rw [hbd, a6]
        exact hb
      · rw [upd_ne hbd] at hb
        exact a2 b o hb
    · exact g1.gg.trans (a1.trans (Same.upd a5))
    · obtain ⟨_, _, _, _, m2, _⟩ := a7
      rw [m2.hm]
      exact fun z => nomatch z
    · intro a h
      rw [upd_ne (fun z => ha a h (by rw [z]; exact hD)), a4 a (ha a h), g1.new a h]
    · obtain ⟨vg, gs, sd, at_, mm, hf⟩ := a7
      exact ⟨vg, gs, sd, at_, ⟨mm.hm, by rw [upd_ne (fun z => hDam z.symm)]; exact mm.gm, mm.gr.gr (Gr.upd (G := G') (H := G') (L2.Same.refl _) a5), mm.len, mm.sd0, mm.sd1, mm.at0⟩, hf⟩
end
end DL
end D11_text
section D12_text
set_option maxRecDepth 100000
set_option maxHeartbeats 2000000
namespace DL
open PySem PySem.Spec PyProof.Rows L2 StX
open PySem.W (alike dataLt EachIs AllAlike Sortable dataLe)
section
variable {X : Cx} {pins : List (Addr × Obj)} {σ : L2.St} {H : Hp} {s : Shared}
mutual
/-- data that is a key is one in the heap -/
theorem nest_of (I : Inv X pins σ H s) : ∀ (k : NestedKey) (v : V) (u : Value), Dp X.K H v k.data → RelV v u → NestedIs s.heap k u
  | .none, v, u, h, r => by
    have e : v = .non := Dp.nonE (by simpa [NestedKey.data] using h)
    subst e
    obtain rfl : u = Value.none := r
    exact .none
  | .num i, v, u, h, r => by
    have e : v = .int i := Dp.intE (by simpa [NestedKey.data] using h)
    subst e
    obtain ⟨t, rfl⟩ := r
    exact .int i t
  | .text x, v, u, h, r => by
    have e : v = .str x := Dp.strE (by simpa [NestedKey.data] using h)
    subst e
    obtain ⟨t, rfl⟩ := r
    exact .text x t
  | .tup ks, v, u, h, r => by
    rw [NestedKey.data] at h
    obtain ⟨a, xs, rfl, h1, h2⟩ := Dp.tupE h
    obtain rfl : u = Value.ref a := r
    obtain ⟨its, rv, ⟨o, e, ec, n, es⟩, hz⟩ := I.tuple h1
    exact .tup e ec es (by simpa using nest_all I ks xs its h2 rv)
theorem nest_all (I : Inv X pins σ H s) : ∀ (ks : List NestedKey) (vs : List V) (us : List Value), DpAll X.K H vs (NestedKey.datas ks) → Vals vs us → NestedAll s.heap ks us
  | [], vs, us, h, r => by
    rw [NestedKey.datas] at h
    cases h
    cases r
    exact .nil
  | k :: ks, vs, us, h, r => by
    rw [NestedKey.datas] at h
    cases h with
    | cons h1 h2 =>
      cases r with
      | cons r1 r2 => exact .cons (nest_of I k _ _ h1 r1) (nest_all I ks _ _ h2 r2)
end
/-- a dict with nested keys, all of whose values are True -/
abbrev ent3 (x : NestedKey × Addr) : NestedKey × Addr × Value := (x.1, x.2, .bool true)
def dN (P : Program) (w : World) (a : Addr) (xs : List (NestedKey × Addr)) : HO := .ext fun h => xs.length ≤ sizeLine ∧ (a == sysModules) = false ∧ ∃ o es ep, h.get? a = some o ∧ o.ExactDict ∧ o.data = .dict es ep ∧ es.toList = (xs.map ent3).map (entryOfKey (nestedKind P w)) ∧ (xs.map (·.1)).Nodup
def storeN (xs : List (NestedKey × Addr)) (k : NestedKey) (b : Addr) : List (NestedKey × Addr) := if k ∈ xs.map (·.1) then xs else xs ++ [(k, b)]
theorem atKey_ent : ∀ (xs : List (NestedKey × Addr)) (k : NestedKey), (atKey (xs.map ent3) k).isSome = decide (k ∈ xs.map (·.1))
  | [], k => by simp [atKey]
  | x :: r, k => by
    have ih := atKey_ent r k
    unfold atKey at ih ⊢
    rw [List.map_cons, List.find?_cons]
    by_cases h : x.1 = k
    · simp [h, ent3]
    · have h2 : ¬ k = x.1 := fun e => h e.symm
      simp only [ent3, decide_eq_false h, List.map_cons, List.mem_cons]
      rw [ih]
      simp [h2]
theorem put_ent (k : NestedKey) : ∀ xs : List (NestedKey × Addr), (xs.map ent3).map (putAt k (.bool true)) = xs.map ent3
  | [] => rfl
  | x :: r => by
    rw [List.map_cons, List.map_cons, put_ent k r]
    congr 1
    unfold putAt ent3
    split <;> rfl
theorem stored_ent (xs : List (NestedKey × Addr)) (k : NestedKey) (b : Addr) : storedH (xs.map ent3) k b (.bool true) = (storeN xs k b).map ent3 := by
  unfold storedH storeN
  rw [atKey_ent]
  by_cases h : k ∈ xs.map (·.1)
  · rw [decide_eq_true h, if_pos rfl, if_pos h, put_ent]
  · rw [decide_eq_false h, if_neg Bool.false_ne_true, if_neg h, List.map_append] <;> rfl
/-- the keys of the dict, as data that stands in the heap -/
def KeysIn (K : PySem.W.Frag) (H : Hp) (xs : List (NestedKey × Addr)) : Prop := ∀ x ∈ xs, Dp K H (.ref x.2) x.1.data ∧ x.1.depth ≤ 8
def rSetN (K : PySem.W.Frag) (P : Program) (w : World) : TSet := fun o i v H Q => ∃ a xs k b, o = .ref a ∧ i = .ref b ∧ v = .bl true ∧ H a = some (dN P w a xs) ∧ Dp K H (.ref b) k.data ∧ k.depth ≤ 8 ∧ KeysIn K H xs ∧ xs.length < sizeLine ∧ Q (L2.upd H a (dN P w a (storeN xs k b)))
theorem storeN_len (xs : List (NestedKey × Addr)) (k : NestedKey) (b : Addr) : (storeN xs k b).length ≤ xs.length + 1 := by
  unfold storeN
  split
  · omega
  · simp
theorem set_dN (hu : X.A.units + 9 < cLine) : PSet X (rSetN X.K X.prog X.w) := by
  intro pins s σ H o i v ov iv u Q I ro ri rv h
  obtain ⟨a, xs, k, b, rfl, rfl, rfl, ha, hb, hd, hk, hl, q⟩ := h
  obtain rfl : ov = Value.ref a := ro
  obtain rfl : iv = Value.ref b := ri
  obtain rfl : u = Value.bool true := rv
  obtain ⟨⟨z, hs, ob, es, ep, h1, h2, h3, h4, h5⟩, _, _⟩ := (show ObjOk X.prog X.w H s.heap a (dN X.prog X.w a xs) from I.hok a _ ha)
  have hm : s.heap.DictOfH (nestedKind X.prog X.w) a (xs.map ent3) := ⟨ob, es, ep, h1, h2, h3, h4, fun x hx => by
    obtain ⟨y, hy, rfl⟩ := List.mem_map.mp hx
    exact ⟨nest_of I _ _ _ (hk y hy).1 rfl, (hk y hy).2⟩, by rw [List.map_map]; exact h5⟩
  refine wpAny_setItem_heap (knd := nestedKind X.prog X.w) (hsz := by rw [List.length_map]; exact z) (k := k) (show X.A.in1.units + 8 < cLine from by have : X.A.in1.units = X.A.units + 1 := rfl; omega) ⟨nest_of I _ _ _ hb rfl, hd⟩ hm fun h' dd hs' => ?_
  rw [stored_ent] at dd
  obtain ⟨q1, es1, ep1, e1, e2, e3, e4, e5, e6⟩ := dd
  refine ⟨_, d_write (ob := dN X.prog X.w a (storeN xs k b)) I (by rw [ha]; exact True.intro) hs' ⟨q1, e1⟩ ⟨⟨by have := storeN_len xs k b; omega, hs, q1, es1, ep1, e1, e2, e3, e4, by rw [List.map_map] at e6; exact e6⟩, ⟨q1, e1⟩, ?_⟩, q⟩
  rintro g1 g2 ⟨z1, z2, z3, z4, z5, z6, z7⟩ hg
  exact ⟨z1, z2, z3, z4, z5, hg _ z6, z7⟩
/-- {} -/
def tDNewN (P : Program) (w : World) : TE := fun _ H Q => ∀ p, H p = none → Q (.ref p) (L2.upd H p (dN P w p []))
theorem pe_dnewN {pos : Pos} : PE X (.Dict [] [] pos) (tDNewN X.prog X.w) := ⟨fun pins s σ H Q I h =>
  wpAny_Dict_empty ⟨.ref s.heap.objs.size, _, I.laid (a := s.heap.objs.size) (o := dN X.prog X.w s.heap.objs.size []) (t' := s.toks) (fun _ _ q => Heap.get?_push_of_some _ q) (Nat.le_refl _) ⟨⟨Nat.zero_le _, beq_eq_false_iff_ne.mpr (Ne.symm (Nat.ne_of_lt I.big)), _, #[], 0, Heap.get?_push_size _ rfl, ⟨rfl, rfl, rfl⟩, rfl, rfl, List.nodup_nil⟩, ⟨_, Heap.get?_push_size _ rfl⟩, fun g1 g2 ⟨z1, z2, z3, z4, z5, z6, z7⟩ hg => ⟨z1, z2, z3, z4, z5, hg _ z6, z7⟩⟩, rfl, h _ (I.hok.fresh (Nat.le_refl _))⟩⟩
/-- list(d) -/
def rListN (P : Program) (w : World) : List V → Hp → VK → Prop := fun vs H Q => ∃ d xs, vs = [V.ref d] ∧ H d = some (dN P w d xs) ∧ ((xs.map (·.1)).Nodup → ∀ p, H p = none → Q (.ref p) (L2.upd H p (.lst (xs.map fun x => V.ref x.2))))
theorem call_list_dN (hc : X.calm = true) : CallR X (.type "list") (rListN X.prog X.w) := by
  intro pins s σ H vs us Q I r h
  obtain ⟨d, xs, rfl, hd, q⟩ := h
  obtain ⟨u, rfl, rx⟩ := r.one
  cases rx
  obtain ⟨⟨z, hs, o, es, ep, ho, hx, hdt, he, hn⟩, _, _⟩ := (show ObjOk X.prog X.w H s.heap d (dN X.prog X.w d xs) from I.hok d _ hd)
  have l1 : es.size = (xs.map ent3).length := size_of_entries he
  rw [List.length_map] at l1
  refine PySem.W.kdl_call (kdl_raw hs hx hdt) (I.ok.hd hc) ho (by omega) fun h' tk acc' c' kp e it => ?_
  have ea : acc'.toList = (xs.map fun x => x.2).map Value.ref := by
    have hl : acc'.toList.length = xs.length := by rw [Array.length_toList, it.1]; exact l1
    apply List.ext_getElem?
    intro j
    rw [List.getElem?_map, List.getElem?_map]
    cases hj : acc'.toList[j]? with
    | none =>
      have h1 := List.getElem?_eq_none_iff.mp hj
      rw [List.getElem?_eq_none (by omega)]
      all_goals rfl
    | some v =>
      obtain ⟨en, hen, hv⟩ := it.2 j v (by rw [← Array.getElem?_toList]; exact hj)
      have qe := entry_at he j
      rw [hen, List.getElem?_map] at qe
      cases hb : xs[j]? with
      | none =>
        rw [hb] at qe
        exact nomatch (show some en = none from qe)
      | some b =>
        rw [hb] at qe
        have e2 : en = entryOfKey (nestedKind X.prog X.w) (ent3 b) := Option.some.inj qe
        rw [hv, e2]
        all_goals rfl
  have eb : xs.map (fun x => V.ref x.2) = (xs.map fun x => x.2).map V.ref := by rw [List.map_map]; all_goals rfl
  have rv : Vals (xs.map fun x => V.ref x.2) acc'.toList := by rw [ea, eb]; exact vals_refs _
  refine ⟨.ref s.heap.objs.size, _, I.laid (t' := tk) (o := .lst (xs.map fun x => V.ref x.2)) kp (Nat.le_refl _) ?_, rfl, q hn _ (I.hok.fresh (Nat.le_refl _))⟩
  exact ⟨by rw [List.length_map]; exact z, acc'.toList, c', rv, by rw [Array.toArray_toList]; exact e⟩
/-! ### sorted(..) of data -/
def rSortD (K : PySem.W.Frag) : List V → Hp → VK → Prop := fun vs H Q => ∃ (a : Addr) (xs : List V) (ds : List PyData), vs = [.ref a] ∧ SqL K H a xs ∧ DpAll K H xs ds ∧ AllAlike ds ∧ Sortable ds ∧ (∀ d ∈ ds, d.depth ≤ 40) ∧ ds.length ≤ sizeLine ∧
  ∀ (p : Addr) (zs : List (V × PyData)), H p = none → zs.Perm (xs.zip ds) → (zs.map (·.2)).Perm ds → (zs.map (·.2)).Pairwise (fun a b => dataLt b a = false) → Q (.ref p) (L2.upd H p (.lst (zs.map (·.1))))
theorem dpAll_zip {K : PySem.W.Frag} : ∀ {xs : List V} {ds : List PyData}, DpAll K H xs ds → ∀ q ∈ xs.zip ds, Dp K H q.1 q.2
  | _, _, .nil, _, h => nomatch h
  | _, _, .cons h1 h2, q, h => by
    rw [List.zip_cons_cons] at h
    rcases List.mem_cons.mp h with rfl | h
    · exact h1
    · exact dpAll_zip h2 q h
theorem dpAll_unzip {K : PySem.W.Frag} : ∀ {zs : List (V × PyData)}, (∀ q ∈ zs, Dp K H q.1 q.2) → DpAll K H (zs.map (·.1)) (zs.map (·.2))
  | [], _ => .nil
  | z :: zs, h => .cons (h z List.mem_cons_self) (dpAll_unzip fun q hq => h q (List.mem_cons_of_mem _ hq))
theorem each_vals : ∀ {zs : List (V × PyData)} {us : List Value}, EachIs (fun u (b : V × PyData) => RelV b.1 u) us zs → Vals (zs.map (·.1)) us
  | [], [], .nil => .nil
  | _ :: _, _ :: _, .cons h t => .cons h (each_vals t)
theorem vals_each : ∀ {xs : List V} {ds : List PyData} {us : List Value}, Vals xs us → xs.length = ds.length → EachIs (fun u (b : V × PyData) => RelV b.1 u) us (xs.zip ds)
  | _, [], _, .nil, _ => .nil
  | _, _ :: _, _, .cons r t, h => .cons r (vals_each t (by simpa using h))
theorem zip_snd {α β : Type} : ∀ {xs : List α} {ys : List β}, xs.length = ys.length → (xs.zip ys).map (·.2) = ys
  | [], [], _ => rfl
  | x :: xs, y :: ys, h => by rw [List.zip_cons_cons, List.map_cons, zip_snd (by simpa using h)]
theorem each_reads (I : Inv X pins σ H s) : ∀ {zs : List (V × PyData)} {us : List Value}, EachIs (fun u (b : V × PyData) => RelV b.1 u) us zs → (∀ q ∈ zs, Dp X.K H q.1 q.2) → EachIs (fun u (b : V × PyData) => ∃ as, Reads s.heap u b.2 as) us zs
  | [], [], .nil, _ => .nil
  | z :: _, _ :: _, .cons r t, h => .cons (Dp.reads I _ _ _ (h z List.mem_cons_self) r) (each_reads I t fun q hq => h q (List.mem_cons_of_mem _ hq))
theorem cr_sortD (hu : X.A.units + 64 < cLine) : CallR X (.builtin "sorted") (rSortD X.K) := by
  intro pins s σ H vs us Q I r h
  obtain ⟨a, xs, ds, rfl, hs, hd, hal, hk, hdep, hz, q⟩ := h
  obtain ⟨its, rv, hl, _⟩ := I.list hs
  rw [Vals.ref1 r]
  have hlen := DpAll.length hd
  have ev := vals_each rv hlen
  have hsnd := zip_snd hlen
  have hmz := dpAll_zip hd
  refine PySem.W.sorted_data (enc := fun b : V × PyData => b.2) (bs := xs.zip ds) hl.isList ev (each_reads I ev hmz) (by rw [hsnd]; exact hal) (by rw [hsnd]; exact hk) (by rw [List.length_zip]; omega) (fun b hb => ?_) fun out ho eo => ?_
  · have hb2 : b.2 ∈ ds := by rw [← hsnd]; exact List.mem_map_of_mem hb
    have := hdep _ hb2
    omega
  · obtain ⟨ep, he'⟩ := PyProof.Rows.sortedAll_at s.heap its out.toArray
    have rs := each_vals eo
    have hperm := List.mergeSort_perm (xs.zip ds) (dataLe false fun b : V × PyData => b.2)
    have hp2 : (((xs.zip ds).mergeSort (dataLe false fun b : V × PyData => b.2)).map (·.2)).Perm ds := by
      have := hperm.map (·.2)
      rw [hsnd] at this
      exact this
    have hpw : (((xs.zip ds).mergeSort (dataLe false fun b : V × PyData => b.2)).map (·.2)).Pairwise (fun a b => dataLt b a = false) := by
      rw [List.pairwise_map]
      refine (PySem.W.sort_pairwise (PySem.W.sortLe_total (listOrd PyProof.Rows.itemOrd) false fun b : V × PyData => PySem.W.keyToks b.2) (xs.zip ds)).imp fun {x y} h => ?_
      have h' : (!dataLt y.2 x.2) = true := h
      simpa using h'
    have hlen2 : (((xs.zip ds).mergeSort (dataLe false fun b : V × PyData => b.2)).map (·.1)).length ≤ sizeLine := by
      rw [List.length_map, hperm.length_eq, List.length_zip]
      omega
    exact ⟨.ref _, L2.upd H (s.heap.objs.size + 1) (.lst (((xs.zip ds).mergeSort (dataLe false fun b : V × PyData => b.2)).map (·.1))), I.laid (t' := s.toks) (fun _ _ => PyProof.Rows.sortedAll_old) (Nat.le_succ _) ⟨hlen2, out, ep, rs, he'⟩, rfl, q _ _ (I.hok.fresh (Nat.le_succ _)) hperm hp2 hpw⟩
end
end DL
end D12_text
section G19_text
set_option maxRecDepth 100000
set_option maxHeartbeats 2000000
namespace DL
open PySem PySem.Spec PyProof.Rows L2 StX
theorem SqL.gm {K : PySem.W.Frag} {am : Addr} {G H G2 H2 : Hp} {a : Addr} {xs : List V} {vg : V} {sd at_ : Int} (h : SqL K H a xs) (g : Gm am G H G2 H2) (hm : H am = some (dkM vg sd at_)) : SqL K H2 a xs := by
  rcases h with (h | ⟨o, h⟩) | h
  · refine .inl (.inl (g.hh _ _ (fun z => ?_) h))
    rw [z, hm] at h
    cases h
  · refine .inl (.inr ⟨o, g.hh _ _ (fun z => ?_) h⟩)
    rw [z, hm] at h
    cases h
  · exact .inr h
theorem atI_mem {α : Type} {xs : List α} {i : Int} (h0 : 0 ≤ i) (h1 : i < xs.length) : ∃ x, L2.atI xs i = some x ∧ x ∈ xs := by
  obtain ⟨n, rfl⟩ := Int.eq_ofNat_of_zero_le h0
  have hn : n < xs.length := by omega
  exact ⟨xs[n], DL.atI_nat (List.getElem?_eq_getElem hn), List.getElem_mem hn⟩
end DL
namespace Wk
open PySem PySem.Spec PyProof.Rows L2 DL LamX
section
variable {P : Program} {w : World} {K : PySem.W.Frag} {mg : Str → Option Value} {base : Heap}
theorem draw_len : ∀ vs H Q E, spDraw K vs H Q E → vs.length = 2 := fun vs H Q E ⟨am, t, G, f, e, _⟩ => by rw [e] <;> rfl
/-- x(m, e), a draw -/
theorem pvm_draw {X : Cx} {im : Nat} {ρ : Rho} {e : Expr} {t : Int} {k : Nat} {y : Str} {p py pos : Pos} (T : Txt X.prog X.K X.mg) (hr : Room k X.A) (he : PV X e ρ (.int t)) (h1 : 1 ≤ t) (h2 : t ≤ 1048576) (hk : 2 ≤ k := by decide) (hN : X.N[im]? = some y := by rfl) (hvis : Vis X.env.scope y := by first | exact Or.inl rfl | exact Or.inr (Or.inl rfl) | exact Or.inr (Or.inr rfl)) (hyd : (y == ("__debug__" : Str)) = false := by decide)
    (hcd : (y == ("__classdict__" : Str)) = false := by decide) (hg : Gl X "_law_draw" := by rfl) (hs : starEach (e :: []) X.env = (false, eval e X.env) :: starEach [] X.env := by rfl)
    (he2 : starEach (.Name y py :: [e]) X.env = (false, eval (.Name y py) X.env) :: starEach [e] X.env := by rfl) (hpl : (backTo pos (starEach [e] X.env)).any (·.1) = false := by rfl) : PVM X im (.Call (.Name "_law_draw" p) (.Name y py :: [e]) [] pos) ρ 1 (fun d => ∃ r : Int, d = .int r ∧ 0 ≤ r ∧ r < t) :=
  fun am σ G H f u s h0 m Q q => wE_call (ok_law_draw T) (hr.mono hk) (wA_of (pa_cons (pe_var hN hvis hyd hcd) (pa_cons pe_w pa_nil hs) he2) ⟨.ref am, h0, he σ G H u s _ fun v G1 H1 g1 k1 => by
    have ev := Dp.intE k1
    subst ev
    exact ⟨am, t, G1, f, rfl, h1, h2, g1.sub, m.go g1, fun r G2 H2 g2 m2 r0 r1 => q (.int r) (.int r) G2 H2 (g1.m.trans g2) m2 (.int r) ⟨r, rfl, r0, r1⟩⟩⟩) hg (by decide) he2 hpl
/-! _law_some -/
def spSome (K : PySem.W.Frag) : Sp := fun vs H Q _ => ∃ am a xs G f, vs = [.ref am, .ref a] ∧ SqL K H a xs ∧ 1 ≤ xs.length ∧ xs.length ≤ 1048576 ∧ Same G H ∧ Mst K G H am (f + 1) ∧ ∀ x G2 H2, x ∈ xs → Gm am G H G2 H2 → Mst K G2 H2 am f → Q x H2
abbrev N70 : List Str := ["_law_m", "_law_items"]
theorem sc70 : FnScope N70 ["_law_m", "_law_items"] (defScope (top 70)) := ⟨rfl, rfl, rfl, by decide +kernel, rfl, by decide +kernel, by decide +kernel⟩
theorem ok_law_some (T : Txt P K mg) : DefOk P w K mg base 4 "_law_some" (spSome K) := by
  refine def_raw T (i := 70) (N := N70) (ps := ["_law_m", "_law_items"]) (by decide +kernel) sc70 (fun _ _ _ _ _ _ us hl => match us, hl with | [_, _], _ => rfl) (fun vs H Q E ⟨am, a, xs, G, f, e, _⟩ => by rw [e] <;> rfl) ?_
  intro f cdv A outer s H E vs Q hr hsp
  obtain ⟨am, a, xs, G, n, rfl, hx, hl1, hl2, u, m, hq⟩ := hsp
  have hm : ∃ vg sd at_, H am = some (dkM vg sd at_) := by
    obtain ⟨vg, gs, sd, at_, m2, _⟩ := m
    exact ⟨vg, sd, at_, m2.hm⟩
  obtain ⟨vg, sd, at_, hm⟩ := hm
  refine ws_retE (wE_of (pe_ix ix_list (L2.pv 1) pe_w (by exact fun _ _ => rfl)) ⟨.ref a, rfl, ?_⟩)
  refine wE_call (ok_law_draw T) (hr.mono (by decide)) (wA_of (pa_cons (L2.pv 0) (pa_cons (pe_callB call_ln rfl (T_fr T) (by decide +kernel) (pa_cons (L2.pv 1) pa_nil)) pa_nil)) ⟨.ref am, rfl, .ref a, rfl, .ref a, xs.length, rfl, .inl ⟨xs, hx, rfl⟩, ?_⟩)
  refine ⟨am, xs.length, G, n, rfl, by omega, by omega, u, m, fun r G2 H2 g2 m2 r0 r1 => ?_⟩
  obtain ⟨x, hx1, hx2⟩ := atI_mem r0 r1
  exact ⟨a, xs, r, x, rfl, rfl, SqL.gm hx g2 hm, hx1, hq x G2 H2 hx2 g2 m2⟩
theorem pvm_some {X : Cx} {im : Nat} {ρ : Rho} {e : Expr} {ds : List PyData} {k : Nat} {y : Str} {p py pos : Pos} (T : Txt X.prog X.K X.mg) (hr : Room k X.A) (he : PV X e ρ (.list ds)) (h1 : 1 ≤ ds.length) (h2 : ds.length ≤ 1048576) (hk : 4 ≤ k := by decide) (hN : X.N[im]? = some y := by rfl) (hvis : Vis X.env.scope y := by first | exact Or.inl rfl | exact Or.inr (Or.inl rfl) | exact Or.inr (Or.inr rfl)) (hyd : (y == ("__debug__" : Str)) = false := by decide)
    (hcd : (y == ("__classdict__" : Str)) = false := by decide) (hg : Gl X "_law_some" := by rfl) (hs : starEach (e :: []) X.env = (false, eval e X.env) :: starEach [] X.env := by rfl)
    (he2 : starEach (.Name y py :: [e]) X.env = (false, eval (.Name y py) X.env) :: starEach [e] X.env := by rfl) (hpl : (backTo pos (starEach [e] X.env)).any (·.1) = false := by rfl) : PVM X im (.Call (.Name "_law_some" p) (.Name y py :: [e]) [] pos) ρ 1 (fun d => d ∈ ds) :=
  fun am σ G H f u s h0 m Q q => wE_call (ok_law_some T) (hr.mono hk) (wA_of (pa_cons (pe_var hN hvis hyd hcd) (pa_cons pe_w pa_nil hs) he2) ⟨.ref am, h0, he σ G H u s _ fun v G1 H1 g1 k1 => by
    obtain ⟨a, xs, rfl, hx, hd⟩ := Dp.lstE k1
    have hl := DpAll.length hd
    refine ⟨am, a, xs, G1, f, rfl, L2.Same.seq g1.sub hx, by omega, by omega, g1.sub, m.go g1, fun x G2 H2 hxm g2 m2 => ?_⟩
    obtain ⟨i, hi⟩ := List.getElem?_of_mem hxm
    obtain ⟨d, hd1, hd2⟩ := DpAll.get' hd hi
    exact q x d G2 H2 (g1.m.trans g2) m2 (hd2.gm g2) (List.mem_of_getElem? hd1)⟩) hg (by decide) he2 hpl
/-! _law_asks -/
abbrev N74 : List Str := ["_law_m", "_law_some_here"]
theorem sc74 : FnScope N74 ["_law_m"] (defScope (top 74)) := ⟨rfl, rfl, rfl, by decide +kernel, rfl, by decide +kernel, by decide +kernel⟩
def asksA : List (List Str) := [[], [], ["over"], ["over"], ["calm"], ["unheld"], ["held"], ["rung"], ["calm", "over"]]
def asksB : List (List Str) := [["held", "over"], ["over", "unheld"], ["over", "rung"], ["held", "rung"]]
def asksL : List (List Str) := asksA ++ asksB
theorem asks_eq : PyData.list (asksA.map tS ++ asksB.map tS) = .list (asksL.map tS) := by rw [asksL, List.map_append]
theorem asks_sz : (asksA.map tS).length + (asksB.map tS).length ≤ sizeLine := by
  rw [List.length_map, List.length_map, sizeLine_eq]
  show 9 + 4 ≤ 16777216
  omega
theorem asks_szA : (asksA.map tS).length ≤ sizeLine := by
  rw [List.length_map, sizeLine_eq]
  show 9 ≤ 16777216
  omega
theorem asks_szB : (asksB.map tS).length ≤ sizeLine := by
  rw [List.length_map, sizeLine_eq]
  show 4 ≤ 16777216
  omega
theorem asks_len : (asksL.map tS).length = 13 := rfl
theorem spM_len {n c : Nat} {Pre R} {ps : List Str} (hn : ps.length = n + 1) : ∀ vs H Q E, spM K n c Pre R vs H Q E → vs.length = ps.length := fun vs H Q E ⟨am, ws, ds, G, f, e, h1, _, h2, _⟩ => by
  rw [e, List.length_cons, DpAll.length h2, h1, hn]
theorem sdM {N : List Str} {am : Addr} {ws : List V} {ds : List PyData} {G : Hp} (h : DpAll K G ws ds) : SD K G (L2.start N (.ref am :: ws)) (none :: (ds.map some ++ List.replicate (N.length - (ds.length + 1)) none)) := by
  have hl := DpAll.length h
  refine ⟨by simp [L2.start, hl], fun i d e => ?_⟩
  cases i with
  | zero => cases e
  | succ i =>
    rw [List.getElem?_cons_succ] at e
    by_cases hi : i < ds.length
    · rw [List.getElem?_append_left (by simpa using hi), List.getElem?_map] at e
      cases q : ds[i]? with
      | none =>
        rw [q] at e
        cases e
      | some d' =>
        rw [q] at e
        have e1 : d' = d := Option.some.inj (Option.some.inj e)
        subst e1
        obtain ⟨v, hv, hd⟩ := DpAll.get h q
        refine ⟨v, ?_, hd⟩
        unfold L2.start
        rw [List.map_cons, List.cons_append, List.getElem?_cons_succ, List.getElem?_append_left (by simpa using (by omega : i < ws.length)), List.getElem?_map, hv]
        rfl
    · rw [List.getElem?_append_right (by simpa using Nat.le_of_not_lt hi)] at e
      have := List.mem_of_getElem? e
      have q := List.eq_of_mem_replicate this
      cases q
theorem tp0 {X : Cx} {ρ : Rho} {pos kk} : PV X (.Tuple [] kk pos) ρ (tS []) := pv_tup (ds := []) pvs_nil
theorem tp1 {X : Cx} {ρ : Rho} {pos kk p1 k1} {x : Str} (h : starEach [.Constant (.str x) k1 p1] X.env = (false, eval (.Constant (.str x) k1 p1) X.env) :: starEach [] X.env := by rfl) : PV X (.Tuple [.Constant (.str x) k1 p1] kk pos) ρ (tS [x]) := pv_tup (ds := [.str x]) (pvs_cons pv_str pvs_nil h) (by rw [sizeLine_eq]; show 1 ≤ 16777216; omega)
theorem tp2 {X : Cx} {ρ : Rho} {pos kk p1 k1 p2 k2} {x y : Str} (h : starEach [.Constant (.str x) k1 p1, .Constant (.str y) k2 p2] X.env = (false, eval (.Constant (.str x) k1 p1) X.env) :: starEach [.Constant (.str y) k2 p2] X.env := by rfl) (h2 : starEach [.Constant (.str y) k2 p2] X.env = (false, eval (.Constant (.str y) k2 p2) X.env) :: starEach [] X.env := by rfl) : PV X (.Tuple [.Constant (.str x) k1 p1, .Constant (.str y) k2 p2] kk pos) ρ (tS [x, y]) := pv_tup (ds := [.str x, .str y]) (pvs_cons pv_str (pvs_cons pv_str pvs_nil h2) h) (by rw [sizeLine_eq]; show 2 ≤ 16777216; omega)
theorem ok_law_asks (T : Txt P K mg) : DefOk P w K mg base 5 "_law_asks" (spM K 0 1 (fun _ => True) fun _ d => ∃ a ∈ asksL, d = tS a) := by
  refine def_raw T (i := 74) (N := N74) (ps := ["_law_m"]) (by decide +kernel) sc74 (fun _ _ _ _ _ _ us hl => match us, hl with | [_], _ => rfl) (spM_len rfl) ?_
  intro f cdv A outer s H E vs Q hr hsp
  obtain ⟨am, ws, ds, G, n, rfl, hl, u, hd, _, m, hq⟩ := hsp
  obtain rfl : ds = [] := List.eq_nil_of_length_eq_zero hl
  cases hd
  have s0 : SD K G (L2.start N74 [V.ref am]) [none, none] := sdM .nil
  refine ws_set (i := 1) (d := .list (asksA.map tS)) u s0 (pv_lst (pvs_cons tp0 (pvs_cons tp0 (pvs_cons tp1 (pvs_cons tp1 (pvs_cons tp1 (pvs_cons tp1 (pvs_cons tp1 (pvs_cons tp1 (pvs_cons tp2 pvs_nil))))))))) asks_szA) sc74.nd fun v G1 H1 g1 k1 s1 => ?_
  refine ws_retM (im := 0) (pvm_some (ds := asksL.map tS) T hr (PV.to (pv_bin op_catL (dr_cat (xs := asksA.map tS) (ys := asksB.map tS) asks_sz) (pv_var (i := 1) rfl) (pv_lst (pvs_cons tp2 (pvs_cons tp2 (pvs_cons tp2 (pvs_cons tp2 pvs_nil)))) asks_szB)) asks_eq) (by rw [asks_len]; decide) (by rw [asks_len]; decide)) g1.sub s1 rfl (m.go g1) fun v d G2 H2 g2 m2 k2 z2 => ?_
  obtain ⟨a, ha, rfl⟩ := List.mem_map.mp z2
  exact hq v _ G2 H2 (g1.m.trans g2) m2 k2 ⟨a, ha, rfl⟩
/-! _law_edge -/
abbrev N75 : List Str := ["_law_m", "_law_begin", "_law_end"]
theorem sc75 : FnScope N75 ["_law_m", "_law_begin", "_law_end"] (defScope (top 75)) := ⟨rfl, rfl, rfl, by decide +kernel, rfl, by decide +kernel, by decide +kernel⟩
/-- an edge that may be drawn -/
def Drawn (b e : Int) (x : Edge) : Prop := x.b = b ∧ x.e = e ∧ x.asks ∈ asksL ∧ x.deed ∈ deedsS
theorem ok_law_edge (T : Txt P K mg) : DefOk P w K mg base 6 "_law_edge" (spM K 2 2 (fun ds => ∃ b e : Int, ds = [.int b, .int e]) fun ds d => ∃ (b e : Int) (x : Edge), ds = [.int b, .int e] ∧ Drawn b e x ∧ d = encE x) := by
  refine def_raw T (i := 75) (N := N75) (ps := ["_law_m", "_law_begin", "_law_end"]) (by decide +kernel) sc75 (fun _ _ _ _ _ _ us hl => match us, hl with | [_, _, _], _ => rfl) (spM_len rfl) ?_
  intro f cdv A outer s H E vs Q hr hsp
  obtain ⟨am, ws, ds, G, n, rfl, hl, u, hd, ⟨b, e, rfl⟩, m, hq⟩ := hsp
  have s0 : SD K G (L2.start N75 (V.ref am :: ws)) [none, some (.int b), some (.int e)] := sdM hd
  refine ws_retM (im := 0) (f := n) (pvm_tup (n := 4) (pvms_cons (PV.mm (pv_var (i := 1) rfl)) (pvms_cons (pvm_call (ok_law_asks T) (hr.mono (by decide)) pvms_nil (fun ds h => ⟨by rw [h] <;> rfl, trivial⟩)) (pvms_cons (pvm_some T hr (pv_lst (pvs_cons pv_str (pvs_cons pv_str (pvs_cons pv_str (pvs_cons pv_str (pvs_cons pv_str pvs_nil)))))) (by decide) (by decide)) (pvms_cons (PV.mm (pv_var (i := 2) rfl)) pvms_nil)))) fun ds h => ?_) u s0 rfl (m.mono (by omega)) fun v d G2 H2 g2 m2 k2 z2 => ?_
  · obtain ⟨_, _, rfl, _, _, _, rfl, _, _, _, rfl, _, _, _, rfl, _, rfl⟩ := h
    show 4 ≤ sizeLine
    decide
  · obtain ⟨ds, ⟨_, _, rfl, rfl, _, _, rfl, ⟨_, _, a, ha, rfl⟩, dd, _, rfl, hdd, _, _, rfl, rfl, rfl⟩, rfl⟩ := z2
    have hx : ∃ z : Str, dd = .str z ∧ z ∈ deedsS := by
      simp only [List.mem_cons, List.not_mem_nil, or_false] at hdd
      rcases hdd with rfl | rfl | rfl | rfl | rfl <;> exact ⟨_, rfl, by decide⟩
    obtain ⟨z, rfl, hz⟩ := hx
    exact hq v _ G2 H2 g2 m2 k2 ⟨b, e, ⟨b, a, z, e⟩, rfl, ⟨rfl, rfl, ha, hz⟩, rfl⟩
end
end Wk
end G19_text
section D13_text
set_option maxRecDepth 100000
set_option maxHeartbeats 2000000
namespace DL
open PySem PySem.Spec PyProof.Rows L2 StX
open PySem.W (alike dataLt EachIs AllAlike Sortable dataLe)
/-- the heap grows, the data part does not -/
theorem Gr.more {G H : Hp} {p : Addr} {o : HO} (u : Same G H) (hp : H p = none) : Gr G H G (L2.upd H p o) := ⟨u.trans (Same.upd hp), L2.Same.refl _, Same.upd hp, fun _ _ => rfl⟩
/-- unlike data of one kind: one is the less -/
theorem dataLt_tri {x y : PyData} (h : alike x y = true) (e : PyData.eqv x y = false) : dataLt x y = true ∨ dataLt y x = true := by
  cases h1 : dataLt x y with
  | true => exact .inl rfl
  | false =>
    cases h2 : dataLt y x with
    | true => exact .inr rfl
    | false =>
      have ht := PyProof.Rows.lex_total (O := PyProof.Rows.itemOrd) _ _ h1 h2
      have hq := (PySem.W.toks_eqv x y h).2 e [] [Sum.inl 0]
      have hs : PyProof.Rows.lexLt PyProof.Rows.itemOrd (PySem.W.keyToks x) (PySem.W.keyToks y) = false := h1
      rw [hs, ← ht, PySem.W.lex_pre] at hq
      cases hq
section
variable {X : Cx} {im : Nat} {ρ : Rho} {a b e tg iter elt : Expr} {es rest : List Expr} {c c1 c2 : Nat} {S S1 : PyData → Prop} {Ss S2 : List PyData → Prop} {d d1 d2 : PyData} {ds ys : List PyData} {pos : Pos} {σ : L2.St} {G H : Hp} {am : Addr} {D : Ends} {stmts : List Stmt} {x : Str}
theorem PVM.go {f : Nat} {Q : VK} (h : PVM X im e ρ c S) (u : Same G H) (s : SD X.K G σ ρ) (h0 : σ[im]? = some (some (.ref am))) (m : Mst X.K G H am (f + c)) (k : ∀ v d G2 H2, Gm am G H G2 H2 → Mst X.K G2 H2 am f → Dp X.K G2 v d → S d → Q v H2) : wE X e σ H Q := h am σ G H f u s h0 m Q k
/-- a comprehension, once what it walks is known -/
theorem lc_fromD {α : Type} {xs : List α} {enc : α → PyData} {p : α → Bool} {f : α → PyData} {ifs : List Expr} {scope : Scope} {own : List (Str × Nat)} {T : List Nat} {ρ' : α → Rho} {J : It} {G1 H1 : Hp} (dw : DW X.K J (xs.map enc) G1) (u1 : Same G1 H1) (s1 : SD X.K G1 σ ρ) (hz : xs.length ≤ sizeLine)
    (hT : ∀ j ∈ T, j ∈ own.map (·.2)) (hg : ∀ x ∈ xs, Blks X scope fun B => PGD B tg (wipeD ρ (own.map (·.2))) (enc x) (ρ' x) T) (ht : ∀ x ∈ xs, Blks X scope fun B => PBs B ifs (ρ' x) (p x)) (he : ∀ x ∈ xs, p x = true → Blks X scope fun B => PV B elt (ρ' x) (f x))
    {Q : VK} (q : ∀ D acc G2 H2, Gr G1 H1 G2 H2 → G2 D = some (.lst acc) → DpAll X.K G2 acc ((xs.filter p).map f) → Q (.ref D) H2) (wi : TI) (hwi : ∀ R : It → Hp → Prop, R J H1 → wi σ H R) : tLc wi (bG X scope tg) (bTs X scope ifs) (bE X scope elt) (own.map (·.2)) σ H Q := by
  refine hwi _ fun D hD => ?_
  obtain ⟨Y, w, hy⟩ := dw
  have hG1 : G1 D = none := L2.Same.free u1 hD
  refine lc_it w (fun i H => ∃ G acc, Same G1 G ∧ Same G H ∧ Same H1 H ∧ (∀ a, H1 a ≠ none → G a = G1 a) ∧ G D = none ∧ H D = some (.lst acc) ∧ DpAll X.K G acc (((xs.take i).filter p).map f)) ?_ ?_ ?_ ?_
  · exact ⟨G1, [], L2.Same.refl _, u1.trans (Same.upd hD), Same.upd hD, fun _ _ => rfl, hG1, upd_same, .nil⟩
  · rintro i H' _ ⟨G', acc, a1, a2, _⟩
    exact a1.trans a2
  · rintro i x H' H'' hlt ⟨G', acc, a1, a2, a3, a4, a5, a6, a7⟩ y
    obtain ⟨G2, d, g2, hd, kd⟩ := hy i H' x H'' G' a2 a1 y
    rw [List.getElem?_map] at hd
    cases hx : xs[i]? with
    | none =>
      rw [hx] at hd
      cases hd
    | some z =>
      rw [hx] at hd
      have ed : d = enc z := (Option.some.inj hd).symm
      subst ed
      have hm : z ∈ xs := List.mem_of_getElem? hx
      have h2D : G2 D = none := by
        rw [g2.new D (by rw [a6]; exact fun z => nomatch z)]
        exact a5
      have sw : SD X.K G2 (L2.wipe σ (own.map (·.2))) (wipeD ρ (own.map (·.2))) := SD.wipe (SD.same s1 (a1.trans g2.gg)) _
      intro s0 H0 C cl fp
      refine hg z hm s0 H0 C cl fp _ G2 H'' x g2.sub sw kd _ fun σ' tch s' => ⟨wipe_touch tch hT, ?_⟩
      refine bTs_of (fun s1 H1 C cl fp => ht z hm s1 H1 C cl fp) g2.sub s' fun G3 H3 g3 => ?_
      have tk : (xs.take (i + 1)).filter p = (xs.take i).filter p ++ (if p z = true then [z] else []) := by
        rw [List.take_succ, hx, List.filter_append]
        congr 1
        cases hp : p z <;> simp [hp]
      have h3D : H3 D = some (.lst acc) := g3.hh _ _ (g2.hh _ _ a6)
      have g3D : G3 D = none := by
        rw [g3.new D (by rw [g2.hh _ _ a6]; exact fun z => nomatch z)]
        exact h2D
      have nw : ∀ {G4 H4 : Hp}, Gr G2 H'' G4 H4 → ∀ a, H1 a ≠ none → G4 a = G1 a := fun {G4 H4} g4 a ha => by
        have h1 : H' a ≠ none := by
          cases e : H1 a with
          | none => exact absurd e ha
          | some o => rw [a3 a o e]; exact fun z => nomatch z
        rw [(g2.trans g4).new a h1, a4 a ha]
      cases hp : p z with
      | true =>
        rw [if_pos rfl]
        intro s1 H1' C cl fp
        refine he z hm hp s1 H1' C cl fp σ' G3 H3 g3.sub (s'.gr g3) _ fun v G4 H4 g4 k4 => ?_
        have h4D : H4 D = some (.lst acc) := g4.hh _ _ h3D
        have g4D : G4 D = none := by
          rw [g4.new D (by rw [h3D]; exact fun z => nomatch z)]
          exact g3D
        have la := DpAll.length a7
        have lb : (((xs.take i).filter p).map f).length ≤ i := by
          rw [List.length_map]
          refine Nat.le_trans (List.length_filter_le _ _) ?_
          rw [List.length_take]
          omega
        have li : i < xs.length := by
          have := hlt
          rwa [List.length_map] at this
        refine ⟨acc, h4D, by omega, G4, acc ++ [v], a1.trans (g2.gg.trans (g3.gg.trans g4.gg)), ?_, ?_, nw (g3.trans g4), g4D, upd_same, ?_⟩
        · intro b o hb
          rw [upd_ne (ne_of_none hb g4D)]
          exact g4.sub b o hb
        · intro b o hb
          rw [upd_ne (ne_of_none hb hD)]
          exact g4.hh _ _ (g3.hh _ _ (g2.hh _ _ (a3 b o hb)))
        · rw [tk, if_pos hp, List.map_append]
          exact DpAll.app (DpAll.same (g2.gg.trans (g3.gg.trans g4.gg)) a7) (.cons k4 .nil)
      | false =>
        rw [if_neg Bool.false_ne_true]
        refine ⟨G3, acc, a1.trans (g2.gg.trans g3.gg), g3.sub, fun b o hb => g3.hh _ _ (g2.hh _ _ (a3 b o hb)), nw g3, g3D, h3D, ?_⟩
        rw [tk, if_neg (by rw [hp]; exact Bool.false_ne_true), List.append_nil]
        exact DpAll.same (g2.gg.trans g3.gg) a7
  · rintro H' ⟨G', acc, a1, a2, a3, a4, a5, a6, a7⟩
    rw [List.length_map, List.take_length] at a7
    refine q D acc (L2.upd G' D (.lst acc)) H' ⟨?_, ?_, a3, ?_⟩ upd_same (DpAll.same (Same.upd a5) a7)
    · intro b o hb
      by_cases hbd : b = D
      · rw [hbd, upd_same] at hb
        rw [hbd, a6]
        exact hb
      · rw [upd_ne hbd] at hb
        exact a2 b o hb
    · exact a1.trans (Same.upd a5)
    · intro a ha
      rw [upd_ne (fun z => ha (by rw [z]; exact hD)), a4 a ha]
/-- [elt for tg in iter], what is walked hangs on draws -/
theorem pvm_lcI {α : Type} {Si : List α → Prop} {enc : α → PyData} {f : α → PyData} {scope : Scope} {own : List (Str × Nat)} {T : List Nat} {ρ' : α → Rho} (hi : PVM X im iter ρ c (fun d => ∃ xs, Si xs ∧ d = .list (xs.map enc))) (hN : X.N.Nodup) (ok : BlkOk X.N X.env.scope scope own) (hz : ∀ xs, Si xs → xs.length ≤ sizeLine)
    (hT : ∀ j ∈ T, j ∈ own.map (·.2)) (hg : ∀ xs, Si xs → ∀ x ∈ xs, Blks X scope fun B => PGD B tg (wipeD ρ (own.map (·.2))) (enc x) (ρ' x) T) (he : ∀ xs, Si xs → ∀ x ∈ xs, Blks X scope fun B => PV B elt (ρ' x) (f x))
    (hc : X.calm = true := by rfl) (hs : ∀ x, foldedSetIterable iter X.env x = pure x := by intro _; rfl) : PVM X im (.ListComp elt [⟨tg, iter, [], 0⟩] scope pos) ρ c (fun d => ∃ xs, Si xs ∧ d = .list (xs.map f)) := by
  intro am σ G H n u s h0 m Q q
  refine wE_of (pe_lc hc hN (pi_list pe_w) ok pg_b pts_b pe_b hs) ?_
  refine hi am σ G H n u s h0 m _ fun v d G1 H1 g1 m1 k1 z1 => ?_
  obtain ⟨xs, hxs, rfl⟩ := z1
  obtain ⟨a, vs, rfl, h1, h2⟩ := Dp.lstE k1
  refine ⟨a, rfl, ⟨vs, L2.Same.seq g1.sub h1⟩, ?_⟩
  refine lc_fromD (xs := xs) (enc := enc) (p := fun _ => true) (f := f) (ifs := []) (ρ := ρ) (σ := σ) (H := H) (H1 := H1) (dw_list h1 h2) g1.sub (s.gm g1) (hz xs hxs) hT (hg xs hxs) (fun _ _ _ _ _ _ _ => rfl) (fun x hx _ => he xs hxs x hx) ?_ (fun _ _ R => R (Itl X.K a) H1) fun R h => h
  rw [List.filter_eq_self.mpr (fun _ _ => rfl)]
  exact fun D acc G2 H2 g2 h2 k2 => q _ _ G2 H2 (g1.trans g2.m) (m1.go g2) (.lst (SqL.of h2) k2) ⟨xs, hxs, rfl⟩
/-- .. the new list known as it stands -/
def PVE (X : Cx) (e : Expr) (ρ : Rho) (ds : List PyData) : Prop := ∀ σ G H, Same G H → SD X.K G σ ρ → ∀ Q : VK, (∀ D acc G2 H2, Gr G H G2 H2 → G2 D = some (.lst acc) → DpAll X.K G2 acc ds → Q (.ref D) H2) → wE X e σ H Q
theorem PVE.to {ds' : List PyData} (h : PVE X e ρ ds) (q : ds = ds') : PVE X e ρ ds' := q ▸ h
theorem PVE.go {Q : VK} (h : PVE X e ρ ds) (u : Same G H) (s : SD X.K G σ ρ) (k : ∀ D acc G2 H2, Gr G H G2 H2 → G2 D = some (.lst acc) → DpAll X.K G2 acc ds → Q (.ref D) H2) : wE X e σ H Q := h σ G H u s Q k
theorem pve_lc {α : Type} {xs : List α} {enc : α → PyData} {p : α → Bool} {f : α → PyData} {ifs : List Expr} {scope : Scope} {own : List (Str × Nat)} {T : List Nat} {ρ' : α → Rho} (hi : IV X tg iter ρ (xs.map enc)) (hN : X.N.Nodup) (ok : BlkOk X.N X.env.scope scope own) (hz : xs.length ≤ sizeLine)
    (hT : ∀ j ∈ T, j ∈ own.map (·.2)) (hg : ∀ x ∈ xs, Blks X scope fun B => PGD B tg (wipeD ρ (own.map (·.2))) (enc x) (ρ' x) T) (ht : ∀ x ∈ xs, Blks X scope fun B => PBs B ifs (ρ' x) (p x)) (he : ∀ x ∈ xs, p x = true → Blks X scope fun B => PV B elt (ρ' x) (f x))
    (hc : X.calm = true := by rfl) (hs : ∀ x, foldedSetIterable iter X.env x = pure x := by intro _; rfl) : PVE X (.ListComp elt [⟨tg, iter, ifs, 0⟩] scope pos) ρ ((xs.filter p).map f) :=
  fun σ G H u s Q q => wE_of (pe_lc hc hN pi_w ok pg_b pts_b pe_b hs) (hi σ G H u s _ fun J G1 H1 g1 dw => lc_fromD dw g1.sub (s.gr g1) hz hT hg ht he (H := H) (fun D acc G2 H2 g2 h2 k2 => q D acc G2 H2 (g1.trans g2) h2 k2) (fun _ _ R => R J H1) fun R h => h)
/-- a[:b] -/
theorem pvm_slTo {Sa Sb : PyData → Prop} {p2 : Pos} (ha : PVM X im a ρ c1 Sa) (hb : PVM X im b ρ c2 Sb) (hr : ∀ d1 d2, Sa d1 → Sb d2 → ∃ ds i, d1 = .list ds ∧ d2 = .int i ∧ S (.list (cutD ds none (some i)))) : PVM X im (.Subscript a (.Slice none (some b) none p2) pos) ρ (c1 + c2) S :=
  fun am σ G H f u s h0 m Q q => wE_of (pe_slice sl_list pe_w po_none (po_some pe_w)) (ha am σ G H (f + c2) u s h0 (m.mono (by omega)) _ fun v d1 G1 H1 g1 m1 k1 z1 => hb am σ G1 H1 f g1.sub (s.gm g1) h0 m1 _ fun w d2 G2 H2 g2 m2 k2 z2 => by
    obtain ⟨ds, i, rfl, rfl, hS⟩ := hr d1 d2 z1 z2
    refine ⟨i, Dp.intE k2, ?_⟩
    obtain ⟨p, xs, rfl, h3, h4⟩ := Dp.lstE (k1.gm g2)
    exact ⟨p, xs, rfl, L2.Same.seq g2.sub h3, fun p hp => q _ _ _ _ (g1.trans (g2.trans (Gr.upd g2.sub hp).m)) (m2.go (Gr.upd g2.sub hp)) (.lst (SqL.of upd_same) (L2.DpAll.gr (Gr.upd g2.sub hp) (DpAll.cut h4 none (some i)))) hS⟩)
/-- sorted(e) -/
theorem pvm_sorted {p : Pos} (hu : X.A.units + 64 < cLine) (hm : X.mg "sorted" = none) (ha : PVM X im e ρ c S1) (hr : ∀ d1, S1 d1 → ∃ ds, d1 = .list ds ∧ AllAlike ds ∧ Sortable ds ∧ (∀ d ∈ ds, d.depth ≤ 40) ∧ ds.length ≤ sizeLine ∧ ∀ es : List PyData, es.Perm ds → es.Pairwise (fun a b => dataLt b a = false) → S (.list es))
    (hg : Gl X "sorted" := by rfl) (he : starEach (e :: []) X.env = (false, eval e X.env) :: starEach [] X.env := by rfl) (hpl : (backTo pos (starEach [] X.env)).any (·.1) = false := by rfl) : PVM X im (.Call (.Name "sorted" p) [e] [] pos) ρ c S :=
  fun am σ G H f u s h0 m Q q => wE_of (pe_callB (cr_sortD hu) hg hm (by decide +kernel) (pa_cons pe_w pa_nil he) (by decide) (by decide) he hpl) (ha am σ G H f u s h0 m _ fun v d1 G1 H1 g1 m1 k1 z1 => by
    obtain ⟨ds, rfl, a1, a2, a3, a4, a5⟩ := hr d1 z1
    obtain ⟨a, xs, rfl, h1, h2⟩ := Dp.lstE k1
    refine ⟨a, xs, ds, rfl, L2.Same.seq g1.sub h1, DpAll.same g1.sub h2, a1, a2, a3, a4, fun p zs hp hzs hpm hpw => ?_⟩
    have hd := dpAll_unzip (K := X.K) (H := G1) (zs := zs) fun z hz => dpAll_zip h2 z (hzs.mem_iff.mp hz)
    exact q _ _ _ _ (g1.trans (Gr.upd g1.sub hp).m) (m1.go (Gr.upd g1.sub hp)) (.lst (SqL.of upd_same) (L2.DpAll.gr (Gr.upd g1.sub hp) hd)) (a5 _ hpm hpw))
/-- a for over what is walked, raw -/
structure ForP (X : Cx) (tg : Expr) (body stmts : List Stmt) (D : Ends) (ys : List PyData) (G1 : Hp) (Pv : Nat → L2.St → Hp → Hp → Prop) : Prop where
  sub : ∀ i σ' G' H', Pv i σ' G' H' → Same G' H' ∧ Same G1 G'
  step : ∀ i y σ' G' H' v G2 H2, Pv i σ' G' H' → ys[i]? = some y → Gr G' H' G2 H2 → Dp X.K G2 v y → wG X tg v σ' H2 fun σ2 H3 => wSs X body { D with nx := fun σ3 H4 => ∃ G4, Pv (i + 1) σ3 G4 H4, ct := fun σ3 H4 => ∃ G4, Pv (i + 1) σ3 G4 H4, bk := fun σ3 H4 => wSs X stmts D σ3 H4 } σ2 H3
  fin : ∀ σ' G' H', Pv ys.length σ' G' H' → wSs X stmts D σ' H'
theorem ws_forR {wi : TI} {body : List Stmt} (hi : PI X tg iter wi) (hp : PassesOwn (model X.prog X.w) X.A X.env X.xe) (h : ∀ R : It → Hp → Prop, (∀ J H1 G1 ys, DW X.K J ys G1 → Same G1 H1 → (∃ Pv, Pv 0 σ G1 H1 ∧ ForP X tg body stmts D ys G1 Pv) → R J H1) → wi σ H R) (hc : X.calm = true := by rfl) (hs : ∀ x, foldedSetIterable iter X.env x = pure x := by intro _; rfl) : wSs X (.For tg iter body [] pos :: stmts) D σ H := by
  refine wSs_of (pss_cons (ps_for hp hc hi pg_w pss_w hs) pss_w) (h _ fun J H1 G1 ys dw u1 ⟨Pv, p0, F⟩ => ?_)
  obtain ⟨Y, w, hy⟩ := dw
  refine for_it w (fun i σ' H' => ∃ G', Pv i σ' G' H') ⟨G1, p0⟩ ?_ ?_ ?_
  · rintro i σ' H' _ ⟨G', p⟩
    obtain ⟨h1, h2⟩ := F.sub i σ' G' H' p
    exact h2.trans h1
  · rintro i x σ' H' H'' hlt ⟨G', p⟩ y
    obtain ⟨h1, h2⟩ := F.sub i σ' G' H' p
    obtain ⟨G2, d, g2, hd, kd⟩ := hy i H' x H'' G' h1 h2 y
    exact F.step i d σ' G' H' x G2 H'' p hd g2 kd
  · rintro σ' H' ⟨G', p⟩
    exact F.fin σ' G' H' p
end
end DL
end D13_text
section G20_text
set_option maxRecDepth 100000
set_option maxHeartbeats 2000000
namespace DL
open PySem PySem.Spec PyProof.Rows L2 StX
section
variable {K : PySem.W.Frag} {am : Addr} {G0 H0 G H : Hp} {a : Addr} {o : HO}
theorem Gm.mut (g : Gm am G0 H0 G H) (h0 : H0 a = none) (n : G a = none) : Gm am G0 H0 G (L2.upd H a o) :=
  ⟨fun b u e => by
    rw [upd_ne (fun z => by rw [z, n] at e; cases e)]
    exact g.sub b u e, g.gg, fun b u hb e => by
    rw [upd_ne (ne_of_none e h0)]
    exact g.hh b u hb e, fun h => by
    by_cases z : am = a
    · rw [z, upd_same]; exact (fun z => nomatch z)
    · rw [upd_ne z]; exact g.dm h, g.new⟩
theorem Gm.free (g : Gm am G0 H0 G H) (h : H a = none) : H0 a = none := by
  cases e : H0 a with
  | none => rfl
  | some o =>
    by_cases z : a = am
    · subst z
      exact absurd h (g.dm (by rw [e]; exact fun z => nomatch z))
    · rw [g.hh a o z e] at h
      cases h
theorem Gm.frz (g : Gm am G0 H0 G H) (h : H a = some o) (n : G a = none) (h0 : H0 a = none) : Gm am G0 H0 (L2.upd G a o) H :=
  ⟨fun b u e => by
    by_cases hb : b = a
    · rw [hb, upd_same] at e
      rw [hb, h]
      exact e
    · rw [upd_ne hb] at e
      exact g.sub b u e, g.gg.trans (Same.upd n), g.hh, g.dm, fun b hb => by
    rw [upd_ne fun z => hb (by rw [z]; exact h0)]
    exact g.new b hb⟩
theorem Mst.mut {f : Nat} (m : Mst K G H am f) (h : a ≠ am) : Mst K G (L2.upd H a o) am f := by
  obtain ⟨vg, gs, sd, at_, mm, hf⟩ := m
  exact ⟨vg, gs, sd, at_, ⟨by rw [upd_ne (fun z => h z.symm)]; exact mm.hm, mm.gm, mm.gr, mm.len, mm.sd0, mm.sd1, mm.at0⟩, hf⟩
theorem Mst.some {f : Nat} (m : Mst K G H am f) : H am ≠ none := by
  obtain ⟨_, _, _, _, m2, _⟩ := m
  rw [m2.hm]
  exact fun z => nomatch z
theorem Mst.frz {f : Nat} (m : Mst K G H am f) (h : a ≠ am) (n : G a = none) : Mst K (L2.upd G a o) H am f := by
  obtain ⟨vg, gs, sd, at_, mm, hf⟩ := m
  exact ⟨vg, gs, sd, at_, ⟨mm.hm, by rw [upd_ne (fun z => h z.symm)]; exact mm.gm, Dp.same (Same.upd n) mm.gr, mm.len, mm.sd0, mm.sd1, mm.at0⟩, hf⟩
/-- what is owned (outside of the data, not the state) stays -/
theorem Gm.own {G2 H2 : Hp} (g : Gm am G H G2 H2) (h : H a = some o) (n : G a = none) (ha : a ≠ am) : H2 a = some o ∧ G2 a = none := ⟨g.hh _ _ ha h, by rw [g.new a (by rw [h]; exact fun z => nomatch z)]; exact n⟩
theorem seqIx {i : Int} {n : Nat} (h0 : 0 ≤ i) (h1 : i < n) : seqIndex? i n = some i.toNat := by
  have h2 : (if i < 0 then i + (n : Int) else i) = i := if_neg (by omega)
  unfold seqIndex?
  simp only [h2]
  rw [if_pos (by simp only [Bool.and_eq_true, decide_eq_true_eq]; exact ⟨h0, h1⟩)]
end
end DL
namespace Wk
open PySem PySem.Spec PyProof.Rows L2 DL LamX
section
variable {P : Program} {w : World} {K : PySem.W.Frag} {mg : Str → Option Value} {base : Heap}
/-! _law_order -/
abbrev N71 : List Str := ["_law_m", "_law_many", "_law_rest", "_law_found"]
theorem sc71 : FnScope N71 ["_law_m", "_law_many"] (defScope (top 71)) := ⟨rfl, rfl, rfl, by decide +kernel, rfl, by decide +kernel, by decide +kernel⟩
def R_order : List PyData → PyData → Prop := fun _ d => ∃ ns : List Int, ns.Perm [0, 1, 2, 3] ∧ d = .list (ns.map .int)
theorem map_erase {α β : Type} (f : α → β) : ∀ (xs : List α) (k : Nat), (xs.map f).eraseIdx k = (xs.eraseIdx k).map f
  | [], _ => rfl
  | _ :: _, 0 => rfl
  | x :: xs, k + 1 => by
    rw [List.map_cons, List.eraseIdx_cons_succ, List.eraseIdx_cons_succ, List.map_cons, map_erase f xs k]
theorem erase_one : ∀ {rs : List Int} {k : Nat} {y : Int}, rs[k]? = some y → rs.Perm (y :: rs.eraseIdx k)
  | [], _, _, h => by simp at h
  | x :: r, 0, y, h => by
    have e : x = y := Option.some.inj h
    subst e
    exact List.Perm.refl _
  | x :: r, k + 1, y, h => by
    have e : r[k]? = some y := h
    rw [List.eraseIdx_cons_succ]
    exact ((erase_one e).cons x).trans (List.Perm.swap _ _ _)
theorem erase_perm {fs rs : List Int} {k : Nat} {y : Int} {l : List Int} (h : (fs ++ rs).Perm l) (hy : rs[k]? = some y) : (fs ++ [y] ++ rs.eraseIdx k).Perm l := by
  have e2 : (fs ++ [y] ++ rs.eraseIdx k) = fs ++ (y :: rs.eraseIdx k) := by simp
  rw [e2]
  exact (List.Perm.append_left fs (erase_one hy)).symm.trans h
theorem ok_law_order (T : Txt P K mg) : DefOk P w K mg base 4 "_law_order" (spM K 1 4 (fun ds => ds = [.int 4]) R_order) := by
  refine def_raw T (i := 71) (N := N71) (ps := ["_law_m", "_law_many"]) (by decide +kernel) sc71 (fun _ _ _ _ _ _ us hl => match us, hl with | [_, _], _ => rfl) (spM_len rfl) ?_
  intro f cdv A outer s H E vs Q hr hsp
  obtain ⟨am, ws, ds, G, n, rfl, hl, u, hd, rfl, m, hq⟩ := hsp
  obtain ⟨v4, rfl, h4⟩ := DpAll.oneE hd
  have e4 := Dp.intE h4
  subst e4
  refine wSs_of (pss_cons (ps_par (X := CC P w K mg base N71 "_law_order" (defScope (top 71)) f cdv A outer s H E) (i := 2) (j := 3) rfl sc71.nd rfl rfl (by decide) rfl rfl (pa_cons (pe_listRg rfl rfl (T_fr T) (prg_1 rfl (T_fr T) (L2.pv 1))) (pa_cons (pe_lst pa_nil) pa_nil)) rfl rfl) pss_w) ?_
  refine ⟨.int 4, rfl, 4, rfl, RgOk.of_le (by decide) (by decide) (by decide) (by decide), fun r hr0 => ⟨Nat.zero_le _, fun fo hf0 => ⟨.ref r, .ref fo, rfl, ?_⟩⟩⟩
  have hGr : G r = none := L2.Same.free u hr0
  have hram : r ≠ am := fun z => m.some (by rw [← z]; exact hr0)
  have hfr : fo ≠ r := fun z => by rw [z, upd_same] at hf0; cases hf0
  have hf1 : H fo = none := by rw [upd_ne hfr] at hf0; exact hf0
  have hGf : G fo = none := L2.Same.free u hf1
  have hfam : fo ≠ am := fun z => m.some (by rw [← z]; exact hf1)
  refine wSs_of (pss_cons (ps_while cxOwn pt_w pss_w) pss_w) ⟨fun k σ' H' => ∃ (rs fs : List Int) (G' : Hp), k = rs.length ∧ (fs ++ rs).Perm [0, 1, 2, 3] ∧ σ' = [some (.ref am), some (.int 4), some (.ref r), some (.ref fo)] ∧ Gm am G H G' H' ∧ H' r = some (.lst (rs.map .int)) ∧ H' fo = some (.lst (fs.map .int)) ∧ G' r = none ∧ G' fo = none ∧ Mst K G' H' am (n + rs.length), ⟨4, [0, 1, 2, 3], [], G, rfl, List.Perm.refl _, rfl, ?_, ?_, upd_same, hGr, hGf, ?_⟩, ?_⟩
  · exact ((Gm.refl u).mut hr0 hGr).mut hf1 hGf
  · rw [upd_ne (Ne.symm hfr), upd_same] <;> rfl
  · exact ((m.mono (by simp)).mut hram).mut hfam
  rintro k σ' H' ⟨rs, fs, G', rfl, hpm, rfl, g', hHr, hHf, hGr', hGf', m'⟩
  have hb := hpm.length_eq
  simp only [List.length_append, List.length_cons, List.length_nil] at hb
  have u' := g'.sub
  refine wT_of (pt_cmpR (op_neP (hu64 hr)) (L2.pv 2) (pe_lst pa_nil) (nomark _)) ⟨.ref r, rfl, Nat.zero_le _, fun p hp => ⟨.list (rs.map .int), .list [], .lst (SqL.of (by rw [upd_ne (ne_of_none hHr hp)]; exact hHr)) (DpAll.ofInts rs), .lst (SqL.of upd_same) .nil, by simp [PyData.depth, PyData.depthAll], _, rfl, ?_⟩⟩
  have gp := Gr.more (o := .lst []) u' hp
  have mp := m'.go gp
  have gG := g'.trans gp.m
  have hHrp := gp.hh _ _ hHr
  have hHfp := gp.hh _ _ hHf
  rw [eqv_nil]
  cases rs with
  | nil =>
    show (if (!decide (([] : List Int) = [])) = true then _ else _)
    rw [if_neg (by simp)]
    have e1 : fs ++ ([] : List Int) = fs := by simp
    rw [e1] at hpm
    have gz : Gm am G H (L2.upd G' fo (.lst (fs.map .int))) (L2.upd H' p (.lst [])) := gG.frz hHfp hGf' hf1
    refine ws_retE (wE_of (L2.pv 3) ⟨.ref fo, rfl, ?_⟩)
    exact hq _ _ _ _ gz ((mp.mono (by simp)).frz hfam hGf') (.lst (SqL.of upd_same) (DpAll.ofInts fs)) ⟨fs, hpm, rfl⟩
  | cons y rs =>
    show (if (!decide (y :: rs = [])) = true then _ else _)
    rw [if_pos (by simp)]
    refine ⟨fun σ'' H'' => ∃ (rs' fs' : List Int) (G'' : Hp), rs'.length = rs.length ∧ (fs' ++ rs').Perm [0, 1, 2, 3] ∧ σ'' = [some (.ref am), some (.int 4), some (.ref r), some (.ref fo)] ∧ Gm am G H G'' H'' ∧ H'' r = some (.lst (rs'.map .int)) ∧ H'' fo = some (.lst (fs'.map .int)) ∧ G'' r = none ∧ G'' fo = none ∧ Mst K G'' H'' am (n + rs.length), ?_, ?_⟩
    · rintro σ'' H'' ⟨rs', fs', G'', e, h1, h2, h3, h4, h5, h6, h7, h8⟩
      exact ⟨rs'.length, by rw [e]; simp, rs', fs', G'', rfl, h1, h2, h3, h4, h5, h6, h7, by rw [e]; exact h8⟩
    refine ws_exprE (wE_of (pe_bm PySem.F.plainAttrs_list PySem.F.slot_list_append PySem.F.type_list_append mt_append (L2.pv 3) (pa_cons (pe_bm PySem.F.plainAttrs_list PySem.F.slot_list_pop PySem.F.type_list_pop mt_popAt (L2.pv 2) (pa_cons pe_w pa_nil)) pa_nil)) ?_)
    refine ⟨.ref fo, rfl, .inl ⟨rfl, _, SqL.of hHfp⟩, .ref r, rfl, .inl ⟨rfl, _, SqL.of hHrp⟩, ?_⟩
    refine wE_call (ok_law_draw T) (hr.mono (by decide)) (wA_of (pa_cons (L2.pv 0) (pa_cons (pe_callB call_ln rfl (T_fr T) (by decide +kernel) (pa_cons (L2.pv 2) pa_nil)) pa_nil)) ⟨.ref am, rfl, .ref r, rfl, .ref r, ((y :: rs).map V.int).length, rfl, .inl ⟨_, SqL.of hHrp, rfl⟩, ?_⟩)
    rw [List.length_map]
    refine ⟨am, (y :: rs).length, G', n + rs.length, rfl, by rw [List.length_cons]; omega, by simp at hb ⊢; omega, gp.sub, mp.mono (by simp; omega), fun i G2 H2 g2 m2 r0 r1 => ?_⟩
    obtain ⟨hHr2, hGr2⟩ := g2.own hHrp hGr' hram
    obtain ⟨hHf2, hGf2⟩ := g2.own hHfp hGf' hfam
    have hi : i.toNat < (y :: rs).length := by omega
    refine ⟨r, (y :: rs).map V.int, i, i.toNat, .int ((y :: rs)[i.toNat]), rfl, rfl, hHr2, by simp at hb r1; omega, by simp at hb r1; omega, by rw [List.length_map]; exact seqIx r0 r1, by rw [List.getElem?_map, List.getElem?_eq_getElem hi] <;> rfl, ?_⟩
    refine ⟨fo, fs.map V.int, .int ((y :: rs)[i.toNat]), rfl, rfl, by rw [upd_ne hfr]; exact hHf2, by rw [List.length_map, sizeLine_eq]; omega, ws_nil ?_⟩
    have gE := ((gG.trans g2).mut (a := r) (o := .lst (((y :: rs).map V.int).eraseIdx i.toNat)) hr0 hGr2).mut (a := fo) (o := .lst (fs.map V.int ++ [.int ((y :: rs)[i.toNat])])) hf1 hGf2
    refine ⟨(y :: rs).eraseIdx i.toNat, fs ++ [(y :: rs)[i.toNat]], G2, by rw [List.length_eraseIdx_of_lt hi] <;> simp, erase_perm hpm (List.getElem?_eq_getElem hi), rfl, gE, ?_, by rw [upd_same, List.map_append] <;> rfl, hGr2, hGf2, (m2.mut hram).mut hfam⟩
    rw [upd_ne (Ne.symm hfr), upd_same, map_erase]
end
end Wk
end G20_text
section P4_text
set_option maxRecDepth 100000
set_option maxHeartbeats 2000000
namespace Wk
open PySem PySem.Spec PyProof.Rows L2 DL
open PySem.W (alike dataLt alikeAll)
/-! ### plain facts: drawn edges, their order -/
/-- an edge between k stands, of a drawn kind -/
structure VE (k : Int) (x : Edge) : Prop where
  b0 : 0 ≤ x.b
  b1 : x.b < k
  e0 : 0 ≤ x.e
  e1 : x.e < k
  asks : x.asks ∈ asksL
  deed : x.deed ∈ deedsS
theorem asks_ok : ∀ a ∈ asksL, isAsks a = true := by decide +kernel
theorem VE.isEdge {k : Int} {x : Edge} (h : VE k x) : Wk.isEdge x k = true := by
  unfold Wk.isEdge inR
  rw [asks_ok _ h.asks]
  have := h.b0
  have := h.b1
  have := h.e0
  have := h.e1
  simp only [Bool.true_and, Bool.and_eq_true, decide_eq_true_eq]
  exact ⟨h.deed, ⟨by omega, by omega⟩, by omega, by omega⟩
def keyE (x : Edge) : NestedKey := .tup [.num x.b, .tup (x.asks.map .text), .text x.deed, .num x.e]
theorem datas_texts : ∀ xs : List Str, NestedKey.datas (xs.map .text) = xs.map .str
  | [] => by simp [NestedKey.datas]
  | x :: xs => by rw [List.map_cons, NestedKey.datas, datas_texts xs, List.map_cons, NestedKey.data]
theorem keyE_data (x : Edge) : (keyE x).data = encE x := by
  unfold keyE encE
  simp only [NestedKey.data, NestedKey.datas, datas_texts]
theorem texts_inj : ∀ {xs ys : List Str}, xs.map NestedKey.text = ys.map NestedKey.text → xs = ys
  | [], [], _ => rfl
  | [], _ :: _, h => by simp at h
  | _ :: _, [], h => by simp at h
  | x :: xs, y :: ys, h => by
    rw [List.map_cons, List.map_cons] at h
    injection h with h1 h2
    injection h1 with h1
    rw [h1, texts_inj h2]
theorem keyE_inj {x y : Edge} (h : keyE x = keyE y) : x = y := by
  unfold keyE at h
  injection h with h
  injection h with h1 h
  injection h with h2 h
  injection h with h3 h
  injection h with h4 h
  injection h1 with h1
  injection h2 with h2
  injection h3 with h3
  injection h4 with h4
  have h2' := texts_inj h2
  cases x
  cases y
  simp only at h1 h2' h3 h4
  rw [h1, h2', h3, h4]
theorem keyE_depth : ∀ (b e : Int) (a : List Str) (d : Str), a ∈ asksL → (keyE ⟨b, a, d, e⟩).depth ≤ 8 := by
  intro b e a d ha
  have h : ∀ a ∈ asksL, (NestedKey.tup (a.map .text)).depth ≤ 5 := by decide +kernel
  have h' := h a ha
  unfold keyE
  simp only [NestedKey.depth, NestedKey.depthAll] at h' ⊢
  omega
theorem encE_inj {x y : Edge} (h : encE x = encE y) : x = y := by
  unfold encE at h
  injection h with h
  injection h with h1 h
  injection h with h2 h
  injection h with h3 h
  injection h with h4 h
  injection h1 with h1
  injection h2 with h2
  injection h3 with h3
  injection h4 with h4
  have h2' : x.asks = y.asks := by
    have hi : ∀ (xs ys : List Str), xs.map PyData.str = ys.map PyData.str → xs = ys := by
      intro xs
      induction xs with
      | nil => intro ys h; cases ys with
        | nil => rfl
        | cons _ _ => simp at h
      | cons a r ih => intro ys h; cases ys with
        | nil => simp at h
        | cons b t =>
          rw [List.map_cons, List.map_cons] at h
          injection h with h1 h2
          injection h1 with h1
          rw [h1, ih t h2]
    exact hi _ _ h2
  cases x
  cases y
  simp only at h1 h2' h3 h4
  rw [h1, h2', h3, h4]
theorem alike_strs : ∀ xs ys : List Str, alikeAll (xs.map .str) (ys.map .str) = true
  | [], _ => by simp [alikeAll]
  | _ :: _, [] => by simp [alikeAll]
  | x :: xs, y :: ys => by
    rw [List.map_cons, List.map_cons, alikeAll, alike_strs xs ys]
    simp [alike]
theorem encE_alike (x y : Edge) : alike (encE x) (encE y) = true := by
  unfold encE
  simp [alike, alikeAll, alike_strs]
theorem eqv_strs : ∀ {xs ys : List Str}, PyData.eqvAll (xs.map .str) (ys.map .str) = true → xs = ys
  | [], [], _ => rfl
  | [], _ :: _, h => by simp [PyData.eqvAll] at h
  | _ :: _, [], h => by simp [PyData.eqvAll] at h
  | x :: xs, y :: ys, h => by
    rw [List.map_cons, List.map_cons, PyData.eqvAll, Bool.and_eq_true] at h
    have h1 : x = y := by simpa [PyData.eqv] using h.1
    rw [h1, eqv_strs h.2]
theorem encE_eqv {x y : Edge} (h : PyData.eqv (encE x) (encE y) = true) : x = y := by
  unfold encE at h
  simp only [PyData.eqv, PyData.eqvAll, Bool.and_eq_true, Bool.and_true] at h
  obtain ⟨h1, h2, h3, h4⟩ := h
  have e1 : x.b = y.b := by simpa using h1
  have e2 := eqv_strs h2
  have e3 : x.deed = y.deed := by simpa using h3
  have e4 : x.e = y.e := by simpa using h4
  cases x
  cases y
  simp only at e1 e2 e3 e4
  rw [e1, e2, e3, e4]
theorem encE_tri {x y : Edge} (h : x ≠ y) : dlt x y = true ∨ dlt y x = true := dataLt_tri (encE_alike x y) (by
  cases e : PyData.eqv (encE x) (encE y) with
  | false => rfl
  | true => exact absurd (encE_eqv e) h)
/-- data that are all edges -/
theorem edges_of {k : Int} : ∀ {ds : List PyData}, (∀ d ∈ ds, ∃ x, VE k x ∧ d = encE x) → ∃ es : List Edge, ds = es.map encE ∧ ∀ x ∈ es, VE k x
  | [], _ => ⟨[], rfl, fun _ h => nomatch h⟩
  | d :: ds, h => by
    obtain ⟨x, hx, rfl⟩ := h d List.mem_cons_self
    obtain ⟨es, rfl, hes⟩ := edges_of fun d hd => h d (List.mem_cons_of_mem _ hd)
    refine ⟨x :: es, rfl, fun y hy => ?_⟩
    rcases List.mem_cons.mp hy with rfl | hy
    · exact hx
    · exact hes y hy
theorem nodup_of_map {α β : Type} {f : α → β} : ∀ {xs : List α}, (xs.map f).Nodup → xs.Nodup
  | [], _ => List.nodup_nil
  | x :: xs, h => by
    rw [List.map_cons, List.nodup_cons] at h
    rw [List.nodup_cons]
    exact ⟨fun hx => h.1 (List.mem_map_of_mem hx), nodup_of_map h.2⟩
theorem map_nodup {α β : Type} {f : α → β} (hf : ∀ x y, f x = f y → x = y) : ∀ {xs : List α}, xs.Nodup → (xs.map f).Nodup
  | [], _ => List.nodup_nil
  | x :: xs, h => by
    rw [List.nodup_cons] at h
    rw [List.map_cons, List.nodup_cons]
    refine ⟨fun hx => ?_, map_nodup hf h.2⟩
    obtain ⟨y, hy, e⟩ := List.mem_map.mp hx
    rw [hf _ _ e] at hy
    exact h.1 hy
/-- what stands sorted and no item twice ascends -/
theorem asc_of {α : Type} {lt : α → α → Bool} (tri : ∀ x y, x ≠ y → lt x y = true ∨ lt y x = true) {xs : List α} (h : xs.Pairwise fun a b => lt b a = false) (hn : xs.Nodup) : xs.Pairwise fun a b => lt a b = true := by
  induction xs with
  | nil => exact .nil
  | cons x xs ih =>
    rw [List.pairwise_cons] at h ⊢
    rw [List.nodup_cons] at hn
    refine ⟨fun y hy => ?_, ih h.2 hn.2⟩
    rcases tri x y (fun e => hn.1 (by rw [e]; exact hy)) with z | z
    · exact z
    · rw [h.1 y hy] at z
      cases z
/-- the edges of a drawn book -/
structure EdgesOk (k : Int) (n : Nat) (es : List Edge) : Prop where
  len : es.length ≤ n
  ve : ∀ x ∈ es, VE k x
  asc : es.Pairwise fun a b => dlt a b = true
theorem edges_sorted {k : Int} {n : Nat} {es : List Edge} (hl : es.length ≤ n) (hv : ∀ x ∈ es, VE k x) (hn : es.Nodup) {ds : List PyData} (hp : ds.Perm (es.map encE)) (hs : ds.Pairwise fun a b => dataLt b a = false) : ∃ es', ds = es'.map encE ∧ EdgesOk k n es' := by
  obtain ⟨es', rfl, hv'⟩ := edges_of (ds := ds) (k := k) fun d hd => by
    obtain ⟨x, hx, e⟩ := List.mem_map.mp (hp.mem_iff.mp hd)
    exact ⟨x, hv x hx, e.symm⟩
  have hl' := hp.length_eq
  rw [List.length_map, List.length_map] at hl'
  have hn' : (es'.map encE).Nodup := hp.nodup_iff.mpr (map_nodup (fun _ _ => encE_inj) hn)
  refine ⟨es', rfl, by omega, hv', ?_⟩
  rw [List.pairwise_map] at hs
  exact asc_of (lt := dlt) (fun x y => encE_tri) hs (nodup_of_map hn')
theorem pw_get {α : Type} {R : α → α → Prop} {xs : List α} (h : xs.Pairwise R) {i : Nat} {x y : α} (h0 : i ≠ 0) (hx : xs[i]? = some x) (hy : xs[i - 1]? = some y) : R y x := by
  obtain ⟨h1, rfl⟩ := List.getElem?_eq_some_iff.mp hx
  obtain ⟨h2, rfl⟩ := List.getElem?_eq_some_iff.mp hy
  exact List.pairwise_iff_getElem.mp h (i - 1) i h2 h1 (by omega)
theorem fb_none {α : Type} {p : Nat → α → Bool} : ∀ {xs : List α} {k : Nat}, (∀ i x, xs[i]? = some x → p (k + i) x = true) → DL.firstBad p k xs = none
  | [], _, _ => rfl
  | x :: r, k, h => by
    have h0 : p k x = true := h 0 x rfl
    unfold DL.firstBad
    rw [if_pos h0]
    exact fb_none (k := k + 1) fun i y hy => by
      have := h (i + 1) y hy
      rwa [show k + (i + 1) = k + 1 + i by omega] at this
theorem EdgesOk.bad {k : Int} {n : Nat} {es : List Edge} (h : EdgesOk k n es) : badEdge k es = none := by
  refine fb_none fun i x hx => ?_
  rw [Nat.zero_add]
  unfold edgeOk
  rw [(h.ve x (List.mem_of_getElem? hx)).isEdge, Bool.true_and]
  by_cases h0 : i = 0
  · rw [decide_eq_true h0, Bool.true_or]
  · rw [decide_eq_false h0, Bool.false_or]
    cases hy : es[i - 1]? with
    | none => rfl
    | some y => exact pw_get h.asc h0 hx hy
/-! ### rows of stands -/
theorem ascD_of {α : Type} {enc : α → PyData} : ∀ {xs : List α}, xs.Pairwise (fun a b => dataLt (enc a) (enc b) = true) → ascD (xs.map enc) = true
  | [], _ => rfl
  | [_], _ => rfl
  | x :: y :: r, h => by
    rw [List.map_cons, List.map_cons]
    rw [List.pairwise_cons] at h
    show (dataLt (enc x) (enc y) && ascD (enc y :: r.map enc)) = true
    rw [h.1 y List.mem_cons_self, Bool.true_and]
    exact ascD_of h.2
/-- a sublist of a range -/
theorem range_asc (lo : Int) (n : Nat) : ((List.range n).map fun i => lo + (i : Nat)).Pairwise fun a b : Int => a < b := by
  rw [List.pairwise_map]
  exact List.pairwise_lt_range.imp fun h => by omega
theorem stands_sub {lo : Int} {n : Nat} {ys : List Int} (h : ys.Sublist ((List.range n).map fun i => lo + (i : Nat))) : isStands ys lo (lo + n) = true := by
  unfold isStands
  rw [Bool.and_eq_true]
  refine ⟨List.all_eq_true.mpr fun y hy => ?_, ascD_of (((range_asc lo n).sublist h).imp fun {a b} q => by rw [PySem.W.dataLt_int]; exact decide_eq_true q)⟩
  obtain ⟨i, hi, rfl⟩ := List.mem_map.mp (h.mem hy)
  have := List.mem_range.mp hi
  unfold inR
  simp only [Bool.and_eq_true, decide_eq_true_eq]
  omega
/-- a drawn book -/
structure BookOk (k : Int) (up deaf : List Int) (es : List Edge) : Prop where
  k1 : 1 ≤ k
  k6 : k ≤ 6
  upl : up.length ≤ 6
  dfl : deaf.length ≤ 6
  ups : isStands up 1 k = true
  dfs : isStands deaf 0 k = true
  es : EdgesOk k 10 es
end Wk
end P4_text
section G21_text
set_option maxRecDepth 100000
set_option maxHeartbeats 2000000
namespace Wk
open PySem PySem.Spec PyProof.Rows L2 DL LamX
section
variable {P : Program} {w : World} {K : PySem.W.Frag} {mg : Str → Option Value} {base : Heap}
abbrev N76 : List Str := ["_law_m", "_law_stands", "_law_most", "_law_many", "_law_edges", "_law_here", "_law_again", "_law_up", "_law_stand", "_law_deaf"]
theorem sc76 : FnScope N76 ["_law_m", "_law_stands", "_law_most"] (defScope (top 76)) := ⟨rfl, rfl, rfl, by decide +kernel, rfl, by decide +kernel, by decide +kernel⟩
def R_book : List PyData → PyData → Prop := fun _ d => ∃ k up deaf es, BookOk k up deaf es ∧ d = .tuple [.int k, tI up, tI deaf, .tuple (es.map encE)]
abbrev rho76 (st k : Int) : Rho := [none, some (.int st), some (.int 5), some (.int k), none, none, none, none, none, none]
/-- the dict of the edges, at d -/
structure EdD (P : Program) (w : World) (K : PySem.W.Frag) (am d : Addr) (G0 H0 G H : Hp) (k : Int) (n : Nat) (es : List Edge) : Prop where
  gm : Gm am G0 H0 G H
  h0 : H0 d = none
  gd : G d = none
  dam : d ≠ am
  xs : ∃ xs, H d = some (dN P w d xs) ∧ xs.map (·.1) = es.map keyE ∧ KeysIn K G xs
  ve : ∀ x ∈ es, VE k x
  nd : es.Nodup
  len : es.length ≤ n
theorem KeysIn.gg {G G2 : Hp} {xs : List (NestedKey × Addr)} (h : KeysIn K G xs) (g : Same G G2) : KeysIn K G2 xs := fun x hx => ⟨Dp.same g (h x hx).1, (h x hx).2⟩
theorem EdD.go {am d : Addr} {G0 H0 G H G2 H2 : Hp} {k : Int} {n : Nat} {es : List Edge} (h : EdD P w K am d G0 H0 G H k n es) (g : Gm am G H G2 H2) : EdD P w K am d G0 H0 G2 H2 k n es := by
  obtain ⟨xs, h1, h2, h3⟩ := h.xs
  obtain ⟨e1, e2⟩ := g.own h1 h.gd h.dam
  exact ⟨h.gm.trans g, h.h0, e2, h.dam, ⟨xs, e1, h2, KeysIn.gg h3 g.gg⟩, h.ve, h.nd, h.len⟩
theorem key_mem {es : List Edge} {x : Edge} (h : keyE x ∈ es.map keyE) : x ∈ es := by
  obtain ⟨y, hy, e⟩ := List.mem_map.mp h
  rw [← keyE_inj e]
  exact hy
theorem VE.depth {k : Int} {x : Edge} (h : VE k x) : (keyE x).depth ≤ 8 := keyE_depth x.b x.e x.asks x.deed h.asks
theorem EdD.put {am d b : Addr} {G0 H0 G H : Hp} {k : Int} {n : Nat} {es : List Edge} {x : Edge} (h : EdD P w K am d G0 H0 G H k n es) (hn : n ≤ 100) (u : Same G H) (hx : VE k x) (hb : Dp K G (.ref b) (encE x)) :
    ∃ xs, H d = some (dN P w d xs) ∧ Dp K H (.ref b) (keyE x).data ∧ KeysIn K H xs ∧ xs.length < sizeLine ∧ ∃ es', EdD P w K am d G0 H0 G (L2.upd H d (dN P w d (storeN xs (keyE x) b))) k (n + 1) es' := by
  obtain ⟨xs, h1, h2, h3⟩ := h.xs
  have hl : xs.length = es.length := by
    have := congrArg List.length h2
    simpa using this
  have := h.len
  refine ⟨xs, h1, by rw [keyE_data]; exact Dp.same u hb, KeysIn.gg h3 u, by rw [sizeLine_eq]; omega, ?_⟩
  have gm := h.gm.mut (o := dN P w d (storeN xs (keyE x) b)) h.h0 h.gd
  by_cases hm : x ∈ es
  · have hk : keyE x ∈ xs.map (·.1) := by rw [h2]; exact List.mem_map_of_mem hm
    have e : storeN xs (keyE x) b = xs := by unfold storeN; rw [if_pos hk]
    rw [e] at gm ⊢
    exact ⟨es, gm, h.h0, h.gd, h.dam, ⟨xs, upd_same, h2, h3⟩, h.ve, h.nd, by omega⟩
  · have hk : ¬ keyE x ∈ xs.map (·.1) := by
      rw [h2]
      exact fun z => hm (key_mem z)
    have e : storeN xs (keyE x) b = xs ++ [(keyE x, b)] := by unfold storeN; rw [if_neg hk]
    rw [e] at gm ⊢
    refine ⟨es ++ [x], gm, h.h0, h.gd, h.dam, ⟨xs ++ [(keyE x, b)], upd_same, by simp [h2], fun y hy => ?_⟩, fun y hy => ?_, ?_, by simp; omega⟩
    · rcases List.mem_append.mp hy with hy | hy
      · exact h3 y hy
      · rw [List.mem_singleton.mp hy]
        exact ⟨by rw [keyE_data]; exact hb, hx.depth⟩
    · rcases List.mem_append.mp hy with hy | hy
      · exact h.ve y hy
      · rw [List.mem_singleton.mp hy]
        exact hx
    · rw [List.nodup_append]
      refine ⟨h.nd, by simp, fun a ha b hb => ?_⟩
      rw [List.mem_singleton.mp hb]
      exact fun z => hm (by rw [← z]; exact ha)
theorem intsD_at {lo : Int} {n i : Nat} {y : PyData} (h : (intsD lo n)[i]? = some y) : i < n ∧ y = .int (lo + (i : Nat)) := by
  have hl := (List.getElem?_eq_some_iff.mp h).1
  have hn : i < n := by simpa [intsD] using hl
  rw [intsD_get hn] at h
  exact ⟨hn, (Option.some.inj h).symm⟩
theorem intsD_map {lo : Int} {n : Nat} : ((List.range n).map fun i => lo + (i : Nat)).map PyData.int = intsD lo n := by
  unfold intsD
  rw [List.map_map] <;> rfl
theorem ints_len {lo : Int} {n : Nat} : ((List.range n).map fun i : Nat => lo + (i : Int)).length = n := by simp
theorem sdSet5 {G : Hp} {σ : L2.St} {st k : Int} {i : Nat} {v : V} {d : PyData} (hi : i = 5 ∨ i = 6) (s : SD K G σ ((rho76 st k).set i (some d))) : SD K G σ (rho76 st k) := by
  rcases hi with rfl | rfl
  · exact s.forget ⟨.inr rfl, .inr rfl, .inr rfl, .inr rfl, .inl rfl, .inl rfl, .inl rfl, .inl rfl, .inl rfl, .inl rfl, trivial⟩
  · exact s.forget ⟨.inr rfl, .inr rfl, .inr rfl, .inr rfl, .inl rfl, .inl rfl, .inl rfl, .inl rfl, .inl rfl, .inl rfl, trivial⟩
theorem ok_law_book (T : Txt P K mg) : DefOk P w K mg base 7 "_law_book" (spM K 2 64 (fun ds => ∃ st : Int, ds = [.int st, .int 5] ∧ 1 ≤ st ∧ st ≤ 6) R_book) := by
  refine def_raw T (i := 76) (N := N76) (ps := ["_law_m", "_law_stands", "_law_most"]) (by decide +kernel) sc76 (fun _ _ _ _ _ _ us hl => match us, hl with | [_, _, _], _ => rfl) (spM_len rfl) ?_
  intro f cdv A outer s H E vs Q hr hsp
  obtain ⟨am, ws, ds, G, n, rfl, hl, u, hd, ⟨st, rfl, hs1, hs6⟩, m, hq⟩ := hsp
  have hu64' := hu64 hr
  have s0 : SD K G (L2.start N76 (V.ref am :: ws)) [none, some (.int st), some (.int 5), none, none, none, none, none, none, none] := sdM hd
  refine wSs_of (pss_cons (ps_par (X := CC P w K mg base N76 "_law_book" (defScope (top 76)) f cdv A outer s H E) (i := 3) (j := 4) rfl sc76.nd rfl rfl (by decide) rfl rfl (pa_cons pe_w (pa_cons pe_dnewN pa_nil)) rfl rfl) pss_w) ?_
  refine pvm_bin (im := 0) (S := fun d => ∃ k : Int, d = .int k ∧ 1 ≤ k ∧ k ≤ 6) op_add (PV.mm pv_int) (pvm_draw T hr (pv_var (i := 1) rfl) hs1 (by omega)) (fun d1 d2 h1 h2 => ?_) am _ G H (n + 63) u s0 rfl (m.mono (by omega)) _ fun v d G1 H1 g1 m1 k1 z1 => ?_
  · obtain ⟨r, rfl, r0, r1⟩ := h2
    subst h1
    exact ⟨.int (1 + r), dr_II, 1 + r, rfl, by omega, by omega⟩
  obtain ⟨k, rfl, hk1, hk6⟩ := z1
  refine fun dd hdd => ⟨v, .ref dd, rfl, ?_⟩
  have hdam : dd ≠ am := fun z => m1.some (by rw [← z]; exact hdd)
  have h0d : H dd = none := g1.free hdd
  have hGd : G1 dd = none := L2.Same.free g1.sub hdd
  have s1 : SD K G1 (((L2.start N76 (V.ref am :: ws)).set 3 (some v)).set 4 (some (.ref dd))) (rho76 st k) := ((s0.gm g1).set 3 k1).setN (o := some (.ref dd)) 4
  have hσl := s0.1
  have e1 : EdD P w K am dd G H G1 (L2.upd H1 dd (dN P w dd [])) k 0 [] := ⟨g1.mut h0d hGd, h0d, hGd, hdam, ⟨[], upd_same, rfl, fun x hx => nomatch hx⟩, fun x hx => (nomatch hx), List.nodup_nil, Nat.le_refl _⟩
  have m1' : Mst K G1 (L2.upd H1 dd (dN P w dd [])) am (n + 63) := m1.mut hdam
  have h04 : (((L2.start N76 (V.ref am :: ws)).set 3 (some v)).set 4 (some (V.ref dd)))[4]? = some (some (.ref dd)) := by rw [List.getElem?_set_self (by rw [List.length_set, hσl]; show 4 < 10; decide)]
  have h00 : (((L2.start N76 (V.ref am :: ws)).set 3 (some v)).set 4 (some (V.ref dd)))[0]? = some (some (.ref am)) := by rw [List.getElem?_set_ne (by decide), List.getElem?_set_ne (by decide)] <;> rfl
  have hb62 : (2 : Int) ^ 62 = 4611686018427387904 := by decide
  -- an edge onward from each stand
  refine ws_for (ρ := rho76 st k) (iv_range1 (j := k - 1) (PV.to (pv_bin op_sub dr_II (pv_var (i := 3) rfl) pv_int) rfl) (by omega) (by omega) (T_fr T)) e1.gm.sub s1 cxOwn fun G2 H2 g2 => ?_
  refine ⟨fun i σ' G' H' => ∃ es, SD K G' σ' (rho76 st k) ∧ σ'[0]? = some (some (.ref am)) ∧ σ'[4]? = some (some (.ref dd)) ∧ Same G2 G' ∧ EdD P w K am dd G H G' H' k i es ∧ Mst K G' H' am (n + (63 - 2 * i)), ⟨[], s1.gr g2, h00, h04, L2.Same.refl _, e1.go g2.m, m1'.go g2⟩, fun i σ' G' H' ⟨es, _, _, _, h1, h2, _⟩ => ⟨h2.gm.sub, h1⟩, ?_, ?_⟩
  · rintro i y σ' G' H' v' G3 H3 ⟨es, s', h0', h4', hG', eD, m'⟩ hy g3 hv
    obtain ⟨hi, rfl⟩ := intsD_at hy
    rw [Int.zero_add] at hv
    refine PGD.go (pgd_name (i := 5) sc76.nd) g3.sub (s'.gr g3) hv fun σ2 t2 s2 => ?_
    have h02 : σ2[0]? = some (some (.ref am)) := by rw [t2.2 0 (by decide)]; exact h0'
    have h42 : σ2[4]? = some (some (.ref dd)) := by rw [t2.2 4 (by decide)]; exact h4'
    have hi5 : i < 5 := by omega
    refine wSs_of (pss_cons (ps_asg pe_bl (pg_sub (L2.pv 4) pe_w (set_dN (by show (A.deeper _).units + 9 < _; omega))) rfl rfl rfl) pss_w) ⟨.ref dd, h42, ?_⟩
    refine PVM.go (im := 0) (f := n + (63 - 2 * (i + 1))) (pvm_call (ok_law_edge T) (hr.mono (by decide)) (PVs.mm (pvs_cons (pv_var (i := 5) rfl) (pvs_cons (pv_bin op_add dr_II (pv_var (i := 5) rfl) pv_int) pvs_nil))) (fun ds h => ⟨by rw [h] <;> rfl, i, i + 1, h⟩)) g3.sub s2 h02 ((m'.go g3).mono (by omega)) fun v5 d5 G5 H5 g5 m5 k5 z5 => ?_
    obtain ⟨ds, hds, b, e, x, hds2, ⟨hxb, hxe, hxa, hxd⟩, rfl⟩ := z5
    have hbe : b = (i : Int) ∧ e = (i : Int) + 1 := by
      rw [hds] at hds2
      injection hds2 with h1 h2
      injection h2 with h2 _
      injection h1 with h1
      injection h2 with h2
      exact ⟨h1.symm, h2.symm⟩
    have hx : VE k x := ⟨by omega, by omega, by omega, by omega, hxa, hxd⟩
    obtain ⟨b5, xs5, rfl, hb5, hc5⟩ := Dp.tupE k5
    obtain ⟨xs, q1, q2, q3, q4, es', q5⟩ := ((eD.go g3.m).go g5).put (by omega) g5.sub hx k5
    refine ⟨dd, xs, keyE x, b5, rfl, rfl, rfl, q1, q2, hx.depth, q3, q4, ws_nil ?_⟩
    exact ⟨G5, es', sdSet5 (i := 5) (v := .non) (.inl rfl) (s2.gm g5), h02, h42, hG'.trans (g3.gg.trans g5.gg), q5, m5.mut hdam⟩
  rintro σ' G' H' ⟨es, s', h0', h4', hG', eD, m'⟩
  have hi5 : (intsD 0 (k - 1).toNat).length ≤ 5 := by simp [intsD]; omega
  -- and some more
  refine ws_forR (pi_range1 rfl (T_fr T) (pa_cons pe_w pa_nil)) cxOwn fun R hR => ?_
  refine PVM.go (im := 0) (f := n + 52) (pvm_draw (t := 6) T hr (PV.to (pv_bin op_add dr_II (pv_var (i := 2) rfl) pv_int) rfl) (by decide) (by decide)) eD.gm.sub s' h0' (m'.mono (by omega)) fun v6 d6 G6 H6 g6 m6 k6 z6 => ?_
  obtain ⟨r, rfl, r0, r1⟩ := z6
  have e6 := Dp.intE k6
  subst e6
  refine ⟨r, rfl, by omega, by omega, hR _ H6 G6 (intsD 0 r.toNat) dw_range g6.sub ⟨fun i σ' G' H' => ∃ es, SD K G' σ' (rho76 st k) ∧ σ'[0]? = some (some (.ref am)) ∧ σ'[4]? = some (some (.ref dd)) ∧ Same G6 G' ∧ EdD P w K am dd G H G' H' k (5 + i) es ∧ Mst K G' H' am (n + (52 - 4 * i)), ⟨es, s'.gm g6, h0', h4', L2.Same.refl _, ?_, m6⟩, fun i σ' G' H' ⟨es, _, _, _, h1, h2, _⟩ => ⟨h2.gm.sub, h1⟩, ?_, ?_⟩⟩
  · have q := eD.go g6
    exact ⟨q.gm, q.h0, q.gd, q.dam, q.xs, q.ve, q.nd, by have := q.len; omega⟩
  · rintro i y σ' G' H' v' G3 H3 ⟨es, s', h0', h4', hG', eD, m'⟩ hy g3 hv
    obtain ⟨hi, rfl⟩ := intsD_at hy
    refine PGD.go (pgd_name (i := 6) sc76.nd) g3.sub (s'.gr g3) hv fun σ2 t2 s2 => ?_
    have h02 : σ2[0]? = some (some (.ref am)) := by rw [t2.2 0 (by decide)]; exact h0'
    have h42 : σ2[4]? = some (some (.ref dd)) := by rw [t2.2 4 (by decide)]; exact h4'
    have hi5 : i < 5 := by omega
    refine wSs_of (pss_cons (ps_asg pe_bl (pg_sub (L2.pv 4) pe_w (set_dN (by show (A.deeper _).units + 9 < _; omega))) rfl rfl rfl) pss_w) ⟨.ref dd, h42, ?_⟩
    refine PVM.go (im := 0) (f := n + (52 - 4 * (i + 1))) (pvm_call (ok_law_edge T) (hr.mono (by decide)) (pvms_cons (pvm_draw T hr (pv_var (i := 3) rfl) hk1 (by omega)) (pvms_cons (pvm_draw T hr (pv_var (i := 3) rfl) hk1 (by omega)) pvms_nil)) (fun ds h => ?_)) g3.sub s2 h02 ((m'.go g3).mono (by omega)) fun v5 d5 G5 H5 g5 m5 k5 z5 => ?_
    · obtain ⟨d1, r1, rfl, ⟨b, rfl, _⟩, d2, r2, rfl, ⟨e, rfl, _⟩, rfl⟩ := h
      exact ⟨rfl, b, e, rfl⟩
    obtain ⟨ds, ⟨d1, r1', rfl, ⟨b, rfl, hb0, hb1⟩, d2, r2', rfl, ⟨e, rfl, he0, he1⟩, rfl⟩, b', e', x, hds2, ⟨hxb, hxe, hxa, hxd⟩, rfl⟩ := z5
    have hbe : b' = b ∧ e' = e := by
      injection hds2 with h1 h2
      injection h2 with h2 _
      injection h1 with h1
      injection h2 with h2
      exact ⟨h1.symm, h2.symm⟩
    have hx : VE k x := ⟨by omega, by omega, by omega, by omega, hxa, hxd⟩
    obtain ⟨b5, xs5, rfl, hb5, hc5⟩ := Dp.tupE k5
    obtain ⟨xs, q1, q2, q3, q4, es', q5⟩ := ((eD.go g3.m).go g5).put (by omega) g5.sub hx k5
    refine ⟨dd, xs, keyE x, b5, rfl, rfl, rfl, q1, q2, hx.depth, q3, q4, ws_nil ?_⟩
    exact ⟨G5, es', sdSet5 (i := 6) (v := .non) (.inr rfl) (s2.gm g5), h02, h42, hG'.trans (g3.gg.trans g5.gg), q5, m5.mut hdam⟩
  rintro σ' G' H' ⟨es, s', h0', h4', hG', eD, m'⟩
  have hi5 : (intsD 0 r.toNat).length ≤ 5 := by simp [intsD]; omega
  have eD10 : EdD P w K am dd G H G' H' k 10 es := ⟨eD.gm, eD.h0, eD.gd, eD.dam, eD.xs, eD.ve, eD.nd, by have := eD.len; omega⟩
  -- up
  refine ws_setM (im := 0) (i := 7) (f := n + 20) (c := 5) (S := fun d => ∃ ys : List Int, d = tI ys ∧ ys.length ≤ 6 ∧ isStands ys 1 k = true) (pvm_call1 (fn := .none) call_to (T_fr T) (PVM.imp (pvm_lc (xs := (List.range (k - 1).toNat).map fun i => (1 : Int) + (i : Nat)) (enc := .int) (fd := .int) (own := [("_law_stand", 8)]) (T := [8]) (by rw [intsD_map]; exact iv_range2 pv_int (pv_var (i := 3) rfl) ⟨by omega, by omega, by omega, by omega⟩ (T_fr T)) sc76.nd (blkOk_by (N := N76) (sc := defScope (top 76)) (by decide +kernel)) (by rw [ints_len, sizeLine_eq]; omega) (by decide) (by decide) (fun x _ _ _ _ _ _ => pgd_name (i := 8) sc76.nd) (fun x _ _ _ _ _ _ => pbm_cmp (op_eqP (hu64 hr)) (pvm_draw T hr pv_int (by decide) (by decide)) (PV.mm pv_int) fun d1 d2 h1 h2 => ?_) (fun x _ _ _ _ _ _ => pv_var (i := 8) rfl)) (fun d h => h) (by rw [ints_len]; omega)) fun d1 h1 => ?_) eD.gm.sub s' h0' (m'.mono (by omega)) sc76.nd fun v7 d7 G7 H7 g7 m7 k7 z7 s7 => ?_
  · obtain ⟨r, rfl, _⟩ := h1
    subst h2
    exact ⟨_, dr_eq (by simp [PyData.depth])⟩
  · obtain ⟨ys, hy, rfl⟩ := h1
    refine ⟨tI ys, drc_tupL, ys, rfl, ?_, ?_⟩
    · have := hy.length_le
      rw [ints_len] at this
      omega
    · have := stands_sub hy
      rwa [show (1 : Int) + ((k - 1).toNat : Nat) = k by omega] at this
  obtain ⟨up, rfl, hup1, hup2⟩ := z7
  have h07 : (σ'.set 7 (some v7))[0]? = some (some (.ref am)) := by rw [List.getElem?_set_ne (by decide)]; exact h0'
  have h47 : (σ'.set 7 (some v7))[4]? = some (some (.ref dd)) := by rw [List.getElem?_set_ne (by decide)]; exact h4'
  have eD7 := eD10.go g7
  -- deaf
  refine ws_setM (im := 0) (i := 9) (f := n + 10) (c := 6) (S := fun d => ∃ ys : List Int, d = tI ys ∧ ys.length ≤ 6 ∧ isStands ys 0 k = true) (pvm_call1 (fn := .none) call_to (T_fr T) (PVM.imp (pvm_lc (xs := (List.range k.toNat).map fun i => (0 : Int) + (i : Nat)) (enc := .int) (fd := .int) (own := [("_law_stand", 8)]) (T := [8]) (by rw [intsD_map]; exact iv_range1 (pv_var (i := 3) rfl) (by omega) (by omega) (T_fr T)) sc76.nd (blkOk_by (N := N76) (sc := defScope (top 76)) (by decide +kernel)) (by rw [ints_len, sizeLine_eq]; omega) (by decide) (by decide) (fun x _ _ _ _ _ _ => pgd_name (i := 8) sc76.nd) (fun x _ _ _ _ _ _ => pbm_cmp (op_eqP (hu64 hr)) (pvm_draw T hr pv_int (by decide) (by decide)) (PV.mm pv_int) fun d1 d2 h1 h2 => ?_) (fun x _ _ _ _ _ _ => pv_var (i := 8) rfl)) (fun d h => h) (by rw [ints_len]; omega)) fun d1 h1 => ?_) g7.sub s7 h07 (m7.mono (by omega)) sc76.nd fun v8 d8 G8 H8 g8 m8 k8 z8 s8 => ?_
  · obtain ⟨r, rfl, _⟩ := h1
    subst h2
    exact ⟨_, dr_eq (by simp [PyData.depth])⟩
  · obtain ⟨ys, hy, rfl⟩ := h1
    refine ⟨tI ys, drc_tupL, ys, rfl, ?_, ?_⟩
    · have := hy.length_le
      rw [ints_len] at this
      omega
    · have := stands_sub hy
      rwa [show (0 : Int) + (k.toNat : Nat) = k by omega] at this
  obtain ⟨df, rfl, hdf1, hdf2⟩ := z8
  have h48 : ((σ'.set 7 (some v7)).set 9 (some v8))[4]? = some (some (.ref dd)) := by rw [List.getElem?_set_ne (by decide)]; exact h47
  have eD8 := eD7.go g8
  -- the book
  refine ws_retE (wE_of (pe_tup (pa_cons pe_w (pa_cons pe_w (pa_cons pe_w (pa_cons (pe_callTy call_to rfl (T_fr T) (by decide +kernel) (pa_cons (pe_callB (cr_sortD (hu64 hr)) rfl (T_fr T) (by decide +kernel) (pa_cons (pe_callTy (call_list_dN rfl) rfl (T_fr T) (by decide +kernel) (pa_cons (L2.pv 4) pa_nil)) pa_nil)) pa_nil)) pa_nil))))) ?_)
  refine PV.go (pv_var (i := 3) (d := .int k) rfl) g8.sub s8 fun w1 G9 H9 g9 k9 => ?_
  refine PV.go (pv_var (i := 7) (d := tI up) rfl) g9.sub (s8.gr g9) fun w2 Ga Ha ga ka => ?_
  refine PV.go (pv_var (i := 9) (d := tI df) rfl) ga.sub (s8.gr (g9.trans ga)) fun w3 Gb Hb gb kb => ?_
  have eDb := eD8.go (g9.trans (ga.trans gb)).m
  obtain ⟨xs, q1, q2, q3⟩ := eDb.xs
  have hlen : xs.length = es.length := by
    have := congrArg List.length q2
    simpa using this
  have hel := eDb.len
  refine ⟨.ref dd, h48, dd, xs, rfl, q1, fun _ p hp => ?_⟩
  have gp := Gr.more (o := .lst (xs.map fun x => V.ref x.2)) gb.sub hp
  have hkd : ∀ (xs : List (NestedKey × Addr)) (es : List Edge), KeysIn K Gb xs → xs.map (·.1) = es.map keyE → DpAll K Gb (xs.map fun x => V.ref x.2) (es.map encE) := by
    intro xs
    induction xs with
    | nil => intro es _ h; cases es with
      | nil => exact .nil
      | cons _ _ => simp at h
    | cons x r ih => intro es hk h; cases es with
      | nil => simp at h
      | cons y t =>
        rw [List.map_cons, List.map_cons] at h
        injection h with h1 h2
        refine .cons ?_ (ih t (fun z hz => hk z (List.mem_cons_of_mem _ hz)) h2)
        have := (hk x List.mem_cons_self).1
        rw [h1, keyE_data] at this
        exact this
  have hda := hkd xs es q3 q2
  refine ⟨p, xs.map (fun x : NestedKey × Addr => V.ref x.2), es.map encE, rfl, SqL.of upd_same, DpAll.same gp.sub hda, ?_, ?_, ?_, ?_, fun p2 zs hp2 hzs hpm hpw => ?_⟩
  · intro d hd d' hd'
    obtain ⟨x, _, rfl⟩ := List.mem_map.mp hd
    obtain ⟨y, _, rfl⟩ := List.mem_map.mp hd'
    exact encE_alike x y
  · refine .inl fun d hd => ?_
    obtain ⟨x, _, rfl⟩ := List.mem_map.mp hd
    exact ⟨_, _, rfl⟩
  · intro d hd
    obtain ⟨x, hx, rfl⟩ := List.mem_map.mp hd
    have ha : ∀ a ∈ asksL, (PyData.tuple (a.map .str)).depth ≤ 5 := by decide +kernel
    have := ha _ (eDb.ve x hx).asks
    unfold encE
    simp only [PyData.depth, PyData.depthAll] at this ⊢
    omega
  · rw [List.length_map, sizeLine_eq]
    omega
  obtain ⟨es', he1, he2⟩ := edges_sorted (n := 10) (by omega) eDb.ve eDb.nd hpm hpw
  have hdz := dpAll_unzip (K := K) (H := Gb) (zs := zs) fun z hz => dpAll_zip hda z (hzs.mem_iff.mp hz)
  have gp2 := Gr.more (o := .lst (zs.map (·.1))) gp.sub hp2
  refine ⟨p2, zs.map (·.1), rfl, .inl ⟨SqL.of upd_same, fun l hl => ?_⟩⟩
  have gl := Gr.upd (o := .tup (zs.map (·.1))) gp2.sub hl
  refine ⟨by show 4 ≤ sizeLine; decide, fun pT hT => ?_⟩
  have gT := Gr.upd (o := .tup [w1, w2, w3, .ref l]) gl.sub hT
  have gE : Gr Gb Hb _ _ := gp.trans (gp2.trans (gl.trans gT))
  refine hq _ _ _ _ (eDb.gm.trans gE.m) ((((m8.go (g9.trans (ga.trans gb))).go gE).mono (by omega))) (.tup (SqT.of upd_same) (.cons (k9.gr (ga.trans (gb.trans gE))) (.cons (ka.gr (gb.trans gE)) (.cons (kb.gr gE) (.cons (Dp.gr gT (.tup (SqT.of upd_same) (DpAll.gr (gp.trans (gp2.trans gl)) hdz))) .nil))))) ⟨k, up, df, es', ⟨hk1, hk6, hup1, hdf1, hup2, hdf2, he2⟩, by rw [he1]⟩
end
end Wk
end G21_text
section G22_text
set_option maxRecDepth 100000
set_option maxHeartbeats 2000000
namespace Wk
open PySem PySem.Spec PyProof.Rows L2 DL LamX
open PySem.W (alike dataLt AllAlike Sortable)
section
variable {P : Program} {w : World} {K : PySem.W.Frag} {mg : Str → Option Value} {base : Heap}
def namesL : List Str := ["a", "bus", "go", "up"]
def nmI (i : Int) : Str := namesL.getD i.toNat ""
theorem nmI_inj : ∀ i : Nat, i < 4 → ∀ j : Nat, j < 4 → nmI i = nmI j → i = j := by decide +kernel
theorem nmI_mem {i : Int} (h0 : 0 ≤ i) (h4 : i < 4) : nmI i ∈ namesL := by
  have h : ∀ i : Nat, i < 4 → nmI i ∈ namesL := by decide +kernel
  have := h i.toNat (by omega)
  rwa [show ((i.toNat : Nat) : Int) = i by omega] at this
theorem strs_of : ∀ {ds : List PyData}, (∀ d ∈ ds, ∃ x, x ∈ namesL ∧ d = .str x) → ∃ ns : List Str, ds = ns.map .str ∧ ∀ x ∈ ns, x ∈ namesL
  | [], _ => ⟨[], rfl, fun _ h => nomatch h⟩
  | d :: ds, h => by
    obtain ⟨x, hx, rfl⟩ := h d List.mem_cons_self
    obtain ⟨es, rfl, hes⟩ := strs_of fun d hd => h d (List.mem_cons_of_mem _ hd)
    refine ⟨x :: es, rfl, fun y hy => ?_⟩
    rcases List.mem_cons.mp hy with rfl | hy
    · exact hx
    · exact hes y hy
def slt (x y : Str) : Bool := dataLt (.str x) (.str y)
theorem slt_tri (x y : Str) (h : x ≠ y) : slt x y = true ∨ slt y x = true := dataLt_tri (by simp [alike]) (by simp [PyData.eqv, h])
structure NamesOk (ns : List Str) : Prop where
  one : 1 ≤ ns.length
  three : ns.length ≤ 3
  mem : ∀ x ∈ ns, x ∈ namesL
  asc : ns.Pairwise fun a b => slt a b = true
structure OrdOk (js : List Int) : Prop where
  one : 1 ≤ js.length
  three : js.length ≤ 3
  nd : js.Nodup
  mem : ∀ i ∈ js, 0 ≤ i ∧ i < 4
theorem nm_nodup : ∀ {js : List Int}, js.Nodup → (∀ i ∈ js, 0 ≤ i ∧ i < 4) → (js.map nmI).Nodup
  | [], _, _ => List.nodup_nil
  | i :: js, h, hm => by
    rw [List.nodup_cons] at h
    rw [List.map_cons, List.nodup_cons]
    refine ⟨fun hx => ?_, nm_nodup h.2 fun j hj => hm j (List.mem_cons_of_mem _ hj)⟩
    obtain ⟨j, hj, e⟩ := List.mem_map.mp hx
    have h1 := hm i List.mem_cons_self
    have h2 := hm j (List.mem_cons_of_mem _ hj)
    have := nmI_inj j.toNat (by omega) i.toNat (by omega) (by rw [show ((j.toNat : Nat) : Int) = j by omega, show ((i.toNat : Nat) : Int) = i by omega]; exact e)
    exact h.1 (by rw [show i = j by omega]; exact hj)
theorem names_sorted {js : List Int} (h : OrdOk js) {es : List PyData} (hp : es.Perm (js.map fun i => .str (nmI i))) (hs : es.Pairwise fun a b => dataLt b a = false) : ∃ ns, es = ns.map .str ∧ NamesOk ns := by
  obtain ⟨ns, rfl, hm⟩ := strs_of (ds := es) fun d hd => by
    obtain ⟨i, hi, e⟩ := List.mem_map.mp (hp.mem_iff.mp hd)
    exact ⟨nmI i, nmI_mem (h.mem i hi).1 (h.mem i hi).2, e.symm⟩
  have hl := hp.length_eq
  rw [List.length_map, List.length_map] at hl
  have hnd : (ns.map PyData.str).Nodup := by
    refine hp.nodup_iff.mpr ?_
    rw [show (js.map fun i => PyData.str (nmI i)) = (js.map nmI).map .str by rw [List.map_map] <;> rfl]
    exact map_nodup (fun _ _ e => by injection e) (nm_nodup h.nd h.mem)
  rw [List.pairwise_map] at hs
  exact ⟨ns, rfl, by have := h.one; omega, by have := h.three; omega, hm, asc_of (lt := slt) slt_tri hs (nodup_of_map hnd)⟩
/-- a drawn kind among these names -/
structure KdOk (ns : List Str) (x : Kd) : Prop where
  nm : x.name ∈ ns
  book : BookOk x.k x.up x.deaf x.edges
  below : x.below.Sublist ns
structure HouseOk (h : List Kd) : Prop where
  names : NamesOk (h.map (·.name))
  kds : ∀ x ∈ h, KdOk (h.map (·.name)) x
abbrev N77 : List Str := ["_law_m", "_law_kinds", "_law_stands", "_law_most", "_law_names", "_law_at", "_law_found", "_law_name", "_law_below", "_law_low"]
theorem sc77 : FnScope N77 ["_law_m", "_law_kinds", "_law_stands", "_law_most"] (defScope (top 77)) := ⟨rfl, rfl, rfl, by decide +kernel, rfl, by decide +kernel, by decide +kernel⟩
abbrev rho77 (st : Int) (ns : List Str) : Rho := [none, some (.int 3), some (.int st), some (.int 5), some (.list (ns.map .str)), none, none, none, none, none]
theorem take_all_map {ks : List Kd} {ns : List Str} {i : Nat} {x : Kd} {nm : Str} (h : ks.map (·.name) = ns.take i) (hn : ns[i]? = some nm) (hx : x.name = nm) : (ks ++ [x]).map (·.name) = ns.take (i + 1) := by
  rw [List.take_succ, hn, List.map_append, h]
  simp [hx]
theorem ok_law_house (T : Txt P K mg) : DefOk P w K mg base 8 "_law_house" (spM K 3 256 (fun ds => ∃ st : Int, ds = [.int 3, .int st, .int 5] ∧ 1 ≤ st ∧ st ≤ 6) fun _ d => ∃ h, HouseOk h ∧ d = encH h) := by
  refine def_raw T (i := 77) (N := N77) (ps := ["_law_m", "_law_kinds", "_law_stands", "_law_most"]) (by decide +kernel) sc77 (fun _ _ _ _ _ _ us hl => match us, hl with | [_, _, _, _], _ => rfl) (spM_len rfl) ?_
  intro f cdv A outer s H E vs Q hr hsp
  obtain ⟨am, ws, ds, G, n, rfl, hl, u, hd, ⟨st, rfl, hs1, hs6⟩, m, hq⟩ := hsp
  have s0 : SD K G (L2.start N77 (V.ref am :: ws)) [none, some (.int 3), some (.int st), some (.int 5), none, none, none, none, none, none] := sdM hd
  have hsz : ∀ js, OrdOk js → js.length ≤ sizeLine := fun js h => by rw [sizeLine_eq]; have := h.three; omega
  refine ws_setM (im := 0) (i := 4) (f := n + 251) (c := 5) (S := fun d => ∃ ns, NamesOk ns ∧ d = .list (ns.map .str)) (pvm_sorted (hu64 hr) (T_fr T) (PVM.imp (pvm_lcI (Si := OrdOk) (enc := .int) (f := fun i => .str (nmI i)) (own := [("_law_at", 5)]) (T := [5]) (c := 4 + (0 + 1)) (pvm_slTo (pvm_call (ok_law_order T) (hr.mono (by decide)) (PVs.mm (pvs_cons pv_int pvs_nil)) (fun ds h => ⟨by rw [h] <;> rfl, h⟩)) (pvm_bin (S := fun d => ∃ i : Int, d = .int i ∧ 1 ≤ i ∧ i ≤ 3) op_add (PV.mm pv_int) (pvm_draw T hr (pv_var (i := 1) rfl) (by decide) (by decide)) (fun d1 d2 h1 h2 => ?_)) (fun d1 d2 h1 h2 => ?_)) sc77.nd (blkOk_by (N := N77) (sc := defScope (top 77)) (by decide +kernel)) hsz (by decide) (fun _ _ x _ _ _ _ _ _ => pgd_name (i := 5) sc77.nd) (fun js hjs x hx _ _ _ _ _ => ?_)) (fun d h => h)) (fun d1 h1 => ?_)) u s0 rfl (m.mono (by omega)) sc77.nd fun v4 d4 G1 H1 g1 m1 k1 z1 s1 => ?_
  · obtain ⟨r, rfl, r0, r1⟩ := h2
    subst h1
    exact ⟨.int (1 + r), dr_II, 1 + r, rfl, by omega, by omega⟩
  · obtain ⟨ds, _, ns, hp, rfl⟩ := h1
    obtain ⟨i, rfl, i1, i3⟩ := h2
    have hlen := hp.length_eq
    simp only [List.length_cons, List.length_nil] at hlen
    refine ⟨_, i, rfl, rfl, ns.take i.toNat, ⟨by rw [List.length_take]; omega, by rw [List.length_take]; omega, (hp.nodup_iff.mpr (by decide)).sublist (List.take_sublist _ _), fun j hj => ?_⟩, ?_⟩
    · have hj2 := hp.mem_iff.mp (List.mem_of_mem_take hj)
      simp only [List.mem_cons, List.not_mem_nil, or_false] at hj2
      omega
    · have e := cutD_to (ns.map .int) i.toNat
      rw [show ((i.toNat : Nat) : Int) = i by omega] at e
      rw [e, List.map_take]
  · have hx4 := hjs.mem x hx
    refine pv_ixL (i := x) (pv_lst (pvs_cons pv_str (pvs_cons pv_str (pvs_cons pv_str (pvs_cons pv_str pvs_nil))))) (pv_var (i := 5) rfl) ?_
    have h : ∀ i : Nat, i < 4 → L2.atI (namesL.map PyData.str) (i : Int) = some (.str (nmI i)) := fun i hi => by
      refine DL.atI_nat ?_
      rw [List.getElem?_map]
      unfold nmI
      have e2 : namesL[i]? = some (namesL.getD i "") := by
        rw [List.getD_eq_getElem?_getD]
        have : i < namesL.length := hi
        rw [List.getElem?_eq_getElem this] <;> rfl
      rw [e2]
      simp
    have := h x.toNat (by omega)
    rw [show ((x.toNat : Nat) : Int) = x by omega] at this
    exact this
  · obtain ⟨js, hjs, rfl⟩ := h1
    refine ⟨_, rfl, ?_, ?_, ?_, by rw [List.length_map]; exact hsz js hjs, fun es hp hs => ?_⟩
    · intro d hd d' hd'
      obtain ⟨x, _, rfl⟩ := List.mem_map.mp hd
      obtain ⟨y, _, rfl⟩ := List.mem_map.mp hd'
      simp [alike]
    · refine .inr fun d hd => ?_
      obtain ⟨x, _, rfl⟩ := List.mem_map.mp hd
      exact ⟨(fun z => nomatch z), (fun xs z => nomatch z)⟩
    · intro d hd
      obtain ⟨x, _, rfl⟩ := List.mem_map.mp hd
      simp [PyData.depth]
    · obtain ⟨ns, e, hn⟩ := names_sorted hjs hp hs
      exact ⟨ns, hn, by rw [e]⟩
  obtain ⟨ns, hns, rfl⟩ := z1
  have hn3 := hns.three
  have hσl := s1.1
  have h01 : ((L2.start N77 (V.ref am :: ws)).set 4 (some v4))[0]? = some (some (.ref am)) := by rw [List.getElem?_set_ne (by decide)] <;> rfl
  -- _law_found = []
  refine ws_setE (i := 6) sc77.nd (wE_of (pe_lst pa_nil) ⟨by decide, fun fo hf0 => ?_⟩)
  have hfam : fo ≠ am := fun z => m1.some (by rw [← z]; exact hf0)
  have h0f : H fo = none := g1.free hf0
  have hGf : G1 fo = none := L2.Same.free g1.sub hf0
  have gm0 : Gm am G H G1 (L2.upd H1 fo (.lst [])) := g1.mut h0f hGf
  have s2 : SD K G1 (((L2.start N77 (V.ref am :: ws)).set 4 (some v4)).set 6 (some (.ref fo))) (rho77 st ns) := s1.setN (o := some (.ref fo)) 6
  have h62 : (((L2.start N77 (V.ref am :: ws)).set 4 (some v4)).set 6 (some (V.ref fo)))[6]? = some (some (.ref fo)) := by rw [List.getElem?_set_self (by rw [hσl]; show 6 < 10; decide)]
  have h02 : (((L2.start N77 (V.ref am :: ws)).set 4 (some v4)).set 6 (some (V.ref fo)))[0]? = some (some (.ref am)) := by rw [List.getElem?_set_ne (by decide)]; exact h01
  refine ws_for (ρ := rho77 st ns) (iv_list (ds := ns.map .str) (pv_var (i := 4) rfl)) gm0.sub s2 cxOwn fun G2 H2 g2 => ?_
  refine ⟨fun i σ' G' H' => ∃ (ks : List Kd) (vs : List V), SD K G' σ' (rho77 st ns) ∧ σ'[0]? = some (some (.ref am)) ∧ σ'[6]? = some (some (.ref fo)) ∧ Same G2 G' ∧ Gm am G H G' H' ∧ H' fo = some (.lst vs) ∧ G' fo = none ∧ DpAll K G' vs (ks.map encKd) ∧ ks.map (·.name) = ns.take i ∧ (∀ x ∈ ks, KdOk ns x) ∧ Mst K G' H' am (n + (201 - 67 * i)), ?_, fun i σ' G' H' ⟨ks, vs, _, _, _, h1, h2, _⟩ => ⟨h2.sub, h1⟩, ?_, ?_⟩
  · obtain ⟨e1, e2⟩ := Gr.own g2 (show L2.upd H1 fo (.lst []) fo = some (.lst []) from upd_same) hGf
    exact ⟨[], [], s2.gr g2, h02, h62, L2.Same.refl _, gm0.trans g2.m, e1, e2, .nil, by simp, fun _ h => (nomatch h), ((m1.mut hfam).go g2).mono (by omega)⟩
  · rintro i y σ' G' H' v' G3 H3 ⟨ks, vs, s', h0', h6', hG', gm', hc, gc, hvs, hks, hok, m'⟩ hy g3 hv
    rw [List.getElem?_map] at hy
    obtain ⟨nm, hnm, rfl⟩ : ∃ nm, ns[i]? = some nm ∧ y = .str nm := by
      cases e : ns[i]? with
      | none => rw [e] at hy; cases hy
      | some b => rw [e] at hy; exact ⟨b, rfl, (Option.some.inj hy).symm⟩
    have hi3 : i < 3 := by
      have := (List.getElem?_eq_some_iff.mp hnm).1
      omega
    refine PGD.go (pgd_name (i := 7) sc77.nd) g3.sub (s'.gr g3) hv fun σ2 t2 s2 => ?_
    have h02 : σ2[0]? = some (some (.ref am)) := by rw [t2.2 0 (by decide)]; exact h0'
    have h62 : σ2[6]? = some (some (.ref fo)) := by rw [t2.2 6 (by decide)]; exact h6'
    -- below
    refine ws_setM (im := 0) (i := 8) (f := n + (201 - 67 * (i + 1)) + 64) (c := 3) (S := fun d => ∃ ys : List Str, d = tS ys ∧ ys.Sublist ns) (pvm_call1 (fn := .none) call_to (T_fr T) (PVM.imp (pvm_lc (xs := ns) (enc := .str) (fd := .str) (own := [("_law_low", 9)]) (T := [9]) (iv_list (pv_var (i := 4) rfl)) sc77.nd (blkOk_by (N := N77) (sc := defScope (top 77)) (by decide +kernel)) (by rw [sizeLine_eq]; omega) (by decide) (by decide) (fun x _ _ _ _ _ _ => pgd_name (i := 9) sc77.nd) (fun x _ _ _ _ _ _ => pbm_cmp op_gt (pvm_draw T hr pv_int (by decide) (by decide)) (PV.mm pv_int) fun d1 d2 h1 h2 => ?_) (fun x _ _ _ _ _ _ => pv_var (i := 9) rfl)) (fun d h => h) hn3) fun d1 h1 => ?_) g3.sub s2 h02 ((m'.go g3).mono (by omega)) sc77.nd fun v8 d8 G4 H4 g4 m4 k4 z4 s4 => ?_
    · obtain ⟨r, rfl, _⟩ := h1
      subst h2
      exact ⟨_, dr_IB⟩
    · obtain ⟨ys, hy, rfl⟩ := h1
      exact ⟨tS ys, drc_tupL, ys, rfl, hy⟩
    obtain ⟨bl, rfl, hbl⟩ := z4
    have h04 : (σ2.set 8 (some v8))[0]? = some (some (.ref am)) := by rw [List.getElem?_set_ne (by decide)]; exact h02
    have h64 : (σ2.set 8 (some v8))[6]? = some (some (.ref fo)) := by rw [List.getElem?_set_ne (by decide)]; exact h62
    obtain ⟨hc3, gc3⟩ := Gr.own g3 hc gc
    obtain ⟨hc4, gc4⟩ := g4.own hc3 gc3 hfam
    refine ws_exprE (wE_of (pe_bm PySem.F.plainAttrs_list PySem.F.slot_list_append PySem.F.type_list_append mt_append (L2.pv 6) (pa_cons (pe_tup (pa_cons pe_w (pa_cons (pe_tup (pa_cons pe_w (pa_cons pe_w pa_nil))) pa_nil))) pa_nil)) ?_)
    refine ⟨.ref fo, h64, .inl ⟨rfl, vs, SqL.of hc4⟩, ?_⟩
    refine PV.go (pv_var (i := 7) (d := .str nm) rfl) g4.sub s4 fun w1 G5 H5 g5 k5 => ?_
    refine PVM.go (im := 0) (f := n + (201 - 67 * (i + 1))) (pvm_call (ok_law_book T) (hr.mono (by decide)) (PVs.mm (pvs_cons (pv_var (i := 2) rfl) (pvs_cons (pv_var (i := 3) rfl) pvs_nil))) (fun ds h => ⟨by rw [h] <;> rfl, st, h, hs1, hs6⟩)) g5.sub (s4.gr g5) h04 ((m4.go g5).mono (by omega)) fun w2 d2 G6 H6 g6 m6 k6 z6 => ?_
    obtain ⟨_, _, k, up, df, es, hb, rfl⟩ := z6
    refine PV.go (pv_var (i := 8) (d := tS bl) rfl) g6.sub ((s4.gr g5).gm g6) fun w3 G7 H7 g7 k7 => ?_
    refine ⟨by show 2 ≤ sizeLine; decide, fun pA hA => ?_⟩
    have gA := Gr.upd (o := .tup [w2, w3]) g7.sub hA
    refine ⟨by show 2 ≤ sizeLine; decide, fun pB hB => ?_⟩
    have gB := Gr.upd (o := .tup [w1, .ref pA]) gA.sub hB
    have kB : Dp K _ (.ref pB) (encKd ⟨nm, k, up, df, es, bl⟩) := .tup (SqT.of (show (L2.upd (L2.upd G7 pA (.tup [w2, w3])) pB (.tup [w1, .ref pA])) pB = _ from upd_same)) (.cons (Dp.gr (gA.trans gB) (Dp.gr g7 (Dp.gm g6 k5))) (.cons (Dp.gr gB (.tup (SqT.of upd_same) (.cons (Dp.gr gA (Dp.gr g7 k6)) (.cons (Dp.gr gA k7) .nil)))) .nil))
    have gAll := g5.m.trans (g6.trans (g7.trans (gA.trans gB)).m)
    obtain ⟨hc7, gc7⟩ := gAll.own hc4 gc4 hfam
    have hvl := DpAll.length hvs
    have hkl := congrArg List.length hks
    rw [List.length_map, List.length_take] at hkl
    rw [List.length_map] at hvl
    refine ⟨fo, vs, .ref pB, rfl, rfl, hc7, by rw [sizeLine_eq]; omega, ws_nil ?_⟩
    refine ⟨_, ks ++ [⟨nm, k, up, df, es, bl⟩], vs ++ [.ref pB], ?_, h04, h64, ?_, (((gm'.trans g3.m).trans g4).trans gAll).mut h0f gc7, upd_same, gc7, ?_, take_all_map hks hnm rfl, fun x hx => ?_, ((m6.go (g7.trans (gA.trans gB))).mut hfam)⟩
    · exact (s4.gm gAll).forget ⟨.inr rfl, .inr rfl, .inr rfl, .inr rfl, .inr rfl, .inl rfl, .inl rfl, .inl rfl, .inl rfl, .inl rfl, trivial⟩
    · exact hG'.trans (g3.gg.trans (g4.gg.trans gAll.gg))
    · rw [List.map_append]
      exact DpAll.app (DpAll.same (g3.gg.trans (g4.gg.trans gAll.gg)) hvs) (.cons kB .nil)
    · rcases List.mem_append.mp hx with hx | hx
      · exact hok x hx
      · rw [List.mem_singleton.mp hx]
        exact ⟨List.mem_of_getElem? hnm, hb, hbl⟩
  · rintro σ' G' H' ⟨ks, vs, s', h0', h6', hG', gm', hc, gc, hvs, hks, hok, m'⟩
    rw [List.length_map, List.take_length] at hks
    refine ws_retE (wE_of (pe_callTy call_to rfl (T_fr T) (by decide +kernel) (pa_cons (L2.pv 6) pa_nil)) ⟨.ref fo, h6', fo, vs, rfl, .inl ⟨SqL.of hc, fun l hl => ?_⟩⟩)
    have gl := Gr.upd (o := .tup vs) gm'.sub hl
    exact hq _ _ _ _ (gm'.trans gl.m) ((m'.go gl).mono (by omega)) (.tup (SqT.of upd_same) (DpAll.gr gl hvs)) ⟨ks, ⟨by rw [hks]; exact hns, fun x hx => by rw [hks]; exact hok x hx⟩, rfl⟩
end
end Wk
end G22_text
section P5_text
set_option maxRecDepth 100000
set_option maxHeartbeats 2000000
namespace Wk
open PySem PySem.Spec PyProof.Rows L2 DL
open PySem.W (alike dataLt)
/-! ### drawn houses are houses -/
theorem name_word : ∀ x ∈ namesL, isWord x = true := by decide +kernel
theorem name_len : ∀ x ∈ namesL, x.length ≤ 8 := by decide +kernel
theorem asks_len2 : ∀ a ∈ asksL, a.length ≤ 2 ∧ ∀ x ∈ a, x.length ≤ 8 := by decide +kernel
theorem deed_len : ∀ d ∈ deedsS, d.length ≤ 8 := by decide +kernel
theorem below_ok {bs ns : List Str} (h : bs.Sublist ns) (hn : NamesOk ns) : isBelow bs ns = true := by
  unfold isBelow
  rw [Bool.and_eq_true]
  exact ⟨List.all_eq_true.mpr fun x hx => decide_eq_true (h.mem hx), ascD_of (hn.asc.sublist h)⟩
theorem kd_ok {i : Nat} {x : Kd} {ns : List Str} (h : KdOk ns x) (hn : NamesOk ns) : badKind i x ns = none := by
  have hb := h.book
  unfold badKind
  rw [if_pos (show inR 1 6 x.k = true by unfold inR; have := hb.k1; have := hb.k6; simp only [Bool.and_eq_true, decide_eq_true_eq]; omega), if_pos hb.ups, if_pos hb.dfs, if_pos (show x.edges.length ≤ 24 by have := hb.es.len; omega), hb.es.bad]
  show (if isBelow x.below ns = true then _ else _) = _
  rw [if_pos (below_ok h.below hn)]
theorem house_ok {h : List Kd} (hh : HouseOk h) : needH h = none := by
  have hn := hh.names
  have h1 := hn.one
  have h3 := hn.three
  rw [List.length_map] at h1 h3
  unfold needH
  rw [if_pos ⟨h1, h3⟩]
  have e1 : badPair h = none := by
    refine fb_none fun i x hx => ?_
    rw [Nat.zero_add]
    unfold pairOk
    rw [name_word _ (hn.mem _ (List.mem_map_of_mem (List.mem_of_getElem? hx))), Bool.true_and]
    by_cases h0 : i = 0
    · rw [decide_eq_true h0, Bool.true_or]
    · rw [decide_eq_false h0, Bool.false_or]
      cases hy : h[i - 1]? with
      | none => rfl
      | some y =>
        have hp := hn.asc
        rw [List.pairwise_map] at hp
        exact pw_get hp h0 hx hy
  rw [e1]
  show badKinds h = none
  unfold badKinds
  rw [fb_none (p := fun i x => (badKind i x (h.map (·.name))).isNone) fun i x hx => by rw [kd_ok (hh.kds x (List.mem_of_getElem? hx)) hn] <;> rfl]
theorem fit_le {n : Nat} (h : n ≤ 100) : n ≤ big := by rw [big_eq]; omega
theorem house_fit {h : List Kd} (hh : HouseOk h) : h.length ≤ big ∧ ∀ x ∈ h, KdFit x := by
  have hn := hh.names
  have h3 := hn.three
  rw [List.length_map] at h3
  refine ⟨fit_le (by omega), fun x hx => ?_⟩
  have hk := hh.kds x hx
  have hb := hk.book
  have hl := hk.below.length_le
  rw [List.length_map] at hl
  refine ⟨fit_le ?_, fit_le ?_, fit_le ?_, fit_le ?_, fun e he => fit_le ?_, fit_le ?_⟩
  · have := name_len _ (hn.mem _ hk.nm); omega
  · have := hb.upl; omega
  · have := hb.dfl; omega
  · have := hb.es.len; omega
  · have := (asks_len2 _ (hb.es.ve e he).asks).1; omega
  · omega
/-! ### the text of a house -/
inductive Wd where
  | n (i : Int)
  | t (x : Str)
def txtI (i : Int) : Str := toString i
def Wd.enc : Wd → PyData
  | .n i => .int i
  | .t x => .str x
def Wd.txt : Wd → Str
  | .n i => txtI i
  | .t x => x
def Wd.ok : Wd → Prop
  | .n i => 0 ≤ i ∧ i < 100
  | .t x => x.length ≤ 8
theorem txtI_len : ∀ i : Nat, i < 100 → (txtI (i : Int)).length ≤ 8 := by decide +kernel
theorem Wd.len {w : Wd} (h : w.ok) : w.txt.length ≤ 8 := by
  cases w with
  | n i =>
    have := txtI_len i.toNat (by have := h.2; omega)
    rwa [show ((i.toNat : Nat) : Int) = i by have := h.1; omega] at this
  | t x => exact h
def spW (ws : List Wd) : Str := Txt.join " " (ws.map Wd.txt)
theorem sum_le {xs : List Str} {n : Nat} (h : ∀ x ∈ xs, x.length ≤ n) : (xs.map (·.length)).sum ≤ xs.length * n := by
  induction xs with
  | nil => simp
  | cons x xs ih =>
    have h1 := h x List.mem_cons_self
    have h2 := ih fun y hy => h y (List.mem_cons_of_mem _ hy)
    rw [List.map_cons, List.sum_cons, List.length_cons, Nat.succ_mul]
    omega
theorem join_le {y : Str} {xs : List Str} {n m k : Nat} (h : ∀ x ∈ xs, x.length ≤ n) (hy : y.length ≤ m) (hl : xs.length ≤ k) : (Txt.join y xs).length ≤ k * (n + m) := by
  rw [TL.join_eq]
  have h1 := StrLaws.join_length_le y xs
  have h2 := sum_le h
  have h3 : xs.length * y.length ≤ xs.length * m := Nat.mul_le_mul_left _ hy
  have h4 : xs.length * (n + m) ≤ k * (n + m) := Nat.mul_le_mul_right _ hl
  rw [Nat.mul_add] at h4
  omega
theorem spW_len {ws : List Wd} (h : ∀ w ∈ ws, w.ok) (hl : ws.length ≤ 16) : (spW ws).length ≤ 144 := by
  have := join_le (y := " ") (xs := ws.map Wd.txt) (n := 8) (m := 1) (k := 16) (fun x hx => by
    obtain ⟨w, hw, rfl⟩ := List.mem_map.mp hx
    exact Wd.len (h w hw)) (by decide) (by rw [List.length_map]; exact hl)
  unfold spW
  omega
def edgeW (x : Edge) : List Wd := .n x.b :: .t x.deed :: .n x.e :: x.asks.map .t
def someLine (w : Str) (ws : List Wd) : List Str := match ws with
  | [] => []
  | _ => [spW (.t w :: ws)]
def headLine (x : Kd) : Str := spW [.t "kind", .t x.name, .n x.k]
def standLines (x : Kd) : List Str := someLine "up" (x.up.map .n) ++ someLine "deaf" (x.deaf.map .n)
def edgeLines (x : Kd) : List Str := x.edges.map fun e => spW (edgeW e)
def linesOf (x : Kd) : List Str := ((headLine x :: standLines x) ++ edgeLines x) ++ someLine "below" (x.below.map .t)
def textOf (h : List Kd) : Str := Txt.join "\n" (h.flatMap linesOf)
/-- small words all over -/
structure KdSm (x : Kd) : Prop where
  nm : x.name.length ≤ 8
  k0 : 0 ≤ x.k
  k1 : x.k < 100
  upl : x.up.length ≤ 8
  up : ∀ i ∈ x.up, 0 ≤ i ∧ i < 100
  dfl : x.deaf.length ≤ 8
  df : ∀ i ∈ x.deaf, 0 ≤ i ∧ i < 100
  esl : x.edges.length ≤ 10
  es : ∀ e ∈ x.edges, (∀ w ∈ edgeW e, w.ok) ∧ (edgeW e).length ≤ 16
  bll : x.below.length ≤ 8
  bl : ∀ y ∈ x.below, y.length ≤ 8
theorem stands_in {ys : List Int} {lo k : Int} (h : isStands ys lo k = true) (h0 : 0 ≤ lo) (hk : k ≤ 6) : ∀ i ∈ ys, 0 ≤ i ∧ i < 100 := fun i hi => by
  unfold isStands at h
  rw [Bool.and_eq_true] at h
  have := List.all_eq_true.mp h.1 i hi
  unfold inR at this
  simp only [Bool.and_eq_true, decide_eq_true_eq] at this
  omega
theorem edge_small {k : Int} {x : Edge} (h : VE k x) (hk : k ≤ 6) : (∀ w ∈ edgeW x, w.ok) ∧ (edgeW x).length ≤ 16 := by
  have ha := asks_len2 _ h.asks
  refine ⟨fun w hw => ?_, ?_⟩
  · have := h.b0
    have := h.b1
    have := h.e0
    have := h.e1
    unfold edgeW at hw
    rcases List.mem_cons.mp hw with rfl | hw
    · exact ⟨by omega, by omega⟩
    · rcases List.mem_cons.mp hw with rfl | hw
      · exact deed_len _ h.deed
      · rcases List.mem_cons.mp hw with rfl | hw
        · exact ⟨by omega, by omega⟩
        · obtain ⟨y, hy, rfl⟩ := List.mem_map.mp hw
          exact ha.2 y hy
  · unfold edgeW
    simp only [List.length_cons, List.length_map]
    omega
theorem house_small {h : List Kd} (hh : HouseOk h) : ∀ x ∈ h, KdSm x := fun x hx => by
  have hn := hh.names
  have h3 := hn.three
  rw [List.length_map] at h3
  have hk := hh.kds x hx
  have hb := hk.book
  have hl := hk.below.length_le
  rw [List.length_map] at hl
  have h1 := hb.k1
  have h6 := hb.k6
  exact ⟨name_len _ (hn.mem _ hk.nm), by omega, by omega, by have := hb.upl; omega, stands_in hb.ups (by decide) h6, by have := hb.dfl; omega, stands_in hb.dfs (by decide) h6, hb.es.len, fun e he => edge_small (hb.es.ve e he) h6, by omega, fun y hy => name_len _ (hn.mem _ (hk.below.mem hy))⟩
theorem someLine_len {w : Str} {ws : List Wd} (hw : w.length ≤ 8) (h : ∀ w ∈ ws, w.ok) (hl : ws.length ≤ 8) : (someLine w ws).length ≤ 1 ∧ ∀ x ∈ someLine w ws, x.length ≤ 144 := by
  cases ws with
  | nil => exact ⟨Nat.zero_le _, fun x hx => nomatch hx⟩
  | cons a r =>
    refine ⟨Nat.le_refl _, fun x hx => ?_⟩
    have e : x = spW (.t w :: a :: r) := List.mem_singleton.mp hx
    rw [e]
    refine spW_len (fun z hz => ?_) (by simp only [List.length_cons] at hl ⊢; omega)
    rcases List.mem_cons.mp hz with rfl | hz
    · exact hw
    · exact h z hz
theorem ns_ok {xs : List Int} (h : ∀ i ∈ xs, 0 ≤ i ∧ i < 100) : ∀ w ∈ xs.map Wd.n, w.ok := fun w hw => by
  obtain ⟨i, hi, rfl⟩ := List.mem_map.mp hw
  exact h i hi
theorem ts_ok {xs : List Str} (h : ∀ i ∈ xs, i.length ≤ 8) : ∀ w ∈ xs.map Wd.t, w.ok := fun w hw => by
  obtain ⟨i, hi, rfl⟩ := List.mem_map.mp hw
  exact h i hi
theorem lines_len {x : Kd} (h : KdSm x) : (linesOf x).length ≤ 14 ∧ ∀ l ∈ linesOf x, l.length ≤ 144 := by
  obtain ⟨u1, u2⟩ := someLine_len (w := "up") (by decide) (ns_ok h.up) (by rw [List.length_map]; exact h.upl)
  obtain ⟨d1, d2⟩ := someLine_len (w := "deaf") (by decide) (ns_ok h.df) (by rw [List.length_map]; exact h.dfl)
  obtain ⟨b1, b2⟩ := someLine_len (w := "below") (by decide) (ts_ok h.bl) (by rw [List.length_map]; exact h.bll)
  have he := h.esl
  refine ⟨?_, fun l hl => ?_⟩
  · unfold linesOf standLines edgeLines
    simp only [List.length_append, List.length_cons, List.length_map]
    omega
  · unfold linesOf at hl
    rcases List.mem_append.mp hl with hl | hl
    · rcases List.mem_append.mp hl with hl | hl
      · rcases List.mem_cons.mp hl with rfl | hl
        · refine spW_len (fun w hw => ?_) (by show 3 ≤ 16; decide)
          simp only [List.mem_cons, List.not_mem_nil, or_false] at hw
          rcases hw with rfl | rfl | rfl
          · show ("kind" : Str).length ≤ 8; decide
          · exact h.nm
          · exact ⟨h.k0, h.k1⟩
        · rcases List.mem_append.mp hl with hl | hl
          · exact u2 l hl
          · exact d2 l hl
      · obtain ⟨e, hm, rfl⟩ := List.mem_map.mp hl
        exact spW_len (h.es e hm).1 (h.es e hm).2
    · exact b2 l hl
theorem flat_le {α β : Type} {f : α → List β} {n : Nat} : ∀ {xs : List α}, (∀ x ∈ xs, (f x).length ≤ n) → (xs.flatMap f).length ≤ xs.length * n
  | [], _ => by simp
  | x :: xs, h => by
    have h1 := h x List.mem_cons_self
    have h2 := flat_le (xs := xs) fun y hy => h y (List.mem_cons_of_mem _ hy)
    rw [List.flatMap_cons, List.length_append, List.length_cons, Nat.succ_mul]
    omega
theorem text_small {h : List Kd} (hl : h.length ≤ 3) (hs : ∀ x ∈ h, KdSm x) : (h.flatMap linesOf).length ≤ 42 ∧ (∀ l ∈ h.flatMap linesOf, l.length ≤ 144) ∧ (textOf h).length ≤ 8192 := by
  have h1 : (h.flatMap linesOf).length ≤ h.length * 14 := flat_le fun x hx => (lines_len (hs x hx)).1
  have h2 : ∀ l ∈ h.flatMap linesOf, l.length ≤ 144 := fun l hm => by
    obtain ⟨x, hx, hm⟩ := List.mem_flatMap.mp hm
    exact (lines_len (hs x hx)).2 l hm
  refine ⟨by omega, h2, ?_⟩
  have := join_le (y := "\n") (n := 144) (m := 1) (k := 42) h2 (by decide) (by omega)
  unfold textOf
  omega
end Wk
end P5_text
section D14_text
set_option maxRecDepth 100000
set_option maxHeartbeats 2000000
namespace DL
open PySem PySem.Spec PyProof.Rows L2 StX
section
variable {X : Cx} {ρ : Rho} {tg iter tg1 iter1 elt : Expr} {pos : Pos}
def bI (X : Cx) (scope : Scope) (tg iter : Expr) : TI := fun σ H R => Blks X scope fun B => wI B tg iter σ H R
theorem pi_b {scope : Scope} (s : Shared) (H : Hp) (C : Addr) (cl : List (Str × Addr)) (fp : List Addr) : PI (X.blk s H scope (compEnvC scope cl C X.env) fp) tg iter (bI X scope tg iter) := ⟨fun pins s' _ _ _ I h => (h s H C cl fp).run pins s' I⟩
theorem bTs_nil {scope : Scope} {σ : L2.St} {H : Hp} {Q : Bool → Hp → Prop} (h : Q true H) : bTs X scope [] σ H Q := h
/-- what a comprehension's heap is like while it runs: the new list at D, outside of the data -/
structure LcI (K : PySem.W.Frag) (G1 H1 : Hp) (D : Addr) (G H : Hp) (ds : List PyData) : Prop where
  ex : ∃ acc, H D = some (.lst acc) ∧ DpAll K G acc ds
  g1 : Same G1 G
  sub : Same G H
  h1 : Same H1 H
  new : ∀ a, H1 a ≠ none → G a = G1 a
  gd : G D = none
theorem LcI.go {K : PySem.W.Frag} {G1 H1 G H G2 H2 : Hp} {D : Addr} {ds : List PyData} (l : LcI K G1 H1 D G H ds) (g : Gr G H G2 H2) : LcI K G1 H1 D G2 H2 ds := by
  obtain ⟨acc, h1, h2⟩ := l.ex
  refine ⟨⟨acc, g.hh _ _ h1, DpAll.gr g h2⟩, l.g1.trans g.gg, g.sub, l.h1.trans g.hh, fun a ha => ?_, ?_⟩
  · have h : H a ≠ none := by
      cases e : H1 a with
      | none => exact absurd e ha
      | some o => rw [l.h1 a o e]; exact fun z => nomatch z
    rw [g.new a h, l.new a ha]
  · rw [g.new D (by rw [h1]; exact fun z => nomatch z)]
    exact l.gd
theorem LcI.push {K : PySem.W.Frag} {G1 H1 G H : Hp} {D : Addr} {ds : List PyData} {d : PyData} {v : V} {acc : List V} (l : LcI K G1 H1 D G H ds) (hD : H1 D = none) (hacc : H D = some (.lst acc)) (hk : DpAll K G acc ds) (h : Dp K G v d) : LcI K G1 H1 D G (L2.upd H D (.lst (acc ++ [v]))) (ds ++ [d]) :=
  ⟨⟨_, upd_same, DpAll.app hk (.cons h .nil)⟩, l.g1, fun b o hb => by
    rw [upd_ne (ne_of_none hb l.gd)]
    exact l.sub b o hb, fun b o hb => by
    rw [upd_ne (ne_of_none hb hD)]
    exact l.h1 b o hb, l.new, l.gd⟩
/-- [elt for tg in iter for tg1 in iter1] -/
theorem pv_lc2 {α β : Type} {xs : List α} {enc : α → PyData} {ys : α → List β} {enc1 : β → PyData} {f : β → PyData} {scope : Scope} {own : List (Str × Nat)} {vs1 T T1 : List Nat} {ρ' : α → Rho} {ρ1 : α → β → Rho} (hi : IV X tg iter ρ (xs.map enc)) (hN : X.N.Nodup) (ok : BlkOk X.N X.env.scope scope own) (hv : ∀ i ∈ vs1, i ∈ own.map (·.2)) (hz : (xs.flatMap ys).length ≤ sizeLine)
    (hT : ∀ j ∈ T, j ∈ own.map (·.2)) (hT1 : ∀ j ∈ T1, j ∈ vs1) (hg : ∀ x ∈ xs, Blks X scope fun B => PGD B tg (wipeD ρ (own.map (·.2))) (enc x) (ρ' x) T) (hi1 : ∀ x ∈ xs, Blks X scope fun B => IV B tg1 iter1 (ρ' x) ((ys x).map enc1))
    (hg1 : ∀ x ∈ xs, ∀ y ∈ ys x, Blks X scope fun B => PGD B tg1 (wipeD (ρ' x) vs1) (enc1 y) (ρ1 x y) T1) (he : ∀ x ∈ xs, ∀ y ∈ ys x, Blks X scope fun B => PV B elt (ρ1 x y) (f y))
    (hc : X.calm = true := by rfl) (hs : ∀ x, foldedSetIterable iter X.env x = pure x := by intro _; rfl) (hs1 : ∀ env x, foldedSetIterable iter1 env x = pure x := by intro _ _; rfl) : PV X (.ListComp elt [⟨tg, iter, [], 0⟩, ⟨tg1, iter1, [], 0⟩] scope pos) ρ (.list ((xs.flatMap ys).map f)) := by
  intro σ G H u s Q q
  refine wE_of (pe_lc2 (g := bG X scope tg) (tt := bTs X scope []) (g1 := bG X scope tg1) (tt1 := bTs X scope []) (te := bE X scope elt) (vs1 := vs1) hc hN pi_w ok hv pg_b pts_b pi_b pg_b pts_b pe_b hs hs1) ?_
  refine hi σ G H u s _ fun J G1 H1 g1 dw D hD => ?_
  obtain ⟨Y, w, hy⟩ := dw
  have hG1 : G1 D = none := L2.Same.free g1.sub hD
  have s1 := s.gr g1
  refine ⟨fun i m H => m = (xs.map enc).length - i ∧ i ≤ (xs.map enc).length ∧ ∃ G, LcI X.K G1 H1 D G H (((xs.take i).flatMap ys).map f), ⟨_, rfl, Nat.zero_le _, G1, ⟨[], upd_same, .nil⟩, L2.Same.refl _, g1.sub.trans (Same.upd hD), Same.upd hD, fun _ _ => rfl, hG1⟩, ?_⟩
  rintro i m H' ⟨rfl, hin, G', l⟩
  by_cases hlt : i < (xs.map enc).length
  case neg =>
    have e : i = (xs.map enc).length := by omega
    subst e
    refine .inl ⟨w.stops H' (l.g1.trans l.sub), ?_⟩
    rw [List.length_map, List.take_length] at l
    obtain ⟨acc, h1, h2⟩ := l.ex
    refine q (.ref D) (L2.upd G' D (.lst acc)) H' ⟨?_, ?_, g1.hh.trans l.h1, ?_⟩ (.lst (SqL.of upd_same) (DpAll.same (Same.upd l.gd) h2))
    · intro b o hb
      by_cases hbd : b = D
      · rw [hbd, upd_same] at hb
        rw [hbd, h1]
        exact hb
      · rw [upd_ne hbd] at hb
        exact l.sub b o hb
    · exact g1.gg.trans (l.g1.trans (Same.upd l.gd))
    · intro a ha
      have h1 : H1 a ≠ none := by
        cases e : H a with
        | none => exact absurd e ha
        | some o => rw [g1.hh a o e]; exact fun z => nomatch z
      rw [upd_ne (fun z => h1 (by rw [z]; exact hD)), l.new a h1, g1.new a ha]
  refine .inr ⟨w.goes i H' hlt (l.g1.trans l.sub), fun H2 => ∃ G, LcI X.K G1 H1 D G H2 (((xs.take (i + 1)).flatMap ys).map f), fun H2 h2 => ⟨_, by omega, rfl, hlt, h2⟩, fun x H2 hyl => ?_⟩
  obtain ⟨G2, d, g2, hd, kd⟩ := hy i H' x H2 G' l.sub l.g1 (w.yields i H' x H2 hlt (l.g1.trans l.sub) hyl)
  rw [List.getElem?_map] at hd
  obtain ⟨z, hx, rfl⟩ : ∃ z, xs[i]? = some z ∧ d = enc z := by
    cases e : xs[i]? with
    | none => rw [e] at hd; cases hd
    | some b => rw [e] at hd; exact ⟨b, rfl, (Option.some.inj hd).symm⟩
  have hm : z ∈ xs := List.mem_of_getElem? hx
  have l2 := l.go g2
  have sw : SD X.K G2 (L2.wipe σ (own.map (·.2))) (wipeD ρ (own.map (·.2))) := SD.wipe (SD.same s1 l2.g1) _
  intro s0 H0 C cl fp
  refine hg z hm s0 H0 C cl fp _ G2 H2 x g2.sub sw kd _ fun σ' tch s' => ⟨wipe_touch tch hT, ?_⟩
  refine bTs_nil ?_
  show (if true = true then _ else _)
  rw [if_pos rfl]
  intro s3 H3' C3 cl3 fp3
  refine hi1 z hm s3 H3' C3 cl3 fp3 σ' G2 H2 g2.sub s' _ fun J1 G3 H3 g3 dw1 => ?_
  obtain ⟨Y1, w1, hy1⟩ := dw1
  have tk : (xs.take (i + 1)).flatMap ys = (xs.take i).flatMap ys ++ ys z := by rw [List.take_succ, hx, List.flatMap_append]; simp
  refine ⟨fun j m H => m = ((ys z).map enc1).length - j ∧ j ≤ ((ys z).map enc1).length ∧ ∃ G, LcI X.K G1 H1 D G H (((xs.take i).flatMap ys ++ (ys z).take j).map f) ∧ Same G3 G, ⟨_, rfl, Nat.zero_le _, G3, by rw [List.take_zero, List.append_nil]; exact l2.go g3, L2.Same.refl _⟩, ?_⟩
  rintro j m H4 ⟨rfl, hjn, G4, l4, u4⟩
  by_cases hlt1 : j < ((ys z).map enc1).length
  case neg =>
    have e : j = ((ys z).map enc1).length := by omega
    subst e
    refine .inl ⟨w1.stops H4 (u4.trans l4.sub), G4, ?_⟩
    rw [List.length_map, List.take_length] at l4
    rw [tk]
    exact l4
  refine .inr ⟨w1.goes j H4 hlt1 (u4.trans l4.sub), fun H5 => ∃ G, LcI X.K G1 H1 D G H5 (((xs.take i).flatMap ys ++ (ys z).take (j + 1)).map f) ∧ Same G3 G, fun H5 h5 => ⟨_, by omega, rfl, hlt1, h5⟩, fun y H5 hyl1 => ?_⟩
  obtain ⟨G5, d1, g5, hd1, kd1⟩ := hy1 j H4 y H5 G4 l4.sub u4 (w1.yields j H4 y H5 hlt1 (u4.trans l4.sub) hyl1)
  rw [List.getElem?_map] at hd1
  obtain ⟨t, ht, rfl⟩ : ∃ t, (ys z)[j]? = some t ∧ d1 = enc1 t := by
    cases e : (ys z)[j]? with
    | none => rw [e] at hd1; cases hd1
    | some b => rw [e] at hd1; exact ⟨b, rfl, (Option.some.inj hd1).symm⟩
  have hmt : t ∈ ys z := List.mem_of_getElem? ht
  have l5 := l4.go g5
  have sw1 : SD X.K G5 (L2.wipe σ' vs1) (wipeD (ρ' z) vs1) := SD.wipe (SD.same s' (g3.gg.trans (u4.trans g5.gg))) _
  intro s5 H5' C5 cl5 fp5
  refine hg1 z hm t hmt s5 H5' C5 cl5 fp5 _ G5 H5 y g5.sub sw1 kd1 _ fun σ5 tch5 s5' => ⟨wipe_touch tch5 hT1, ?_⟩
  refine bTs_nil ?_
  show (if true = true then _ else _)
  rw [if_pos rfl]
  intro s6 H6' C6 cl6 fp6
  refine he z hm t hmt s6 H6' C6 cl6 fp6 σ5 G5 H5 g5.sub s5' _ fun v G6 H6 g6 k6 => ?_
  have l6 := l5.go g6
  obtain ⟨acc, h1, h2⟩ := l6.ex
  have la := DpAll.length h2
  rw [List.length_map, List.length_append, List.length_take] at la
  have lb : ((xs.take i).flatMap ys).length + (ys z).length ≤ (xs.flatMap ys).length := by
    have e1 : xs = xs.take (i + 1) ++ xs.drop (i + 1) := (List.take_append_drop _ _).symm
    have e2 : (xs.flatMap ys).length = ((xs.take (i + 1)).flatMap ys).length + ((xs.drop (i + 1)).flatMap ys).length := by
      rw [← List.length_append, ← List.flatMap_append, ← e1]
    rw [e2, tk, List.length_append]
    omega
  have hj : j < (ys z).length := by rwa [List.length_map] at hlt1
  refine ⟨acc, h1, by omega, G6, ?_, u4.trans (g5.gg.trans g6.gg)⟩
  have lp := l6.push hD h1 h2 k6
  rw [List.take_succ, ht]
  simpa using lp
end
end DL
end D14_text
section G23_text
set_option maxRecDepth 100000
set_option maxHeartbeats 2000000
namespace Wk
open PySem PySem.Spec PyProof.Rows L2 DL LamX
section
variable {P : Program} {w : World} {K : PySem.W.Frag} {mg : Str → Option Value} {base : Heap}
/-! spaced -/
def R_spaced : List PyData → Out → Prop := fun ds o => ∃ ws : List Wd, ds = [.list (ws.map Wd.enc)] ∧ ws.length ≤ 16 ∧ (∀ w ∈ ws, w.ok) ∧ o = .rt (.str (spW ws))
abbrev N51 : List Str := ["words", "word"]
theorem sc51 : FnScope N51 ["words"] (defScope (top 51)) := ⟨rfl, rfl, rfl, by decide +kernel, rfl, by decide +kernel, by decide +kernel⟩
theorem log_lt {i : Int} (h0 : 0 ≤ i) (h1 : i < 100) : i.natAbs.log2 < 1920 := by
  have : i.natAbs < 2 ^ 7 := by omega
  exact Nat.lt_trans (PySem.Flt.log2_lt_of (by decide) this) (by decide)
theorem ok_spaced (T : Txt P K mg) : DefOk P w K mg base 2 "spaced" (spD K 1 R_spaced) := by
  refine def_of T (i := 51) (N := N51) (ps := ["words"]) (by decide +kernel) sc51 (fun _ _ _ _ _ _ us hl => match us, hl with | [_], _ => rfl) ?_
  intro f cdv A outer s H E hr ds o hR hl
  obtain ⟨ws, rfl, hws, hok, rfl⟩ := hR
  have e : ws.map (fun w => PyData.str w.txt) = (ws.map Wd.txt).map .str := by rw [List.map_map] <;> rfl
  refine .inl (psd_ret (pv_join (x := " ") (ys := ws.map Wd.txt) pv_str (PV.to (pv_lcA (xs := ws) (enc := Wd.enc) (f := fun w => .str w.txt) (own := [("word", 1)]) (T := [1]) (iv_list (pv_var (i := 0) rfl)) sc51.nd (blkOk_by (N := N51) (sc := defScope (top 51)) (by decide +kernel)) (by rw [sizeLine_eq]; omega) (by decide) (fun w _ _ _ _ _ _ => pgd_name (i := 1) sc51.nd) (fun w hw _ _ _ _ _ => ?_)) (by rw [e])) ?_))
  · have h := hok w hw
    cases w with
    | n i => exact pv_callTy call_strV (drc_strI (log_lt h.1 h.2)) (T_fr T) (pvs_cons (pv_var (i := 1) (d := .int i) rfl) pvs_nil)
    | t x => exact pv_callTy call_strV drc_strS (T_fr T) (pvs_cons (pv_var (i := 1) (d := .str x) rfl) pvs_nil)
  · have := sum_le (xs := ws.map Wd.txt) (n := 8) fun x hx => by
      obtain ⟨w, hw, rfl⟩ := List.mem_map.mp hx
      exact Wd.len (hok w hw)
    rw [List.length_map] at this ⊢
    have e1 : (" " : Str).length = 1 := by decide
    rw [e1]
    omega
/-! edge_words -/
def R_edgew : List PyData → Out → Prop := fun ds o => ∃ x : Edge, ds = [encE x] ∧ x.asks.length ≤ 100 ∧ o = .rt (.list ((edgeW x).map Wd.enc))
abbrev N52 : List Str := ["edge"]
theorem sc52 : FnScope N52 ["edge"] (defScope (top 52)) := ⟨rfl, rfl, rfl, by decide +kernel, rfl, by decide +kernel, by decide +kernel⟩
theorem encT (xs : List Str) : (xs.map Wd.t).map Wd.enc = xs.map .str := by rw [List.map_map] <;> rfl
theorem encN (xs : List Int) : (xs.map Wd.n).map Wd.enc = xs.map .int := by rw [List.map_map] <;> rfl
theorem ok_edge_words (T : Txt P K mg) : DefOk P w K mg base 2 "edge_words" (spD K 1 R_edgew) := by
  refine def_of T (i := 52) (N := N52) (ps := ["edge"]) (by decide +kernel) sc52 (fun _ _ _ _ _ _ us hl => match us, hl with | [_], _ => rfl) ?_
  intro f cdv A outer s H E hr ds o hR hl
  obtain ⟨x, rfl, hx, rfl⟩ := hR
  refine .inl (PSD.to (psd_ret (pv_lst (pvs_cons (pv_ixT (i := 0) (ds := [.int x.b, tS x.asks, .str x.deed, .int x.e]) (pv_var (i := 0) rfl) pv_int rfl) (pvs_cons (pv_ixT (i := 2) (ds := [.int x.b, tS x.asks, .str x.deed, .int x.e]) (pv_var (i := 0) rfl) pv_int rfl) (pvs_cons (pv_ixT (i := 3) (ds := [.int x.b, tS x.asks, .str x.deed, .int x.e]) (pv_var (i := 0) rfl) pv_int rfl) (pvs_starT (ds := x.asks.map .str) (pv_ixT (i := 1) (ds := [.int x.b, tS x.asks, .str x.deed, .int x.e]) (pv_var (i := 0) rfl) pv_int rfl) pvs_nil)))) (by simp [sizeLine_eq]; omega))) ?_)
  unfold edgeW
  rw [List.map_cons, List.map_cons, List.map_cons, encT, List.append_nil] <;> rfl
/-! kind_lines -/
def R_klines : List PyData → Out → Prop := fun ds o => ∃ x : Kd, ds = [.str x.name, encKd1 x] ∧ KdSm x ∧ o = .rt (.list ((linesOf x).map .str))
abbrev N53 : List Str := ["name", "kind", "stands", "up", "deaf", "edges", "below", "found", "word", "some", "edge"]
theorem sc53 : FnScope N53 ["name", "kind"] (defScope (top 53)) := ⟨rfl, rfl, rfl, by decide +kernel, rfl, by decide +kernel, by decide +kernel⟩
theorem eqv_tI (xs : List Int) : PyData.eqv (tI xs) (.tuple []) = decide (xs = []) := by
  cases xs <;> simp [tI, PyData.eqv, PyData.eqvAll]
theorem eqv_tS (xs : List Str) : PyData.eqv (tS xs) (.tuple []) = decide (xs = []) := by
  cases xs <;> simp [tS, PyData.eqv, PyData.eqvAll]
theorem depth_nilT {d : PyData} : min d.depth (PyData.tuple []).depth ≤ 63 := by
  have : (PyData.tuple []).depth ≤ 63 := by simp [PyData.depth, PyData.depthAll]
  omega
theorem stand_lines (x : Kd) : ((([("up", x.up), ("deaf", x.deaf)] : List (Str × List Int)).filter fun p => !decide (p.2 = [])).map fun p => PyData.str (spW (.t p.1 :: p.2.map .n))) = (standLines x).map .str := by
  unfold standLines someLine
  cases x.up <;> cases x.deaf <;> rfl
theorem starW {X : Cx} {ρ : Rho} {e a : Expr} {p p1 : Pos} {z : Str} {ws : List Wd} (ha : PV X e ρ (.str z)) (hb : PV X a ρ (.tuple (ws.map Wd.enc))) (hl : ws.length ≤ 100) (h1 : starEach (e :: [.Starred a p]) X.env = (false, eval e X.env) :: starEach [.Starred a p] X.env := by rfl) (h2 : starEach (.Starred a p :: []) X.env = (true, eval a X.env) :: starEach [] X.env := by rfl) : PV X (.List [e, .Starred a p] p1) ρ (.list ((Wd.t z :: ws).map Wd.enc)) := by
  have h := pv_lst (pos := p1) (pvs_cons ha (pvs_starT hb pvs_nil h2) h1) (by simp [sizeLine_eq]; omega)
  rw [List.append_nil] at h
  exact h
theorem ok_kind_lines (T : Txt P K mg) : DefOk P w K mg base 4 "kind_lines" (spD K 2 R_klines) := by
  refine def_raw T (i := 53) (N := N53) (ps := ["name", "kind"]) (by decide +kernel) sc53 (fun _ _ _ _ _ _ us hl => match us, hl with | [_, _], _ => rfl) (spD_len rfl) ?_
  intro f cdv A outer s H E vs Q hr hsp
  obtain ⟨ds, o, G, hl, u, hd, ⟨x, rfl, hx, rfl⟩, hq⟩ := hsp
  have s0 : SD K G (L2.start N53 vs) [some (.str x.name), some (encKd1 x), none, none, none, none, none, none, none, none, none] := sd_start (N := N53) hd
  have hup := hx.upl
  have hdf := hx.dfl
  have hbl := hx.bll
  have hes := hx.esl
  refine ws_asg (ρ' := [some (.str x.name), some (encKd1 x), some (.int x.k), some (tI x.up), some (tI x.deaf), some (.tuple (x.edges.map encE)), some (tS x.below), none, none, none, none]) (T := [2, 3, 4, 5, 6]) u s0 (pv_var (i := 1) rfl) (pgd_tup (pgds_cons (pgd_tup (pgds_cons (pgd_name (i := 2) sc53.nd) (pgds_cons (pgd_name (i := 3) sc53.nd) (pgds_cons (pgd_name (i := 4) sc53.nd) (pgds_cons (pgd_name (i := 5) sc53.nd) pgds_nil))))) (pgds_cons (pgd_name (i := 6) sc53.nd) pgds_nil))) fun σ1 G1 H1 g1 t1 s1 => ?_
  -- found = [spaced([KIND, name, stands])]
  refine ws_setE (i := 7) sc53.nd (wE_of (pe_lst (pa_cons pe_w pa_nil)) ?_)
  refine PV.go (d := .str (headLine x)) (pv_call (ok_spaced T) (hr.mono (by decide)) (pvs_cons (PV.to (d' := .list ([Wd.t "kind", .t x.name, .n x.k].map Wd.enc)) (pv_lst (pvs_cons (pv_gstr (z := "kind") T) (pvs_cons (pv_var (i := 0) rfl) (pvs_cons (pv_var (i := 2) rfl) pvs_nil)))) rfl) pvs_nil) ⟨[.t "kind", .t x.name, .n x.k], rfl, by show 3 ≤ 16; decide, fun w hw => ?_, rfl⟩) g1.sub s1 fun v G2 H2 g2 k2 => ?_
  · simp only [List.mem_cons, List.not_mem_nil, or_false] at hw
    rcases hw with rfl | rfl | rfl
    · show ("kind" : Str).length ≤ 8; decide
    · exact hx.nm
    · exact ⟨hx.k0, hx.k1⟩
  refine ⟨by show 1 ≤ sizeLine; decide, fun fo hf0 => ?_⟩
  have h0f : H fo = none := L2.Same.free (g1.trans g2).hh hf0
  have hGf : G2 fo = none := L2.Same.free g2.sub hf0
  have f2 := (g1.trans g2).mut (a := fo) (o := .lst [v]) h0f hGf
  have hσl := s1.1
  have s2 : SD K G2 (σ1.set 7 (some (V.ref fo))) [some (.str x.name), some (encKd1 x), some (.int x.k), some (tI x.up), some (tI x.deaf), some (.tuple (x.edges.map encE)), some (tS x.below), none, none, none, none] := (s1.gr g2).setN (o := some (V.ref fo)) 7
  have h7 : (σ1.set 7 (some (V.ref fo)))[7]? = some (some (.ref fo)) := by rw [List.getElem?_set_self (by rw [hσl]; show 7 < 11; decide)]
  -- found.extend([.. (UP, up), (DEAF, deaf) ..])
  refine ws_exprE (wE_of (pe_bm PySem.F.plainAttrs_list PySem.F.slot_list_extend PySem.F.type_list_extend mt_extend (L2.pv 7) (pa_cons pe_w pa_nil)) ?_)
  refine ⟨.ref fo, h7, .inl ⟨rfl, [v], SqL.of upd_same⟩, ?_⟩
  refine PVE.go (PVE.to (ds' := (standLines x).map .str) (pve_lc (xs := ([("up", x.up), ("deaf", x.deaf)] : List (Str × List Int))) (enc := fun p => .tuple [.str p.1, tI p.2]) (p := fun p => !decide (p.2 = [])) (f := fun p => .str (spW (.t p.1 :: p.2.map .n))) (own := [("word", 8), ("some", 9)]) (T := [8, 9]) (iv_tup (pv_tup (pvs_cons (pv_tup (pvs_cons (pv_gstr (z := "up") T) (pvs_cons (pv_var (i := 3) rfl) pvs_nil))) (pvs_cons (pv_tup (pvs_cons (pv_gstr (z := "deaf") T) (pvs_cons (pv_var (i := 4) rfl) pvs_nil))) pvs_nil)))) sc53.nd (blkOk_by (N := N53) (sc := defScope (top 53)) (by decide +kernel)) (by show 2 ≤ sizeLine; decide) (by decide) (fun p _ _ _ _ _ _ => pgd_tup (pgds_cons (pgd_name (i := 8) sc53.nd) (pgds_cons (pgd_name (i := 9) sc53.nd) pgds_nil))) (fun p _ _ _ _ _ _ => PB.to (pb_cmp (op_neP (hu64 hr)) (dr_ne depth_nilT) (pv_var (i := 9) rfl) (pv_tup pvs_nil)) (by rw [eqv_tI])) (fun p hp _ _ _ _ _ _ => ?_)) (by rw [stand_lines])) f2.sub s2 fun D3 acc3 G3 H3 g3 hD3 hk3' => ?_
  · have hp2 : p.1.length ≤ 8 ∧ (∀ i ∈ p.2, 0 ≤ i ∧ i < 100) ∧ p.2.length ≤ 8 := by
      simp only [List.mem_cons, List.not_mem_nil, or_false] at hp
      rcases hp with rfl | rfl
      · exact ⟨by show ("up" : Str).length ≤ 8; decide, hx.up, hup⟩
      · exact ⟨by show ("deaf" : Str).length ≤ 8; decide, hx.df, hdf⟩
    refine pv_call (ok_spaced T) (hr.mono (by decide)) (pvs_cons (starW (z := p.1) (ws := p.2.map .n) (pv_var (i := 8) rfl) (PV.to (pv_var (i := 9) (d := tI p.2) rfl) (by rw [encN] <;> rfl)) (by rw [List.length_map]; omega)) pvs_nil) ⟨_, rfl, by rw [List.length_cons, List.length_map]; omega, fun w hw => ?_, rfl⟩
    rcases List.mem_cons.mp hw with rfl | hw
    · exact hp2.1
    · exact ns_ok hp2.2.1 w hw
  have e3 := DpAll.strs hk3'
  subst e3
  obtain ⟨hc3, gc3⟩ := Gr.own g3 (show L2.upd H2 fo (.lst [v]) fo = some (.lst [v]) from upd_same) hGf
  have f3 := f2.trans g3
  have hstd : (standLines x).length ≤ 2 := by
    have := (someLine_len (w := "up") (by decide) (ns_ok hx.up) (by rw [List.length_map]; exact hup)).1
    have := (someLine_len (w := "deaf") (by decide) (ns_ok hx.df) (by rw [List.length_map]; exact hdf)).1
    unfold standLines
    rw [List.length_append]
    omega
  refine ⟨fo, D3, [v], _, rfl, rfl, hc3, g3.sub _ _ hD3, by rw [List.length_map, sizeLine_eq]; simp only [List.length_cons, List.length_nil]; omega, ?_⟩
  have f3' := f3.mut (a := fo) (o := .lst ([v] ++ (standLines x).map V.str)) h0f gc3
  have s3 := s2.gr g3
  have kv3 : DpAll K G3 ([v] ++ (standLines x).map V.str) ((headLine x :: standLines x).map .str) := .cons (k2.gr g3) hk3'
  -- found.extend([spaced(edge_words(edge)) for edge in edges])
  refine ws_exprE (wE_of (pe_bm PySem.F.plainAttrs_list PySem.F.slot_list_extend PySem.F.type_list_extend mt_extend (L2.pv 7) (pa_cons pe_w pa_nil)) ?_)
  refine ⟨.ref fo, h7, .inl ⟨rfl, _, SqL.of upd_same⟩, ?_⟩
  refine PVE.go (PVE.to (ds' := (edgeLines x).map .str) (pve_lc (xs := x.edges) (enc := encE) (p := fun _ => true) (f := fun e => .str (spW (edgeW e))) (ifs := []) (own := [("edge", 10)]) (T := [10]) (iv_tup (pv_var (i := 5) rfl)) sc53.nd (blkOk_by (N := N53) (sc := defScope (top 53)) (by decide +kernel)) (by rw [sizeLine_eq]; omega) (by decide) (fun p _ _ _ _ _ _ => pgd_name (i := 10) sc53.nd) (fun _ _ _ _ _ _ _ => rfl) (fun e he _ _ _ _ _ _ => ?_)) (by rw [List.filter_eq_self.mpr (fun _ _ => rfl)]; unfold edgeLines; rw [List.map_map] <;> rfl)) f3'.sub s3 fun D4 acc4 G4 H4 g4 hD4 hk4' => ?_
  · have h2 := hx.es e he
    have h3 := h2.2
    unfold edgeW at h3
    simp only [List.length_cons, List.length_map] at h3
    exact pv_call (ok_spaced T) (hr.mono (by decide)) (pvs_cons (pv_call (ok_edge_words T) (hr.mono (by decide)) (pvs_cons (pv_var (i := 10) rfl) pvs_nil) ⟨e, rfl, by omega, rfl⟩) pvs_nil) ⟨edgeW e, rfl, h2.2, h2.1, rfl⟩
  have e4 := DpAll.strs hk4'
  subst e4
  obtain ⟨hc4, gc4⟩ := Gr.own g4 (show L2.upd H3 fo (.lst ([v] ++ (standLines x).map V.str)) fo = some (.lst ([v] ++ (standLines x).map V.str)) from upd_same) gc3
  have f4 := f3'.trans g4
  have hel : (edgeLines x).length ≤ 10 := by unfold edgeLines; rw [List.length_map]; exact hes
  refine ⟨fo, D4, _, _, rfl, rfl, hc4, g4.sub _ _ hD4, by rw [List.length_append, List.length_map, List.length_map, sizeLine_eq]; simp only [List.length_cons, List.length_nil]; omega, ?_⟩
  have f4' := f4.mut (a := fo) (o := .lst ([v] ++ (standLines x).map V.str ++ (edgeLines x).map V.str)) h0f gc4
  have s4 := s3.gr g4
  have kv4 : DpAll K G4 ([v] ++ (standLines x).map V.str ++ (edgeLines x).map V.str) (((headLine x :: standLines x) ++ edgeLines x).map .str) := by
    rw [List.map_append]
    exact DpAll.app (DpAll.gr g4 kv3) hk4'
  -- found is data from now on
  have f5 := f4'.frz (upd_same) gc4 h0f
  have kf : Dp K (L2.upd G4 fo (.lst ([v] ++ (standLines x).map V.str ++ (edgeLines x).map V.str))) (.ref fo) (.list (((headLine x :: standLines x) ++ edgeLines x).map .str)) := .lst (SqL.of upd_same) (DpAll.same (Same.upd gc4) kv4)
  have s5 : SD K (L2.upd G4 fo (.lst ([v] ++ (standLines x).map V.str ++ (edgeLines x).map V.str))) (σ1.set 7 (some (V.ref fo))) [some (.str x.name), some (encKd1 x), some (.int x.k), some (tI x.up), some (tI x.deaf), some (.tuple (x.edges.map encE)), some (tS x.below), some (.list (((headLine x :: standLines x) ++ edgeLines x).map .str)), none, none, none] := (s4.same (Same.upd gc4)).know h7 kf
  refine PSD.ws (E := E) (o := .out (.rt (.list ((linesOf x).map .str)))) (PSD.to (psd_ret (pv_bin (d2 := .list ((someLine "below" (x.below.map .t)).map .str)) op_catL (dr_cat ?_) (pv_var (i := 7) rfl) ?_)) (by unfold linesOf; simp only [List.map_append])) f5.sub s5 (KD.gr f5 hq)
  · have := (someLine_len (w := "below") (by decide) (ts_ok hx.bl) (by rw [List.length_map]; exact hbl)).1
    rw [List.length_map, List.length_map, List.length_append, List.length_cons, sizeLine_eq]
    omega
  · refine PV.to (pv_if (d1 := .list [.str (spW (.t "below" :: x.below.map .t))]) (d2 := .list []) (PB.to (pb_cmp (op_neP (hu64 hr)) (dr_ne depth_nilT) (pv_var (i := 6) rfl) (pv_tup pvs_nil)) (by rw [eqv_tS])) (fun _ => pv_lst (pvs_cons (pv_call (ok_spaced T) (hr.mono (by decide)) (pvs_cons (starW (z := "below") (ws := x.below.map .t) (pv_gstr (z := "below") T) (PV.to (pv_var (i := 6) (d := tS x.below) rfl) (by rw [encT] <;> rfl)) (by rw [List.length_map]; omega)) pvs_nil) ⟨_, rfl, by rw [List.length_cons, List.length_map]; omega, fun w hw => ?_, rfl⟩) pvs_nil)) fun _ => pv_lst pvs_nil) ?_
    · rcases List.mem_cons.mp hw with rfl | hw
      · show ("below" : Str).length ≤ 8; decide
      · exact ts_ok hx.bl w hw
    · unfold someLine
      cases x.below <;> rfl
/-! house_text -/
def R_htext : List PyData → Out → Prop := fun ds o => ∃ h : List Kd, ds = [encH h] ∧ HouseOk h ∧ o = .rt (.str (textOf h))
abbrev N54 : List Str := ["house", "name", "kind", "line"]
theorem sc54 : FnScope N54 ["house"] (defScope (top 54)) := ⟨rfl, rfl, rfl, by decide +kernel, rfl, by decide +kernel, by decide +kernel⟩
theorem ok_house_text (T : Txt P K mg) : DefOk P w K mg base 13 "house_text" (spD K 1 R_htext) := by
  refine def_of T (i := 54) (N := N54) (ps := ["house"]) (by decide +kernel) sc54 (fun _ _ _ _ _ _ us hl => match us, hl with | [_], _ => rfl) ?_
  intro f cdv A outer s H E hr ds o hR hl
  obtain ⟨h, rfl, hh, rfl⟩ := hR
  have hsm := house_small hh
  have h3 := hh.names.three
  rw [List.length_map] at h3
  obtain ⟨t1, t2, t3⟩ := text_small h3 hsm
  obtain ⟨q1, q2⟩ := house_fit hh
  refine .inl (psd_ret (pv_join (x := "\n") (ys := h.flatMap linesOf) pv_str (PV.to (pv_lc2 (xs := h) (enc := encKd) (ys := linesOf) (enc1 := .str) (f := .str) (own := [("name", 1), ("kind", 2), ("line", 3)]) (vs1 := [3]) (T := [1, 2]) (T1 := [3]) (iv_tup (ds := h.map encKd) (pv_call (ok_need_house T) (hr.mono (by decide)) (pvs_cons (pv_var (i := 0) rfl) pvs_nil) ⟨h, rfl, q1, q2, by rw [house_ok hh] <;> rfl⟩)) sc54.nd (blkOk_by (N := N54) (sc := defScope (top 54)) (by decide +kernel)) (by decide) (by rw [sizeLine_eq]; omega) (by decide) (by decide) (fun x _ _ _ _ _ _ => pgd_tup (pgds_cons (pgd_name (i := 1) sc54.nd) (pgds_cons (pgd_name (i := 2) sc54.nd) pgds_nil))) (fun x hx _ _ _ _ _ => iv_list (ds := (linesOf x).map .str) (pv_call (ok_kind_lines T) (hr.mono (by decide)) (pvs_cons (pv_var (i := 1) rfl) (pvs_cons (pv_var (i := 2) rfl) pvs_nil)) ⟨x, rfl, hsm x hx, rfl⟩)) (fun x _ y _ _ _ _ _ _ => pgd_name (i := 3) sc54.nd) (fun x _ y _ _ _ _ _ _ => pv_var (i := 3) rfl)) rfl) ?_))
  have := sum_le t2
  have e1 : ("\n" : Str).length = 1 := by decide
  rw [e1]
  omega
end
end Wk
end G23_text
section G24_text
set_option maxRecDepth 100000
set_option maxHeartbeats 2000000
namespace Wk
open PySem PySem.Spec PyProof.Rows L2 DL LamX
/-! ### rows of texts by their weight -/
def wt (ys : List Str) : Nat := (ys.map (·.length)).sum + ys.length
theorem wt_app (a b : List Str) : wt (a ++ b) = wt a + wt b := by
  unfold wt
  rw [List.map_append, List.sum_append, List.length_append]
  omega
theorem wt_one (z : Str) : wt [z] = z.length + 1 := by simp [wt]
theorem wt_cut (ys : List Str) (k : Nat) : wt (ys.take k) + wt (ys.drop k) = wt ys := by rw [← wt_app, List.take_append_drop]
theorem wt_cut1 (ys : List Str) (k : Nat) : wt (ys.take k) + wt (ys.drop (k + 1)) ≤ wt ys := by
  have h1 := wt_cut ys k
  have h2 := wt_cut (ys.drop k) 1
  rw [List.drop_drop] at h2
  omega
theorem wt_len (ys : List Str) : ys.length ≤ wt ys := by unfold wt; omega
theorem wt_mem {ys : List Str} {z : Str} (h : z ∈ ys) : z.length ≤ wt ys := by
  have := le_sum h
  unfold wt
  omega
theorem wt_split (x : Str) (c : Nat) : wt (Txt.split x ⟨#[c]⟩) = x.length + 1 := split_sum x c
theorem join_wt {y : Str} {ys : List Str} (hy : y.length = 1) : (Txt.join y ys).length ≤ wt ys := by
  rw [TL.join_eq]
  have h1 := StrLaws.join_length_le y ys
  rw [hy, Nat.mul_one] at h1
  exact h1
section
variable {X : Cx} {ρ : Rho} {a b c : Expr} {pos p2 : Pos} {ys zs : List Str} {k : Int}
theorem sv_to (ha : PV X a ρ (.list (ys.map .str))) (hk : PV X b ρ (.int k)) (h0 : 0 ≤ k) : PV X (.Subscript a (.Slice none (some b) none p2) pos) ρ (.list ((ys.take k.toNat).map .str)) :=
  (pv_slL ha pp_none (pp_some hk)).to (by
    have e := cutD_to (ys.map .str) k.toNat
    rw [show ((k.toNat : Nat) : Int) = k by omega] at e
    rw [e, List.map_take])
theorem sv_from (ha : PV X a ρ (.list (ys.map .str))) (hk : PV X b ρ (.int k)) (h0 : 0 ≤ k) : PV X (.Subscript a (.Slice (some b) none none p2) pos) ρ (.list ((ys.drop k.toNat).map .str)) :=
  (pv_slL ha (pp_some hk) pp_none).to (by
    have e := cutD_from (ys.map .str) k.toNat
    rw [show ((k.toNat : Nat) : Int) = k by omega] at e
    rw [e, List.map_drop])
theorem sv_from1 {kk : Nat} {p3 p4 : Pos} (ha : PV X a ρ (.list (ys.map .str))) (hk : PV X b ρ (.int k)) (h0 : 0 ≤ k) : PV X (.Subscript a (.Slice (some (.BinOp b .Add (.Constant (.int 1) kk p4) p3)) none none p2) pos) ρ (.list ((ys.drop (k.toNat + 1)).map .str)) :=
  (sv_from ha (pv_bin op_add dr_II hk pv_int) (by omega)).to (by rw [show (k + 1).toNat = k.toNat + 1 by omega])
theorem sv_cat (ha : PV X a ρ (.list (ys.map .str))) (hb : PV X b ρ (.list (zs.map .str))) (hl : wt ys + wt zs ≤ 10000000) : PV X (.BinOp a .Add b pos) ρ (.list ((ys ++ zs).map .str)) :=
  (pv_bin op_catL (dr_cat (by
    have := wt_len ys
    have := wt_len zs
    rw [List.length_map, List.length_map, sizeLine_eq]
    omega)) ha hb).to (by rw [List.map_append])
theorem sv_one {z : Str} (ha : PV X a ρ (.str z)) (hs : starEach (a :: []) X.env = (false, eval a X.env) :: starEach [] X.env := by rfl) : PV X (.List [a] pos) ρ (.list (([z] : List Str).map .str)) := pv_lst (pvs_cons ha pvs_nil hs) (by show 1 ≤ sizeLine; decide)
theorem wt_join {y : Str} (hy : y.length = 1) (hl : wt ys ≤ 10000000) : (ys.map (·.length)).sum + ys.length * y.length ≤ 16777216 := by
  rw [hy, Nat.mul_one]
  have : wt ys = (ys.map (·.length)).sum + ys.length := rfl
  omega
end
section
variable {P : Program} {w : World} {K : PySem.W.Frag} {mg : Str → Option Value} {base : Heap}
def bendA : List Str := ["", "0", "1", "6", "9", "10", "99", "01", "100", "over", "Over", "calm", "unheld", "kind", "up", "go"]
def bendB : List Str := ["kind b 1", "up 1", "deaf 0", "0 go 0", "0 hold 1 over", "below a", "", "1 go 9 calm", "below", "up"]
def bendA1 : List Str := ["abcdefghi"]
theorem bendA_len : ∀ z ∈ bendA ++ bendA1, z.length ≤ 16 := by decide +kernel
theorem bendB_len : ∀ z ∈ bendB, z.length ≤ 16 := by decide +kernel
theorem bendA_sz : (bendA.map PyData.str).length ≤ sizeLine := by
  rw [List.length_map, sizeLine_eq]
  show 16 ≤ 16777216
  omega
theorem bendB_sz : (bendB.map PyData.str).length ≤ sizeLine := by
  rw [List.length_map, sizeLine_eq]
  show 10 ≤ 16777216
  omega
theorem eqv_way (i j : Int) : PyData.eqv (.int i) (.int j) = decide (i = j) := eqv_int i j
abbrev N84 : List Str := ["_law_m", "_law_text", "_law_rows", "_law_k", "_law_way", "_law_words", "_law_at", "_law_some_here", "_law_word", "_law_fresh"]
theorem sc84 : FnScope N84 ["_law_m", "_law_text"] (defScope (top 84)) := ⟨rfl, rfl, rfl, by decide +kernel, rfl, by decide +kernel, by decide +kernel⟩
abbrev rho84 (x : Str) (rows : List Str) (k way : Int) (words : List Str) (at_ : Int) (word fresh : Str) : Rho := [none, some (.str x), some (.list (rows.map .str)), some (.int k), some (.int way), some (.list (words.map .str)), some (.int at_), none, some (.str word), some (.str fresh)]
theorem ok_law_bent (T : Txt P K mg) : DefOk P w K mg base 5 "_law_bent" (spM K 1 8 (fun ds => ∃ x : Str, ds = [.str x] ∧ x.length ≤ 262144) fun ds d => ∃ x y : Str, ds = [.str x] ∧ d = .str y ∧ y.length ≤ 2 * x.length + 32) := by
  refine def_raw T (i := 84) (N := N84) (ps := ["_law_m", "_law_text"]) (by decide +kernel) sc84 (fun _ _ _ _ _ _ us hl => match us, hl with | [_, _], _ => rfl) (spM_len rfl) ?_
  intro f cdv A outer s H E vs Q hr hsp
  obtain ⟨am, ws, ds, G, n, rfl, hl, u, hd, ⟨x, rfl, hx⟩, m, hq⟩ := hsp
  have s0 : SD K G (L2.start N84 (V.ref am :: ws)) [none, some (.str x), none, none, none, none, none, none, none, none] := sdM hd
  have h00 : (L2.start N84 (V.ref am :: ws))[0]? = some (some (.ref am)) := rfl
  have hwr : wt (Txt.split x "\n") = x.length + 1 := wt_split x 10
  have hrne : Txt.split x "\n" ≠ [] := split_ne x _
  generalize hrows : Txt.split x "\n" = rows at hwr hrne
  have hrl := wt_len rows
  have hr1 : 1 ≤ rows.length := List.length_pos_iff.mpr hrne
  refine ws_set (i := 2) (d := .list (rows.map .str)) u s0 (PV.to (pv_split (pv_var (i := 1) rfl) (pv_str (x := "\n")) (by decide) (by rw [sizeLine_eq]; omega)) (by rw [hrows])) sc84.nd fun v2 G1 H1 g1 k1 s1 => ?_
  refine wSs_of (pss_cons (ps_par (X := CC P w K mg base N84 "_law_bent" (defScope (top 84)) f cdv A outer s H E) (i := 3) (j := 4) rfl sc84.nd rfl rfl (by decide) rfl rfl (pa_cons pe_w (pa_cons pe_w pa_nil)) rfl rfl) pss_w) ?_
  refine PVM.go (im := 0) (f := n + 7) (pvm_draw (t := ((rows.length : Nat) : Int)) T hr (PV.to (pv_callB call_ln drc_lenL (T_fr T) (pvs_cons (pv_var (i := 2) rfl) pvs_nil)) (by rw [List.length_map])) (by omega) (by omega)) g1.sub s1 h00 (m.go g1) fun v3 d3 G2 H2 g2 m2 k2 z2 => ?_
  obtain ⟨k, rfl, hk0, hk1⟩ := z2
  refine PVM.go (im := 0) (f := n + 6) (pvm_draw (t := 8) T hr pv_int (by decide) (by decide)) g2.sub (s1.gm g2) h00 m2 fun v4 d4 G3 H3 g3 m3 k3 z3 => ?_
  obtain ⟨way, rfl, hw0, hw1⟩ := z3
  refine ⟨v3, v4, rfl, ?_⟩
  have s3 := (((s1.gm g2).gm g3).set 3 (k2.gm g3)).set 4 k3
  have hkr : k.toNat < rows.length := by omega
  have hrm : rows[k.toNat] ∈ rows := List.getElem_mem hkr
  have hrw := wt_mem hrm
  generalize hrow : rows[k.toNat] = row at hrm hrw
  have hat : L2.atI (rows.map PyData.str) k = some (.str row) := by
    have := DL.atI_nat (xs := rows.map PyData.str) (i := k.toNat) (d := .str row) (by rw [List.getElem?_map, List.getElem?_eq_getElem hkr, hrow] <;> rfl)
    rwa [show ((k.toNat : Nat) : Int) = k by omega] at this
  have hww : wt (Txt.split row " ") = row.length + 1 := wt_split row 32
  have hwne : Txt.split row " " ≠ [] := split_ne row _
  generalize hwords : Txt.split row " " = words at hww hwne
  have hwl := wt_len words
  have hw1' : 1 ≤ words.length := List.length_pos_iff.mpr hwne
  -- words, at
  refine ws_set (i := 5) (d := .list (words.map .str)) g3.sub s3 (PV.to (pv_split (pv_ixL (i := k) (d := .str row) (pv_var (i := 2) rfl) (pv_var (i := 3) rfl) hat) (pv_str (x := " ")) (by decide) (by rw [sizeLine_eq]; omega)) (by rw [hwords])) sc84.nd fun v5 G4 H4 g4 k4 s4 => ?_
  refine ws_setM (im := 0) (i := 6) (f := n + 5) (c := 1) (S := fun d => ∃ r : Int, d = .int r ∧ 0 ≤ r ∧ r < ((words.length : Nat) : Int)) (pvm_draw (t := ((words.length : Nat) : Int)) T hr (PV.to (pv_callB call_ln drc_lenL (T_fr T) (pvs_cons (pv_var (i := 5) rfl) pvs_nil)) (by rw [List.length_map])) (by omega) (by omega)) g4.sub s4 h00 (m3.go g4) sc84.nd fun v6 d6 G5 H5 g5 m5 k5 z5 s5 => ?_
  obtain ⟨at_, rfl, ha0, ha1⟩ := z5
  -- word
  refine ws_set (i := 7) (d := .list (bendA.map .str)) g5.sub s5 (pv_lst (pvs_cons pv_str (pvs_cons pv_str (pvs_cons pv_str (pvs_cons pv_str (pvs_cons pv_str (pvs_cons pv_str (pvs_cons pv_str (pvs_cons pv_str (pvs_cons pv_str (pvs_cons pv_str (pvs_cons pv_str (pvs_cons pv_str (pvs_cons pv_str (pvs_cons pv_str (pvs_cons pv_str (pvs_cons pv_str pvs_nil)))))))))))))))) bendA_sz) sc84.nd fun v7 G6 H6 g6 k6 s6 => ?_
  refine ws_setM (im := 0) (i := 8) (f := n + 4) (c := 1) (S := fun d => d ∈ (bendA ++ bendA1).map PyData.str) (pvm_some (ds := (bendA ++ bendA1).map PyData.str) T hr (sv_cat (ys := bendA) (zs := bendA1) (pv_var (i := 7) rfl) (sv_one pv_str) (by decide +kernel)) (by decide +kernel) (by decide +kernel)) g6.sub s6 h00 (m5.go g6) sc84.nd fun v8 d8 G7 H7 g7 m7 k7 z7 s7 => ?_
  obtain ⟨word, hword, rfl⟩ := List.mem_map.mp z7
  have hwd := bendA_len word hword
  -- fresh
  refine ws_set (i := 7) (d := .list (bendB.map .str)) g7.sub s7 (pv_lst (pvs_cons pv_str (pvs_cons pv_str (pvs_cons pv_str (pvs_cons pv_str (pvs_cons pv_str (pvs_cons pv_str (pvs_cons pv_str (pvs_cons pv_str (pvs_cons pv_str (pvs_cons pv_str pvs_nil)))))))))) bendB_sz) sc84.nd fun v9 G8 H8 g8 k8 s8 => ?_
  refine ws_setM (im := 0) (i := 9) (f := n) (c := 1) (S := fun d => d ∈ bendB.map PyData.str) (pvm_some (ds := bendB.map PyData.str) T hr (pv_var (i := 7) rfl) (by decide +kernel) (by decide +kernel)) g8.sub s8 h00 ((m7.go g8).mono (by omega)) sc84.nd fun v10 d10 G9 H9 g9 m9 k9 z9 s9 => ?_
  obtain ⟨fresh, hfresh, rfl⟩ := List.mem_map.mp z9
  have hfd := bendB_len fresh hfresh
  have gA := g1.m.trans (g2.trans (g3.trans (g4.m.trans (g5.trans (g6.m.trans (g7.trans (g8.m.trans g9)))))))
  have sA : SD K G9 _ (rho84 x rows k way words at_ word fresh) := s9.forget ⟨.inr rfl, .inr rfl, .inr rfl, .inr rfl, .inr rfl, .inr rfl, .inr rfl, .inl rfl, .inr rfl, .inr rfl, trivial⟩
  have hcut := wt_cut1 rows k.toNat
  have hcut0 := wt_cut rows k.toNat
  have hnl : ("\n" : Str).length = 1 := by decide
  have hsp : (" " : Str).length = 1 := by decide
  have done : ∀ {σ : L2.St} {words' : List Str} {ys : List Str} {G' H' : Hp} {e : Expr} {pos pr : Pos} {rest : List Stmt} {kk} {p1 apos : Pos} {D : Ends} (hD : D.rt = Q) (g : Gr G9 H9 G' H') (s' : SD K G' σ (rho84 x rows k way words' at_ word fresh)) (hy : PV (CC P w K mg base N84 "_law_bent" (defScope (top 84)) f cdv A outer s H E) e (rho84 x rows k way words' at_ word fresh) (.list (ys.map .str))) (hw : wt ys ≤ 2 * x.length + 32)
      (hs : starEach [e] (CC P w K mg base N84 "_law_bent" (defScope (top 84)) f cdv A outer s H E).env = [(false, eval e (CC P w K mg base N84 "_law_bent" (defScope (top 84)) f cdv A outer s H E).env)]) (hline : (apos.endLine == pos.line) = true),
      wSs (CC P w K mg base N84 "_law_bent" (defScope (top 84)) f cdv A outer s H E) (.Return (some (.Call (.Attribute (.Constant (.str "\n") kk p1) "join" apos) [e] [] pos)) pr :: rest) D σ H' := by
    intro σ words' ys G' H' e pos pr rest kk p1 apos D hD g s' hy hw hs hline
    refine ws_retE (PV.go (pv_join (x := "\n") (ys := ys) pv_str hy (wt_join hnl (by omega)) hs rfl hline) g.sub s' fun w1 G'' H'' g'' k'' => ?_)
    rw [hD]
    exact hq _ _ G'' H'' (gA.trans (g.trans g'').m) (m9.go (g.trans g'')) k'' ⟨x, _, rfl, rfl, Nat.le_trans (join_wt hnl) hw⟩
  have tst : ∀ {i : Int} {pos p1 p2 : Pos} {kk}, PB (CC P w K mg base N84 "_law_bent" (defScope (top 84)) f cdv A outer s H E) (.Compare (.Name "_law_way" p1) [.Eq] [.Constant (.int i) kk p2] pos) (rho84 x rows k way words at_ word fresh) (decide (way = i)) := fun {i pos p1 p2 kk} => PB.to (pb_cmp (op_eqP (hu64 hr)) (dr_eq (by simp [PyData.depth])) (pv_var (i := 4) rfl) pv_int) (eqv_int way i)
  refine ws_if g9.sub sA tst (fun _ Ga Ha ga => done rfl ga (sA.gr ga) (sv_cat (sv_to (pv_var (i := 2) rfl) (pv_var (i := 3) rfl) hk0) (sv_from1 (pv_var (i := 2) rfl) (pv_var (i := 3) rfl) hk0) (by omega)) (by rw [wt_app]; omega) rfl rfl) fun _ Ga Ha ga => ws_nil ?_
  refine ws_if ga.sub (sA.gr ga) tst (fun _ Gb Hb gb => done rfl (ga.trans gb) (sA.gr (ga.trans gb)) (sv_cat (sv_cat (sv_to (pv_var (i := 2) rfl) (pv_var (i := 3) rfl) hk0) (sv_one (pv_ixL (i := k) (d := .str row) (pv_var (i := 2) rfl) (pv_var (i := 3) rfl) hat)) (by rw [wt_one]; omega)) (sv_from (pv_var (i := 2) rfl) (pv_var (i := 3) rfl) hk0) (by rw [wt_app, wt_one]; omega)) (by rw [wt_app, wt_app, wt_one]; omega) rfl rfl) fun _ Gb Hb gb => ws_nil ?_
  have gab := ga.trans gb
  refine ws_if gb.sub (sA.gr gab) tst (fun _ Gc Hc gc => done rfl (gab.trans gc) (sA.gr (gab.trans gc)) (sv_cat (sv_cat (sv_to (pv_var (i := 2) rfl) (pv_var (i := 3) rfl) hk0) (sv_one (pv_var (i := 9) rfl)) (by rw [wt_one]; omega)) (sv_from (pv_var (i := 2) rfl) (pv_var (i := 3) rfl) hk0) (by rw [wt_app, wt_one]; omega)) (by rw [wt_app, wt_app, wt_one]; omega) rfl rfl) fun _ Gc Hc gc => ws_nil ?_
  have gac := gab.trans gc
  refine ws_if gc.sub (sA.gr gac) tst (fun _ Gd Hd gd => done rfl (gac.trans gd) (sA.gr (gac.trans gd)) (sv_cat (sv_from (pv_var (i := 2) rfl) (pv_var (i := 3) rfl) hk0) (sv_to (pv_var (i := 2) rfl) (pv_var (i := 3) rfl) hk0) (by omega)) (by rw [wt_app]; omega) rfl rfl) fun _ Gd Hd gd => ws_nil ?_
  have gad := gac.trans gd
  have hwc := wt_cut1 words at_.toNat
  have hwc0 := wt_cut words at_.toNat
  -- the last return
  have last : ∀ {words' : List Str} {σ : L2.St} {G' H' : Hp}, Gr G9 H9 G' H' → SD K G' σ (rho84 x rows k way words' at_ word fresh) → wt words' ≤ row.length + 20 → wSs (CC P w K mg base N84 "_law_bent" (defScope (top 84)) f cdv A outer s H E) ((defBody (top 84)).drop 13) { nx := fun _ H' => Q .non H', rt := Q } σ H' := by
    intro words' σ G' H' g s' hw
    have hj : (Txt.join " " words').length ≤ row.length + 20 := Nat.le_trans (join_wt hsp) hw
    exact done (words' := words') rfl g s' (sv_cat (sv_cat (sv_to (pv_var (i := 2) rfl) (pv_var (i := 3) rfl) hk0) (sv_one (pv_join (x := " ") (ys := words') pv_str (pv_var (i := 5) rfl) (wt_join hsp (by omega)))) (by rw [wt_one]; omega)) (sv_from1 (pv_var (i := 2) rfl) (pv_var (i := 3) rfl) hk0) (by rw [wt_app, wt_one]; omega)) (by rw [wt_app, wt_app, wt_one]; omega) rfl rfl
  refine ws_if gd.sub (sA.gr gad) tst (fun _ Ge He ge => ?_) fun _ Ge He ge => ?_
  · refine ws_set (i := 5) ge.sub (sA.gr (gad.trans ge)) (sv_cat (sv_to (pv_var (i := 5) rfl) (pv_var (i := 6) rfl) ha0) (sv_from1 (pv_var (i := 5) rfl) (pv_var (i := 6) rfl) ha0) (by omega)) sc84.nd fun v Gf Hf gf kf sf => ws_nil ?_
    exact last (gad.trans (ge.trans gf)) sf (by rw [wt_app]; omega)
  · refine ws_if ge.sub (sA.gr (gad.trans ge)) tst (fun _ Gf Hf gf => ?_) fun _ Gf Hf gf => ?_
    · refine ws_set (i := 5) gf.sub (sA.gr (gad.trans (ge.trans gf))) (sv_cat (sv_cat (sv_to (pv_var (i := 5) rfl) (pv_var (i := 6) rfl) ha0) (sv_one (pv_var (i := 8) rfl)) (by rw [wt_one]; omega)) (sv_from (pv_var (i := 5) rfl) (pv_var (i := 6) rfl) ha0) (by rw [wt_app, wt_one]; omega)) sc84.nd fun v Gg Hg gg kg sg => ws_nil (ws_nil ?_)
      exact last (gad.trans (ge.trans (gf.trans gg))) sg (by rw [wt_app, wt_app, wt_one]; omega)
    · refine ws_set (i := 5) gf.sub (sA.gr (gad.trans (ge.trans gf))) (sv_cat (sv_cat (sv_to (pv_var (i := 5) rfl) (pv_var (i := 6) rfl) ha0) (sv_one (pv_var (i := 8) rfl)) (by rw [wt_one]; omega)) (sv_from1 (pv_var (i := 5) rfl) (pv_var (i := 6) rfl) ha0) (by rw [wt_app, wt_one]; omega)) sc84.nd fun v Gg Hg gg kg sg => ws_nil (ws_nil ?_)
      exact last (gad.trans (ge.trans (gf.trans gg))) sg (by rw [wt_app, wt_app, wt_one]; omega)
end
end Wk
end G24_text
section G25_text
set_option maxRecDepth 100000
set_option maxHeartbeats 2000000
namespace DL
open PySem PySem.Spec PyProof.Rows L2 StX
theorem dr_pow {K : PySem.W.Frag} {i j : Int} (h : CPow i j) : DR2 K (rI CPow fun i j => .int (i ^ j.toNat)) (.int i) (.int j) (.int (i ^ j.toNat)) := fun G H x y u h1 h2 _ q => by
  have e1 := Dp.intE h1
  have e2 := Dp.intE h2
  subst e1 e2
  exact ⟨i, j, rfl, rfl, h, q _ G H (Gr.refl u) (.int _)⟩
end DL
namespace Wk
open PySem PySem.Spec PyProof.Rows L2 DL LamX
section
variable {P : Program} {w : World} {K : PySem.W.Frag} {mg : Str → Option Value} {base : Heap}
def spBegun (K : PySem.W.Frag) : Sp := fun vs H Q _ => ∃ (ns : List Int) (G : Hp), Same G H ∧ DpAll K G vs [.list (ns.map .int)] ∧ ns.length ≤ 63 ∧ ∀ am G2 H2, Gr G H G2 H2 → Mst K G2 H2 am 1048576 → Q (.ref am) H2
abbrev N67 : List Str := ["_law_script", "_law_total", "_law_k", "_law_cell"]
theorem sc67 : FnScope N67 ["_law_script"] (defScope (top 67)) := ⟨rfl, rfl, rfl, by decide +kernel, rfl, by decide +kernel, by decide +kernel⟩
theorem ok_law_begun (T : Txt P K mg) : DefOk P w K mg base 2 "_law_begun" (spBegun K) := by
  refine def_raw T (i := 67) (N := N67) (ps := ["_law_script"]) (by decide +kernel) sc67 (fun _ _ _ _ _ _ us hl => match us, hl with | [_], _ => rfl) (fun vs H Q E ⟨ns, G, _, h, _⟩ => by rw [DpAll.length h] <;> rfl) ?_
  intro f cdv A outer s H E vs Q hr hsp
  obtain ⟨ns, G, u, hd, hn, hq⟩ := hsp
  have s0 : SD K G (L2.start N67 vs) [some (.list (ns.map .int)), none, none, none] := sd_start (N := N67) hd
  have hb62 : (2 : Int) ^ 62 = 4611686018427387904 := by decide
  refine ws_set (i := 1) (d := .int 17) u s0 pv_int sc67.nd fun v1 G1 H1 g1 k1 s1 => ?_
  have esl : cutD (ns.map PyData.int) none (some 63) = ns.map .int := by
    have e := cutD_to (ns.map PyData.int) 63
    rw [show ((63 : Nat) : Int) = 63 from rfl] at e
    rw [e, List.take_of_length_le (by rw [List.length_map]; exact hn)]
  refine ws_for (ρ := [some (.list (ns.map .int)), some (.int 17), none, none]) (iv_enumL (ds := ns.map .int) (PV.to (pv_slL (pv_var (i := 0) rfl) pp_none (pp_some pv_int)) (by rw [esl])) (T_fr T)) g1.sub s1 cxOwn fun G2 H2 g2 => ?_
  refine ⟨fun i σ' G' H' => ∃ t : Int, 0 ≤ t ∧ t < 2147483647 ∧ Gr G H G' H' ∧ Same G2 G' ∧ SD K G' σ' [some (.list (ns.map .int)), some (.int t), none, none], ⟨17, by decide, by decide, g1.trans g2, L2.Same.refl _, s1.gr g2⟩, fun i σ' G' H' ⟨t, _, _, h1, h2, _⟩ => ⟨h1.sub, h2⟩, ?_, ?_⟩
  · rintro i y σ' G' H' v G3 H3 ⟨t, t0, t1, gr, sm, s'⟩ hy g3 hv
    obtain ⟨d, hd', rfl⟩ := enum_at hy
    rw [List.getElem?_map] at hd'
    obtain ⟨c, hc, rfl⟩ : ∃ c, ns[i]? = some c ∧ d = .int c := by
      cases e : ns[i]? with
      | none => rw [e] at hd'; cases hd'
      | some b => rw [e] at hd'; exact ⟨b, rfl, (Option.some.inj hd').symm⟩
    refine PGD.go (pgd_tup (pgds_cons (pgd_name (i := 2) sc67.nd) (pgds_cons (pgd_name (i := 3) sc67.nd) pgds_nil))) g3.sub (s'.gr g3) hv fun σ2 t2 s2 => ?_
    refine ws_set (i := 1) (d := .int (((t + c % 1000000007 + 31 * (i : Nat) + 7) * 48271) % 2147483647)) g3.sub s2 (pv_bin op_mod (dr_mod (by decide)) (pv_callTy call_intI drc_intI (T_fr T) (pvs_cons (pv_bin op_mul (dr_mul (.inr (by decide))) (pv_bin op_add dr_II (pv_bin op_add dr_II (pv_bin op_add dr_II (pv_var (i := 1) rfl) (pv_bin op_mod (dr_mod (by decide)) (pv_callTy call_intI drc_intI (T_fr T) (pvs_cons (pv_var (i := 3) rfl) pvs_nil)) pv_int)) (pv_bin op_mul (dr_mul (.inl (by decide))) pv_int (pv_var (i := 2) rfl))) pv_int) pv_int) pvs_nil)) pv_int) sc67.nd fun v4 G4 H4 g4 k4 s4 => ws_nil ?_
    exact ⟨G4, _, Int.emod_nonneg _ (by decide), Int.emod_lt_of_pos _ (by decide), gr.trans (g3.trans g4), sm.trans (g3.gg.trans g4.gg), s4.forget ⟨.inr rfl, .inr rfl, .inl rfl, .inl rfl, trivial⟩⟩
  · rintro σ' G' H' ⟨t, t0, t1, gr, sm, s'⟩
    refine ws_retE (wE_of (pe_disp (pps_cons pe_str pe_w (pps_cons pe_str (L2.pv 1) (pps_cons pe_str pe_int pps_nil))) rfl rfl (fun z => nomatch z) (by decide)) fun p hp => ?_)
    have gp := Gr.more (o := .dK []) gr.sub hp
    have hGp : G' p = none := L2.Same.free gr.sub hp
    refine PV.go (d := .list ((ns.filter fun c => decide ((10 : Int) ^ (18 : Int).toNat ≤ c)).map .int)) (pv_lc (xs := ns) (enc := .int) (own := [("_law_cell", 3)]) (T := [3]) (p := fun c => decide ((10 : Int) ^ (18 : Int).toNat ≤ c)) (f := .int) (iv_list (pv_var (i := 0) rfl)) sc67.nd (blkOk_by (N := N67) (sc := defScope (top 67)) (by decide +kernel)) (by rw [sizeLine_eq]; omega) (by decide) (fun c _ _ _ _ _ _ => pgd_name (i := 3) sc67.nd) (fun c _ _ _ _ _ _ => pb_cmp op_ge dr_IB (pv_var (i := 3) rfl) (pv_bin op_pow (dr_pow ⟨by decide, by decide, by decide⟩) pv_int pv_int)) fun c _ _ _ _ _ _ _ => pv_var (i := 3) rfl) gp.sub (s'.gr gp) fun vg G3 H3 g3 k3 => ?_
    obtain ⟨v5, h5, d5⟩ := s'.2 1 (.int t) rfl
    have e5 := Dp.intE d5
    subst e5
    refine ⟨.int t, h5, ?_⟩
    have gall := gp.trans g3
    have hp3 := g3.hh _ _ (show L2.upd H' p (.dK []) p = some (.dK []) from upd_same)
    have hG3 : G3 p = none := by rw [g3.new p (by rw [upd_same]; exact fun z => nomatch z)]; exact hGp
    refine ⟨hp3, mkvs vg t 0, rfl, by show 3 ≤ 15; decide, ?_⟩
    have em : mergeK [] (mkvs vg t 0) = mkvs vg t 0 := by
      have e1 : ¬ (Str.ofString "great" = Str.ofString "seed") := by decide
      have e2 : ¬ (Str.ofString "great" = Str.ofString "at") := by decide
      have e3 : ¬ (Str.ofString "seed" = Str.ofString "at") := by decide
      unfold mergeK putK
      simp [e1, e2, e3]
    rw [em]
    have h0p : H p = none := L2.Same.free gr.hh hp
    refine hq p G3 _ ((gr.trans gall).mut h0p hG3) ⟨vg, _, t, 0, ⟨upd_same, hG3, k3, ?_, t0, t1, by decide⟩, by decide⟩
    exact Nat.le_trans (List.length_filter_le _ _) hn
end
end Wk
end G25_text
section G26_text
set_option maxRecDepth 100000
set_option maxHeartbeats 2000000
namespace Wk
open PySem PySem.Spec PyProof.Rows L2 DL LamX
section
variable {P : Program} {w : World} {K : PySem.W.Frag} {mg : Str → Option Value} {base : Heap}
/-- _law_due, a def that makes lambdas -/
theorem ok_law_due {c P1 P2 : Addr} (T : Txt P K mg) (U : TxE K mg) (hP : P1 ≠ P2) (L : LamF K mg base "_law_due" 83 c P1) : DefOk P w K mg base 18 "_law_due" (spDue K (TTab P1 P2)) := by
  obtain ⟨f, oc, od, kV, doc, pm, an, ct, osl, hg, hk, lk, hcd⟩ := L.ex
  refine ⟨⟨L2.CX P w, f, PySem.W.fnOf "_law_due" "_law_due" (defArgs (top 83)) (defBody (top 83)) (defScope (top 83)) .none kV doc pm an (.ref c) ct, ["_law_text"], hg, hk, Binds.all fun us hl => (match us, hl with | [_], _ => rfl), ⟨fun vs H Q E ⟨x, e, _⟩ => by rw [e] <;> rfl, fun A outer s H args us vs Q E hr e0 hb hv hs => ?_⟩, .inr rfl⟩⟩
  refine run_ofS (k := 17) (CX := L2.CX P w) (base := base) (mg := mg) (N := N83) (ps := ["_law_text"]) lk hcd sc83 hr e0 hb hv (by obtain ⟨x, e, _⟩ := hs; rw [e] <;> rfl) fun hr' => ⟨_, pss_w, due_body T U hP L.tb (hr'.mono (by decide)) hs⟩
/-! read_house on what is no text -/
def spOdd (K : PySem.W.Frag) (mg : Str → Option Value) : Sp := fun vs H Q E => ∃ (v : V) (t : String) (G : Hp), vs = [v] ∧ TyX K H v (.type t) ∧ kitB t "str" = some false ∧ Same G H ∧ KO K E G H Q (.ex (ca mg "BadText") "line" .none)
theorem we_isi {X : Cx} {σ : L2.St} {H : Hp} {Q : VK} {v : V} {t T : String} {k : Bool} {x y : Str} {i : Nat} {p p0 p1 pos : Pos} (hσ : σ[i]? = some (some v)) (ht : TyX X.K H v (.type t)) (hk : kitB t T = some k) (q : Q (.bl k) H) (hi : X.mg "isinstance" = none) (hT : X.mg y = none) (hx : bootBuiltins y = some (.type T) := by decide +kernel) (hN : X.N[i]? = some x := by rfl) (hv : Vis X.env.scope x := by first | exact Or.inl rfl | exact Or.inr (Or.inl rfl) | exact Or.inr (Or.inr rfl)) (hd : (x == ("__debug__" : Str)) = false := by decide) (hcd : (x == ("__classdict__" : Str)) = false := by decide)
    (hgi : Gl X "isinstance" := by rfl) (hgx : Gl X y := by rfl) (hn : y ≠ "__name__" := by decide) (hdb : (y == ("__debug__" : Str)) = false := by decide) (he : starEach (.Name x p0 :: [.Name y p1]) X.env = (false, eval (.Name x p0) X.env) :: starEach [.Name y p1] X.env := by rfl) (he2 : starEach (.Name y p1 :: []) X.env = (false, eval (.Name y p1) X.env) :: starEach [] X.env := by rfl) (hpl : (backTo pos (starEach [.Name y p1] X.env)).any (·.1) = false := by rfl) :
    wE X (.Call (.Name "isinstance" p) [.Name x p0, .Name y p1] [] pos) σ H Q :=
  wE_of (pe_callB call_isi hgi hi (by decide +kernel) (pa_cons (pe_var hN hv hd hcd) (pa_cons (pe_bltn (v := .ty T) hgx hT hx rfl hn hdb) pa_nil he2) he) (by decide) (by decide) he hpl) ⟨v, hσ, v, .ty T, _, _, k, rfl, .ty T, ht, kit_ty hk, q⟩
abbrev N65o : List Str := ["text", "name", "stands", "lines"]
theorem sc65o : FnScope N65o ["text"] (defScope (top 65)) := ⟨rfl, rfl, rfl, by decide +kernel, rfl, by decide +kernel, by decide +kernel⟩
theorem ok_read_odd (T : Txt P K mg) : DefOk P w K mg base 14 "read_house" (spOdd K mg) := by
  refine def_raw T (i := 65) (N := N65o) (ps := ["text"]) (by decide +kernel) sc65o (fun _ _ _ _ _ _ us hl => match us, hl with | [_], _ => rfl) (fun vs H Q E ⟨v, t, G, e, _⟩ => by rw [e] <;> rfl) ?_
  intro f cdv A outer s H E vs Q hr hsp
  obtain ⟨v, t, G, rfl, ht, hk, u, hq⟩ := hsp
  have s0 : SD K G (L2.start N65o [v]) [none, none, none, none] := ⟨rfl, fun i d e => by
    match i with
    | 0 => cases e
    | 1 => cases e
    | 2 => cases e
    | 3 => cases e
    | i + 4 => simp at e⟩
  refine wSs_of (pss_cons (ps_if (pt_not (pt_val pe_w fun _ => rfl)) pss_w pss_w) pss_w) ?_
  refine we_isi (i := 0) (v := v) (t := t) (T := "str") (k := false) rfl ht hk ⟨false, rfl, ?_⟩ (T_fr T) (T_fr T)
  show (if true = true then _ else _)
  rw [if_pos rfl]
  exact PSD.ws (psd_raise (E := E) (ρ := [none, none, none, none]) cxTk T.xt.2.choose_spec PySem.OwnX.clsF_line T.xt.1 T.tp (hr.mono (by decide : 1 ≤ _)) pv_non) u s0 hq
end
end Wk
end G26_text
section P6_text
set_option maxRecDepth 100000
set_option maxHeartbeats 2000000
namespace Wk
open PySem PySem.Spec PyProof.Rows L2 DL
open PySem.W (alike dataLt)
/-! ### what is told is small enough to be shown -/
structure Tame (m n : Nat) (d : PyData) : Prop where
  sh : d.showable = true
  nd : d.hasDict = false
  lv : d.leavesShort 16 = true
  wt : d.weight ≤ m
  dp : d.depth ≤ n
theorem Tame.up {m n m' n' : Nat} {d : PyData} (h : Tame m n d) (hm : m ≤ m') (hn : n ≤ n') : Tame m' n' d := ⟨h.sh, h.nd, h.lv, Nat.le_trans h.wt hm, Nat.le_trans h.dp hn⟩
theorem tame_int {i : Int} (h0 : 0 ≤ i) (h1 : i < 1073741824) : Tame 31 1 (.int i) := by
  have hn : i.natAbs < 2 ^ 30 := by omega
  have hl : i.natAbs.log2 < 30 ∨ i.natAbs = 0 := by
    by_cases h : i.natAbs = 0
    · exact .inr h
    · exact .inl ((Nat.log2_lt h).mpr hn)
  have hl2 : i.natAbs.log2 ≤ 29 := by
    rcases hl with h | h
    · omega
    · rw [h]; decide
  refine ⟨?_, ?_, ?_, ?_, ?_⟩
  · simp only [PyData.showable, decide_eq_true_eq]; omega
  · simp [PyData.hasDict]
  · have e := int_text_length_le10 (a := i) (k := 10) (by decide) (Nat.lt_of_lt_of_le hn (by decide))
    simp only [PyData.leavesShort, decide_eq_true_eq]
    show (Str.ofString (toString i)).length ≤ 16
    rw [PySem.ofString_length]
    omega
  · simp only [PyData.weight]
    split
    · omega
    · omega
  · simp [PyData.depth]
theorem tame_str {x : Str} (hl : x.length ≤ 31) (h : ∀ c ∈ x.cps.toList, c < 16 ^ 8) : Tame 31 1 (.str x) := by
  refine ⟨by simp [PyData.showable], by simp [PyData.hasDict], ?_, ?_, by simp [PyData.depth]⟩
  · simp only [PyData.leavesShort, List.all_eq_true, decide_eq_true_eq]
    exact h
  · simp only [PyData.weight]
    exact hl
theorem tame_all {m n : Nat} : ∀ {ds : List PyData}, (∀ d ∈ ds, Tame m n d) → PyData.showableAll ds = true ∧ PyData.hasDictAll ds = false ∧ PyData.leavesShortAll 16 ds = true ∧ PyData.weightAll ds ≤ ds.length * (m + 1) ∧ PyData.depthAll ds ≤ n
  | [], _ => by simp [PyData.showableAll, PyData.hasDictAll, PyData.leavesShortAll, PyData.weightAll, PyData.depthAll]
  | d :: ds, h => by
    obtain ⟨h1, h2, h3, h4, h5⟩ := h d List.mem_cons_self
    obtain ⟨k1, k2, k3, k4, k5⟩ := tame_all (ds := ds) fun e he => h e (List.mem_cons_of_mem _ he)
    refine ⟨by simp [PyData.showableAll, h1, k1], by simp [PyData.hasDictAll, h2, k2], by simp [PyData.leavesShortAll, h3, k3], ?_, ?_⟩
    · rw [PyData.weightAll, List.length_cons, Nat.succ_mul]
      omega
    · rw [PyData.depthAll]
      omega
theorem tame_tup {m n k : Nat} {ds : List PyData} (h : ∀ d ∈ ds, Tame m n d) (hl : ds.length ≤ k) : Tame (k * (m + 1)) (n + 1) (.tuple ds) := by
  obtain ⟨k1, k2, k3, k4, k5⟩ := tame_all h
  have := Nat.mul_le_mul_right (m + 1) hl
  refine ⟨by simpa [PyData.showable] using k1, by simpa [PyData.hasDict] using k2, by simpa [PyData.leavesShort] using k3, ?_, ?_⟩
  · rw [PyData.weight]; omega
  · rw [PyData.depth]; omega
theorem tame_lst {m n k : Nat} {ds : List PyData} (h : ∀ d ∈ ds, Tame m n d) (hl : ds.length ≤ k) : Tame (k * (m + 1)) (n + 1) (.list ds) := by
  obtain ⟨k1, k2, k3, k4, k5⟩ := tame_all h
  have := Nat.mul_le_mul_right (m + 1) hl
  refine ⟨by simpa [PyData.showable] using k1, by simpa [PyData.hasDict] using k2, by simpa [PyData.leavesShort] using k3, ?_, ?_⟩
  · rw [PyData.weight]; omega
  · rw [PyData.depth]; omega
theorem Tame.len {m n : Nat} {d : PyData} (h : Tame m n d) (hm : m ≤ 900000) : d.shown.length ≤ sizeLine := by
  have := PyData.shown_le 16 (by decide) d h.lv
  have := h.wt
  have e : (16 + 2) * d.weight ≤ 18 * 900000 := by omega
  rw [sizeLine_eq]
  omega
/-! ascending rows hold each item once -/
theorem lt_trans' {x y z : PyData} (h1 : dataLt x y = true) (h2 : dataLt y z = true) : dataLt x z = true := PyProof.Rows.lex_trans (O := PyProof.Rows.itemOrd) _ _ _ h1 h2
theorem lt_irr (x : PyData) : dataLt x x = false := PyProof.Rows.lex_irrefl _
theorem asc_pw : ∀ {ds : List PyData}, ascD ds = true → ds.Pairwise fun a b => dataLt a b = true
  | [], _ => .nil
  | [x], _ => .cons (fun _ h => nomatch h) .nil
  | x :: y :: r, h => by
    have h' : (dataLt x y && ascD (y :: r)) = true := h
    rw [Bool.and_eq_true] at h'
    have ih := asc_pw h'.2
    refine .cons (fun z hz => ?_) ih
    rcases List.mem_cons.mp hz with rfl | hz
    · exact h'.1
    · rw [List.pairwise_cons] at ih
      exact lt_trans' h'.1 (ih.1 z hz)
theorem asc_nodup {α : Type} {enc : α → PyData} {xs : List α} (h : ascD (xs.map enc) = true) : xs.Nodup := by
  have := asc_pw h
  rw [List.pairwise_map] at this
  exact this.imp fun {a b} q e => by rw [e, lt_irr] at q; cases q
theorem nodup_len {α : Type} [DecidableEq α] : ∀ {xs ys : List α}, xs.Nodup → (∀ x ∈ xs, x ∈ ys) → xs.length ≤ ys.length
  | [], _, _, _ => Nat.zero_le _
  | x :: xs, ys, hn, h => by
    rw [List.nodup_cons] at hn
    have hx := h x List.mem_cons_self
    have ih := nodup_len (xs := xs) (ys := ys.erase x) hn.2 fun y hy => (List.mem_erase_of_ne (fun e => hn.1 (by rw [← e]; exact hy))).mpr (h y (List.mem_cons_of_mem _ hy))
    rw [List.length_erase_of_mem hx] at ih
    have : 1 ≤ ys.length := List.length_pos_iff.mpr (List.ne_nil_of_mem hx)
    rw [List.length_cons]
    omega
/-! a house that is accepted -/
theorem word_chars {x : Str} (h : isWord x = true) : x.length ≤ 31 ∧ ∀ c ∈ x.cps.toList, c < 16 ^ 8 := by
  unfold isWord at h
  simp only [Bool.and_eq_true, decide_eq_true_eq] at h
  refine ⟨by omega, fun c hc => ?_⟩
  have h2 := List.all_eq_true.mp h.2 c hc
  have h3 : ∀ c ∈ chars lettersS, c < 16 ^ 8 := by decide +kernel
  exact h3 c (of_decide_eq_true h2)
theorem small_strs : ∀ x ∈ asksS ++ deedsS, x.length ≤ 31 ∧ ∀ c ∈ x.cps.toList, c < 16 ^ 8 := by decide +kernel
theorem small_words : ∀ x ∈ (["text", "house", "stands", "up", "deaf", "edges", "below"] : List Str), x.length ≤ 31 ∧ ∀ c ∈ x.cps.toList, c < 16 ^ 8 := by decide +kernel
theorem tame_word {x : Str} (h : x ∈ (["text", "house", "stands", "up", "deaf", "edges", "below"] : List Str) := by decide) : Tame 31 1 (.str x) := tame_str (small_words x h).1 (small_words x h).2
theorem stands_tame {xs : List Int} {lo k : Int} (h : isStands xs lo k = true) (h0 : 0 ≤ lo) (hk : k ≤ 6) : Tame 320 2 (tI xs) := by
  unfold isStands at h
  rw [Bool.and_eq_true] at h
  have hr : ∀ i ∈ xs, 0 ≤ i ∧ i ≤ 5 := fun i hi => by
    have := List.all_eq_true.mp h.1 i hi
    unfold inR at this
    simp only [Bool.and_eq_true, decide_eq_true_eq] at this
    omega
  have hl : xs.length ≤ 6 := nodup_len (ys := [0, 1, 2, 3, 4, 5]) (asc_nodup h.2) fun i hi => by
    have := hr i hi
    simp only [List.mem_cons, List.not_mem_nil, or_false]
    omega
  refine (tame_tup (k := 6) (m := 31) (n := 1) (fun d hd => ?_) (by rw [List.length_map]; exact hl)).up (by decide) (by decide)
  obtain ⟨i, hi, rfl⟩ := List.mem_map.mp hd
  have := hr i hi
  exact tame_int (by omega) (by omega)
theorem asks_tame {xs : List Str} (h : isAsks xs = true) : Tame 160 2 (tS xs) := by
  unfold isAsks at h
  rw [Bool.and_eq_true, Bool.and_eq_true] at h
  have hm : ∀ x ∈ xs, x ∈ asksS := fun x hx => of_decide_eq_true (List.all_eq_true.mp h.1 x hx)
  have hl : xs.length ≤ 5 := nodup_len (ys := asksS) (asc_nodup h.2.1) hm
  refine (tame_tup (k := 5) (m := 31) (n := 1) (fun d hd => ?_) (by rw [List.length_map]; exact hl)).up (by decide) (by decide)
  obtain ⟨x, hx, rfl⟩ := List.mem_map.mp hd
  have := small_strs x (List.mem_append_left _ (hm x hx))
  exact tame_str this.1 this.2
theorem edge_tame {x : Edge} {k : Int} (h : isEdge x k = true) (hk : k ≤ 6) : Tame 644 3 (encE x) := by
  unfold isEdge inR at h
  simp only [Bool.and_eq_true, decide_eq_true_eq] at h
  obtain ⟨h1, h2, ⟨h3, h4⟩, h5, h6⟩ := h
  have hd := small_strs x.deed (List.mem_append_right _ h2)
  refine (tame_tup (k := 4) (m := 160) (n := 2) (fun d hd' => ?_) (Nat.le_refl _)).up (by decide) (by decide)
  simp only [List.mem_cons, List.not_mem_nil, or_false] at hd'
  rcases hd' with rfl | rfl | rfl | rfl
  · exact (tame_int (by omega) (by omega)).up (by decide) (by decide)
  · exact asks_tame h1
  · exact (tame_str hd.1 hd.2).up (by decide) (by decide)
  · exact (tame_int (by omega) (by omega)).up (by decide) (by decide)
theorem below_tame {xs ns : List Str} (h : isBelow xs ns = true) (hn : ns.length ≤ 3) (hw : ∀ x ∈ ns, isWord x = true) : Tame 320 2 (tS xs) := by
  unfold isBelow at h
  rw [Bool.and_eq_true] at h
  have hm : ∀ x ∈ xs, x ∈ ns := fun x hx => of_decide_eq_true (List.all_eq_true.mp h.1 x hx)
  have hl : xs.length ≤ ns.length := nodup_len (asc_nodup h.2) hm
  refine (tame_tup (k := 3) (m := 31) (n := 1) (fun d hd => ?_) (by rw [List.length_map]; omega)).up (by decide) (by decide)
  obtain ⟨x, hx, rfl⟩ := List.mem_map.mp hd
  have := word_chars (hw x (hm x hx))
  exact tame_str this.1 this.2
theorem kind_tame {i : Nat} {x : Kd} {ns : List Str} (h : badKind i x ns = none) (hx : isWord x.name = true) (hn : ns.length ≤ 3) (hw : ∀ x ∈ ns, isWord x = true) : Tame 247702 7 (encKd x) := by
  unfold badKind at h
  by_cases h1 : inR 1 6 x.k = true
  case neg => rw [if_neg h1] at h; cases h
  rw [if_pos h1] at h
  by_cases h2 : isStands x.up 1 x.k = true
  case neg => rw [if_neg h2] at h; cases h
  rw [if_pos h2] at h
  by_cases h3 : isStands x.deaf 0 x.k = true
  case neg => rw [if_neg h3] at h; cases h
  rw [if_pos h3] at h
  by_cases h4 : x.edges.length ≤ 24
  case neg => rw [if_neg h4] at h; cases h
  rw [if_pos h4] at h
  cases h5 : badEdge x.k x.edges with
  | some j => rw [h5] at h; cases h
  | none =>
    rw [h5] at h
    have h' : (if isBelow x.below ns = true then none else some (PyData.tuple [.int (i : Nat), .str "below"])) = none := h
    by_cases h6 : isBelow x.below ns = true
    case neg => rw [if_neg h6] at h'; cases h'
    unfold inR at h1
    simp only [Bool.and_eq_true, decide_eq_true_eq] at h1
    have he : ∀ e ∈ x.edges, isEdge e x.k = true := fun e he => by
      obtain ⟨j, hj⟩ := List.getElem?_of_mem he
      have := firstBad_none h5 j e hj
      unfold edgeOk at this
      rw [Bool.and_eq_true] at this
      exact this.1
    have k1 : Tame 15480 4 (.tuple (x.edges.map encE)) := (tame_tup (k := 24) (m := 644) (n := 3) (fun d hd => by
      obtain ⟨e, hm, rfl⟩ := List.mem_map.mp hd
      exact edge_tame (he e hm) h1.2) (by rw [List.length_map]; exact h4)).up (by decide) (by decide)
    have hwd := word_chars hx
    have k2 : Tame 61924 5 (.tuple [.int x.k, tI x.up, tI x.deaf, .tuple (x.edges.map encE)]) := tame_tup (k := 4) (m := 15480) (n := 4) (fun d hd => by
      simp only [List.mem_cons, List.not_mem_nil, or_false] at hd
      rcases hd with rfl | rfl | rfl | rfl
      · exact (tame_int (by omega) (by omega)).up (by decide) (by decide)
      · exact (stands_tame h2 (by decide) h1.2).up (by decide) (by decide)
      · exact (stands_tame h3 (by decide) h1.2).up (by decide) (by decide)
      · exact k1) (Nat.le_refl _)
    have k3 : Tame 123850 6 (encKd1 x) := tame_tup (k := 2) (m := 61924) (n := 5) (fun d hd => by
      simp only [List.mem_cons, List.not_mem_nil, or_false] at hd
      rcases hd with rfl | rfl
      · exact k2
      · exact (below_tame h6 hn hw).up (by decide) (by decide)) (Nat.le_refl _)
    exact (tame_tup (k := 2) (m := 123850) (n := 6) (fun d hd => by
      simp only [List.mem_cons, List.not_mem_nil, or_false] at hd
      rcases hd with rfl | rfl
      · exact (tame_str hwd.1 hwd.2).up (by decide) (by decide)
      · exact k3) (Nat.le_refl _)).up (by decide) (by decide)
theorem fb_lt {α : Type} {p : Nat → α → Bool} {xs : List α} {j : Nat} (h : DL.firstBad p 0 xs = some j) : ∃ x, xs[j]? = some x ∧ j < xs.length := by
  obtain ⟨n, x, h1, h2, _⟩ := firstBad_some h
  rw [Nat.zero_add] at h1
  subst h1
  exact ⟨x, h2, (List.getElem?_eq_some_iff.mp h2).1⟩
theorem house_tame {h : List Kd} (hh : needH h = none) : Tame 743109 8 (encH h) := by
  unfold needH at hh
  by_cases hl : 1 ≤ h.length ∧ h.length ≤ 3
  case neg => rw [if_neg hl] at hh; cases hh
  rw [if_pos hl] at hh
  cases h1 : badPair h with
  | some i => rw [h1] at hh; cases hh
  | none =>
    rw [h1] at hh
    have h2 : badKinds h = none := hh
    have hw : ∀ x ∈ h, isWord x.name = true := fun x hx => by
      obtain ⟨j, hj⟩ := List.getElem?_of_mem hx
      have := firstBad_none h1 j x hj
      unfold pairOk at this
      rw [Bool.and_eq_true] at this
      exact this.1
    have hk : ∀ x ∈ h, ∃ i, badKind i x (h.map (·.name)) = none := fun x hx => by
      obtain ⟨j, hj⟩ := List.getElem?_of_mem hx
      unfold badKinds at h2
      cases h3 : DL.firstBad (fun i x => (badKind i x (h.map (·.name))).isNone) 0 h with
      | none =>
        have := firstBad_none h3 j x hj
        exact ⟨_, Option.isNone_iff_eq_none.mp this⟩
      | some i =>
        rw [h3] at h2
        obtain ⟨n, y, e, hy, hb, _⟩ := firstBad_some h3
        rw [Nat.zero_add] at e
        subst e
        have h4 : (h[i]?).bind (fun x => badKind i x (h.map (·.name))) = none := h2
        rw [hy] at h4
        have h5 : badKind i y (h.map (·.name)) = none := h4
        rw [h5] at hb
        cases hb
    refine (tame_tup (k := 3) (m := 247702) (n := 7) (fun d hd => ?_) (by rw [List.length_map]; exact hl.2)).up (by decide) (by decide)
    obtain ⟨x, hx, rfl⟩ := List.mem_map.mp hd
    obtain ⟨i, hi⟩ := hk x hx
    exact kind_tame hi (hw x hx) (by rw [List.length_map]; exact hl.2) fun y hy => by
      obtain ⟨z, hz, rfl⟩ := List.mem_map.mp hy
      exact hw z hz
/-- the places of refusals -/
theorem place_tame {ds : List PyData} (h : ∀ d ∈ ds, Tame 31 1 d) (hl : ds.length ≤ 3) : Tame 96 2 (.tuple ds) := tame_tup h hl
theorem nat_tame {i : Nat} (h : i < 1073741824) : Tame 31 1 (.int (i : Nat)) := tame_int (by omega) (by omega)
theorem badKind_tame {i : Nat} {x : Kd} {ns : List Str} {d : PyData} (h : badKind i x ns = some d) (hi : i < 1000) : Tame 96 2 d := by
  have t2 : ∀ z : Str, z ∈ (["text", "house", "stands", "up", "deaf", "edges", "below"] : List Str) → Tame 96 2 (.tuple [.int (i : Nat), .str z]) := fun z hz => place_tame (fun d hd => by
    simp only [List.mem_cons, List.not_mem_nil, or_false] at hd
    rcases hd with rfl | rfl
    · exact nat_tame (by omega)
    · exact tame_word hz) (by show 2 ≤ 3; decide)
  unfold badKind at h
  by_cases h1 : inR 1 6 x.k = true
  case neg => rw [if_neg h1] at h; rw [← Option.some.inj h]; exact t2 _ (by decide)
  rw [if_pos h1] at h
  by_cases h2 : isStands x.up 1 x.k = true
  case neg => rw [if_neg h2] at h; rw [← Option.some.inj h]; exact t2 _ (by decide)
  rw [if_pos h2] at h
  by_cases h3 : isStands x.deaf 0 x.k = true
  case neg => rw [if_neg h3] at h; rw [← Option.some.inj h]; exact t2 _ (by decide)
  rw [if_pos h3] at h
  by_cases h4 : x.edges.length ≤ 24
  case neg => rw [if_neg h4] at h; rw [← Option.some.inj h]; exact t2 _ (by decide)
  rw [if_pos h4] at h
  cases h5 : badEdge x.k x.edges with
  | some j =>
    rw [h5] at h
    have h' : some (PyData.tuple [.int (i : Nat), .str "edges", .int (j : Nat)]) = some d := h
    rw [← Option.some.inj h']
    obtain ⟨_, _, hj⟩ := fb_lt h5
    exact place_tame (fun d hd => by
      simp only [List.mem_cons, List.not_mem_nil, or_false] at hd
      rcases hd with rfl | rfl | rfl
      · exact nat_tame (by omega)
      · exact tame_word
      · exact nat_tame (by omega)) (by show 3 ≤ 3; decide)
  | none =>
    rw [h5] at h
    have h' : (if isBelow x.below ns = true then none else some (PyData.tuple [.int (i : Nat), .str "below"])) = some d := h
    by_cases h6 : isBelow x.below ns = true
    · rw [if_pos h6] at h'; cases h'
    · rw [if_neg h6] at h'; rw [← Option.some.inj h']; exact t2 _ (by decide)
theorem needH_tame {h : List Kd} {d : PyData} (hh : needH h = some d) : Tame 96 2 d := by
  unfold needH at hh
  by_cases hl : 1 ≤ h.length ∧ h.length ≤ 3
  case neg =>
    rw [if_neg hl] at hh
    rw [← Option.some.inj hh]
    exact place_tame (fun d hd => nomatch hd) (Nat.zero_le _)
  rw [if_pos hl] at hh
  cases h1 : badPair h with
  | some i =>
    rw [h1] at hh
    have h' : some (PyData.tuple [.int (i : Nat)]) = some d := hh
    rw [← Option.some.inj h']
    obtain ⟨_, _, hj⟩ := fb_lt h1
    exact place_tame (fun d hd => by rw [List.mem_singleton.mp hd]; exact nat_tame (by omega)) (by show 1 ≤ 3; decide)
  | none =>
    rw [h1] at hh
    have h2 : badKinds h = some d := hh
    unfold badKinds at h2
    cases h3 : DL.firstBad (fun i x => (badKind i x (h.map (·.name))).isNone) 0 h with
    | none => rw [h3] at h2; cases h2
    | some j =>
      rw [h3] at h2
      obtain ⟨x, hx, hj⟩ := fb_lt h3
      have h4 : (h[j]?).bind (fun x => badKind j x (h.map (·.name))) = some d := h2
      rw [hx] at h4
      exact badKind_tame (show badKind j x (h.map (·.name)) = some d from h4) (by omega)
theorem readB_num : ∀ {rs : List (List Str)} {n : Nat} {bs : List Blk} {k : Nat}, readB n bs rs = .inr k → k < n + rs.length
  | [], _, _, _, h => by cases h
  | r :: rs, n, bs, k, h => by
    unfold readB at h
    cases h1 : lineOf r with
    | none =>
      rw [h1] at h
      have h' : (Sum.inr n : List Blk ⊕ Nat) = .inr k := h
      injection h' with h'
      rw [List.length_cons]; omega
    | some l =>
      rw [h1] at h
      cases h2 : stepB bs l with
      | none =>
        have h' : (match stepB bs l with | none => (Sum.inr n : List Blk ⊕ Nat) | some bs' => readB (n + 1) bs' rs) = .inr k := h
        rw [h2] at h'
        injection h' with h'
        rw [List.length_cons]; omega
      | some bs' =>
        have h' : (match stepB bs l with | none => (Sum.inr n : List Blk ⊕ Nat) | some bs' => readB (n + 1) bs' rs) = .inr k := h
        rw [h2] at h'
        have := readB_num h'
        rw [List.length_cons]; omega
theorem told_tame {x : Str} (hx : x.length + 2 ≤ big) : Tame 743110 9 (told x) := by
  unfold told
  cases h : readB 1 [] (rowsOf x) with
  | inr n =>
    have hn := readB_num h
    have hr : (rowsOf x).length ≤ x.length + 1 := by
      unfold rowsOf
      rw [List.length_map]
      exact (split_fit x 10).1
    have := big_eq
    refine (place_tame (fun d hd => ?_) (by show 2 ≤ 3; decide)).up (by decide) (by decide)
    simp only [List.mem_cons, List.not_mem_nil, or_false] at hd
    rcases hd with rfl | rfl
    · exact tame_word
    · exact nat_tame (by omega)
  | inl bs =>
    show Tame 743110 9 (match needH (bs.map kdOf) with | some d => PyData.tuple [.str "house", d] | none => .list [encH (bs.map kdOf)])
    cases h2 : needH (bs.map kdOf) with
    | some d =>
      refine Tame.up (m := 194) (n := 3) (tame_tup (k := 2) (m := 96) (n := 2) (ds := [.str "house", d]) (fun e he => ?_) (Nat.le_refl _)) (by decide) (by decide)
      simp only [List.mem_cons, List.not_mem_nil, or_false] at he
      rcases he with rfl | rfl
      · exact Tame.up (m := 31) (n := 1) (tame_word) (by decide) (by decide)
      · exact needH_tame h2
    | none =>
      refine Tame.up (m := 743110) (n := 9) (tame_lst (k := 1) (m := 743109) (n := 8) (ds := [encH (bs.map kdOf)]) (fun e he => ?_) (Nat.le_refl _)) (by decide) (by decide)
      rw [List.mem_singleton.mp he]
      exact house_tame h2
end Wk
end P6_text
section D15_text
set_option maxRecDepth 100000
set_option maxHeartbeats 2000000
namespace DL
open PySem PySem.Spec PyProof.Rows L2 StX
/-! ### repr of data, where it is known that no repr is under way -/
def rReprD (K : PySem.W.Frag) : List V → Hp → VK → Prop := fun vs H Q => ∃ (a : Addr) (d : PyData), vs = [.ref a] ∧ Dp K H (.ref a) d ∧ d.showable = true ∧ d.hasDict = false ∧ d.depth ≤ 40 ∧ d.shown.length ≤ sizeLine ∧ Q (.str d.shown) H
theorem call_reprD {X : Cx} (hgd : X.A.guards = some []) (hu : X.A.units + 64 < cLine) : CallR X (.builtin "repr") (rReprD X.K) := by
  intro pins s σ H vs us Q I r h
  obtain ⟨a, d, rfl, hd, h1, h2, h3, h4, q⟩ := h
  rw [Vals.ref1 r]
  obtain ⟨as, rd⟩ := Dp.reads I d (.ref a) (.ref a) hd rfl
  exact repr_of_reads' rd h1 (PyData.noDict_hsm h2) hgd (by omega) (fun _ _ e => e) (fun h' u tk hk => ⟨.str d.shown, H, I.kept (t' := tk) hk, ⟨u, rfl⟩, q⟩) h4
/-- f(e1, ..), a def of the text that is looked at where it is called -/
theorem wE_here {X : Cx} {σ : L2.St} {H : Hp} {Q : VK} {x : Str} {e : Expr} {es : List Expr} {N ps : List Str} {k : Nat} {f : Addr} {pa : Arguments} {bd : List Stmt} {sc : Scope} {dV kV doc pm cdv ct oc : Value} {an od : Option Addr} {osl : Array (Option Value)} {p pos : Pos} (hm : X.mg x = some (.ref f)) (hk : PySem.W.keepIn X.K (.ref f) = true)
    (lk : X.K.lookup f = some ⟨oc, od, .func (PySem.W.fnOf x x pa bd sc dV kV doc pm an cdv ct), osl⟩) (hcd : PySem.W.codeIn X.K cdv x = true) (S : FnScope N ps sc) (hb : L2.Binds X.K (PySem.W.fnOf x x pa bd sc dV kV doc pm an cdv ct) ps []) (hr : Room (k + 1) X.A)
    (h : wA X (e :: es) σ H fun vs H1 => vs.length = ps.length ∧ ∀ s : Shared, Room k (X.A.deeper (envOfC x sc s.heap.objs.size f cdv)) → wSs (cxOf CX0 X.prog X.w X.K X.mg X.base N x sc f cdv X.A X.stack s H1 E0) bd { nx := fun _ H' => Q .non H', rt := Q } (L2.start N vs) H1)
    (hg : Gl X x := by rfl) (hdb : (x == ("__debug__" : Str)) = false := by decide)
    (he : starEach (e :: es) X.env = (false, eval e X.env) :: starEach es X.env := by rfl) (hpl : (backTo pos (starEach es X.env)).any (·.1) = false := by rfl) : wE X (.Call (.Name x p) (e :: es) [] pos) σ H Q := by
  refine ⟨fun pins s I => wpAny_Call_Name_kw (ld_glob I hg hm ?_ hdb)⟩
  refine PySem.W.callWith_K (h₀ := X.base) I.ok.mod.kin hk (thn (h.run pos pins s I) ?_) he hpl
  rintro us s1 ⟨vs, H1, I1, r, hl, q⟩
  refine ⟨I1.kIn, wpAny_call (codeAny_mono (LamX.run_ofS (CX := CX0) (Q := Q) (E := E0) lk hcd S hr I1.env0 (by
    have := hb s1 us I1.kIn (by rw [List.append_nil, ← r.length]; exact hl)
    rwa [List.append_nil] at this) r hl fun hr' => ⟨_, pss_w, q s1 hr'⟩) fun r' s' hq => ?_)⟩
  cases r' with
  | error e => exact (show False from hq).elim
  | ok fl =>
    cases fl with
    | ret u => exact I1.after hq
    | next => exact False.elim hq
    | brk => exact False.elim hq
    | cont => exact False.elim hq
end DL
end D15_text
section G27_text
set_option maxRecDepth 100000
set_option maxHeartbeats 2000000
namespace Wk
open PySem PySem.Spec PyProof.Rows L2 DL LamX
section
variable {X : Cx} {σ : L2.St} {H : Hp} {Q : VK}
/-- told(lambda: ..): what the lambda does is o -/
theorem we_told {c P1 P2 : Addr} {params : Arguments} {body : Expr} {scope : Scope} {p lpos pos : Pos} (T : Txt X.prog X.K X.mg) (U : TxE X.K X.mg) (hP : P1 ≠ P2) (TB : TabB X.base X.mg c P2) (hcode : X.env.code = .ref c) (hql : X.env.qual ++ "<lambda>" = qLaw) (hr : Room 16 X.A) (L : LamS X.env.scope scope) (o : TOut) (ho : o.fine) (hyp : L2.St → Hp → Prop)
    (hb : ∀ (A : Around) (outer : List Env) (s : Shared) (H : Hp) (E : XK) (f c' : Addr), Room 14 (A.deeper (lamEnv X scope s.heap.objs.size f c')) → ∀ (σ2 : L2.St) (H2 G8 : Hp) (Q2 : VK), hyp σ2 H2 → Same G8 H2 → KO X.K E G8 H2 Q2 (o.out X.mg) → wE (lamCx X A outer s H E scope f c') body σ2 H2 Q2)
    (hh : ∀ H2, ExtN H H2 → hyp σ H2) (hT : Tabs (TTab P1 P2) H) (k : ∀ v G2 H2, Same G2 H2 → noTbl G2 → Dp X.K G2 v o.tell → ExtN H H2 → Tabs (TTab P1 P2) H2 → Q v H2)
    (hdef : defaultsOf params X.env = ([], []) := by rfl) (hbind : ∀ (q : Str) (cl : List (Str × Addr)) (pm cv ctv : Value), bindArgs (PySem.W.kla_fn "<lambda>" q params body scope cl pm cv ctv) ⟨[], []⟩ = pure [] := by intros; rfl) (hg : Gl X "_law_told" := by rfl) : wE X (.Call (.Name "_law_told" p) [.Lambda params body scope lpos] [] pos) σ H Q := by
  obtain ⟨fT, fdT, hgT, FT⟩ := T.fn ("_law_told", 73) (by decide +kernel)
  have FTb := FT.bindsN (ps := ["_law_call"]) (fun _ _ _ _ _ _ us hl => match us, hl with | [_], _ => rfl)
  obtain ⟨oc, od, dV, kV, doc, pm, an, cdT, ctT, osl, rfl, lkT, hcT, _, _⟩ := FT.ex
  refine wE_of (pe_lamcall (T := TTab P1 P2) (TT := TTk X.K X.mg) (k := 14) (Ng := N73) (t := fun E1 σ1 H1 Q1 => hyp σ1 H1 ∧ ∃ G8, Same G8 H1 ∧ KO X.K E1 G8 H1 Q1 (o.out X.mg)) hg hgT FT.kp lkT hcT FTb sc73 rfl (.inl rfl)
      (told_gives (k := 15) T U ((ok_law_word_of T U).mono (by decide)) hr) TB hcode (by rw [hql]; simp) (fun p hp ep => ?tabs) hr L hdef hbind (fun A1 outer1 s1 H1 E1 f1 c1 hr1 => ?lam)) ?main
  case tabs =>
    simp only [TTab, List.mem_cons, List.not_mem_nil, or_false] at hp
    rcases hp with rfl | rfl
    · exact absurd ep hP
    · exact hql.symm
  case lam =>
    exact pe_of_w fun σ2 H2 Q2 ⟨h2, G8, h3, h4⟩ => hb A1 outer1 s1 H1 E1 f1 c1 hr1 σ2 H2 G8 Q2 h2 h3 h4
  case main =>
    refine ⟨hT, fun H1 e1 T1 => ⟨o, fun _ => none, ho, (fun _ _ e => nomatch e), fun G8 H8 g8 E8 Q8 k8 => ⟨hh H8 (e1.trans (ExtN.of g8.hh)), G8, g8.sub, k8⟩, fun v G8 H8 g8 k8 => ?_⟩⟩
    exact k v (noTb G8) H8 ((noTb_sub G8).trans g8.sub) (fun b o e => noTb_ne e) (dp_noTb k8) (e1.trans (ExtN.of g8.hh)) (T1.ext g8.hh)
/-! what read_house does, as it is told -/
def outT (x : Str) : TOut := match readB 1 [] (rowsOf x) with
  | .inr n => .er "BadText" (.int (n : Nat))
  | .inl bs => match needH (bs.map kdOf) with
    | some d => .er "BadHouse" d
    | none => .ok (encH (bs.map kdOf))
theorem outT_tell (x : Str) : (outT x).tell = told x := by
  unfold outT told
  cases readB 1 [] (rowsOf x) with
  | inr n => rfl
  | inl bs =>
    show (TOut.tell (match needH (bs.map kdOf) with | some d => .er "BadHouse" d | none => .ok (encH (bs.map kdOf)))) = (match needH (bs.map kdOf) with | some d => .tuple [.str "house", d] | none => .list [encH (bs.map kdOf)])
    cases needH (bs.map kdOf) <;> rfl
theorem outT_fine (x : Str) : (outT x).fine := by
  unfold outT
  cases readB 1 [] (rowsOf x) with
  | inr n => show ("BadText" : Str) ∈ twoL; decide
  | inl bs =>
    show TOut.fine (match needH (bs.map kdOf) with | some d => .er "BadHouse" d | none => .ok (encH (bs.map kdOf)))
    cases needH (bs.map kdOf) with
    | none => trivial
    | some d => show ("BadHouse" : Str) ∈ twoL; decide
theorem outT_out (mg : Str → Option Value) (x : Str) : (outT x).out mg = outRd mg (readB 1 [] (rowsOf x)) := by
  unfold outT
  cases readB 1 [] (rowsOf x) with
  | inr n =>
    show Out.ex _ (fieldS "BadText") _ = _
    rw [show fieldS "BadText" = "line" by decide +kernel] <;> rfl
  | inl bs =>
    show TOut.out mg (match needH (bs.map kdOf) with | some d => .er "BadHouse" d | none => .ok (encH (bs.map kdOf))) = outR mg (encH (bs.map kdOf)) (needH (bs.map kdOf))
    cases needH (bs.map kdOf) with
    | none => rfl
    | some d =>
      show Out.ex _ (fieldS "BadHouse") _ = _
      rw [show fieldS "BadHouse" = "place" by decide +kernel] <;> rfl
abbrev lamPa : Arguments := { posonlyargs := [], args := [], vararg := none, kwonlyargs := [], kw_defaults := [], kwarg := none, defaults := [] }
/-- told(lambda: read_house(y)), y a text in slot i -/
theorem we_toldT {c P1 P2 : Addr} {scope : Scope} {p lpos pos q1 q2 q3 : Pos} {i : Nat} {y x : Str} (T : Txt X.prog X.K X.mg) (U : TxE X.K X.mg) (hP : P1 ≠ P2) (TB : TabB X.base X.mg c P2) (hcode : X.env.code = .ref c) (hql : X.env.qual ++ "<lambda>" = qLaw) (hr : Room 16 X.A) (L : LamS X.env.scope scope) (hx : x.length + 2 ≤ big) (hσ : σ[i]? = some (some (.str x))) (hT : Tabs (TTab P1 P2) H)
    (k : ∀ v G2 H2, Same G2 H2 → noTbl G2 → Dp X.K G2 v (told x) → ExtN H H2 → Tabs (TTab P1 P2) H2 → Q v H2) (hN : X.N[i]? = some y := by rfl) (hv : scope.names.lookup y = some .free := by rfl) (hgr : scope.names.lookup ("read_house" : Str) = some .globalImplicit := by rfl) (hyd : (y == ("__debug__" : Str)) = false := by decide) (hyc : (y == ("__classdict__" : Str)) = false := by decide)
    (hbind : ∀ (q : Str) (cl : List (Str × Addr)) (pm cv ctv : Value), bindArgs (PySem.W.kla_fn "<lambda>" q lamPa (.Call (.Name "read_house" q1) [.Name y q2] [] q3) scope cl pm cv ctv) ⟨[], []⟩ = pure [] := by intros; rfl) (hg : Gl X "_law_told" := by rfl) : wE X (.Call (.Name "_law_told" p) [.Lambda lamPa (.Call (.Name "read_house" q1) [.Name y q2] [] q3) scope lpos] [] pos) σ H Q := by
  refine we_told T U hP TB hcode hql hr L (outT x) (outT_fine x) (fun σ2 _ => σ2[i]? = some (some (.str x))) (fun A1 outer1 s1 H1 E1 f1 c1 hr1 σ2 H2 G8 Q2 h2 h3 h4 => ?_) (fun _ _ => hσ) hT (fun v G2 H2 h1 h2 h3 h4 h5 => k v G2 H2 h1 h2 (by rw [← outT_tell]; exact h3) h4 h5) rfl hbind hg
  refine wE_callX (X := lamCx X A1 outer1 s1 H1 E1 scope f1 c1) (E := E1) (ok_read_house T) hr1 (passes_call (takes_of rfl rfl rfl rfl) fun _ _ _ _ h => h) (wA_of (pa_cons (pe_var (i := i) hN (Or.inr (Or.inr hv)) hyd hyc) pa_nil) ⟨_, h2, ?_⟩) hgr
  exact ⟨[.str x], (outT x).out X.mg, G8, rfl, h3, .cons (.str x) .nil, ⟨x, rfl, hx, outT_out X.mg x⟩, h4⟩
/-- values that are no texts -/
def OddV (H : Hp) (v : V) : Prop := v = .non ∨ v = .int 5 ∨ v = .bl true ∨ ∃ a, v = .ref a ∧ ((∃ xs, H a = some (.lst xs)) ∨ (∃ xs, H a = some (.tup xs)) ∨ ∃ kvs, H a = some (.dK kvs))
theorem OddV.ext {H2 : Hp} {v : V} (h : OddV H v) (e : ∀ b o, H b = some o → (∀ ps, o ≠ .tbl ps) → H2 b = some o) : OddV H2 v := by
  rcases h with rfl | rfl | rfl | ⟨a, rfl, ⟨xs, h⟩ | ⟨xs, h⟩ | ⟨xs, h⟩⟩
  · exact .inl rfl
  · exact .inr (.inl rfl)
  · exact .inr (.inr (.inl rfl))
  · exact .inr (.inr (.inr ⟨a, rfl, .inl ⟨xs, e _ _ h fun _ z => nomatch z⟩⟩))
  · exact .inr (.inr (.inr ⟨a, rfl, .inr (.inl ⟨xs, e _ _ h fun _ z => nomatch z⟩)⟩))
  · exact .inr (.inr (.inr ⟨a, rfl, .inr (.inr ⟨xs, e _ _ h fun _ z => nomatch z⟩)⟩))
theorem OddV.ty {K : PySem.W.Frag} {v : V} (h : OddV H v) : ∃ t, TyX K H v (.type t) ∧ kitB t "str" = some false := by
  rcases h with rfl | rfl | rfl | ⟨a, rfl, ⟨xs, h⟩ | ⟨xs, h⟩ | ⟨xs, h⟩⟩
  · exact ⟨_, .base .non, by decide⟩
  · exact ⟨_, .base (.int 5), by decide⟩
  · exact ⟨_, .base (.bl true), by decide⟩
  · exact ⟨_, .base (.lst h), by decide⟩
  · exact ⟨_, .base (.tup h), by decide⟩
  · exact ⟨_, .base (.dK h), by decide⟩
theorem we_toldO {c P1 P2 : Addr} {scope : Scope} {p lpos pos q1 q2 q3 : Pos} {i : Nat} {y : Str} {v : V} (T : Txt X.prog X.K X.mg) (U : TxE X.K X.mg) (hP : P1 ≠ P2) (TB : TabB X.base X.mg c P2) (hcode : X.env.code = .ref c) (hql : X.env.qual ++ "<lambda>" = qLaw) (hr : Room 16 X.A) (L : LamS X.env.scope scope) (hodd : OddV H v) (hσ : σ[i]? = some (some v)) (hT : Tabs (TTab P1 P2) H)
    (k : ∀ v G2 H2, Same G2 H2 → noTbl G2 → Dp X.K G2 v (.tuple [.str "text", .none]) → ExtN H H2 → Tabs (TTab P1 P2) H2 → Q v H2) (hN : X.N[i]? = some y := by rfl) (hv : scope.names.lookup y = some .free := by rfl) (hgr : scope.names.lookup ("read_house" : Str) = some .globalImplicit := by rfl) (hyd : (y == ("__debug__" : Str)) = false := by decide) (hyc : (y == ("__classdict__" : Str)) = false := by decide)
    (hbind : ∀ (q : Str) (cl : List (Str × Addr)) (pm cv ctv : Value), bindArgs (PySem.W.kla_fn "<lambda>" q lamPa (.Call (.Name "read_house" q1) [.Name y q2] [] q3) scope cl pm cv ctv) ⟨[], []⟩ = pure [] := by intros; rfl) (hg : Gl X "_law_told" := by rfl) : wE X (.Call (.Name "_law_told" p) [.Lambda lamPa (.Call (.Name "read_house" q1) [.Name y q2] [] q3) scope lpos] [] pos) σ H Q := by
  refine we_told T U hP TB hcode hql hr L (.er "BadText" .none) (by show ("BadText" : Str) ∈ twoL; decide) (fun σ2 H2 => σ2[i]? = some (some v) ∧ OddV H2 v) (fun A1 outer1 s1 H1 E1 f1 c1 hr1 σ2 H2 G8 Q2 h2 h3 h4 => ?_) (fun H2 e => ⟨hσ, hodd.ext e⟩) hT (fun v G2 H2 h1 h2 h3 h4 h5 => k v G2 H2 h1 h2 h3 h4 h5) rfl hbind hg
  refine wE_callX (X := lamCx X A1 outer1 s1 H1 E1 scope f1 c1) (E := E1) (ok_read_odd T) hr1 (passes_call (takes_of rfl rfl rfl rfl) fun _ _ _ _ h => h) (wA_of (pa_cons (pe_var (i := i) hN (Or.inr (Or.inr hv)) hyd hyc) pa_nil) ⟨_, h2.1, ?_⟩) hgr
  obtain ⟨t, ht, hk⟩ := h2.2.ty (K := X.K)
  refine ⟨v, t, G8, rfl, ht, hk, h3, ?_⟩
  have e : TOut.out X.mg (.er "BadText" .none) = .ex (ca X.mg "BadText") "line" .none := by
    show Out.ex _ (fieldS "BadText") _ = _
    rw [show fieldS "BadText" = "line" by decide +kernel] <;> rfl
  rw [e] at h4
  exact h4
/-- like(.., ..), where no repr is under way -/
abbrev N69 : List Str := ["_law_told_here", "_law_due_here"]
theorem sc69 : FnScope N69 ["_law_told_here", "_law_due_here"] (defScope (top 69)) := ⟨rfl, rfl, rfl, by decide +kernel, rfl, by decide +kernel, by decide +kernel⟩
theorem we_like {e1 e2 : Expr} {p pos : Pos} (T : Txt X.prog X.K X.mg) (hgd : X.A.guards = some []) (hr : Room 16 X.A) (h : wA X [e1, e2] σ H fun vs H1 => ∃ (a b : Addr) (d : PyData), vs = [.ref a, .ref b] ∧ Dp X.K H1 (.ref a) d ∧ Dp X.K H1 (.ref b) d ∧ Tame 743110 9 d ∧ Q (.bl true) H1) (hg : Gl X "_law_like" := by rfl)
    (he : starEach (e1 :: [e2]) X.env = (false, eval e1 X.env) :: starEach [e2] X.env := by rfl) (hpl : (backTo pos (starEach [e2] X.env)).any (·.1) = false := by rfl) : wE X (.Call (.Name "_law_like" p) [e1, e2] [] pos) σ H Q := by
  obtain ⟨fT, fdT, hgT, FT⟩ := T.fn ("_law_like", 69) (by decide +kernel)
  have FTb := FT.bindsN (ps := ["_law_told_here", "_law_due_here"]) (fun _ _ _ _ _ _ us hl => match us, hl with | [_, _], _ => rfl)
  obtain ⟨oc, od, dV, kV, doc, pm, an, cdT, ctT, osl, rfl, lkT, hcT, _, _⟩ := FT.ex
  refine wE_here (k := 15) hgT FT.kp lkT hcT sc69 FTb hr (wA_mono h fun vs H1 ⟨a, b, d, hvs, h1, h2, ht, q⟩ => ?_) hg (by decide) he hpl
  subst hvs
  refine ⟨rfl, fun s hr' => ?_⟩
  have hd := ht.dp
  have hu' := hu64 hr'
  refine ws_retE (wE_of (pe_cmpR (op_eqP hu') (pe_callB (call_reprD hgd hu') rfl (T_fr T) (by decide +kernel) (pa_cons (L2.pv 0) pa_nil)) (pe_callB (call_reprD hgd hu') rfl (T_fr T) (by decide +kernel) (pa_cons (L2.pv 1) pa_nil)) (nomark _)) ?_)
  refine ⟨.ref a, rfl, a, d, rfl, h1, ht.sh, ht.nd, by omega, ht.len (by decide), .ref b, rfl, b, d, rfl, h2, ht.sh, ht.nd, by omega, ht.len (by decide), .str d.shown, .str d.shown, .str _, .str _, by simp [PyData.depth], ?_⟩
  rw [show PyData.eqv (.str d.shown) (.str d.shown) = true by simp [PyData.eqv]]
  exact q
end
end Wk
end G27_text
section P7_text
set_option maxRecDepth 100000
set_option maxHeartbeats 2000000
namespace Wk
open PySem
/-! ### the texts by hand -/
def hT (n : Int) : PyData := .tuple [.str "text", .int n]
def hH (z : Str) : PyData := .tuple [.str "house", .tuple [.int 0, .str z]]
def hE : PyData := .tuple [.str "house", .tuple [.int 0, .str "edges", .int 0]]
def hand1 : List (Str × PyData) := [("", hT 1), ("kind a 1\n", hT 2), ("kind a 0", hH "stands")]
def hand2 : List (Str × PyData) := [("kind a 10", hH "stands"), ("kind a 100", hT 1), ("kind a 08", hT 1)]
def hand3 : List (Str × PyData) := [("kind a 1\nup 0", hH "up"), ("kind a 1\ndeaf 9", hH "deaf")]
def hand4 : List (Str × PyData) := [("kind a 1\ndeaf 0\nup 0", hT 3), ("kind a 1\nkind a 1", hT 2)]
def hand5 : List (Str × PyData) := [("kind a 1\nbelow b", hH "below"), ("kind a 1\n0 go 9", hE)]
def hand6 : List (Str × PyData) := [("kind a 1\n0 go 0 calm held", hT 2), ("kind a 1\nbelow a\n0 go 0", hT 3)]
def hand7 : List (Str × PyData) := [("kind abcdefghi 1", hT 1), ("kind a 1\nbelow abcdefghi", hT 2)]
def hand8 : List (Str × PyData) := [("kind a 1\n0 go 10", hE), ("kind a 1\nup 10", hH "up")]
def hand9 : List (Str × PyData) := [("kind a 1\ndeaf 0 11", hH "deaf"), ("kind a 1\n10 go 0", hE)]
def handA : List (Str × PyData) := [("kind abcdefgh 1", .list [.tuple [.tuple [.str "abcdefgh", .tuple [.tuple [.int 1, .tuple [], .tuple [], .tuple []], .tuple []]]]])]
def hands : List (Str × PyData) := hand1 ++ hand2 ++ hand3 ++ hand4 ++ hand5 ++ hand6 ++ hand7 ++ hand8 ++ hand9 ++ handA
theorem hands_ok : (hands.all fun q => PyData.eqv (told q.1) q.2) = true := by decide +kernel
end Wk
end P7_text
section G28_text
set_option maxRecDepth 100000
set_option maxHeartbeats 4000000
namespace Wk
open PySem PySem.Spec PyProof.Rows L2 DL LamX
section
variable {P : Program} {w : World} {K : PySem.W.Frag} {mg : Str → Option Value} {base : Heap}
theorem _root_.LamX.Tabs.gm {TT : List (Addr × Str)} {am : Addr} {G H G2 H2 : Hp} (t : Tabs TT H) (g : Gm am G H G2 H2) (hm : ∃ vg sd at_, H am = some (dkM vg sd at_)) : Tabs TT H2 := fun p hp => by
  obtain ⟨vg, sd, at_, hm⟩ := hm
  obtain ⟨ps, h1, h2, h3⟩ := t p hp
  refine ⟨ps, g.hh _ _ (fun z => ?_) h1, h2, fun pos cv hc => ?_⟩
  · rw [z, hm] at h1; cases h1
  · obtain ⟨c, e1, e2⟩ := h3 pos cv hc
    refine ⟨c, e1, g.hh _ _ (fun z => ?_) e2⟩
    rw [z, hm] at e2
    have e3 := Option.some.inj e2
    unfold CodeO at e3
    cases e3
/-- between the law's statements -/
structure LI (K : PySem.W.Frag) (P1 P2 am : Addr) (f : Nat) (G H : Hp) (σ : L2.St) : Prop where
  u : Same G H
  h1 : σ[1]? = some (some (.ref am))
  m : Mst K G H am f
  tb : Tabs (TTab P1 P2) H
  len : σ.length = 8
theorem _root_.DL.Mst.dk {G H : Hp} {am : Addr} {f : Nat} (m : Mst K G H am f) : ∃ vg sd at_, H am = some (dkM vg sd at_) := by
  obtain ⟨vg, gs, sd, at_, h, _⟩ := m
  exact ⟨vg, sd, at_, h.hm⟩
theorem LI.gm {P1 P2 am : Addr} {f f' : Nat} {G H G2 H2 : Hp} {σ : L2.St} (l : LI K P1 P2 am f G H σ) (g : Gm am G H G2 H2) (m : Mst K G2 H2 am f') : LI K P1 P2 am f' G2 H2 σ := ⟨g.sub, l.h1, m, l.tb.gm g l.m.dk, l.len⟩
theorem LI.gr {P1 P2 am : Addr} {f : Nat} {G H G2 H2 : Hp} {σ : L2.St} (l : LI K P1 P2 am f G H σ) (g : Gr G H G2 H2) : LI K P1 P2 am f G2 H2 σ := l.gm g.m (l.m.go g)
theorem _root_.DL.Mst.ext {G H H2 : Hp} {am : Addr} {f : Nat} (m : Mst K G H am f) (e : ExtN H H2) : Mst K (noTb G) H2 am f := by
  obtain ⟨vg, gs, sd, at_, h, hf⟩ := m
  refine ⟨vg, gs, sd, at_, ⟨e _ _ h.hm (fun _ z => nomatch z), ?_, dp_noTb h.gr, h.len, h.sd0, h.sd1, h.at0⟩, hf⟩
  unfold noTb
  rw [h.gm]
theorem LI.ext {P1 P2 am : Addr} {f : Nat} {G H H2 : Hp} {σ : L2.St} (l : LI K P1 P2 am f G H σ) (e : ExtN H H2) (t : Tabs (TTab P1 P2) H2) : LI K P1 P2 am f (noTb G) H2 σ := ⟨noTb_ext l.u e, l.h1, l.m.ext e, t, l.len⟩
theorem LI.same {P1 P2 am : Addr} {f : Nat} {G H H2 : Hp} {σ : L2.St} (l : LI K P1 P2 am f G H σ) (e : Same H H2) : LI K P1 P2 am f G H2 σ := l.gr ⟨l.u.trans e, L2.Same.refl _, e, fun _ _ => rfl⟩
theorem LI.set {P1 P2 am : Addr} {f i : Nat} {G H : Hp} {σ : L2.St} {o : Option V} (l : LI K P1 P2 am f G H σ) (hi : i ≠ 1) : LI K P1 P2 am f G H (σ.set i o) := ⟨l.u, by rw [List.getElem?_set_ne hi]; exact l.h1, l.m, l.tb, by rw [List.length_set]; exact l.len⟩
theorem LI.touch {P1 P2 am : Addr} {f : Nat} {G H : Hp} {σ σ' : L2.St} {T : List Nat} (l : LI K P1 P2 am f G H σ) (t : Touch T σ σ') (h : 1 ∉ T) : LI K P1 P2 am f G H σ' := ⟨l.u, by rw [t.2 1 h]; exact l.h1, l.m, l.tb, t.1.trans l.len⟩
theorem LI.mono {P1 P2 am : Addr} {f f' : Nat} {G H : Hp} {σ : L2.St} (l : LI K P1 P2 am f G H σ) (h : f' ≤ f) : LI K P1 P2 am f' G H σ := ⟨l.u, l.h1, l.m.mono h, l.tb, l.len⟩
abbrev rho85 : Rho := [none, none, none, none, none, none, none, none]
theorem sd85 {G : Hp} {σ : L2.St} (h : σ.length = 8) : SD K G σ rho85 := ⟨h, fun i d e => by
  match i with
  | 0 => cases e
  | 1 => cases e
  | 2 => cases e
  | 3 => cases e
  | 4 => cases e
  | 5 => cases e
  | 6 => cases e
  | 7 => cases e
  | i + 8 => simp at e⟩
def lim : Nat → Nat
  | 0 => 8192
  | i + 1 => 2 * lim i + 32
theorem lim_le : ∀ i, i ≤ 4 → lim i ≤ 131552 := fun i hi => by
  match i, hi with
  | 0, _ => decide
  | 1, _ => decide
  | 2, _ => decide
  | 3, _ => decide
  | 4, _ => decide
  | i + 5, h => omega
abbrev N85 : List Str := ["_law_script", "_law_m", "_law_turn", "_law_text", "_law_again", "_law_odd", "_law_some_here", "_law_due_here"]
theorem sc85 : FnScope N85 ["_law_script"] (defScope (top 85)) := ⟨rfl, rfl, rfl, by decide +kernel, rfl, by decide +kernel, by decide +kernel⟩
def spLaw (K : PySem.W.Frag) (P1 P2 : Addr) : Sp := fun vs H Q _ => ∃ (a : Addr) (ns : List Int), vs = [.ref a] ∧ SqL K H a (ns.map .int) ∧ ns.length ≤ 63 ∧ Tabs (TTab P1 P2) H ∧ ∀ H', Q (.bl true) H'
theorem told_ref {x : Str} {G : Hp} {v : V} (h : Dp K G v (told x)) : ∃ a, v = .ref a := by
  unfold told at h
  cases e : readB 1 [] (rowsOf x) with
  | inr n =>
    rw [e] at h
    obtain ⟨a, _, rfl, _⟩ := Dp.tupE h
    exact ⟨a, rfl⟩
  | inl bs =>
    rw [e] at h
    have h' : Dp K G v (match needH (bs.map kdOf) with | some d => .tuple [.str "house", d] | none => .list [encH (bs.map kdOf)]) := h
    cases e2 : needH (bs.map kdOf) with
    | some d =>
      rw [e2] at h'
      obtain ⟨a, _, rfl, _⟩ := Dp.tupE h'
      exact ⟨a, rfl⟩
    | none =>
      rw [e2] at h'
      obtain ⟨a, _, rfl, _⟩ := Dp.lstE h'
      exact ⟨a, rfl⟩
def encQ (q : Str × PyData) : PyData := .tuple [.str q.1, q.2]
section
variable {X : Cx} {ρ : Rho} {a b : Expr} {k1 k2 k3 k4 k5 k6 k7 k8 k9 : Nat} {p1 p2 p3 p4 p5 p6 p7 p8 p9 pos : Pos} {x z : Str} {n m : Int} {j1 j2 j3 j4 j5 : Nat}
theorem pvT : PV X (.Tuple [.Constant (.str x) k1 p1, .Tuple [.Constant (.str "text") k2 p2, .Constant (.int n) k3 p3] k4 p4] k5 p5) ρ (encQ (x, hT n)) := pv_tup (ds := [.str x, hT n]) (pvs_cons pv_str (pvs_cons (pv_tup (ds := [.str "text", .int n]) (pvs_cons pv_str (pvs_cons pv_int pvs_nil)) (by show 2 ≤ sizeLine; decide)) pvs_nil)) (by show 2 ≤ sizeLine; decide)
theorem pvH : PV X (.Tuple [.Constant (.str x) k1 p1, .Tuple [.Constant (.str "house") k2 p2, .Tuple [.Constant (.int 0) k3 p3, .Constant (.str z) k4 p4] k5 p5] k6 p6] k7 p7) ρ (encQ (x, hH z)) := pv_tup (ds := [.str x, hH z]) (pvs_cons pv_str (pvs_cons (pv_tup (ds := [.str "house", .tuple [.int 0, .str z]]) (pvs_cons pv_str (pvs_cons (pv_tup (ds := [.int 0, .str z]) (pvs_cons pv_int (pvs_cons pv_str pvs_nil)) (by show 2 ≤ sizeLine; decide)) pvs_nil)) (by show 2 ≤ sizeLine; decide)) pvs_nil)) (by show 2 ≤ sizeLine; decide)
theorem pvE : PV X (.Tuple [.Constant (.str x) k1 p1, .Tuple [.Constant (.str "house") k2 p2, .Tuple [.Constant (.int 0) k3 p3, .Constant (.str "edges") k4 p4, .Constant (.int 0) k8 p8] k5 p5] k6 p6] k7 p7) ρ (encQ (x, hE)) := pv_tup (ds := [.str x, hE]) (pvs_cons pv_str (pvs_cons (pv_tup (ds := [.str "house", .tuple [.int 0, .str "edges", .int 0]]) (pvs_cons pv_str (pvs_cons (pv_tup (ds := [.int 0, .str "edges", .int 0]) (pvs_cons pv_int (pvs_cons pv_str (pvs_cons pv_int pvs_nil))) (by show 3 ≤ sizeLine; decide)) pvs_nil)) (by show 2 ≤ sizeLine; decide)) pvs_nil)) (by show 2 ≤ sizeLine; decide)
theorem sv_catQ {xs ys : List (Str × PyData)} (ha : PV X a ρ (.list (xs.map encQ))) (hb : PV X b ρ (.list (ys.map encQ))) (hl : xs.length + ys.length ≤ 1000) : PV X (.BinOp a .Add b pos) ρ (.list ((xs ++ ys).map encQ)) :=
  (pv_bin op_catL (dr_cat (by rw [List.length_map, List.length_map, sizeLine_eq]; omega)) ha hb).to (by rw [List.map_append])
theorem lstQ {es : List Expr} {xs : List (Str × PyData)} (h : PVs X es ρ (xs.map encQ)) (hl : xs.length ≤ 1000) : PV X (.List es pos) ρ (.list (xs.map encQ)) := pv_lst h (by rw [List.length_map, sizeLine_eq]; omega)
end
theorem hands_len : ∀ q ∈ hands, q.1.length + 2 ≤ 100 := by decide +kernel
theorem _root_.LamX.Tabs.mut {TT : List (Addr × Str)} {H : Hp} {p : Addr} {xs : List V} {o : HO} (t : Tabs TT H) (h : H p = some (.lst xs)) : Tabs TT (L2.upd H p o) := fun q hq => by
  obtain ⟨ps, h1, h2, h3⟩ := t q hq
  refine ⟨ps, by rw [upd_ne (fun z => by rw [z, h] at h1; cases h1)]; exact h1, h2, fun pos cv hc => ?_⟩
  obtain ⟨c, e1, e2⟩ := h3 pos cv hc
  refine ⟨c, e1, ?_⟩
  rw [upd_ne (fun z => ?_)]
  · exact e2
  · rw [z, h] at e2
    have e3 := Option.some.inj e2
    unfold CodeO at e3
    cases e3
abbrev hands8 : List (Str × PyData) := hand1 ++ hand2 ++ hand3 ++ hand4 ++ hand5 ++ hand6 ++ hand7 ++ hand8
/-- the by-hand texts -/
theorem law_end {c P1 P2 am f : Addr} {n : Nat} (T : Txt P K mg) (U : TxE K mg) (hP : P1 ≠ P2) (TB : TabB base mg c P2) {A : Around} {outer : List Env} {s : Shared} {H0 : Hp} {E : XK} {Q : VK} (hr : Room 18 (A.deeper (envOfC "law" (defScope (top 85)) s.heap.objs.size f (.ref c)))) (hq : ∀ H', Q (.bl true) H') {σ : L2.St} {G H : Hp} (l : LI K P1 P2 am n G H σ) :
    wSs (CC P w K mg base N85 "law" (defScope (top 85)) f (.ref c) A outer s H0 E) ((defBody (top 85)).drop 2) { nx := fun _ H' => Q .non H', rt := Q } σ H := by
  refine ws_set (i := 6) (d := .list (hand1.map encQ)) l.u (sd85 l.len) (lstQ (xs := hand1) (pvs_cons pvT (pvs_cons pvT (pvs_cons pvH pvs_nil))) (by decide)) sc85.nd fun v1 G1 H1 g1 k1 s1 => ?_
  refine ws_set (i := 6) (d := .list ((hand1 ++ hand2).map encQ)) g1.sub s1 (sv_catQ (pv_var (i := 6) rfl) (lstQ (xs := hand2) (pvs_cons pvH (pvs_cons pvT (pvs_cons pvT pvs_nil))) (by decide)) (by decide)) sc85.nd fun v2 G2 H2 g2 k2 s2 => ?_
  refine ws_set (i := 6) (d := .list ((hand1 ++ hand2 ++ hand3).map encQ)) g2.sub s2 (sv_catQ (pv_var (i := 6) rfl) (lstQ (xs := hand3) (pvs_cons pvH (pvs_cons pvH pvs_nil)) (by decide)) (by decide)) sc85.nd fun v3 G3 H3 g3 k3 s3 => ?_
  refine ws_set (i := 6) (d := .list ((hand1 ++ hand2 ++ hand3 ++ hand4).map encQ)) g3.sub s3 (sv_catQ (pv_var (i := 6) rfl) (lstQ (xs := hand4) (pvs_cons pvT (pvs_cons pvT pvs_nil)) (by decide)) (by decide)) sc85.nd fun v4 G4 H4 g4 k4 s4 => ?_
  refine ws_set (i := 6) (d := .list ((hand1 ++ hand2 ++ hand3 ++ hand4 ++ hand5).map encQ)) g4.sub s4 (sv_catQ (pv_var (i := 6) rfl) (lstQ (xs := hand5) (pvs_cons pvH (pvs_cons pvE pvs_nil)) (by decide)) (by decide)) sc85.nd fun v5 G5 H5 g5 k5 s5 => ?_
  refine ws_set (i := 6) (d := .list ((hand1 ++ hand2 ++ hand3 ++ hand4 ++ hand5 ++ hand6).map encQ)) g5.sub s5 (sv_catQ (pv_var (i := 6) rfl) (lstQ (xs := hand6) (pvs_cons pvT (pvs_cons pvT pvs_nil)) (by decide)) (by decide)) sc85.nd fun v6 G6 H6 g6 k6 s6 => ?_
  refine ws_set (i := 6) (d := .list ((hand1 ++ hand2 ++ hand3 ++ hand4 ++ hand5 ++ hand6 ++ hand7).map encQ)) g6.sub s6 (sv_catQ (pv_var (i := 6) rfl) (lstQ (xs := hand7) (pvs_cons pvT (pvs_cons pvT pvs_nil)) (by decide)) (by decide)) sc85.nd fun v7 G7 H7 g7 k7 s7 => ?_
  refine ws_set (i := 6) (d := .list (hands8.map encQ)) g7.sub s7 (sv_catQ (pv_var (i := 6) rfl) (lstQ (xs := hand8) (pvs_cons pvE (pvs_cons pvH pvs_nil)) (by decide)) (by decide)) sc85.nd fun v8 G8 H8 g8 k8 s8 => ?_
  have g08 := g1.trans (g2.trans (g3.trans (g4.trans (g5.trans (g6.trans (g7.trans g8))))))
  have t8 := l.tb.ext g08.hh
  have hl8 := s8.1
  clear k1 k2 k3 k4 k5 k6 k7 k8 s1 s2 s3 s4 s5 s6 s7
  generalize (((((((List.set σ 6 (some v1)).set 6 (some v2)).set 6 (some v3)).set 6 (some v4)).set 6 (some v5)).set 6 (some v6)).set 6 (some v7)).set 6 (some v8) = σ8 at s8 hl8 ⊢
  have s8' : SD K G8 σ8 [none, none, none, none, none, none, some (.list (hands8.map encQ)), none] := s8
  -- the last two
  refine ws_setE (i := 6) sc85.nd (wE_of (pe_op op_catL pe_w pe_w) ?_)
  refine PV.go (d := .list (hands8.map encQ)) (pv_var (i := 6) rfl) g8.sub s8' fun w1 G9 H9 g9 k9 => ?_
  refine PV.go (d := .list (hand9.map encQ)) (lstQ (xs := hand9) (pvs_cons pvH (pvs_cons pvE pvs_nil)) (by decide)) g9.sub (s8'.gr g9) fun w2 Ga Ha ga ka => ?_
  obtain ⟨l1, xs, rfl, hx, dx⟩ := Dp.lstE (k9.gr ga)
  obtain ⟨l2, zs, rfl, hz, dz⟩ := Dp.lstE ka
  have lx := DpAll.length dx
  have lz := DpAll.length dz
  rw [List.length_map] at lx lz
  have lx' : xs.length = 18 := lx
  have lz' : zs.length = 2 := lz
  refine ⟨l1, l2, xs, zs, rfl, rfl, L2.Same.seq ga.sub hx, L2.Same.seq ga.sub hz, by rw [lx', lz', sizeLine_eq]; decide, fun p hp => ?_⟩
  have gp := Gr.more (o := .lst (xs ++ zs)) ga.sub hp
  have hGa : Ga p = none := L2.Same.free ga.sub hp
  have h6 : (σ8.set 6 (some (V.ref p)))[6]? = some (some (.ref p)) := by rw [List.getElem?_set_self (by rw [hl8]; decide)]
  have hl9 : (σ8.set 6 (some (V.ref p))).length = 8 := by rw [List.length_set, hl8] <;> rfl
  refine ws_exprE (wE_of (pe_bm PySem.F.plainAttrs_list PySem.F.slot_list_append PySem.F.type_list_append mt_append (L2.pv 6) (pa_cons pe_w pa_nil)) ?_)
  refine ⟨.ref p, h6, .inl ⟨rfl, _, SqL.of upd_same⟩, ?_⟩
  have nilT : ∀ {X : Cx} {ρ : Rho} {kk : Nat} {pos : Pos}, PV X (.Tuple [] kk pos) ρ (.tuple []) := pv_tup (ds := []) pvs_nil (by decide)
  refine PV.go (d := encQ ("kind abcdefgh 1", .list [.tuple [.tuple [.str "abcdefgh", .tuple [.tuple [.int 1, .tuple [], .tuple [], .tuple []], .tuple []]]]])) (pv_tup (pvs_cons pv_str (pvs_cons (pv_lst (pvs_cons (pv_tup (pvs_cons (pv_tup (pvs_cons pv_str (pvs_cons (pv_tup (pvs_cons (pv_tup (pvs_cons pv_int (pvs_cons nilT (pvs_cons nilT (pvs_cons nilT pvs_nil))))) (pvs_cons nilT pvs_nil))) pvs_nil))) pvs_nil)) pvs_nil)) pvs_nil))) gp.sub (sd85 hl9) fun w3 Gb Hb gb kb => ?_
  have hHb := gb.hh _ _ (show L2.upd Ha p (.lst (xs ++ zs)) p = some (.lst (xs ++ zs)) from upd_same)
  have hGb : Gb p = none := by rw [gb.new p (by rw [upd_same]; exact fun z => nomatch z)]; exact hGa
  refine ⟨p, xs ++ zs, w3, rfl, rfl, hHb, by rw [List.length_append, lx', lz', sizeLine_eq]; decide, ?_⟩
  have tb : Tabs (TTab P1 P2) (L2.upd Hb p (.lst (xs ++ zs ++ [w3]))) := (t8.ext ((g9.trans (ga.trans (gp.trans gb))).hh)).mut hHb
  have dall : DpAll K Gb (xs ++ zs ++ [w3]) (hands.map encQ) := by
    have e : hands.map encQ = hands8.map encQ ++ hand9.map encQ ++ [encQ ("kind abcdefgh 1", .list [.tuple [.tuple [.str "abcdefgh", .tuple [.tuple [.int 1, .tuple [], .tuple [], .tuple []], .tuple []]]]])] := rfl
    rw [e]
    exact DpAll.app (DpAll.gr (gp.trans gb) (DpAll.app dx dz)) (.cons kb .nil)
  have uf : Same (noTb (L2.upd Gb p (.lst (xs ++ zs ++ [w3])))) (L2.upd Hb p (.lst (xs ++ zs ++ [w3]))) := (noTb_sub _).trans (upd_sub gb.sub)
  have sqf : SqL K (noTb (L2.upd Gb p (.lst (xs ++ zs ++ [w3])))) p (xs ++ zs ++ [w3]) := seq_noTb (SqL.of upd_same)
  have daf : DpAll K (noTb (L2.upd Gb p (.lst (xs ++ zs ++ [w3])))) (xs ++ zs ++ [w3]) (hands.map encQ) := dpAll_noTb (DpAll.same (Same.upd hGb) dall)
  have nof : ∀ {b : Addr} {o : HO}, noTb (L2.upd Gb p (.lst (xs ++ zs ++ [w3]))) b = some o → ∀ ps, o ≠ .tbl ps := fun h => noTb_ne h
  generalize noTb (L2.upd Gb p (.lst (xs ++ zs ++ [w3]))) = Gf at uf sqf daf nof
  generalize L2.upd Hb p (.lst (xs ++ zs ++ [w3])) = Hf at uf tb ⊢
  generalize σ8.set 6 (some (V.ref p)) = σ9 at h6 hl9 ⊢
  refine ws_retE (wE_of (pe_cmpR (op_eqP (hu64 hr)) (pe_lc (own := [("_law_text", 3), ("_law_due_here", 7)]) rfl sc85.nd (pi_list (L2.pv 6)) (blkOk_by (N := N85) (sc := defScope (top 85)) (by decide +kernel)) pg_b (fun s H C cl fp => pts_one (pt_b s H C cl fp)) pe_b (by intro _; rfl)) (pe_lst pa_nil) (nomark _)) ?_)
  refine ⟨.ref p, h6, p, rfl, ⟨_, L2.Same.seq uf sqf⟩, fun D hD => ?_⟩
  obtain ⟨Y, wk, hy⟩ := dw_list (K := K) sqf daf
  refine lc_it wk (fun i H => Same Gf H ∧ Tabs (TTab P1 P2) H ∧ H D = some (.lst [])) ⟨uf.trans (Same.upd hD), tb.ext (Same.upd hD), upd_same⟩ (fun i H _ h => h.1) ?_ ?_
  · rintro i x H' H'' hlt ⟨hs, ht, hD'⟩ y
    obtain ⟨G2', d, g2', hd, kd⟩ := hy i H' x H'' Gf hs (L2.Same.refl _) y
    rw [List.getElem?_map] at hd
    obtain ⟨q, hqi, rfl⟩ : ∃ q, hands[i]? = some q ∧ d = encQ q := by
      cases e : hands[i]? with
      | none => rw [e] at hd; cases hd
      | some b => rw [e] at hd; exact ⟨b, rfl, (Option.some.inj hd).symm⟩
    have hqm : q ∈ hands := List.mem_of_getElem? hqi
    have hxl := hands_len q hqm
    have hxb : q.1.length + 2 ≤ big := by rw [big_eq]; omega
    have heq : PyData.eqv (told q.1) q.2 = true := List.all_eq_true.mp hands_ok q hqm
    intro s0 H0' C cl fp
    refine PGD.go (d := encQ q) (pgd_tup (pgds_cons (pgd_name (i := 3) sc85.nd) (pgds_cons (pgd_name (i := 7) sc85.nd) pgds_nil))) g2'.sub (sd85 (by rw [wipe_length]; exact hl9)) kd fun σ2 tch s2 => ⟨wipe_touch tch (by decide), ?_⟩
    obtain ⟨v3, hv3, dv3⟩ := s2.2 3 (.str q.1) rfl
    have ev3 := Dp.strE dv3
    subst ev3
    obtain ⟨v7, hv7, dv7⟩ := s2.2 7 q.2 rfl
    intro s1 H1' C1 cl1 fp1
    refine wT_of (pt_cmpR (op_neP (hu64 hr)) pe_w (pe_var (i := 7) rfl (Or.inl rfl)) (nomark _)) ?_
    refine we_toldT (i := 3) (x := q.1) T U hP TB rfl rfl (hr.mono (by decide)) (lamS_by (by rfl)) hxb hv3 (ht.ext g2'.hh) fun v G3' H3' s3 n3 k3 e3 t3 => ?_
    refine ⟨v7, hv7, told q.1, q.2, Dp.same s3 k3, Dp.same (noTb_ext g2'.sub e3) (dp_noTb dv7), by have := (told_tame hxb).dp; omega, false, by rw [heq] <;> rfl, ?_⟩
    show (if false = true then _ else _)
    rw [if_neg Bool.false_ne_true]
    exact ⟨fun b o hb => e3 b o (g2'.hh _ _ (hs b o hb)) (nof hb), t3, e3 _ _ (g2'.hh _ _ hD') fun _ z => nomatch z⟩
  · rintro H' ⟨hs, ht, hD'⟩
    refine ⟨Nat.zero_le _, fun p2 hp2 => ⟨.list [], .list [], .lst (SqL.of (by rw [upd_ne (ne_of_none hD' hp2)]; exact hD')) .nil, .lst (SqL.of upd_same) .nil, by simp [PyData.depth, PyData.depthAll], ?_⟩⟩
    exact hq _
theorem law_body {c c1 P1 P2 f : Addr} (T : Txt P K mg) (U : TxE K mg) (hP : P1 ≠ P2) (LD : LamF K mg base "_law_due" 83 c1 P1) (TB : TabB base mg c P2) {A : Around} {outer : List Env} {s : Shared} {H : Hp} {E : XK} {Q : VK} {vs : List V} (hgd : A.guards = some []) (hr : Room 18 (A.deeper (envOfC "law" (defScope (top 85)) s.heap.objs.size f (.ref c)))) (hsp : spLaw K P1 P2 vs H Q E) :
    wSs (CC P w K mg base N85 "law" (defScope (top 85)) f (.ref c) A outer s H E) (defBody (top 85)) { nx := fun _ H' => Q .non H', rt := Q } (L2.start N85 vs) H := by
  obtain ⟨a, ns, rfl, ha, hn, hT, hq⟩ := hsp
  have hgd' : (CC P w K mg base N85 "law" (defScope (top 85)) f (.ref c) A outer s H E).A.guards = some [] := hgd
  -- _law_m
  refine ws_setE (i := 1) sc85.nd (wE_call (ok_law_begun T) (hr.mono (by decide)) (wA_of (pa_cons (L2.pv 0) pa_nil) ⟨.ref a, rfl, ns, noTb H, noTb_sub H, .cons (.lst (seq_noTb ha) (DpAll.ofInts ns)) .nil, hn, fun am G1 H1 g1 m1 => ?_⟩))
  have l1 : LI K P1 P2 am 1048576 G1 H1 ((L2.start N85 [V.ref a]).set 1 (some (V.ref am))) := ⟨g1.sub, rfl, m1, hT.ext g1.hh, rfl⟩
  -- for _law_turn in range(5)
  refine ws_forR (pi_range1 rfl (T_fr T) (pa_cons pe_int pa_nil)) cxOwn fun R hR => ?_
  refine ⟨5, rfl, by decide, by decide, hR _ H1 (fun _ => none) (intsD 0 (5 : Int).toNat) dw_range (fun _ _ e => (nomatch e)) ⟨fun i σ' G' H' => Same G' H' ∧ ∃ G, LI K P1 P2 am (1048576 - 300 * i) G H' σ', ⟨(fun _ _ e => nomatch e), G1, l1⟩, fun i σ' G' H' l => ⟨l.1, (fun _ _ e => nomatch e)⟩, ?_, fun σ' G' H' ⟨_, _, l⟩ => law_end T U hP TB hr hq l⟩⟩
  rintro i y σ' G' H' v G2 H2 ⟨_, Gd, l⟩ hy g2 hv
  obtain ⟨hi, rfl⟩ := intsD_at hy
  have hi5 : i < 5 := by simpa using hi
  refine PGD.go (pgd_name (i := 2) sc85.nd) g2.sub (sd85 l.len) hv fun σ2 t2 _ => ?_
  have l2 : LI K P1 P2 am (1048576 - 300 * (i + 1) + 300) Gd H2 σ2 := ((l.same g2.hh).touch t2 (by decide)).mono (by omega)
  -- _law_text
  refine ws_setE (i := 3) sc85.nd (wE_call (ok_house_text T) (hr.mono (by decide)) (wA_of (pa_cons pe_w pa_nil) ?_))
  refine PVM.go (im := 1) (ρ := rho85) (f := 1048576 - 300 * (i + 1) + 43) (c := 0 + ((0 + 1) + (0 + 0)) + 256) (pvm_call (ok_law_house T) (hr.mono (by decide)) (pvms_cons (PV.mm pv_int) (pvms_cons (pvm_ixL (S := fun d => ∃ st : Int, d = .int st ∧ 1 ≤ st ∧ st ≤ 6) (PV.mm (pv_lst (ds := [.int 4, .int 6]) (pvs_cons pv_int (pvs_cons pv_int pvs_nil)))) (pvm_draw T hr pv_int (by decide) (by decide)) (fun d1 d2 h1 h2 => ?_)) (pvms_cons (PV.mm pv_int) pvms_nil))) (fun ds h => ?_)) l2.u (sd85 l2.len) l2.h1 (l2.m.mono (by omega)) fun v3 d3 G3 H3 g3 m3 k3 z3 => ?_
  · obtain ⟨r, rfl, r0, r1⟩ := h2
    subst h1
    have hrr : r = 0 ∨ r = 1 := by omega
    rcases hrr with rfl | rfl
    · exact ⟨_, _, .int 4, rfl, rfl, rfl, 4, rfl, by decide, by decide⟩
    · exact ⟨_, _, .int 6, rfl, rfl, rfl, 6, rfl, by decide, by decide⟩
  · obtain ⟨_, _, rfl, rfl, _, _, rfl, ⟨st, rfl, h1, h2⟩, _, _, rfl, rfl, rfl⟩ := h
    exact ⟨rfl, st, rfl, h1, h2⟩
  obtain ⟨_, _, h, hh, rfl⟩ := z3
  have l3 := l2.gm g3 m3
  refine ⟨[encH h], .rt (.str (textOf h)), G3, rfl, g3.sub, .cons k3 .nil, ⟨h, rfl, hh, rfl⟩, fun v4 G4 H4 g4 k4 => ?_⟩
  have e4 := Dp.strE k4
  subst e4
  have h3l := hh.names.three
  rw [List.length_map] at h3l
  have hx0 := (text_small h3l (house_small hh)).2.2
  have l4 : LI K P1 P2 am (1048576 - 300 * (i + 1) + 43) G4 H4 (σ2.set 3 (some (.str (textOf h)))) := (l3.gr g4).set (by decide)
  have h34 : (σ2.set 3 (some (V.str (textOf h))))[3]? = some (some (.str (textOf h))) := by rw [List.getElem?_set_self (by rw [l2.len]; decide)]
  -- for _law_again in range(4)
  refine ws_forR (pi_range1 rfl (T_fr T) (pa_cons pe_int pa_nil)) cxOwn fun R hR => ?_
  refine ⟨4, rfl, by decide, by decide, hR _ H4 (fun _ => none) (intsD 0 (4 : Int).toNat) dw_range (fun _ _ e => (nomatch e)) ⟨fun j σ' G' H' => Same G' H' ∧ (∃ G, LI K P1 P2 am (1048576 - 300 * (i + 1) + (43 - 8 * j)) G H' σ') ∧ ∃ x : Str, σ'[3]? = some (some (.str x)) ∧ x.length ≤ lim j, ⟨(fun _ _ e => nomatch e), ⟨G4, l4⟩, textOf h, h34, hx0⟩, fun j σ' G' H' l => ⟨l.1, (fun _ _ e => nomatch e)⟩, ?_, ?_⟩⟩
  · rintro j y σ' G' H' v G5 H5 ⟨_, ⟨Ge, l⟩, x, hx3, hxl⟩ hy g5 hv
    obtain ⟨hj, rfl⟩ := intsD_at hy
    have hj4 : j < 4 := by simpa using hj
    have hlim := lim_le j (by omega)
    have hxb : x.length + 2 ≤ big := by rw [big_eq]; omega
    refine PGD.go (pgd_name (i := 4) sc85.nd) g5.sub (sd85 l.len) hv fun σ5 t5 _ => ?_
    have l5 := (l.same g5.hh).touch t5 (by decide)
    have h35 : σ5[3]? = some (some (.str x)) := by rw [t5.2 3 (by decide)]; exact hx3
    refine wSs_of (pss_cons (ps_if (pt_not (pt_val pe_w fun _ => rfl)) pss_w pss_w) pss_w) ?_
    refine we_like T hgd' (hr.mono (by decide)) (wA_of (pa_cons pe_w (pa_cons pe_w pa_nil)) ?_)
    refine we_toldT (i := 3) (x := x) T U hP TB rfl rfl (hr.mono (by decide)) (lamS_by (sc := defScope (top 85)) (by decide +kernel)) hxb h35 l5.tb fun v6 G6 H6 s6 n6 k6 e6 t6 => ?_
    refine wE_call (ok_law_due T U hP LD) hr (wA_of (pa_cons (L2.pv 3) pa_nil) ⟨.str x, h35, x, rfl, hxb, t6, fun v7 G7 H7 s7 n7 k7 e7 t7 => ?_⟩)
    obtain ⟨a6, rfl⟩ := told_ref k6
    obtain ⟨a7, rfl⟩ := told_ref k7
    have l7 := l5.ext (e6.trans e7) t7
    refine ⟨a6, a7, told x, rfl, Dp.same (fun b o hb => e7 b o (s6 b o hb) (n6 b o hb)) k6, Dp.same s7 k7, told_tame hxb, true, rfl, ?_⟩
    show (if false = true then _ else _)
    rw [if_neg Bool.false_ne_true]
    refine ws_nil ?_
    have s8 : SD K (noTb Ge) σ5 [none, none, none, some (.str x), none, none, none, none] := (sd85 l5.len).know (i := 3) h35 (.str x)
    refine ws_setM (im := 1) (i := 3) (f := 1048576 - 300 * (i + 1) + (43 - 8 * (j + 1))) (c := 0 + 8) (S := fun d => ∃ ds, ds = [PyData.str x] ∧ ∃ x y : Str, ds = [.str x] ∧ d = .str y ∧ y.length ≤ 2 * x.length + 32) (pvm_call (ok_law_bent T) (hr.mono (by decide)) (PVs.mm (pvs_cons (pv_var (i := 3) rfl) pvs_nil)) (fun ds h => ⟨by rw [h] <;> rfl, x, h, by omega⟩)) l7.u s8 l7.h1 (l7.m.mono (by omega)) sc85.nd fun v8 d8 G8 H8 g8 m8 k8 z8 _ => ws_nil ?_
    obtain ⟨_, rfl, x', y, hxy, rfl, hyl⟩ := z8
    injection hxy with hxy _
    injection hxy with hxy
    subst hxy
    have e8 := Dp.strE k8
    subst e8
    refine ⟨fun _ => none, (fun _ _ e => nomatch e), ⟨G8, (l7.gm g8 m8).set (by decide)⟩, y, by rw [List.getElem?_set_self (by rw [l5.len]; decide)], ?_⟩
    show y.length ≤ 2 * lim j + 32
    omega
  rintro σ5 _ H5 ⟨_, ⟨G5, l5⟩, _⟩
  -- _law_odd
  have l5' : LI K P1 P2 am (1048576 - 300 * (i + 1) + 1) G5 H5 σ5 := l5.mono (by simp [intsD])
  refine ws_setE (i := 5) sc85.nd (wE_call (ok_law_some T) (hr.mono (by decide)) (wA_of (pa_cons (L2.pv 1) (pa_cons (pe_lst (pa_cons pe_non (pa_cons pe_int (pa_cons (pe_lst (pa_cons pe_str pa_nil)) (pa_cons (pe_tup pa_nil) (pa_cons pe_dnewK (pa_cons pe_bl pa_nil))))))) pa_nil)) ⟨.ref am, l5.h1, ?_⟩))
  have hne : ∀ {b : Addr} {H' : Hp}, H' am ≠ none → H' b = none → b ≠ am := fun {b H'} h1 h2 z => h1 (by rw [← z]; exact h2)
  have hm5 := l5.m.some
  refine ⟨by decide, fun a1 n1 => ⟨by decide, fun a2 n2 => fun a3 n3 => ⟨by show 6 ≤ sizeLine; decide, fun a4 n4 => ?_⟩⟩⟩
  have g1 := Gr.more (o := .lst [.str "kind a 1"]) l5.u n1
  have g2 := Gr.more (o := .tup []) g1.sub n2
  have g3 := Gr.more (o := .dK []) g2.sub n3
  have g4 := Gr.more (o := .lst [.non, .int 5, .ref a1, .ref a2, .ref a3, .bl true]) g3.sub n4
  have gg := g1.trans (g2.trans (g3.trans g4))
  have i1 := (g2.trans (g3.trans g4)).hh _ _ (show L2.upd H5 a1 (.lst [.str "kind a 1"]) a1 = some (.lst [.str "kind a 1"]) from upd_same)
  have i2 := (g3.trans g4).hh _ _ (show (L2.upd (L2.upd H5 a1 (.lst [.str "kind a 1"])) a2 (.tup [])) a2 = some (.tup []) from upd_same)
  have i3 := g4.hh _ _ (show (L2.upd (L2.upd (L2.upd H5 a1 (.lst [.str "kind a 1"])) a2 (.tup [])) a3 (.dK [])) a3 = some (.dK []) from upd_same)
  have am1 : (L2.upd H5 a1 (.lst [.str "kind a 1"])) am ≠ none := by
    obtain ⟨vg, sd, at_, e⟩ := l5.m.dk
    rw [g1.hh _ _ e]; exact fun z => nomatch z
  have am2 : (L2.upd (L2.upd H5 a1 (.lst [.str "kind a 1"])) a2 (.tup [])) am ≠ none := by
    obtain ⟨vg, sd, at_, e⟩ := l5.m.dk
    rw [(g1.trans g2).hh _ _ e]; exact fun z => nomatch z
  have q1 := hne hm5 n1
  have q2 := hne am1 n2
  have q3 := hne am2 n3
  refine ⟨am, a4, [.non, .int 5, .ref a1, .ref a2, .ref a3, .bl true], G5, 1048576 - 300 * (i + 1), rfl, SqL.of upd_same, by show 1 ≤ 6; decide, by show 6 ≤ 1048576; decide, gg.sub, l5'.m.go gg, fun v6 G6 H6 hv6 g6 m6 => ?_⟩
  have hodd : OddV H6 v6 := by
    simp only [List.mem_cons, List.not_mem_nil, or_false] at hv6
    rcases hv6 with rfl | rfl | rfl | rfl | rfl | rfl
    · exact .inl rfl
    · exact .inr (.inl rfl)
    · exact .inr (.inr (.inr ⟨a1, rfl, .inl ⟨_, g6.hh _ _ q1 i1⟩⟩))
    · exact .inr (.inr (.inr ⟨a2, rfl, .inr (.inl ⟨_, g6.hh _ _ q2 i2⟩)⟩))
    · exact .inr (.inr (.inr ⟨a3, rfl, .inr (.inr ⟨_, g6.hh _ _ q3 i3⟩)⟩))
    · exact .inr (.inr (.inl rfl))
  have l6 : LI K P1 P2 am (1048576 - 300 * (i + 1)) G6 H6 (σ5.set 5 (some v6)) := ((l5'.gr gg).gm g6 m6).set (by decide)
  have h56 : (σ5.set 5 (some v6))[5]? = some (some v6) := by rw [List.getElem?_set_self (by rw [l5.len]; decide)]
  refine wSs_of (pss_cons (ps_if (pt_cmpR (op_neP (hu64 hr)) pe_w (pe_tup (pa_cons pe_str (pa_cons pe_non pa_nil))) (nomark _)) pss_w pss_w) pss_w) ?_
  refine we_toldO (i := 5) (v := v6) T U hP TB rfl rfl (hr.mono (by decide)) (lamS_by (sc := defScope (top 85)) (by decide +kernel)) hodd h56 l6.tb fun v7 G7 H7 s7 n7 k7 e7 t7 => ?_
  refine ⟨by decide, fun pt ht => ?_⟩
  have l7 := l6.ext e7 t7
  have gt := Gr.more (o := .tup [.str "text", .non]) l7.u ht
  have gt7 := Gr.more (o := .tup [.str "text", .non]) s7 ht
  refine ⟨.tuple [.str "text", .none], .tuple [.str "text", .none], Dp.same gt7.sub k7, .tup (SqT.of upd_same) (.cons (.str _) (.cons .non .nil)), by simp [PyData.depth, PyData.depthAll], false, by simp [PyData.eqv, PyData.eqvAll], ?_⟩
  show (if false = true then _ else _)
  rw [if_neg Bool.false_ne_true]
  exact ws_nil (ws_nil ⟨fun _ => none, (fun _ _ e => nomatch e), _, (l7.gr gt).mono (by omega)⟩)
end
end Wk
end G28_text
section HD2_text
set_option maxRecDepth 100000
set_option maxHeartbeats 2000000
namespace Hd
open PySem PySem.Spec PyProof.Rows L2 Wk DL LamX
abbrev PW : Program := PySem.Challenge.pw_wakebook_k61_whole_texts_refused
/-! ### the constructors' text -/
def posL : List Stmt → List Pos
  | [.Expr (.Call (.Attribute (.Call (.Name _ q0) _ _ q1) _ q2) [.Constant _ _ q3] _ q4) q5, .Assign [.Attribute (.Name _ q6) _ q7] (.Name _ q8) q9] => [q0, q1, q2, q3, q4, q5, q6, q7, q8, q9]
  | _ => []
def msgL : List Stmt → Str
  | [.Expr (.Call _ [.Constant (.str m) _ _] _ _) _, _] => m
  | _ => ""
def conL : List Stmt → Nat
  | [.Expr (.Call _ [.Constant _ c _] _ _) _, _] => c
  | _ => 0
def qL (i : Nat) : Nat → Pos := fun n => (posL (defBody (initOf (top i)))).getD n ⟨0, 0, 0, 0⟩
theorem ini2 : ∃ p1 p2, defArgs (initOf (top 2)) = PySem.OwnX.iniArgs "place" p1 p2 ∧ defBody (initOf (top 2)) = PySem.OwnX.iniBody "place" (msgL (defBody (initOf (top 2)))) (conL (defBody (initOf (top 2)))) (qL 2) ∧ defScope (initOf (top 2)) = PySem.OwnX.iniScope "place" ∧ PySem.OwnX.EvOk (msgL (defBody (initOf (top 2)))) (conL (defBody (initOf (top 2)))) (qL 2) :=
  ⟨_, _, rfl, rfl, rfl, fun env => ⟨_, rfl⟩⟩
theorem ini11 : ∃ p1 p2, defArgs (initOf (top 11)) = PySem.OwnX.iniArgs "line" p1 p2 ∧ defBody (initOf (top 11)) = PySem.OwnX.iniBody "line" (msgL (defBody (initOf (top 11)))) (conL (defBody (initOf (top 11)))) (qL 11) ∧ defScope (initOf (top 11)) = PySem.OwnX.iniScope "line" ∧ PySem.OwnX.EvOk (msgL (defBody (initOf (top 11)))) (conL (defBody (initOf (top 11)))) (qL 11) :=
  ⟨_, _, rfl, rfl, rfl, fun env => ⟨_, rfl⟩⟩
theorem iniFn {K : PySem.W.Frag} {x F : Str} {i : Nat} {msg : Str} {c : Nat} {q : Nat → Pos} (hv : iniV K x = iniVal i) (hf : iniF K x fileH = true) (ht : ∃ p1 p2, defArgs (initOf (top i)) = PySem.OwnX.iniArgs F p1 p2 ∧ defBody (initOf (top i)) = PySem.OwnX.iniBody F msg c q ∧ defScope (initOf (top i)) = PySem.OwnX.iniScope F ∧ PySem.OwnX.EvOk msg c q) :
    ∃ (qual msg : Str) (c : Nat) (p1 p2 : Pos) (q : Nat → Pos) (oc : Value) (od : Option Addr) (kV doc pm : Value) (an : Option Addr) (cda : Addr) (ct : Value) (cc : Addr) (osl : Array (Option Value)) (cl : Value) (cld : Option Addr) (csl : Array (Option Value)) (ccl : Value) (cdd : Option Addr) (vs : Array Value) (ccs : Array (Option Value)) (file : Str) (tf : Tok),
    K.lookup (He.ma K (He.ga K x) "__init__") = some ⟨oc, od, .func (PySem.W.ksFn "__init__" qual (PySem.OwnX.iniArgs F p1 p2) (PySem.OwnX.iniBody F msg c q) (PySem.OwnX.iniScope F) .none kV doc pm an (.ref cda) ct cc), osl⟩ ∧ PySem.W.codeIn K (.ref cda) qual = true ∧
    K.lookup cc = some ⟨cl, cld, .cell (some (.ref (He.ga K x))), csl⟩ ∧ K.lookup cda = some ⟨ccl, cdd, .fields vs, ccs⟩ ∧ vs[2]? = some (.str file tf) ∧ ((PW.main.file : Str) == file) = true ∧ PySem.OwnX.EvOk msg c q := by
  obtain ⟨p1, p2, t1, t2, t3, t4⟩ := ht
  unfold iniV at hv
  unfold iniF at hf
  cases e : K.lookup (He.ma K (He.ga K x) "__init__") with
  | none =>
    rw [e] at hv
    cases hv
  | some o =>
    obtain ⟨oc, od, dt, osl⟩ := o
    rw [e] at hv hf
    cases dt with
    | func fd =>
      obtain ⟨n1, n2, n3, n4, n5, n6, n7, n8, n9, n10, n11, n12, n13, n14, n15⟩ := fd
      have hv' : (some (n1, n3, n4, n5, n6, n7.map (·.1), n8, n15) : IV) = iniVal i := hv
      unfold iniVal at hv'
      rw [t1, t2, t3] at hv'
      simp only [Option.some.injEq, Prod.mk.injEq] at hv'
      obtain ⟨rfl, rfl, rfl, rfl, rfl, h7, rfl, rfl⟩ := hv'
      dsimp only at hf
      split at hf
      case h_2 => cases hf
      case h_1 y cc cda =>
        rw [Bool.and_eq_true, Bool.and_eq_true] at hf
        obtain ⟨f1, f2, f3⟩ := hf
        have ey : y = "__class__" := by
          have : ([y] : List Str) = [("__class__" : Str)] := h7
          injection this
        subst ey
        split at f1
        case h_2 => cases f1
        case h_1 cl cld C' csl hcc =>
          have eC := of_decide_eq_true f1
          subst eC
          split at f3
          case h_2 => cases f3
          case h_1 ccl cdd vs ccs hcd =>
            split at f3
            case h_2 => cases f3
            case h_1 fl tf hvs =>
              exact ⟨n2, _, _, p1, p2, _, oc, od, n9, n10, n11, n12, cda, n14, cc, osl, cl, cld, csl, ccl, cdd, vs, ccs, fl, tf, rfl, f2, hcc, hcd, hvs, f3, t4⟩
    | _ => cases hv
theorem iniTxt {K : PySem.W.Frag} {x F : Str} {i : Nat} {msg : Str} {c : Nat} {q : Nat → Pos} (hb : iniB K x F = true) (hv : iniV K x = iniVal i) (hf : iniF K x fileH = true) (ht : ∃ p1 p2, defArgs (initOf (top i)) = PySem.OwnX.iniArgs F p1 p2 ∧ defBody (initOf (top i)) = PySem.OwnX.iniBody F msg c q ∧ defScope (initOf (top i)) = PySem.OwnX.iniScope F ∧ PySem.OwnX.EvOk msg c q) : PySem.OwnX.IniTxt PW K (He.ga K x) (He.ma K (He.ga K x) "__init__") F := by
  unfold iniB at hb
  simp only [Bool.and_eq_true, decide_eq_true_eq] at hb
  obtain ⟨h1, h2, h3, h4, h5, h6, h7, h8, h9, h10, h11, h12, h13, h14, h15, h16⟩ := hb
  exact ⟨clsB_ok h1, He.eqO_ok h2, He.eqO_ok h3, He.eqO_ok h4, He.eqO_ok h5, He.eqO_ok h6, h7, h8, h9, h10, h11, h12, h13, He.eqO_ok h14, He.eqO_ok h15, He.eqO_ok h16, iniFn hv hf ht⟩
theorem exA {K : PySem.W.Frag} {C : Addr} (h : exaB K C = true) : ExA K C := by
  unfold exaB at h
  simp only [Bool.and_eq_true, decide_eq_true_eq] at h
  obtain ⟨h1, h2, h3, h4, h5, h6, h7, h8, h9⟩ := h
  exact ⟨h1, He.eqO_ok h2, He.eqO_ok h3, h4, He.eqO_ok h5, He.eqO_ok h6, h7, h8, h9⟩
section
variable {h : Heap} {w : World} {K : PySem.W.Frag} {mg : Str → Option Value}
theorem fa_mem {f : He.Fa} (c : SaysC w h K) (hf : f ∈ faH) : f.ok K = true := He.SaysD.facts c.x.t.d hf
theorem glo_of (X : K.In h) (G : h.Ns mainGlobals mg) (c : SaysC w h K) {x : Str} (hx : He.Fa.glo x ∈ faH) : mg x = some (.ref (He.ga K x)) := He.glo_ok X G (fa_mem c hx)
theorem ca_of {x : Str} (h : mg x = some (.ref (He.ga K x))) : ca mg x = He.ga K x := by
  unfold ca
  rw [h]
theorem mem_cls {x : Str} (hx : x ∈ ("WakeError" : Str) :: clsL) : He.Fa.glo x ∈ faH :=
  List.mem_append_right _ (List.mem_append_right _ (List.mem_append_right _ (List.mem_append_left _ (List.mem_map_of_mem hx))))
theorem mem_fn {q : Str × Nat} (hq : q ∈ fnL ++ [((("law" : Str), 85) : Str × Nat)]) : He.Fa.glo q.1 ∈ faH :=
  List.mem_append_right _ (List.mem_append_right _ (List.mem_append_right _ (List.mem_append_right _ (List.mem_map.mpr ⟨q, hq, rfl⟩))))
theorem fun_of (X : K.In h) (G : h.Ns mainGlobals mg) (c : SaysC w h K) {q : Str × Nat} (hq : q ∈ fnL ++ [((("law" : Str), 85) : Str × Nat)]) : ∃ fd, mg q.1 = some (.ref (He.ga K q.1)) ∧ FnP K q.1 (top q.2) (He.ga K q.1) fd := by
  obtain ⟨fd, hfd⟩ := He.SaysD.defs c.x.t.d (d := { at_ := (q.1, none), name := q.1, qual := q.1, params := defArgs (top q.2), body := defBody (top q.2), scope := defScope (top q.2) }) (List.mem_map.mpr ⟨q, hq, rfl⟩)
  exact ⟨fd, glo_of X G c (mem_fn hq), hfd⟩
theorem two_cls : ∀ x ∈ twoL, x ∈ clsL := by decide +kernel
theorem txt_of (X : K.In h) (G : h.Ns mainGlobals mg) (c : SaysC w h K) : Txt PW K mg := by
  have hex : exH K = true := c.x.more
  unfold exH at hex
  simp only [Bool.and_eq_true] at hex
  obtain ⟨⟨e1, _⟩, ⟨e2, e3⟩, ⟨e4, e5⟩, ⟨e6, e7⟩, e8⟩ := hex
  have hBH := glo_of X G c (mem_cls (x := "BadHouse") (by decide +kernel))
  have hBT := glo_of X G c (mem_cls (x := "BadText") (by decide +kernel))
  refine ⟨by decide +kernel, ?_, ?_, fun x hx => He.free_ok X G (fa_mem c (List.mem_append_left _ (List.mem_map_of_mem hx))), fun q hq => He.str_ok X G (fa_mem c (List.mem_append_right _ (List.mem_append_left _ (List.mem_map.mpr ⟨q, hq, rfl⟩)))), fun q hq => He.int_ok X G (fa_mem c (List.mem_append_right _ (List.mem_append_right _ (List.mem_append_left _ (List.mem_map.mpr ⟨q, hq, rfl⟩))))), fun q hq => ?_, fun q hq => ?_⟩
  · rw [ca_of hBH]
    exact ⟨hBH, _, iniTxt e2 c.bh e4 ini2⟩
  · rw [ca_of hBT]
    exact ⟨hBT, _, iniTxt e3 c.bt e5 ini11⟩
  · have ht := List.all_eq_true.mp e1 q hq
    unfold tupC at ht
    simp only [Bool.and_eq_true] at ht
    obtain ⟨h1, h2, h3⟩ := ht
    refine ⟨He.ga K q.1, PySem.W.mg_of X G (He.eqO_ok h1), ?_, fun H => ?_⟩
    · split at h3
      · rename_i cc dt sl hk
        exact ⟨_, hk, congrArg Value.type (of_decide_eq_true h3), rfl⟩
      · cases h3
    · have := He.tupB_ok h2 H
      rw [List.map_map] at this
      exact this
  · obtain ⟨fd, h1, h2⟩ := fun_of X G c (List.mem_append_left _ hq)
    exact ⟨_, fd, h1, h2⟩
theorem txe_of (X : K.In h) (G : h.Ns mainGlobals mg) (c : SaysC w h K) : TxE K mg := by
  have hex : exH K = true := c.x.more
  unfold exH at hex
  simp only [Bool.and_eq_true] at hex
  obtain ⟨⟨e1, _⟩, ⟨e2, e3⟩, ⟨e4, e5⟩, ⟨e6, e7⟩, e8⟩ := hex
  have hg : ∀ x ∈ ("WakeError" : Str) :: clsL, mg x = some (.ref (He.ga K x)) := fun x hx => glo_of X G c (mem_cls hx)
  have hc : ∀ x ∈ ("WakeError" : Str) :: clsL, ca mg x = He.ga K x := fun x hx => ca_of (hg x hx)
  unfold kitB2 at e8
  rw [Bool.and_eq_true] at e8
  refine ⟨fun x hx => by rw [hc x hx]; exact hg x hx, fun x hx => ?_, fun x hx y hy => ?_, fun x hx => ?_⟩
  · rw [hc x (List.mem_cons_of_mem _ (two_cls x hx))]
    have hx' : x = "BadHouse" ∨ x = "BadText" := by
      unfold twoL at hx
      simpa using hx
    rcases hx' with rfl | rfl
    · exact exA e6
    · exact exA e7
  · rw [hc x (List.mem_cons_of_mem _ (two_cls x hx)), hc y (List.mem_cons_of_mem _ hy)]
    exact of_decide_eq_true (List.all_eq_true.mp (List.all_eq_true.mp e8.1 x hx) y hy)
  · rw [hc x (List.mem_cons_of_mem _ (two_cls x hx)), hc "WakeError" (by decide +kernel), hc "TooGreat" (by decide +kernel), hc "NothingLeft" (by decide +kernel)]
    exact of_decide_eq_true (List.all_eq_true.mp e8.2 x hx)
theorem ne_of' (c : SaysC w h K) : (He.cT K ("_law_due", none)).2 ≠ (He.cT K ("law", none)).2 := by
  have hex : exH K = true := c.x.more
  unfold exH at hex
  simp only [Bool.and_eq_true, decide_eq_true_eq] at hex
  exact hex.1.2
/-- a def that makes lambdas -/
theorem lam_of {base : Heap} (X : K.In h) (G : h.Ns mainGlobals mg) (c : SaysC w h K) {q : Str × Nat} (hq : q ∈ fnL ++ [((("law" : Str), 85) : Str × Nat)]) (TB : TabB base mg (He.cT K (q.1, none)).1 (He.cT K (q.1, none)).2) : LamF K mg base q.1 q.2 (He.cT K (q.1, none)).1 (He.cT K (q.1, none)).2 := by
  obtain ⟨fd, h1, h2⟩ := fun_of X G c hq
  have hk := h2.kp
  obtain ⟨oc, od, dV, kV, doc, pm, an, cdv, ct, osl, rfl, lk, hcd, hdv, _⟩ := h2.ex
  obtain ⟨cc, ecc⟩ := He.codeIn_ref hcd
  subst ecc
  have e : (He.cT K (q.1, none)).1 = cc := He.codeOf_eq (p := (q.1, none)) lk rfl
  have ed : dV = .none := by
    rcases hdv with ⟨_, z⟩ | ⟨z, _⟩
    · exact z
    · exact absurd rfl z
  subst ed
  rw [e] at TB ⊢
  exact ⟨⟨_, oc, od, kV, doc, pm, an, ct, osl, h1, hk, lk, hcd⟩, TB⟩
end
end Hd
end HD2_text
section HD3_text
set_option maxRecDepth 100000
set_option maxHeartbeats 2000000
namespace Hd
open PySem PySem.Spec PyProof.Rows L2 Wk DL LamX
/-! ### the law is called: what is tracked then are the two tables and, where it is not written, the script -/
section
variable {w : World} {K : PySem.W.Frag} {mg mb : Str → Option Value} {s₁ : Shared} {a fa : Addr} {vs : List Value} {ns : List Int}
def scriptO (K : PySem.W.Frag) (a : Addr) (vs : List Value) (ns : List Int) : Option HO := match K.lookup a with
  | none => some (.frz { cls := .type "list", data := .seq vs.toArray } (.lst (ns.map V.int)))
  | some _ => none
def heapO (K : PySem.W.Frag) (a : Addr) (vs : List Value) (ns : List Int) (P1 P2 : Addr) : Hp := fun b => if b = P1 ∨ b = P2 then some (.tbl #[]) else if b = a then scriptO K a vs ns else none
theorem law_entry (KX : K.In s₁.heap) (hns : s₁.heap.Ns mainGlobals mg) (hb : s₁.heap.Ns builtinsNs mb) (hbb : ∀ x : Str, x ≠ "__name__" → mb x = bootBuiltins x) (hlim : s₁.heap.NoLimit) (hg : s₁.gens = #[]) (c : SaysC w s₁.heap K)
    (hbm : ∃ (bm : Addr) (ob : Obj), mg "__builtins__" = some (.ref bm) ∧ bm ≠ builtinsNs ∧ s₁.heap.get? bm = some ob ∧ ob.cls = .type "module" ∧ ob.dict = some builtinsNs ∧ ob.data = .plain)
    (ha : s₁.heap.get? a = some { cls := .type "list", data := .seq vs.toArray }) (hi : IntsAre vs ns) (hl : ns.length ≤ 63) (hfa : mg "law" = some (.ref fa)) :
    codeAny (model PW w) callerA (.call (.ref fa) ⟨[.ref a], []⟩) (fun r s' => r = .ok (.ret (.bool true)) ∧ OldK s₁.heap s'.heap ∧ s'.os = s₁.os ∧ AllBare s'.gens) s₁ := by
  have m1 : (("_law_due", none) : He.Defn) ∈ tfH := List.mem_cons_self
  have m2 : (("law", none) : He.Defn) ∈ tfH := List.mem_cons_of_mem _ List.mem_cons_self
  have e1 := c.x.empty _ m1
  have e2 := c.x.empty _ m2
  have o1 := c.x.out _ m1
  have o2 := c.x.out _ m2
  have d1 := PySem.W.codeHd_of_K KX (c.x.hd _ m1)
  have d2 := PySem.W.codeHd_of_K KX (c.x.hd _ m2)
  have hP := ne_of' c
  have T := txt_of KX hns c
  have U := txe_of KX hns c
  have lam1 := fun {base : Heap} => lam_of (base := base) KX hns c (q := ("_law_due", 83)) (by decide +kernel)
  have lam2 := fun {base : Heap} => lam_of (base := base) KX hns c (q := ("law", 85)) (by decide +kernel)
  generalize (He.cT K ("_law_due", none)).1 = c1 at d1 lam1
  generalize (He.cT K ("law", none)).1 = c2 at d2 lam2
  generalize (He.cT K ("_law_due", none)).2 = P1 at e1 o1 d1 hP lam1
  generalize (He.cT K ("law", none)).2 = P2 at e2 o2 d2 hP lam2
  have rv := vals_ints hi
  have lenV := hi.length
  have lz : ns.length ≤ sizeLine := by rw [sizeLine_eq]; omega
  have aT : ¬ (a = P1 ∨ a = P2) := fun z => by
    rcases z with z | z
    · rw [z, e1] at ha; cases ha
    · rw [z, e2] at ha; cases ha
  -- the tracked heap, by its places
  have H1 : heapO K a vs ns P1 P2 P1 = some (.tbl #[]) := if_pos (.inl rfl)
  have H2 : heapO K a vs ns P1 P2 P2 = some (.tbl #[]) := if_pos (.inr rfl)
  have Ha : heapO K a vs ns P1 P2 a = scriptO K a vs ns := (if_neg aT).trans (if_pos rfl)
  have Hx : ∀ b u, heapO K a vs ns P1 P2 b = some u → ((b = P1 ∨ b = P2) ∧ u = .tbl #[]) ∨ (b = a ∧ K.lookup a = none ∧ u = .frz { cls := .type "list", data := .seq vs.toArray } (.lst (ns.map V.int))) := fun b u h => by
    by_cases hb : b = P1 ∨ b = P2
    · left
      have : heapO K a vs ns P1 P2 b = some (.tbl #[]) := if_pos hb
      rw [this] at h
      exact ⟨hb, (Option.some.inj h).symm⟩
    · by_cases hb2 : b = a
      · right
        subst hb2
        rw [Ha] at h
        unfold scriptO at h
        split at h
        · exact ⟨rfl, by assumption, (Option.some.inj h).symm⟩
        · cases h
      · have : heapO K a vs ns P1 P2 b = none := (if_neg hb).trans (if_neg hb2)
        rw [this] at h
        cases h
  have eT : ∀ b, (b = P1 ∨ b = P2) → s₁.heap.get? b = some { cls := .none, data := .fields #[] } := fun b hb => by
    rcases hb with rfl | rfl
    · exact e1
    · exact e2
  generalize hH : heapO K a vs ns P1 P2 = H at H1 H2 Ha Hx
  have ok : HOk PW w H s₁.heap := fun b u h => by
    rcases Hx b u h with ⟨hb, rfl⟩ | ⟨rfl, _, rfl⟩
    · exact eT b hb
    · exact ⟨ha, by rw [List.length_map]; exact lz, vs, _, rv, ha⟩
  -- what is not tracked
  have unt : ∀ {b : Addr} {o : Obj}, s₁.heap.get? b = some o → o ≠ { cls := .none, data := .fields #[] } → o ≠ { cls := .type "list", data := .seq vs.toArray } → H b = none := fun {b o} h n1 n2 => by
    cases e : H b with
    | none => rfl
    | some u =>
      rcases Hx b u e with ⟨hb, _⟩ | ⟨rfl, _⟩
      · rw [eT b hb] at h
        exact absurd (Option.some.inj h).symm n1
      · rw [ha] at h
        exact absurd (Option.some.inj h).symm n2
  have ubk : ∀ {b : Addr} {o : Obj}, s₁.heap.get? b = some o → H b = none → (hidT s₁.heap H).get? b = some o := fun h n => hidT_get h n
  have unD : ∀ {b : Addr} {m : Str → Option Value}, s₁.heap.Ns b m → (hidT s₁.heap H).Ns b m := fun {b m} ⟨o, es, ep, h, hd, r⟩ => ⟨o, es, ep, ubk h (unt h (fun z => by rw [z] at hd; cases hd) fun z => by rw [z] at hd; cases hd), hd, r⟩
  have kin : K.In (hidT s₁.heap H) := fun b o h => ubk (KX b o h) (by
    cases e : H b with
    | none => rfl
    | some u =>
      rcases Hx b u e with ⟨rfl | rfl, _⟩ | ⟨rfl, z, _⟩
      · rw [o1] at h; cases h
      · rw [o2] at h; cases h
      · rw [z] at h; cases h)
  have hM : L2.Mod K mg (hidT s₁.heap H) := ⟨kin, unD hns, ⟨mb, unD hb, hbb⟩, by
    obtain ⟨mc, q1, q2⟩ := hlim
    exact ⟨mc, unD q1, q2⟩⟩
  have TB : ∀ cc PP, (PP = P1 ∨ PP = P2) → PySem.W.CodeHd s₁.heap cc PP → TabB (hidT s₁.heap H) mg cc PP := fun cc PP hPP hd => by
    have eP := eT PP hPP
    refine ⟨?_, ?_, fun z => ?_⟩
    · obtain ⟨o, us, file, tf, flags, tg, inF, text, tt, h1, r1, r2, r3, rest⟩ := hd
      refine ⟨o, us, file, tf, flags, tg, inF, text, tt, ubk h1 (unt h1 (fun z => ?_) fun z => ?_), r1, r2, r3, rest⟩
      · rw [z] at r2
        cases r2
        simp at r3
      · rw [z] at r2
        cases r2
    · obtain ⟨bm, ob, b1, b2, b3, b4, b5, b6⟩ := hbm
      have nG : bm ≠ mainGlobals := fun q => by
        obtain ⟨o, es, ep, e, hd, _⟩ := hns
        rw [q, e] at b3
        cases b3
        rw [hd] at b6
        cases b6
      refine ⟨bm, ob, b1, b2, nG, fun q => ?_, ubk b3 (unt b3 (fun z => ?_) fun z => ?_), b4, b5, b6⟩
      · rw [q, eP] at b3
        cases b3
        cases b6
      · rw [z] at b6; cases b6
      · rw [z] at b6; cases b6
    · obtain ⟨o, es, ep, e, hd, _⟩ := hns
      rw [z, eP] at e
      cases e
      cases hd
  have TB1 := TB c1 P1 (.inl rfl) d1
  have TB2 := TB c2 P2 (.inr rfl) d2
  have LD : LamF K mg (hidT s₁.heap H) "_law_due" 83 c1 P1 := lam1 TB1
  have LL : LamF K mg (hidT s₁.heap H) "law" 85 c2 P2 := lam2 TB2
  obtain ⟨f, oc, od, kV, doc, pm, an, ct, osl, hgf, hk, lk, hcd⟩ := LL.ex
  have ef : f = fa := by
    rw [hfa] at hgf
    have := Option.some.inj hgf
    injection this with this
    exact this.symm
  subst ef
  have env0 : Env0 PW w K mg (hidT s₁.heap H) callerA [] s₁ H := ⟨rfl, hM, fun b o e => of_hidT e, Nat.le_of_eq (hidT_size _ _), trivial, fun b hb => (nomatch hb), ok, .of_eq hg⟩
  have sq : SqL K H a (ns.map V.int) := by
    cases e : K.lookup a with
    | none =>
      have : H a = some (.frz { cls := .type "list", data := .seq vs.toArray } (.lst (ns.map V.int))) := by
        rw [Ha]
        unfold scriptO
        rw [e]
      exact .inl (.inr ⟨_, this⟩)
    | some o =>
      have h := KX a o e
      rw [ha] at h
      cases h
      exact .inr ⟨_, vs.toArray, _, e, rfl, rfl, rfl, by rw [List.size_toArray, lenV]; exact lz, by simpa using rv⟩
  have tabs : Tabs (TTab P1 P2) H := fun p hp => by
    simp only [TTab, List.mem_cons, List.not_mem_nil, or_false] at hp
    rcases hp with rfl | rfl
    · exact TabS.nil H1
    · exact TabS.nil H2
  have hr : Room 19 callerA := ⟨rfl, by decide, by decide⟩
  refine codeAny_mono (run_ofS (k := 18) (CX := L2.CX PW w) (N := N85) (ps := ["_law_script"]) (us := [.ref a]) (vs := [.ref a]) (Q := fun v _ => v = .bl true) (E := fun _ _ _ => False) lk hcd sc85 hr env0 (BindsTo.of_eq rfl) (.cons rfl .nil) rfl fun hr' => ⟨_, pss_w, law_body (w := w) (outer := []) (E := fun _ _ _ => False) (Q := fun v _ => v = .bl true) T U hP LD TB2 rfl hr' ⟨a, ns, rfl, sq, hl, tabs, fun _ => rfl⟩⟩) fun r s' h => ?_
  cases r with
  | error e =>
    obtain ⟨_, _, _, _, _, _, _, _, _, _, _, _, z⟩ := (show L2.CX PW w [] H s₁ (fun _ _ _ => False) e s' from h)
    exact z.elim
  | ok fl =>
    cases fl with
    | next => exact False.elim h
    | brk => exact False.elim h
    | cont => exact False.elim h
    | ret u =>
      obtain ⟨v, H', os, bare, un, ok', r', q⟩ := h
      have ev : v = .bl true := q
      subst ev
      obtain rfl : u = Value.bool true := r'
      have same : ∀ b o, s₁.heap.get? b = some o → ¬ (b = P1 ∨ b = P2) → s'.heap.get? b = some o := fun b o hb hn => by
        cases e : H b with
        | none => exact un.keep b o hb e (fun z => nomatch z) (fun z => nomatch z)
        | some u =>
          rcases Hx b u e with ⟨z, _⟩ | ⟨rfl, _, rfl⟩
          · exact absurd z hn
          · obtain ⟨k1, _⟩ := ok' _ _ (un.frzs _ _ _ e)
            rw [ha] at hb
            cases hb
            exact k1
      have grown : ∀ b, (b = P1 ∨ b = P2) → ∃ more : Array Value, s'.heap.get? b = some { cls := .none, data := .fields more } := fun b hb => by
        have hHb : H b = some (.tbl #[]) := by
          rcases hb with rfl | rfl
          · exact H1
          · exact H2
        obtain ⟨more, z⟩ := un.tbls b #[] hHb
        exact ⟨_, ok' b _ z⟩
      have ctab : ∀ b, (b = P1 ∨ b = P2) → isCodeTable s₁.heap b := fun b hb => by
        rcases hb with rfl | rfl
        · exact (d1.tab e1).isCodeTable
        · exact (d2.tab e2).isCodeTable
      refine ⟨rfl, ⟨fun b o hb => ?_, fun b o hb => ?_⟩, os, bare⟩
      · by_cases hn : b = P1 ∨ b = P2
        · obtain ⟨more, hm⟩ := grown b hn
          rw [eT b hn] at hb
          cases hb
          exact .inr (.inl ⟨ctab b hn, rfl, #[], more, rfl, by rw [Array.empty_append]; exact hm⟩)
        · exact .inl (same b o hb hn)
      · by_cases hn : b = P1 ∨ b = P2
        · obtain ⟨more, hm⟩ := grown b hn
          exact ⟨_, hm⟩
        · exact ⟨o, same b o hb hn⟩
end
end Hd
end HD3_text
open PySem PySem.W PySem.Calls PyProof.Rows
set_option maxRecDepth 100000 in
set_option maxHeartbeats 0 in
theorem PySem.Challenge.cw_wakebook_k61_whole_texts_refused_holds : PySem.Challenge.rw_wakebook_k61_whole_texts_refused.Holds := by
  w_on; o_law
  refine HandSHeadRun.head_any (r := Hd.R) (q := view Hd.R.prog [85]) (H := Hd.hookC 5) (ob := Hd.ob) (M := 20000) (loose := Hd.names) (d := HandSHeadRun.topDef Hd.R.prog 85) (kwd := []) Hd.ob_eq
    (by kernel_rfl) (fun s => by kernel_rfl) Hd.run (by kernel_rfl) (by kernel_rfl) (by kernel_rfl) (by rfl) (by first | assumption | decide +kernel) (by decide +kernel) ⟨rfl, rfl, rfl, rfl, rfl, by decide +kernel⟩ ?hw ?hc
  case hw => w_witness2
  case hc =>
    refine Att.attach_callB (l := PySem.Challenge.rw_wakebook_k61_whole_texts_refused) (n := 63) rfl (by kernel_rfl) fun w s₀ s₁ mg mb fa o pm cd doc a vs ns G Y ho hd hcd hmg0 hobj hints hlen _ hg => ?_
    obtain ⟨K, KX, c⟩ := Y
    have hmg : mg ("law" : PySem.Str) = some (.ref fa) := by
      have e : (HandSHeadRun.topDef Hd.R.prog 85).name = ("law" : PySem.Str) := by kernel_rfl
      rw [← e]
      exact hmg0
    exact Hd.law_entry KX G.T.g G.T.b G.T.builtins G.T.nolimit hg c G.T.bmain hobj hints hlen hmg
