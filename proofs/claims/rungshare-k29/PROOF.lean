import PyProof.Rows.All
import Wide.All
import OpenK.AllK
import Wide.FinOn
import PySem.Challenge.RW_rungshare_k29_whole_walk_weights_and_ref
import HandS.ForMost
import HandS.Exc
import HandS.ExcOwn
import HandS.WordsExc
import HandS.ExcInit
import HandS.ExcField
import HandS.Wide
import HandS.IsInst
import HandS.Deep
import HandS.Zip
import HandS.Walk
import HandS.TupMul
import HandS.TupAny
import HandS.Evl
import HandS.Lambda
import HandS.EndTab
import HandS.Conv
import HandS.Style
import HandS.TryMany
import KE.GoesEnum
set_option Elab.async false
set_option linter.all false
set_option maxRecDepth 100000
set_option maxHeartbeats 4000000
/-! part A: the data level: what an expression is worth as data, over the hand layer -/
namespace RS
open PySem PySem.Spec PyProof.Rows L2
abbrev Ex := Evl.Ex
theorem Ex.rfl {H : Hp} : Ex H H := Evl.Ex.refl H
/-! ### universal readings -/
structure WE (X : Cx) (e : Expr) (σ : L2.St) (H : Hp) (Q : VK) : Prop where
  run : ∀ pins s, Inv X pins σ H s → wpAny (model X.prog X.w) X.A (eval e X.env) (EP X pins σ Q) X.xe s
structure WT (X : Cx) (e : Expr) (σ : L2.St) (H : Hp) (Q : Bool → Hp → Prop) : Prop where
  run : ∀ pins s, Inv X pins σ H s → wpAny (model X.prog X.w) X.A (isTrue e X.env (eval e X.env)) (TP X pins σ Q) X.xe s
structure WW (X : Cx) (e : Expr) (σ : L2.St) (H : Hp) (Q : Bool → Hp → Prop) : Prop where
  run : ∀ whole pins s, Inv X pins σ H s → wpAny (model X.prog X.w) X.A (isTrue e X.env whole) (TP X pins σ Q) X.xe s
structure WA (X : Cx) (es : List Expr) (σ : L2.St) (H : Hp) (Q : List V → Hp → Prop) : Prop where
  run : ∀ pos pins s, Inv X pins σ H s → wpAny (model X.prog X.w) X.A (spliced (backTo pos (starEach es X.env))) (AP X pins σ Q) X.xe s
structure WS (X : Cx) (st : Stmt) (D : Ends) (σ : L2.St) (H : Hp) : Prop where
  run : ∀ pins s, Inv X pins σ H s → wpAny (model X.prog X.w) X.A (exec st X.env) (SP X pins D) X.xe s
structure WB (X : Cx) (ss : List Stmt) (D : Ends) (σ : L2.St) (H : Hp) : Prop where
  run : ∀ pins s, Inv X pins σ H s → wpAny (model X.prog X.w) X.A (execs ss X.env) (SP X pins D) X.xe s
section
variable {X : Cx} {e : Expr} {σ : L2.St} {H : Hp}
theorem pe_w : PE X e (WE X e) := ⟨fun pins s _ _ _ I h => h.run pins s I⟩
theorem pt_w : PT X e (WT X e) := ⟨fun pins s _ _ _ I h => h.run pins s I⟩
theorem pw_w : PW X e (WW X e) := ⟨fun wh pins s _ _ _ I h => h.run wh pins s I⟩
theorem pa_w {es : List Expr} : PA X es (WA X es) := ⟨fun pos pins s _ _ _ I h => h.run pos pins s I⟩
theorem ps_w {st : Stmt} : PS X st (WS X st) := ⟨fun pins s _ _ _ I h => h.run pins s I⟩
theorem pb_w {ss : List Stmt} : PSs X ss (WB X ss) := ⟨fun pins s _ _ _ I h => h.run pins s I⟩
theorem we_of {t : TE} (h : PE X e t) {Q : VK} (q : t σ H Q) : WE X e σ H Q := ⟨fun pins s I => h.run pins s σ H Q I q⟩
theorem wt_of {t : TT} (h : PT X e t) {Q : Bool → Hp → Prop} (q : t σ H Q) : WT X e σ H Q := ⟨fun pins s I => h.run pins s σ H Q I q⟩
theorem ww_of {t : TT} (h : PW X e t) {Q : Bool → Hp → Prop} (q : t σ H Q) : WW X e σ H Q := ⟨fun wh pins s I => h.run wh pins s σ H Q I q⟩
theorem wa_of {es : List Expr} {t : TA} (h : PA X es t) {Q : List V → Hp → Prop} (q : t σ H Q) : WA X es σ H Q := ⟨fun pos pins s I => h.run pos pins s σ H Q I q⟩
theorem ws_of {st : Stmt} {t : TS} (h : PS X st t) {D : Ends} (q : t D σ H) : WS X st D σ H := ⟨fun pins s I => h.run pins s σ H D I q⟩
theorem wb_of {ss : List Stmt} {t : TS} (h : PSs X ss t) {D : Ends} (q : t D σ H) : WB X ss D σ H := ⟨fun pins s I => h.run pins s σ H D I q⟩
end
/-! ### data -/
mutual
def noL : PyData → Bool
  | .none | .bool _ | .int _ | .str _ => true
  | .list _ => false
  | .tuple xs => noLs xs
  | .dict _ => false
def noLs : List PyData → Bool
  | [] => true
  | x :: xs => noL x && noLs xs
end
theorem noLs_cons {d : PyData} {ds : List PyData} : noLs (d :: ds) = (noL d && noLs ds) := by simp [noLs]
theorem noLs_nil : noLs [] = true := by simp [noLs]
theorem noL_tuple {ds : List PyData} : noL (.tuple ds) = noLs ds := by simp [noL]
theorem noLs_all : ∀ {ds : List PyData}, noLs ds = true ↔ ∀ d ∈ ds, noL d = true
  | [] => by simp [noLs]
  | d :: ds => by simp [noLs, noLs_all (ds := ds)]
theorem noLs_append {a b : List PyData} : noLs (a ++ b) = (noLs a && noLs b) := by
  induction a with
  | nil => simp [noLs]
  | cons x a ih => simp [noLs, ih, Bool.and_assoc]
/-- the tuples stay -/
def Tx (H H' : Hp) : Prop := ∀ a xs, Rd H a (.tup xs) → Rd H' a (.tup xs)
theorem Tx.refl (H : Hp) : Tx H H := fun _ _ h => h
theorem Tx.trans {H H1 H2 : Hp} (a : Tx H H1) (b : Tx H1 H2) : Tx H H2 := fun c xs h => b c xs (a c xs h)
theorem Tx.of {H H' : Hp} (e : Ex H H') : Tx H H' := fun _ _ h => Evl.ex_rd e h
section
variable {K : PySem.W.Frag} {H H' : Hp}
theorem rd_seqT {a : Addr} {xs : List V} (e : Tx H H') (h : SqT K H a xs) : SqT K H' a xs := by
  rcases h with h | h
  · exact .inl (e _ _ h)
  · exact .inr h
mutual
theorem dp_mono (e : Ex H H') : ∀ (d : PyData) (v : V), Dp K H v d → Dp K H' v d
  | .none, _, h => by cases h; exact .non
  | .bool b, _, h => by cases h; exact .bl b
  | .int i, _, h => by cases h; exact .int i
  | .str x, _, h => by cases h; exact .str x
  | .list ds, _, h => by
    cases h with
    | lst hs ha => exact .lst (Evl.ex_l e hs) (dpa_mono e ds _ ha)
  | .tuple ds, _, h => by
    cases h with
    | tup hs ha => exact .tup (Evl.ex_t e hs) (dpa_mono e ds _ ha)
  | .dict _, _, h => by cases h
theorem dpa_mono (e : Ex H H') : ∀ (ds : List PyData) (vs : List V), DpAll K H vs ds → DpAll K H' vs ds
  | [], _, h => by cases h; exact .nil
  | d :: ds, _, h => by
    cases h with
    | cons h1 h2 => exact .cons (dp_mono e d _ h1) (dpa_mono e ds _ h2)
end
theorem _root_.L2.Dp.up {v : V} {d : PyData} (h : Dp K H v d) (e : Ex H H') : Dp K H' v d := dp_mono e d v h
theorem _root_.L2.DpAll.up {vs : List V} {ds : List PyData} (h : DpAll K H vs ds) (e : Ex H H') : DpAll K H' vs ds := dpa_mono e ds vs h
mutual
theorem dp_tx (e : Tx H H') : ∀ (d : PyData) (v : V), noL d = true → Dp K H v d → Dp K H' v d
  | .none, _, _, h => by cases h; exact .non
  | .bool b, _, _, h => by cases h; exact .bl b
  | .int i, _, _, h => by cases h; exact .int i
  | .str x, _, _, h => by cases h; exact .str x
  | .list ds, _, n, h => by simp [noL] at n
  | .tuple ds, _, n, h => by
    cases h with
    | tup hs ha => exact .tup (rd_seqT e hs) (dpa_tx e ds _ (by simpa [noL] using n) ha)
  | .dict _, _, _, h => by cases h
theorem dpa_tx (e : Tx H H') : ∀ (ds : List PyData) (vs : List V), noLs ds = true → DpAll K H vs ds → DpAll K H' vs ds
  | [], _, _, h => by cases h; exact .nil
  | d :: ds, _, n, h => by
    have n' : noL d = true ∧ noLs ds = true := by simpa [noLs] using n
    cases h with
    | cons h1 h2 => exact .cons (dp_tx e d _ n'.1 h1) (dpa_tx e ds _ n'.2 h2)
end
theorem dpa_len : ∀ {vs : List V} {ds : List PyData}, DpAll K H vs ds → vs.length = ds.length
  | _, _, .nil => rfl
  | _, _, .cons _ t => by rw [List.length_cons, List.length_cons, dpa_len t]
theorem dpa_get : ∀ {vs : List V} {ds : List PyData} {i : Nat} {d : PyData}, DpAll K H vs ds → ds[i]? = some d → ∃ v, vs[i]? = some v ∧ Dp K H v d
  | _, _, _, _, .nil, e => by simp at e
  | _, _, 0, _, .cons r _, e => by simp at e; subst e; exact ⟨_, rfl, r⟩
  | _, _, i + 1, d, .cons _ t, e => by
    obtain ⟨u, h1, h2⟩ := dpa_get (i := i) (d := d) t (by simpa using e)
    exact ⟨u, by simpa using h1, h2⟩
theorem dpa_app : ∀ {vs ws : List V} {ds es : List PyData}, DpAll K H vs ds → DpAll K H ws es → DpAll K H (vs ++ ws) (ds ++ es)
  | _, _, _, _, .nil, h => h
  | _, _, _, _, .cons a b, h => .cons a (dpa_app b h)
theorem dpa_set {v : V} {d : PyData} (r : Dp K H v d) : ∀ {vs : List V} {ds : List PyData} (i : Nat), DpAll K H vs ds → DpAll K H (vs.set i v) (ds.set i d)
  | _, _, _, .nil => .nil
  | _, _, 0, .cons _ t => .cons r t
  | _, _, i + 1, .cons q t => .cons q (dpa_set r i t)
theorem dpa_take : ∀ {vs : List V} {ds : List PyData} (n : Nat), DpAll K H vs ds → DpAll K H (vs.take n) (ds.take n)
  | _, _, 0, _ => by simp; exact .nil
  | _, _, _ + 1, .nil => by simp; exact .nil
  | _, _, n + 1, .cons a b => by simp; exact .cons a (dpa_take n b)
theorem dpa_drop : ∀ {vs : List V} {ds : List PyData} (n : Nat), DpAll K H vs ds → DpAll K H (vs.drop n) (ds.drop n)
  | _, _, 0, h => h
  | _, _, _ + 1, .nil => .nil
  | _, _, n + 1, .cons _ b => dpa_drop n b
theorem dpa_ints : ∀ {ns : List Int}, DpAll K H (ns.map V.int) (ns.map PyData.int)
  | [] => .nil
  | n :: ns => .cons (.int n) dpa_ints
theorem dpa_bls : ∀ {bs : List Bool} {vs : List V}, DpAll K H vs (bs.map PyData.bool) → vs = bs.map V.bl
  | [], _, h => by cases h; rfl
  | b :: bs, _, h => by
    cases h with
    | cons h1 h2 =>
      cases h1
      rw [dpa_bls h2]
      rfl
theorem dpa_rep {v : V} {d : PyData} (r : Dp K H v d) : ∀ n : Nat, DpAll K H (List.replicate n v) (List.replicate n d)
  | 0 => .nil
  | n + 1 => .cons r (dpa_rep r n)
end
/-! ### the slots as data -/
inductive Sd where
  /-- data that nothing changes -/
  | im (d : PyData)
  /-- a list of one's own, at this slot alone -/
  | ow (ds : List PyData)
  /-- this very address -/
  | rf (p : Addr)
abbrev DSl := List (Option Sd)
def SdOk (K : PySem.W.Frag) (H0 H : Hp) (v : V) : Sd → Prop
  | .im d => Dp K H0 v d ∨ (noL d = true ∧ Dp K H v d)
  | .ow ds => ∃ p vs, v = .ref p ∧ H0 p = none ∧ H p = some (.lst vs) ∧ DpAll K H vs ds ∧ noLs ds = true
  | .rf p => v = .ref p
structure Sl (K : PySem.W.Frag) (H0 H : Hp) (σ : L2.St) (δ : DSl) : Prop where
  ex : Ex H0 H
  len : σ.length = δ.length
  at_ : ∀ (i : Nat) (d : Sd), δ[i]? = some (some d) → ∃ v, σ[i]? = some (some v) ∧ SdOk K H0 H v d
  ap : ∀ (i j : Nat) (v : V) (ds ds' : List PyData), i ≠ j → δ[i]? = some (some (.ow ds)) → δ[j]? = some (some (.ow ds')) → σ[i]? = some (some v) → σ[j]? ≠ some (some v)
section
variable {K : PySem.W.Frag} {H0 H H1 : Hp} {σ : L2.St} {δ : DSl}
theorem SdOk.up {v : V} {d : Sd} (e : Ex H H1) (h : SdOk K H0 H v d) : SdOk K H0 H1 v d := by
  cases d with
  | im d =>
    rcases h with h | h
    · exact .inl h
    · exact .inr ⟨h.1, Dp.up h.2 e⟩
  | ow ds =>
    obtain ⟨p, vs, h0, h1, h2, h3, h4⟩ := h
    exact ⟨p, vs, h0, h1, e _ _ h2, DpAll.up h3 e, h4⟩
  | rf p => exact h
theorem Sl.up (e : Ex H H1) (S : Sl K H0 H σ δ) : Sl K H0 H1 σ δ :=
  ⟨S.ex.trans e, S.len, fun i d h => let ⟨v, h1, h2⟩ := S.at_ i d h; ⟨v, h1, h2.up e⟩, S.ap⟩
theorem Sl.getIm (S : Sl K H0 H σ δ) {i : Nat} {d : PyData} (h : δ[i]? = some (some (.im d))) : ∃ v, σ[i]? = some (some v) ∧ Dp K H v d := by
  obtain ⟨v, h1, h2⟩ := S.at_ i _ h
  rcases h2 with h2 | h2
  · exact ⟨v, h1, h2.up S.ex⟩
  · exact ⟨v, h1, h2.2⟩
theorem Sl.getOw (S : Sl K H0 H σ δ) {i : Nat} {ds : List PyData} (h : δ[i]? = some (some (.ow ds))) : ∃ v, σ[i]? = some (some v) ∧ Dp K H v (.list ds) := by
  obtain ⟨v, h1, p, vs, rfl, _, h3, h4, _⟩ := S.at_ i _ h
  exact ⟨_, h1, .lst (SqL.of h3) h4⟩
theorem Sl.getRf (S : Sl K H0 H σ δ) {i : Nat} {p : Addr} (h : δ[i]? = some (some (.rf p))) : σ[i]? = some (some (.ref p)) := by
  obtain ⟨v, h1, h2⟩ := S.at_ i _ h
  rw [h1, show v = .ref p from h2]
/-- a slot takes data -/
theorem Sl.setNo (S : Sl K H0 H σ δ) {i : Nat} {v : V} {z : Sd} (h : SdOk K H0 H v z) (hno : ∀ ds, z ≠ .ow ds) : Sl K H0 H (σ.set i (some v)) (δ.set i (some z)) := by
  refine ⟨S.ex, by simp [S.len], fun j s e => ?_, fun a b v' ds ds' hab ea eb => ?_⟩
  · by_cases hj : j = i
    · subst hj
      have hlt : j < δ.length := by
        have := (List.getElem?_eq_some_iff.mp e).1
        simpa using this
      rw [List.getElem?_set_self hlt] at e
      cases e
      exact ⟨v, by rw [List.getElem?_set_self (by rw [S.len]; exact hlt)], h⟩
    · rw [List.getElem?_set_ne (Ne.symm hj)] at e
      obtain ⟨u, h1, h2⟩ := S.at_ j s e
      exact ⟨u, by rw [List.getElem?_set_ne (Ne.symm hj)]; exact h1, h2⟩
  · have ha : a ≠ i := fun z => by
      subst z
      have hlt : a < δ.length := by
        have := (List.getElem?_eq_some_iff.mp ea).1
        simpa using this
      rw [List.getElem?_set_self hlt] at ea
      exact hno _ (Option.some.inj (Option.some.inj ea))
    have hb : b ≠ i := fun z => by
      subst z
      have hlt : b < δ.length := by
        have := (List.getElem?_eq_some_iff.mp eb).1
        simpa using this
      rw [List.getElem?_set_self hlt] at eb
      exact hno _ (Option.some.inj (Option.some.inj eb))
    rw [List.getElem?_set_ne (Ne.symm ha)] at ea ⊢
    rw [List.getElem?_set_ne (Ne.symm hb)] at eb ⊢
    exact S.ap a b v' ds ds' hab ea eb
theorem Sl.setIm (S : Sl K H0 H σ δ) {i : Nat} {v : V} {d : PyData} (h : Dp K H0 v d ∨ (noL d = true ∧ Dp K H v d)) : Sl K H0 H (σ.set i (some v)) (δ.set i (some (.im d))) := S.setNo (z := .im d) h (fun _ z => by cases z)
/-- a slot takes a list that stands at no other slot -/
theorem Sl.setOw (S : Sl K H0 H σ δ) {i : Nat} {p : Addr} {vs : List V} {ds : List PyData} (h0 : H0 p = none) (hp : H p = some (.lst vs)) (ha : DpAll K H vs ds) (hn : noLs ds = true)
    (hf : ∀ (j : Nat) (es : List PyData), j ≠ i → δ[j]? = some (some (.ow es)) → σ[j]? ≠ some (some (.ref p))) : Sl K H0 H (σ.set i (some (.ref p))) (δ.set i (some (.ow ds))) := by
  refine ⟨S.ex, by simp [S.len], fun j s e => ?_, fun a b v' ds1 ds2 hab ea eb => ?_⟩
  · by_cases hj : j = i
    · subst hj
      have hlt : j < δ.length := by
        have := (List.getElem?_eq_some_iff.mp e).1
        simpa using this
      rw [List.getElem?_set_self hlt] at e
      cases e
      exact ⟨.ref p, by rw [List.getElem?_set_self (by rw [S.len]; exact hlt)], p, vs, rfl, h0, hp, ha, hn⟩
    · rw [List.getElem?_set_ne (Ne.symm hj)] at e
      obtain ⟨u, h1, h2⟩ := S.at_ j s e
      exact ⟨u, by rw [List.getElem?_set_ne (Ne.symm hj)]; exact h1, h2⟩
  · by_cases h1 : a = i
    · subst h1
      rw [List.getElem?_set_ne hab] at eb ⊢
      intro ev ew
      have hlt : a < σ.length := by
        have := (List.getElem?_eq_some_iff.mp ev).1
        simpa using this
      rw [List.getElem?_set_self hlt] at ev
      cases ev
      exact hf b _ (Ne.symm hab) eb ew
    · rw [List.getElem?_set_ne (Ne.symm h1)] at ea ⊢
      by_cases h2 : b = i
      · subst h2
        intro ev ew
        have hlt : b < σ.length := by
          have := (List.getElem?_eq_some_iff.mp ew).1
          simpa using this
        rw [List.getElem?_set_self hlt] at ew
        cases ew
        exact hf a _ h1 ea ev
      · rw [List.getElem?_set_ne (Ne.symm h2)] at eb ⊢
        exact S.ap a b v' ds1 ds2 hab ea eb
/-- a slot is forgotten -/
theorem Sl.wipe1 (S : Sl K H0 H σ δ) (i : Nat) (o : Option V) : Sl K H0 H (σ.set i o) (δ.set i none) := by
  have key : ∀ {j : Nat} {s : Sd}, (δ.set i none)[j]? = some (some s) → j ≠ i ∧ δ[j]? = some (some s) := fun {j s} e => by
    by_cases hj : j = i
    · subst hj
      have hlt : j < δ.length := by
        have := (List.getElem?_eq_some_iff.mp e).1
        simpa using this
      rw [List.getElem?_set_self hlt] at e
      cases e
    · rw [List.getElem?_set_ne (Ne.symm hj)] at e
      exact ⟨hj, e⟩
  refine ⟨S.ex, by simp [S.len], fun j s e => ?_, fun a b v' ds1 ds2 hab ea eb => ?_⟩
  · obtain ⟨hj, e⟩ := key e
    obtain ⟨u, h1, h2⟩ := S.at_ j s e
    exact ⟨u, by rw [List.getElem?_set_ne (Ne.symm hj)]; exact h1, h2⟩
  · obtain ⟨ha, ea⟩ := key ea
    obtain ⟨hb, eb⟩ := key eb
    rw [List.getElem?_set_ne (Ne.symm ha), List.getElem?_set_ne (Ne.symm hb)]
    exact S.ap a b v' ds1 ds2 hab ea eb
/-- a list of one's own is changed -/
theorem Sl.write (S : Sl K H0 H σ δ) {i : Nat} {p : Addr} {ds : List PyData} {ws : List V} {es : List PyData} (hi : δ[i]? = some (some (.ow ds))) (hp : σ[i]? = some (some (.ref p))) (h0 : H0 p = none) (hl : ∃ vs, H p = some (.lst vs))
    (ha : DpAll K H ws es) (hn : noLs es = true) : Sl K H0 (upd H p (.lst ws)) σ (δ.set i (some (.ow es))) := by
  obtain ⟨vs0, hl⟩ := hl
  have tx : Tx H (upd H p (.lst ws)) := fun a xs r => by
    have hne : a ≠ p := fun z => by
      subst z
      rcases r with r | ⟨o, r⟩
      · rw [hl] at r; cases r
      · rw [hl] at r; cases r
    rcases r with r | ⟨o, r⟩
    · exact .inl (by rw [upd_ne hne]; exact r)
    · exact .inr ⟨o, by rw [upd_ne hne]; exact r⟩
  have ex : Ex H0 (upd H p (.lst ws)) := Evl.Ex.mut S.ex h0
  refine ⟨ex, by simp [S.len], fun j s e => ?_, fun a b v' ds1 ds2 hab ea eb => ?_⟩
  · by_cases hj : j = i
    · subst hj
      have hlt : j < δ.length := by
        have := (List.getElem?_eq_some_iff.mp e).1
        simpa using this
      rw [List.getElem?_set_self hlt] at e
      cases e
      exact ⟨.ref p, hp, p, ws, rfl, h0, upd_same, dpa_tx tx _ _ hn ha, hn⟩
    · rw [List.getElem?_set_ne (Ne.symm hj)] at e
      obtain ⟨u, h1, h2⟩ := S.at_ j s e
      refine ⟨u, h1, ?_⟩
      cases s with
      | im d =>
        rcases h2 with h2 | h2
        · exact .inl h2
        · exact .inr ⟨h2.1, dp_tx tx _ _ h2.1 h2.2⟩
      | ow ds' =>
        obtain ⟨q, vs, rfl, h3, h4, h5, h6⟩ := h2
        have hqp : q ≠ p := fun z => by
          subst z
          exact S.ap i j _ _ _ (Ne.symm hj) hi e hp h1
        exact ⟨q, vs, rfl, h3, by rw [upd_ne hqp]; exact h4, dpa_tx tx _ _ h6 h5, h6⟩
      | rf q => exact h2
  · have fix : ∀ {j : Nat} {l : List PyData}, (δ.set i (some (.ow es)))[j]? = some (some (.ow l)) → ∃ l', δ[j]? = some (some (.ow l')) := fun {j l} e => by
      by_cases hj : j = i
      · subst hj; exact ⟨_, hi⟩
      · rw [List.getElem?_set_ne (Ne.symm hj)] at e; exact ⟨_, e⟩
    obtain ⟨l1, ea⟩ := fix ea
    obtain ⟨l2, eb⟩ := fix eb
    exact S.ap a b v' l1 l2 hab ea eb
theorem Tx.write {p : Addr} {vs ws : List V} (hl : H p = some (.lst vs)) : Tx H (upd H p (.lst ws)) := fun a xs r => by
  have hne : a ≠ p := fun z => by
    subst z
    rcases r with r | ⟨o, r⟩
    · rw [hl] at r; cases r
    · rw [hl] at r; cases r
  rcases r with r | ⟨o, r⟩
  · exact .inl (by rw [upd_ne hne]; exact r)
  · exact .inr ⟨o, by rw [upd_ne hne]; exact r⟩
end
/-! ### what a call sends -/
inductive Res where
  | ok (d : PyData)
  | new (ds : List PyData)
  | err (C : Addr) (f : Str) (d : PyData)
  | cust (F : VK)
def Sends (K : PySem.W.Frag) (H : Hp) (Q : VK) (E : XK) : Res → Prop
  | .ok d => ∀ v H', Ex H H' → Dp K H' v d → Q v H'
  | .new ds => ∀ p H' vs, H p = none → Ex H H' → H' p = some (.lst vs) → DpAll K H' vs ds → Q (.ref p) H'
  | .err C f d => ∀ dd v H', H dd = none → Ex H H' → H' dd = some (.xd [(f, v)]) → Dp K H' v d → E (.ref C) (some dd) H'
  | .cust F => ∀ v H', F v H' → Q v H'
theorem Sends.up {K : PySem.W.Frag} {H H1 : Hp} {Q : VK} {E : XK} : ∀ {r : Res}, Ex H H1 → Sends K H Q E r → Sends K H1 Q E r
  | .ok _, e, h => fun v H' e' d => h v H' (e.trans e') d
  | .new _, e, h => fun p H' vs n e' h1 h2 => h p H' vs (Evl.fresh_back e n) (e.trans e') h1 h2
  | .err _ _ _, e, h => fun dd v H' n e' h1 h2 => h dd v H' (Evl.fresh_back e n) (e.trans e') h1 h2
  | .cust _, _, h => h
def spR (K : PySem.W.Frag) (FR : List PyData → Res → Prop) : Sp := fun vs H Q E => ∃ ds r, DpAll K H vs ds ∧ FR ds r ∧ Sends K H Q E r
/-- the def of this name keeps this contract -/
structure Cn (P : Program) (w : World) (K : PySem.W.Frag) (mg : Str → Option Value) (base : Heap) (x : Str) (k : Nat) (FR : List PyData → Res → Prop) : Prop where
  ex : ∃ f fd ps, FnOk P w K mg base (L2.CX P w) k f fd ps (spR K FR) ∧ mg x = some (.ref f) ∧ PySem.W.keepIn K (.ref f) = true ∧ L2.Binds K fd ps []
/-! ### judgements of data -/
section
variable (X : Cx) (E : XK) (H0 : Hp) (δ : DSl)
def DE (e : Expr) (d : PyData) : Prop := ∀ σ H, Sl X.K H0 H σ δ → ∀ Q : VK, (∀ v H', Ex H H' → Dp X.K H' v d → Q v H') → WE X e σ H Q
def DL (e : Expr) (ds : List PyData) : Prop := ∀ σ H, Sl X.K H0 H σ δ → ∀ Q : VK, (∀ p H' vs, H p = none → Ex H H' → H' p = some (.lst vs) → DpAll X.K H' vs ds → Q (.ref p) H') → WE X e σ H Q
def DX (e : Expr) (C : Addr) (f : Str) (d : PyData) : Prop := ∀ σ H, Sl X.K H0 H σ δ → (∀ dd v H', H dd = none → Ex H H' → H' dd = some (.xd [(f, v)]) → Dp X.K H' v d → E (.ref C) (some dd) H') → ∀ Q : VK, WE X e σ H Q
def DA (es : List Expr) (ds : List PyData) : Prop := ∀ σ H, Sl X.K H0 H σ δ → ∀ Q : List V → Hp → Prop, (∀ vs H', Ex H H' → DpAll X.K H' vs ds → Q vs H') → WA X es σ H Q
def DT (e : Expr) (b : Bool) : Prop := ∀ σ H, Sl X.K H0 H σ δ → ∀ Q : Bool → Hp → Prop, (∀ H', Ex H H' → Q b H') → WT X e σ H Q
def DW (e : Expr) (b : Bool) : Prop := ∀ σ H, Sl X.K H0 H σ δ → ∀ Q : Bool → Hp → Prop, (∀ H', Ex H H' → Q b H') → WW X e σ H Q
def DB (ss : List Stmt) (nx : DSl → Prop) (rs : Res → Prop) : Prop := ∀ σ H D, Sl X.K H0 H σ δ → (∀ δ' σ' H', nx δ' → Sl X.K H0 H' σ' δ' → Tx H H' → D.nx σ' H') → (∀ r, rs r → Sends X.K H0 D.rt E r) → WB X ss D σ H
end
section
variable {X : Cx} {E : XK} {H0 : Hp} {δ : DSl} {e a b c : Expr} {d x y : PyData} {pos : Pos}
theorem DL.de {ds : List PyData} (h : DL X H0 δ e ds) : DE X H0 δ e (.list ds) := fun σ H S Q q => h σ H S Q fun p H' vs _ e1 h1 h2 => q _ H' e1 (.lst (SqL.of h1) h2)
theorem DE.is (h : DE X H0 δ e x) (q : x = y) : DE X H0 δ e y := by rw [← q]; exact h
theorem DT.is {p q : Bool} (h : DT X H0 δ e p) (e1 : p = q) : DT X H0 δ e q := by rw [← e1]; exact h
theorem DL.is {ds es : List PyData} (h : DL X H0 δ e ds) (q : ds = es) : DL X H0 δ e es := by rw [← q]; exact h
theorem DA.is {l : List Expr} {ds es : List PyData} (h : DA X H0 δ l ds) (q : ds = es) : DA X H0 δ l es := by rw [← q]; exact h
/-! names and constants -/
theorem de_im {i : Nat} {z : Str} (hN : X.N[i]? = some z) (hv : Vis X.env.scope z) (h : δ[i]? = some (some (.im d))) (hd : (z == ("__debug__" : Str)) = false := by decide) (hcd : (z == ("__classdict__" : Str)) = false := by decide) : DE X H0 δ (.Name z pos) d := fun σ H S Q q => by
  obtain ⟨v, h1, h2⟩ := S.getIm h
  exact we_of (pe_var hN hv hd hcd) ⟨v, h1, q v H .rfl h2⟩
theorem de_ow {i : Nat} {z : Str} {ds : List PyData} (hN : X.N[i]? = some z) (hv : Vis X.env.scope z) (h : δ[i]? = some (some (.ow ds))) (hd : (z == ("__debug__" : Str)) = false := by decide) (hcd : (z == ("__classdict__" : Str)) = false := by decide) : DE X H0 δ (.Name z pos) (.list ds) := fun σ H S Q q => by
  obtain ⟨v, h1, h2⟩ := S.getOw h
  exact we_of (pe_var hN hv hd hcd) ⟨v, h1, q v H .rfl h2⟩
theorem de_int {i : Int} {j : Nat} : DE X H0 δ (.Constant (.int i) j pos) (.int i) := fun σ H S Q q => we_of pe_int (q _ H .rfl (.int i))
theorem de_bl {i : Bool} {j : Nat} : DE X H0 δ (.Constant (.bool i) j pos) (.bool i) := fun σ H S Q q => we_of pe_bl (q _ H .rfl (.bl i))
theorem de_str {i : Str} {j : Nat} : DE X H0 δ (.Constant (.str i) j pos) (.str i) := fun σ H S Q q => we_of pe_str (q _ H .rfl (.str i))
theorem de_non {j : Nat} : DE X H0 δ (.Constant .none j pos) .none := fun σ H S Q q => we_of pe_non (q _ H .rfl .non)
/-- a name of the module that holds data -/
def Kd (K : PySem.W.Frag) (mg : Str → Option Value) (z : Str) (d : PyData) : Prop := ∃ u v, mg z = some u ∧ RelV v u ∧ ∀ H, Dp K H v d
theorem de_glob {z : Str} (h : Kd X.K X.mg z d) (hg : Gl X z) (hd : (z == ("__debug__" : Str)) = false := by decide) : DE X H0 δ (.Name z pos) d := fun σ H S Q q => by
  obtain ⟨u, v, h1, h2, h3⟩ := h
  exact we_of (pe_glob hg h1 h2 hd) (q _ H .rfl (h3 H))
/-! arguments, displays -/
theorem da_nil : DA X H0 δ [] [] := fun σ H S Q q => wa_of pa_nil (q [] H .rfl .nil)
theorem da_cons {es : List Expr} {ds : List PyData} (h : DE X H0 δ e d) (hr : DA X H0 δ es ds) (hs : starEach (e :: es) X.env = (false, eval e X.env) :: starEach es X.env := by rfl) : DA X H0 δ (e :: es) (d :: ds) := fun σ H S Q q =>
  wa_of (pa_cons pe_w pa_w hs) (h σ H S _ fun v H1 e1 h1 => hr σ H1 (S.up e1) _ fun vs H2 e2 h2 => q (v :: vs) H2 (e1.trans e2) (.cons (h1.up e2) h2))
theorem de_tup {es : List Expr} {ds : List PyData} {k : Nat} (h : DA X H0 δ es ds) (hl : ds.length ≤ 1000) : DE X H0 δ (.Tuple es k pos) (.tuple ds) := fun σ H S Q q =>
  we_of (pe_tup pa_w) (h σ H S _ fun vs H1 e1 h1 => ⟨by rw [dpa_len h1]; exact Evl.sz_of (by omega), fun p hp => by
    have e2 : Ex H1 (upd H1 p (.tup vs)) := Evl.Ex.new hp
    exact q _ _ (e1.trans e2) (.tup (SqT.of upd_same) (h1.up e2))⟩)
theorem dl_lst {es : List Expr} {ds : List PyData} (h : DA X H0 δ es ds) (hl : ds.length ≤ 1000) : DL X H0 δ (.List es pos) ds := fun σ H S Q q =>
  we_of (pe_lst pa_w) (h σ H S _ fun vs H1 e1 h1 => ⟨by rw [dpa_len h1]; exact Evl.sz_of (by omega), fun p hp => by
    have e2 : Ex H1 (upd H1 p (.lst vs)) := Evl.Ex.new hp
    exact q p _ vs (Evl.fresh_back e1 hp) (e1.trans e2) upd_same (h1.up e2)⟩)
/-! operators by values -/
def V2 (K : PySem.W.Frag) (rr : R2) (x y z : PyData) : Prop := ∀ v u H (Q : VK), Dp K H v x → Dp K H u y → (∀ v' H', Ex H H' → Dp K H' v' z → Q v' H') → rr v u H Q
def V2L (K : PySem.W.Frag) (rr : R2) (x y : PyData) (ds : List PyData) : Prop := ∀ v u H (Q : VK), Dp K H v x → Dp K H u y → (∀ p H' vs, H p = none → Ex H H' → H' p = some (.lst vs) → DpAll K H' vs ds → Q (.ref p) H') → rr v u H Q
theorem de_bin {op : Operator} {rr : R2} (ho : OpR X (binaryOp op) rr) (ha : DE X H0 δ a x) (hb : DE X H0 δ b y) (hr : V2 X.K rr x y d) : DE X H0 δ (.BinOp a op b pos) d := fun σ H S Q q =>
  we_of (pe_op ho pe_w pe_w) (ha σ H S _ fun v H1 e1 h1 => hb σ H1 (S.up e1) _ fun u H2 e2 h2 => hr v u H2 Q (h1.up e2) h2 fun w' H3 e3 h3 => q w' H3 ((e1.trans e2).trans e3) h3)
theorem dl_bin {op : Operator} {rr : R2} {ds : List PyData} (ho : OpR X (binaryOp op) rr) (ha : DE X H0 δ a x) (hb : DE X H0 δ b y) (hr : V2L X.K rr x y ds) : DL X H0 δ (.BinOp a op b pos) ds := fun σ H S Q q =>
  we_of (pe_op ho pe_w pe_w) (ha σ H S _ fun v H1 e1 h1 => hb σ H1 (S.up e1) _ fun u H2 e2 h2 => hr v u H2 Q (h1.up e2) h2 fun p H3 vs n3 e3 h3 h4 => q p H3 vs (Evl.fresh_back (e1.trans e2) n3) ((e1.trans e2).trans e3) h3 h4)
theorem de_cmp {op : CmpOp} {rr : R2} {k : Bool} (ho : OpR X (compareOp op) rr) (ha : DE X H0 δ a x) (hb : DE X H0 δ b y) (hr : V2 X.K rr x y (.bool k)) (hm : behindInMarks op b = false) : DE X H0 δ (.Compare a [op] [b] pos) (.bool k) := fun σ H S Q q =>
  we_of (pe_cmpR ho pe_w pe_w hm) (ha σ H S _ fun v H1 e1 h1 => hb σ H1 (S.up e1) _ fun u H2 e2 h2 => hr v u H2 Q (h1.up e2) h2 fun w' H3 e3 h3 => q w' H3 ((e1.trans e2).trans e3) h3)
theorem dt_cmp {op : CmpOp} {rr : R2} {k : Bool} (ho : OpR X (compareOp op) rr) (ha : DE X H0 δ a x) (hb : DE X H0 δ b y) (hr : V2 X.K rr x y (.bool k)) (hm : behindInMarks op b = false) : DT X H0 δ (.Compare a [op] [b] pos) k := fun σ H S Q q =>
  wt_of (pt_cmpR ho pe_w pe_w hm) (ha σ H S _ fun v H1 e1 h1 => hb σ H1 (S.up e1) _ fun u H2 e2 h2 => hr v u H2 _ (h1.up e2) h2 fun w' H3 e3 h3 => by
    cases h3
    exact ⟨k, rfl, q H3 ((e1.trans e2).trans e3)⟩)
/-- a < b < c -/
theorem dt_chain {op op' : CmpOp} {r r' : R2} {z : PyData} {k k' : Bool} (ho : OpR X (compareOp op) r) (ho' : OpR X (compareOp op') r') (ha : DE X H0 δ a x) (hb : DE X H0 δ b y) (hc : k = true → DE X H0 δ c z) (h1 : V2 X.K r x y (.bool k)) (h2 : k = true → V2 X.K r' y z (.bool k'))
    (hp : ∀ {ta tb tc : TE}, PE X a ta → PE X b tb → PE X c tc → PT X (.Compare a [op, op'] [b, c] pos) (tTest (tChain r r' ta tb tc))) : DT X H0 δ (.Compare a [op, op'] [b, c] pos) (k && k') := fun σ H S Q q =>
  wt_of (hp pe_w pe_w pe_w) (ha σ H S _ fun v H1 e1 d1 => hb σ H1 (S.up e1) _ fun u H2 e2 d2 => h1 v u H2 _ (d1.up e2) d2 fun w' H3 e3 d3 => by
    cases d3
    refine ⟨k, rfl, ?_⟩
    cases k with
    | true =>
      show WE X c σ H3 _
      refine hc rfl σ H3 (S.up ((e1.trans e2).trans e3)) _ fun w2 H4 e4 d4 => h2 rfl u w2 H4 _ (d2.up (e3.trans e4)) d4 fun w3 H5 e5 d5 => ?_
      cases d5
      exact ⟨k', rfl, q H5 ((((e1.trans e2).trans e3).trans e4).trans e5)⟩
    | false =>
      show ∃ kk, V.bl false = .bl kk ∧ Q kk H3
      exact ⟨false, rfl, q H3 ((e1.trans e2).trans e3)⟩)
theorem dt_val {k : Bool} (h : DE X H0 δ e (.bool k)) (he : ∀ whole, isTrue e X.env whole = (do let v ← whole; standAt e.pos; holding [v] (truthy v)) := by intro _; rfl) : DT X H0 δ e k := fun σ H S Q q =>
  wt_of (pt_val pe_w he) (h σ H S _ fun v H1 e1 h1 => by
    cases h1
    exact ⟨k, rfl, q H1 e1⟩)
theorem dt_not {k : Bool} (h : DT X H0 δ e k) : DT X H0 δ (.UnaryOp .Not e pos) (!k) := fun σ H S Q q => wt_of (pt_not pt_w) (h σ H S _ fun H1 e1 => q H1 e1)
theorem dw_and1 {k : Bool} (h : DT X H0 δ e k) : DW X H0 δ (.BoolOp .And [e] pos) k := fun σ H S Q q => ww_of (pw_and1 pt_w) (h σ H S _ q)
theorem dw_or1 {k : Bool} (h : DT X H0 δ e k) : DW X H0 δ (.BoolOp .Or [e] pos) k := fun σ H S Q q => ww_of (pw_or1 pt_w) (h σ H S _ q)
theorem dw_and {k l : Bool} {rest : List Expr} (h : DT X H0 δ a k) (hr : k = true → DW X H0 δ (.BoolOp .And (b :: rest) pos) l) : DW X H0 δ (.BoolOp .And (a :: b :: rest) pos) (k && l) := fun σ H S Q q =>
  ww_of (pw_and pt_w pw_w) (h σ H S _ fun H1 e1 => by
    cases k with
    | true =>
      show WW X _ σ H1 Q
      exact hr rfl σ H1 (S.up e1) Q fun H2 e2 => q H2 (e1.trans e2)
    | false =>
      show Q false H1
      exact q H1 e1)
theorem dw_or {k l : Bool} {rest : List Expr} (h : DT X H0 δ a k) (hr : k = false → DW X H0 δ (.BoolOp .Or (b :: rest) pos) l) : DW X H0 δ (.BoolOp .Or (a :: b :: rest) pos) (k || l) := fun σ H S Q q =>
  ww_of (pw_or pt_w pw_w) (h σ H S _ fun H1 e1 => by
    cases k with
    | true =>
      show Q true H1
      exact q H1 e1
    | false =>
      show WW X _ σ H1 Q
      exact hr rfl σ H1 (S.up e1) Q fun H2 e2 => q H2 (e1.trans e2))
theorem DW.dt {k : Bool} (h : DW X H0 δ e k) : DT X H0 δ e k := fun σ H S Q q => ⟨fun pins s I => (h σ H S Q q).run _ pins s I⟩
theorem de_not {k : Bool} (h : DE X H0 δ e (.bool k)) : DE X H0 δ (.UnaryOp .Not e pos) (.bool (!k)) := fun σ H S Q q =>
  we_of (pe_not pe_w) (h σ H S _ fun v H1 e1 h1 => by
    cases h1
    exact ⟨k, rfl, q _ H1 e1 (.bl _)⟩)
theorem de_one {op : BoolOp} (h : DE X H0 δ e d) : DE X H0 δ (.BoolOp op [e] pos) d := fun σ H S Q q => we_of (pe_one pe_w) (h σ H S Q q)
theorem de_and {k l : Bool} {rest : List Expr} (h : DE X H0 δ a (.bool k)) (hr : k = true → DE X H0 δ (.BoolOp .And (b :: rest) pos) (.bool l)) : DE X H0 δ (.BoolOp .And (a :: b :: rest) pos) (.bool (k && l)) := fun σ H S Q q =>
  we_of (pe_and pe_w pe_w) (h σ H S _ fun v H1 e1 h1 => by
    cases h1
    refine ⟨k, rfl, ?_⟩
    cases k with
    | true =>
      show WE X _ σ H1 Q
      exact hr rfl σ H1 (S.up e1) Q fun v H2 e2 h2 => q v H2 (e1.trans e2) h2
    | false =>
      show Q (.bl false) H1
      exact q _ H1 e1 (.bl _))
theorem de_if {k : Bool} (h : DT X H0 δ c k) (h1 : k = true → DE X H0 δ a d) (h2 : k = false → DE X H0 δ b d) : DE X H0 δ (.IfExp c a b pos) d := fun σ H S Q q =>
  we_of (pe_ifExp pt_w pe_w pe_w) (h σ H S _ fun H1 e1 => by
    cases k with
    | true =>
      show WE X a σ H1 Q
      exact h1 rfl σ H1 (S.up e1) Q fun v H2 e2 h2 => q v H2 (e1.trans e2) h2
    | false =>
      show WE X b σ H1 Q
      exact h2 rfl σ H1 (S.up e1) Q fun v H2 e2 h2 => q v H2 (e1.trans e2) h2)
/-! subscripts -/
theorem dp_tup {K : PySem.W.Frag} {H : Hp} {v : V} {ds : List PyData} (h : Dp K H v (.tuple ds)) : ∃ p vs, v = .ref p ∧ SqT K H p vs ∧ DpAll K H vs ds := by
  cases h with
  | tup hs ha => exact ⟨_, _, rfl, hs, ha⟩
theorem dp_lst {K : PySem.W.Frag} {H : Hp} {v : V} {ds : List PyData} (h : Dp K H v (.list ds)) : ∃ p vs, v = .ref p ∧ SqL K H p vs ∧ DpAll K H vs ds := by
  cases h with
  | lst hs ha => exact ⟨_, _, rfl, hs, ha⟩
theorem dpa_at {K : PySem.W.Frag} {H : Hp} {vs : List V} {ds : List PyData} {i : Int} {d : PyData} (h : DpAll K H vs ds) (hi : atI ds i = some d) : ∃ v, atI vs i = some v ∧ Dp K H v d := by
  unfold atI at hi ⊢
  rw [dpa_len h]
  cases e : ixN ds.length i with
  | none => rw [e] at hi; cases hi
  | some j =>
    rw [e] at hi
    exact dpa_get h hi
theorem de_ixT {i : Int} {ds : List PyData} (ha : DE X H0 δ a (.tuple ds)) (hb : DE X H0 δ b (.int i)) (hi : atI ds i = some d) (hs : PlainIx b) : DE X H0 δ (.Subscript a b pos) d := fun σ H S Q q =>
  we_of (pe_ix ix_tup pe_w pe_w hs) (ha σ H S _ fun v H1 e1 h1 => hb σ H1 (S.up e1) _ fun u H2 e2 h2 => by
    obtain ⟨p, vs, rfl, h3, h4⟩ := dp_tup (Dp.up h1 e2)
    cases h2
    obtain ⟨w', h5, h6⟩ := dpa_at h4 hi
    exact ⟨p, vs, i, w', rfl, rfl, h3, h5, q w' H2 (e1.trans e2) h6⟩)
theorem de_ixL {i : Int} {ds : List PyData} (ha : DE X H0 δ a (.list ds)) (hb : DE X H0 δ b (.int i)) (hi : atI ds i = some d) (hs : PlainIx b) : DE X H0 δ (.Subscript a b pos) d := fun σ H S Q q =>
  we_of (pe_ix ix_list pe_w pe_w hs) (ha σ H S _ fun v H1 e1 h1 => hb σ H1 (S.up e1) _ fun u H2 e2 h2 => by
    obtain ⟨p, vs, rfl, h3, h4⟩ := dp_lst (Dp.up h1 e2)
    cases h2
    obtain ⟨w', h5, h6⟩ := dpa_at h4 hi
    exact ⟨p, vs, i, w', rfl, rfl, h3, h5, q w' H2 (e1.trans e2) h6⟩)
end
end RS
set_option Elab.async false
set_option linter.all false
set_option maxRecDepth 100000
set_option maxHeartbeats 4000000
/-! part B: calls, built-ins, comprehensions, statements -/
namespace RS
open PySem PySem.Spec PyProof.Rows L2
section
variable {X : Cx} {E : XK} {H0 : Hp} {δ : DSl} {e a b c : Expr} {d x y : PyData} {pos p : Pos}
/-! slices of tuples -/
def cutD (ds : List PyData) (lo hi : Option Int) : List PyData := (ds.drop (HT.sIx ds.length 0 lo)).take (HT.sIx ds.length ds.length hi - HT.sIx ds.length 0 lo)
theorem de_slT {lo hi : Option Expr} {l h : Option Int} {ds : List PyData} {p2 : Pos} (ha : DE X H0 δ a (.tuple ds))
    (hl : (lo = none ∧ l = none) ∨ ∃ el i, lo = some el ∧ l = some i ∧ DE X H0 δ el (.int i)) (hh : (hi = none ∧ h = none) ∨ ∃ el i, hi = some el ∧ h = some i ∧ DE X H0 δ el (.int i)) :
    DE X H0 δ (.Subscript a (.Slice lo hi none p2) pos) (.tuple (cutD ds l h)) := fun σ H S Q q => by
  have fin : ∀ {v : V} {H1 H3 : Hp}, Dp X.K H1 v (.tuple ds) → Ex H H1 → Ex H1 H3 → rSlA X.K v l h H3 Q := fun {v H1 H3} h1 e1 e3 => by
    obtain ⟨pp, vs, rfl, h3, h4⟩ := dp_tup (h1.up e3)
    refine ⟨pp, vs, rfl, h3, fun hw => ?_, fun hw pn hp => ?_⟩
    · rw [dpa_len h4] at hw
      have e5 : cutD ds l h = ds := by
        unfold cutD
        rw [hw.1, hw.2]
        simp
      exact q _ H3 (e1.trans e3) (by rw [e5]; exact .tup h3 h4)
    · have e2 : Ex H3 (upd H3 pn (.tup (cutV vs l h))) := Evl.Ex.new hp
      refine q _ _ ((e1.trans e3).trans e2) (.tup (SqT.of upd_same) ?_)
      refine DpAll.up ?_ e2
      unfold cutV cutD
      rw [dpa_len h4]
      exact dpa_take _ (dpa_drop _ h4)
  rcases hl with ⟨rfl, rfl⟩ | ⟨el, i, rfl, rfl, dl⟩
  · rcases hh with ⟨rfl, rfl⟩ | ⟨eh, j, rfl, rfl, dh⟩
    · exact we_of (pe_slice sl_tupA pe_w po_none po_none) (ha σ H S _ fun v H1 e1 h1 => fin h1 e1 .rfl)
    · exact we_of (pe_slice sl_tupA pe_w po_none (po_some pe_w)) (ha σ H S _ fun v H1 e1 h1 => dh σ H1 (S.up e1) _ fun u H2 e2 h2 => by
        cases h2
        exact ⟨j, rfl, fin h1 e1 e2⟩)
  · rcases hh with ⟨rfl, rfl⟩ | ⟨eh, j, rfl, rfl, dh⟩
    · exact we_of (pe_slice sl_tupA pe_w (po_some pe_w) po_none) (ha σ H S _ fun v H1 e1 h1 => dl σ H1 (S.up e1) _ fun u H2 e2 h2 => by
        cases h2
        exact ⟨i, rfl, fin h1 e1 e2⟩)
    · exact we_of (pe_slice sl_tupA pe_w (po_some pe_w) (po_some pe_w)) (ha σ H S _ fun v H1 e1 h1 => dl σ H1 (S.up e1) _ fun u H2 e2 h2 => by
        cases h2
        refine ⟨i, rfl, dh σ H2 (S.up (e1.trans e2)) _ fun u3 H3 e3 h3 => ?_⟩
        cases h3
        exact ⟨j, rfl, fin h1 e1 (e2.trans e3)⟩)
theorem de_neg {i : Int} (h : DE X H0 δ e (.int i)) : DE X H0 δ (.UnaryOp .USub e pos) (.int (-i)) := fun σ H S Q q =>
  we_of (pe_un un_neg pe_w) (h σ H S _ fun v H1 e1 h1 => by
    cases h1
    exact ⟨i, rfl, q _ H1 e1 (.int _)⟩)
theorem cutD_1 (ds : List PyData) : cutD ds (some 1) none = ds.drop 1 := by
  unfold cutD
  rw [show HT.sIx ds.length 0 (some 1) = min 1 ds.length from HT.sIx_nat ds.length 0 1, HT.sIx_none]
  cases ds with
  | nil => rfl
  | cons x r =>
    rw [show min 1 (x :: r).length = 1 by rw [List.length_cons]; omega]
    rw [List.take_of_length_le (by simp)]
theorem cutD_m1 (ds : List PyData) : cutD ds none (some (-1)) = ds.dropLast := by
  unfold cutD
  have e : HT.sIx ds.length ds.length (some (-1)) = ds.length - 1 := by
    simp [HT.sIx]
    omega
  rw [HT.sIx_none, e, List.drop_zero, List.dropLast_eq_take, Nat.sub_zero]
/-! calls of defs -/
section
variable {z : Str} {k j : Nat} {FR : List PyData → Res → Prop} {es : List Expr} {ds : List PyData}
theorem de_call (cn : Cn X.prog X.w X.K X.mg X.base z k FR) (hr : Room j X.A) (hk : k ≤ j) (hg : Gl X z) (ha : DA X H0 δ (e :: es) ds) (hf : FR ds (.ok d)) (hdb : (z == ("__debug__" : Str)) = false := by decide)
    (he : starEach (e :: es) X.env = (false, eval e X.env) :: starEach es X.env := by rfl) (hpl : (backTo pos (starEach es X.env)).any (·.1) = false := by rfl) : DE X H0 δ (.Call (.Name z p) (e :: es) [] pos) d := fun σ H S Q q => by
  obtain ⟨f, fd, ps, F, hm, hkp, hb⟩ := cn.ex
  exact we_of (pe_call F (hr.mono hk) hg hm hkp hb .nil passL pa_w hdb he hpl) (ha σ H S _ fun vs H1 e1 h1 => ⟨ds, _, by simpa using h1, hf, fun v H2 e2 h2 => q v H2 (e1.trans e2) h2⟩)
theorem dl_call {rs : List PyData} (cn : Cn X.prog X.w X.K X.mg X.base z k FR) (hr : Room j X.A) (hk : k ≤ j) (hg : Gl X z) (ha : DA X H0 δ (e :: es) ds) (hf : FR ds (.new rs)) (hdb : (z == ("__debug__" : Str)) = false := by decide)
    (he : starEach (e :: es) X.env = (false, eval e X.env) :: starEach es X.env := by rfl) (hpl : (backTo pos (starEach es X.env)).any (·.1) = false := by rfl) : DL X H0 δ (.Call (.Name z p) (e :: es) [] pos) rs := fun σ H S Q q => by
  obtain ⟨f, fd, ps, F, hm, hkp, hb⟩ := cn.ex
  exact we_of (pe_call F (hr.mono hk) hg hm hkp hb .nil passL pa_w hdb he hpl) (ha σ H S _ fun vs H1 e1 h1 => ⟨ds, _, by simpa using h1, hf, fun pn H2 ws n2 e2 h2 h3 => q pn H2 ws (Evl.fresh_back e1 n2) (e1.trans e2) h2 h3⟩)
theorem dx_call {C : Addr} {f : Str} (hx : L2.Passes (L2.CX X.prog X.w) X E) (cn : Cn X.prog X.w X.K X.mg X.base z k FR) (hr : Room j X.A) (hk : k ≤ j) (hg : Gl X z) (ha : DA X H0 δ (e :: es) ds) (hf : FR ds (.err C f d)) (hdb : (z == ("__debug__" : Str)) = false := by decide)
    (he : starEach (e :: es) X.env = (false, eval e X.env) :: starEach es X.env := by rfl) (hpl : (backTo pos (starEach es X.env)).any (·.1) = false := by rfl) : DX X E H0 δ (.Call (.Name z p) (e :: es) [] pos) C f d := fun σ H S q Q => by
  obtain ⟨fn, fd, ps, F, hm, hkp, hb⟩ := cn.ex
  exact we_of (pe_call F (hr.mono hk) hg hm hkp hb .nil hx pa_w hdb he hpl) (ha σ H S _ fun vs H1 e1 h1 => ⟨ds, _, by simpa using h1, hf, fun dd v H2 n2 e2 h2 h3 => q dd v H2 (Evl.fresh_back e1 n2) (e1.trans e2) h2 h3⟩)
end
/-! an error within goes through -/
theorem dx_ix {C : Addr} {f : Str} {pp : Pos} (h : DX X E H0 δ a C f d) (hs : PlainIx b) : DX X E H0 δ (.Subscript a b pp) C f d := fun σ H S q Q => we_of (pe_ix ix_tup pe_w (pe_w (e := b)) hs) (h σ H S q _)
theorem dx_cmp {op : CmpOp} {C : Addr} {f : Str} {rr : R2} (ho : OpR X (compareOp op) rr) (h : DX X E H0 δ a C f d) (hm : behindInMarks op b = false) : DX X E H0 δ (.Compare a [op] [b] pos) C f d := fun σ H S q Q => we_of (pe_cmpR ho pe_w pe_w hm) (h σ H S q _)
theorem dx_callTy {C : Addr} {f : Str} {z : Str} {T : String} {r : List V → Hp → VK → Prop} (hc : CallR X (.type T) r) (hg : Gl X z) (hm : X.mg z = none) (hv : bootBuiltins z = some (.type T)) (h : DX X E H0 δ e C f d) (hn : z ≠ "__name__" := by decide) (hdb : (z == ("__debug__" : Str)) = false := by decide)
    (he : starEach [e] X.env = (false, eval e X.env) :: starEach [] X.env := by rfl) (hpl : (backTo pos (starEach [] X.env)).any (·.1) = false := by rfl) : DX X E H0 δ (.Call (.Name z p) [e] [] pos) C f d := fun σ H S q Q =>
  we_of (pe_callTy hc hg hm hv (pa_cons pe_w pa_nil he) hn hdb he hpl) (h σ H S q _)
/-- .. in the first argument of a def's call -/
theorem dx_arg {C : Addr} {f : Str} {z : Str} {k j : Nat} {FR : List PyData → Res → Prop} (cn : Cn X.prog X.w X.K X.mg X.base z k FR) (hr : Room j X.A) (hk : k ≤ j) (hg : Gl X z) (h : DX X E H0 δ e C f d) (hdb : (z == ("__debug__" : Str)) = false := by decide)
    (he : starEach [e] X.env = (false, eval e X.env) :: starEach [] X.env := by rfl) (hpl : (backTo pos (starEach [] X.env)).any (·.1) = false := by rfl) : DX X E H0 δ (.Call (.Name z p) [e] [] pos) C f d := fun σ H S q Q => by
  obtain ⟨fn, fd, ps, F, hm, hkp, hb⟩ := cn.ex
  exact we_of (pe_call F (hr.mono hk) hg hm hkp hb .nil passL (pa_cons pe_w pa_nil he) hdb he hpl) (h σ H S q _)
/-! built-ins -/
def C1 (K : PySem.W.Frag) (r : List V → Hp → VK → Prop) (ds : List PyData) (d : PyData) : Prop := ∀ vs H (Q : VK), DpAll K H vs ds → (∀ v H', Ex H H' → Dp K H' v d → Q v H') → r vs H Q
section
variable {z : Str} {r : List V → Hp → VK → Prop} {es : List Expr} {ds : List PyData} {id T : String}
theorem de_callB (hc : CallR X (.builtin id) r) (hg : Gl X z) (hm : X.mg z = none) (hv : bootBuiltins z = some (.builtin id)) (ha : DA X H0 δ (e :: es) ds) (hr : C1 X.K r ds d) (hn : z ≠ "__name__" := by decide) (hdb : (z == ("__debug__" : Str)) = false := by decide)
    (he : starEach (e :: es) X.env = (false, eval e X.env) :: starEach es X.env := by rfl) (hpl : (backTo pos (starEach es X.env)).any (·.1) = false := by rfl) : DE X H0 δ (.Call (.Name z p) (e :: es) [] pos) d := fun σ H S Q q =>
  we_of (pe_callB hc hg hm hv pa_w hn hdb he hpl) (ha σ H S _ fun vs H1 e1 h1 => hr vs H1 Q h1 fun v H2 e2 h2 => q v H2 (e1.trans e2) h2)
theorem de_callTy (hc : CallR X (.type T) r) (hg : Gl X z) (hm : X.mg z = none) (hv : bootBuiltins z = some (.type T)) (ha : DA X H0 δ (e :: es) ds) (hr : C1 X.K r ds d) (hn : z ≠ "__name__" := by decide) (hdb : (z == ("__debug__" : Str)) = false := by decide)
    (he : starEach (e :: es) X.env = (false, eval e X.env) :: starEach es X.env := by rfl) (hpl : (backTo pos (starEach es X.env)).any (·.1) = false := by rfl) : DE X H0 δ (.Call (.Name z p) (e :: es) [] pos) d := fun σ H S Q q =>
  we_of (pe_callTy hc hg hm hv pa_w hn hdb he hpl) (ha σ H S _ fun vs H1 e1 h1 => hr vs H1 Q h1 fun v H2 e2 h2 => q v H2 (e1.trans e2) h2)
end
theorem dpa1 {K : PySem.W.Frag} {H : Hp} {vs : List V} (h : DpAll K H vs [d]) : ∃ v, vs = [v] ∧ Dp K H v d := by
  cases h with
  | cons h1 h2 => cases h2; exact ⟨_, rfl, h1⟩
theorem dpa2 {K : PySem.W.Frag} {H : Hp} {vs : List V} (h : DpAll K H vs [x, y]) : ∃ v u, vs = [v, u] ∧ Dp K H v x ∧ Dp K H u y := by
  cases h with
  | cons h1 h2 =>
    obtain ⟨u, rfl, h3⟩ := dpa1 h2
    exact ⟨_, _, rfl, h1, h3⟩
theorem c1_lenT {K : PySem.W.Frag} {ds : List PyData} : C1 K (fun xs H Q => ∃ x n, xs = [x] ∧ LenV K x H n ∧ Q (.int n) H) [.tuple ds] (.int ds.length) := fun vs H Q h q => by
  obtain ⟨v, rfl, h1⟩ := dpa1 h
  obtain ⟨pp, ws, rfl, h3, h4⟩ := dp_tup h1
  exact ⟨_, ds.length, rfl, .inr ⟨ws, h3, (dpa_len h4).symm⟩, q _ H .rfl (.int _)⟩
theorem c1_lenL {K : PySem.W.Frag} {ds : List PyData} : C1 K (fun xs H Q => ∃ x n, xs = [x] ∧ LenV K x H n ∧ Q (.int n) H) [.list ds] (.int ds.length) := fun vs H Q h q => by
  obtain ⟨v, rfl, h1⟩ := dpa1 h
  obtain ⟨pp, ws, rfl, h3, h4⟩ := dp_lst h1
  exact ⟨_, ds.length, rfl, .inl ⟨ws, h3, (dpa_len h4).symm⟩, q _ H .rfl (.int _)⟩
theorem c1_abs {K : PySem.W.Frag} {i : Int} : C1 K (fun xs H Q => ∃ i, xs = [.int i] ∧ Q (.int (if i < 0 then -i else i)) H) [.int i] (.int i.natAbs) := fun vs H Q h q => by
  obtain ⟨v, rfl, h1⟩ := dpa1 h
  cases h1
  refine ⟨i, rfl, ?_⟩
  have e : (if i < 0 then -i else i) = (i.natAbs : Int) := by split <;> omega
  rw [e]
  exact q _ H .rfl (.int _)
theorem c1_int {K : PySem.W.Frag} {i : Int} : C1 K (fun xs H Q => (∃ i, xs = [.int i] ∧ Q (.int i) H) ∨ ∃ k, xs = [.bl k] ∧ Q (.int (if k then 1 else 0)) H) [.int i] (.int i) := fun vs H Q h q => by
  obtain ⟨v, rfl, h1⟩ := dpa1 h
  cases h1
  exact .inl ⟨i, rfl, q _ H .rfl (.int _)⟩
theorem c1_intb {K : PySem.W.Frag} {k : Bool} : C1 K (fun xs H Q => (∃ i, xs = [.int i] ∧ Q (.int i) H) ∨ ∃ k, xs = [.bl k] ∧ Q (.int (if k then 1 else 0)) H) [.bool k] (.int (if k then 1 else 0)) := fun vs H Q h q => by
  obtain ⟨v, rfl, h1⟩ := dpa1 h
  cases h1
  exact .inr ⟨k, rfl, q _ H .rfl (.int _)⟩
theorem c1_all {K : PySem.W.Frag} {bs : List Bool} : C1 K (rAll K) [.list (bs.map .bool)] (.bool (bs.all id)) := fun vs H Q h q => by
  obtain ⟨v, rfl, h1⟩ := dpa1 h
  obtain ⟨pp, ws, rfl, h3, h4⟩ := dp_lst h1
  rw [dpa_bls h4] at h3
  exact ⟨pp, bs, rfl, h3, q _ H .rfl (.bl _)⟩
theorem c1_any {K : PySem.W.Frag} {bs : List Bool} : C1 K (rAny K) [.list (bs.map .bool)] (.bool (bs.any id)) := fun vs H Q h q => by
  obtain ⟨v, rfl, h1⟩ := dpa1 h
  obtain ⟨pp, ws, rfl, h3, h4⟩ := dp_lst h1
  rw [dpa_bls h4] at h3
  exact ⟨pp, bs, rfl, h3, q _ H .rfl (.bl _)⟩
theorem c1_tuple {K : PySem.W.Frag} {ds : List PyData} : C1 K (fun xs H Q => ∃ p ys, xs = [.ref p] ∧ ((SqL K H p ys ∧ ∀ l, H l = none → Q (.ref l) (upd H l (.tup ys))) ∨ (SqT K H p ys ∧ Q (.ref p) H))) [.list ds] (.tuple ds) := fun vs H Q h q => by
  obtain ⟨v, rfl, h1⟩ := dpa1 h
  obtain ⟨pp, ws, rfl, h3, h4⟩ := dp_lst h1
  refine ⟨pp, ws, rfl, .inl ⟨h3, fun l hl => ?_⟩⟩
  have e2 : Ex H (upd H l (.tup ws)) := Evl.Ex.new hl
  exact q _ _ e2 (.tup (SqT.of upd_same) (h4.up e2))
theorem c1_max {K : PySem.W.Frag} {i j : Int} : C1 K (fun xs H Q => ∃ i j, xs = [.int i, .int j] ∧ Q (.int (if j > i then j else i)) H) [.int i, .int j] (.int (if j > i then j else i)) := fun vs H Q h q => by
  obtain ⟨v, u, rfl, h1, h2⟩ := dpa2 h
  cases h1
  cases h2
  exact ⟨i, j, rfl, q _ H .rfl (.int _)⟩
/-! isinstance -/
def tyN : PyData → String
  | .none => "NoneType"
  | .bool _ => "bool"
  | .int _ => "int"
  | .str _ => "str"
  | .list _ => "list"
  | .tuple _ => "tuple"
  | .dict _ => "dict"
theorem tyX_of {K : PySem.W.Frag} {H : Hp} {v : V} (h : Dp K H v d) : TyX K H v (.type (tyN d)) := by
  cases h with
  | non => exact .base .non
  | bl b => exact .base (.bl b)
  | int i => exact .base (.int i)
  | str s => exact .base (.str s)
  | lst hs _ =>
    rcases hs with (hs | ⟨o, hs⟩) | ⟨o, its, n, h1, h2, _⟩
    · exact .base (.lst hs)
    · exact .base (.frz hs)
    · exact .kList h1 h2
  | tup hs _ =>
    rcases hs with (hs | ⟨o, hs⟩) | ⟨o, its, n, h1, h2, _⟩
    · exact .base (.tup hs)
    · exact .fTuple hs
    · exact .kTuple h1 h2
theorem de_isi {T : Str} {t : String} {k : Bool} {p1 : Pos} (hg : Gl X "isinstance") (hm : X.mg "isinstance" = none) (hgT : Gl X T) (hmT : X.mg T = none) (hvT : bootBuiltins T = some (.type t)) (ha : DE X H0 δ e d) (hk : L2.kitB (tyN d) t = some k) (hnT : T ≠ "__name__" := by decide) (hdT : (T == ("__debug__" : Str)) = false := by decide)
    (he : starEach [e, .Name T p1] X.env = (false, eval e X.env) :: starEach [.Name T p1] X.env := by rfl) (he2 : starEach [.Name T p1] X.env = (false, eval (.Name T p1) X.env) :: starEach [] X.env := by rfl) (hpl : (backTo pos (starEach [.Name T p1] X.env)).any (·.1) = false := by rfl) :
    DE X H0 δ (.Call (.Name "isinstance" p) [e, .Name T p1] [] pos) (.bool k) := fun σ H S Q q =>
  we_of (pe_callB call_isi hg hm (by decide +kernel) (pa_cons pe_w (pa_cons (pe_bltn (v := .ty t) (u := .type t) hgT hmT hvT rfl hnT hdT) pa_nil he2) he) (by decide) (by decide) he hpl)
    (ha σ H S _ fun v H1 e1 h1 => ⟨v, .ty t, .type (tyN d), .type t, k, rfl, .ty t, tyX_of h1, kit_ty hk, q _ H1 e1 (.bl k)⟩)
end
/-! ### values by operators -/
section
variable {K : PySem.W.Frag} {i j : Int}
theorem v2_add : V2 K (rI0 fun i j => .int (i + j)) (.int i) (.int j) (.int (i + j)) := fun v u H Q h1 h2 q => by
  cases h1; cases h2; exact ⟨i, j, rfl, rfl, q _ H .rfl (.int _)⟩
theorem v2_sub : V2 K (rI0 fun i j => .int (i - j)) (.int i) (.int j) (.int (i - j)) := fun v u H Q h1 h2 q => by
  cases h1; cases h2; exact ⟨i, j, rfl, rfl, q _ H .rfl (.int _)⟩
theorem v2_mul (hc : CMulW i j) : V2 K (rI CMulW fun i j => .int (i * j)) (.int i) (.int j) (.int (i * j)) := fun v u H Q h1 h2 q => by
  cases h1; cases h2; exact ⟨i, j, rfl, rfl, hc, q _ H .rfl (.int _)⟩
theorem v2_div (hc : CDivW i j) : V2 K (rI CDivW fun i j => .int (i / j)) (.int i) (.int j) (.int (i / j)) := fun v u H Q h1 h2 q => by
  cases h1; cases h2; exact ⟨i, j, rfl, rfl, hc, q _ H .rfl (.int _)⟩
theorem v2_mod (hc : 0 < j) : V2 K (rI (fun _ j => 0 < j) fun i j => .int (i % j)) (.int i) (.int j) (.int (i % j)) := fun v u H Q h1 h2 q => by
  cases h1; cases h2; exact ⟨i, j, rfl, rfl, hc, q _ H .rfl (.int _)⟩
theorem v2_lt : V2 K (rI0 fun i j => .bl (decide (i < j))) (.int i) (.int j) (.bool (decide (i < j))) := fun v u H Q h1 h2 q => by
  cases h1; cases h2; exact ⟨i, j, rfl, rfl, q _ H .rfl (.bl _)⟩
theorem v2_le : V2 K (rI0 fun i j => .bl (decide (i ≤ j))) (.int i) (.int j) (.bool (decide (i ≤ j))) := fun v u H Q h1 h2 q => by
  cases h1; cases h2; exact ⟨i, j, rfl, rfl, q _ H .rfl (.bl _)⟩
theorem v2_gt : V2 K (rI0 fun i j => .bl (decide (j < i))) (.int i) (.int j) (.bool (decide (j < i))) := fun v u H Q h1 h2 q => by
  cases h1; cases h2; exact ⟨i, j, rfl, rfl, q _ H .rfl (.bl _)⟩
theorem v2_ge : V2 K (rI0 fun i j => .bl (decide (j ≤ i))) (.int i) (.int j) (.bool (decide (j ≤ i))) := fun v u H Q h1 h2 q => by
  cases h1; cases h2; exact ⟨i, j, rfl, rfl, q _ H .rfl (.bl _)⟩
theorem v2_eq {x y : PyData} (hx : SeqAt.shaped x = true) (hy : SeqAt.shaped y = true) : V2 K (rEqD K) x y (.bool (PyData.eqv x y)) := fun v u H Q h1 h2 q => ⟨x, y, h1, h2, hx, hy, q _ H .rfl (.bl _)⟩
theorem v2_ne {x y : PyData} (hx : SeqAt.shaped x = true) (hy : SeqAt.shaped y = true) : V2 K (rNeD K) x y (.bool (!PyData.eqv x y)) := fun v u H Q h1 h2 q => ⟨x, y, h1, h2, hx, hy, q _ H .rfl (.bl _)⟩
theorem v2_in {x : PyData} {ds : List PyData} (hx : SeqAt.shaped x = true) (hy : SeqAt.shaped (.list ds) = true) : V2 K (rInD K) x (.list ds) (.bool (ds.any fun z => PyData.eqv z x)) := fun v u H Q h1 h2 q => ⟨x, ds, h1, h2, hx, hy, q _ H .rfl (.bl _)⟩
theorem v2_nin {x : PyData} {ds : List PyData} (hx : SeqAt.shaped x = true) (hy : SeqAt.shaped (.list ds) = true) : V2 K (rNotInD K) x (.list ds) (.bool (!ds.any fun z => PyData.eqv z x)) := fun v u H Q h1 h2 q => ⟨x, ds, h1, h2, hx, hy, q _ H .rfl (.bl _)⟩
theorem v2_repT {ds : List PyData} (h1 : ds ≠ []) (h2 : 2 ≤ j) (h3 : j ≤ 1000) (h4 : ds.length ≤ 1000) : V2 K (rRepT K) (.tuple ds) (.int j) (.tuple (List.replicate j.toNat ds).flatten) := fun v u H Q g1 g2 q => by
  obtain ⟨p, vs, rfl, g3, g4⟩ := dp_tup g1
  cases g2
  refine ⟨p, j, vs, rfl, rfl, g3, fun z => h1 ?_, h2, h3, by rw [dpa_len g4]; exact h4, fun pn hp => ?_⟩
  · have := dpa_len g4
    rw [z] at this
    exact List.length_eq_zero_iff.mp this.symm
  · have e2 : Ex H (upd H pn (.tup (List.replicate j.toNat vs).flatten)) := Evl.Ex.new hp
    refine q _ _ e2 (.tup (SqT.of upd_same) ?_)
    refine DpAll.up ?_ e2
    have : ∀ n : Nat, DpAll K H (List.replicate n vs).flatten (List.replicate n ds).flatten := fun n => by
      induction n with
      | zero => exact .nil
      | succ n ih =>
        rw [List.replicate_succ, List.replicate_succ, List.flatten_cons, List.flatten_cons]
        exact dpa_app g4 ih
    exact this _
end
end RS
set_option Elab.async false
set_option linter.all false
set_option maxRecDepth 100000
set_option maxHeartbeats 4000000
/-! part C: what is walked; comprehensions; statements; a def's contract -/
namespace RS
open PySem PySem.Spec PyProof.Rows L2
/-! ### targets -/
/-- the target takes data d: the slots δ become δ' -/
def GB (K : PySem.W.Frag) (H0 : Hp) (g : TG) (d : PyData) (δ δ' : DSl) : Prop := ∀ σ H v (Q : L2.St → Hp → Prop), Sl K H0 H σ δ → Dp K H v d → (∀ σ', Sl K H0 H σ' δ' → Q σ' H) → g v σ H Q
theorem gb_name {K : PySem.W.Frag} {H0 : Hp} {i : Nat} {d : PyData} {δ : DSl} (hn : noL d = true) : GB K H0 (gName i) d δ (δ.set i (some (.im d))) := fun σ H v Q S h q => q _ (S.setIm (.inr ⟨hn, h⟩))
theorem gb_tup2 {K : PySem.W.Frag} {H0 : Hp} {g1 g2 : TG} {d1 d2 : PyData} {δ δ1 δ2 : DSl} (h1 : GB K H0 g1 d1 δ δ1) (h2 : GB K H0 g2 d2 δ1 δ2) : GB K H0 (gTup K 2 (gCons g1 (gCons g2 gNil))) (.tuple [d1, d2]) δ δ2 := fun σ H v Q S h q => by
  obtain ⟨p, vs, rfl, h3, h4⟩ := dp_tup h
  obtain ⟨v1, v2, rfl, k1, k2⟩ := dpa2 h4
  exact ⟨p, _, rfl, h3, rfl, v1, [v2], rfl, h1 σ H v1 _ S k1 fun σ' S' => ⟨v2, [], rfl, h2 σ' H v2 _ S' k2 fun σ2 S2 => ⟨rfl, q σ2 S2⟩⟩⟩
theorem gb_tup3 {K : PySem.W.Frag} {H0 : Hp} {g1 g2 g3 : TG} {d1 d2 d3 : PyData} {δ δ1 δ2 δ3 : DSl} (h1 : GB K H0 g1 d1 δ δ1) (h2 : GB K H0 g2 d2 δ1 δ2) (h3' : GB K H0 g3 d3 δ2 δ3) : GB K H0 (gTup K 3 (gCons g1 (gCons g2 (gCons g3 gNil)))) (.tuple [d1, d2, d3]) δ δ3 := fun σ H v Q S h q => by
  obtain ⟨p, vs, rfl, h3, h4⟩ := dp_tup h
  cases h4 with
  | cons k1 h5 =>
    obtain ⟨v2, v3, rfl, k2, k3⟩ := dpa2 h5
    exact ⟨p, _, rfl, h3, rfl, _, [v2, v3], rfl, h1 σ H _ _ S k1 fun σ' S' => ⟨v2, [v3], rfl, h2 σ' H v2 _ S' k2 fun σ2 S2 => ⟨v3, [], rfl, h3' σ2 H v3 _ S2 k3 fun σ3 S3 => ⟨rfl, q σ3 S3⟩⟩⟩⟩
/-! ### what is walked -/
def YD (K : PySem.W.Frag) (ys : List PyData) : Nat → Hp → V → Hp → Prop := fun i H x H' => Ex H H' ∧ ∀ d, ys[i]? = some d → Dp K H' x d
/-- a loop's walk: it stands while the tuples and what stood at the entry stand -/
def DWk (X : Cx) (H0 : Hp) (δ : DSl) (tg it : Expr) (ys : List PyData) : Prop := ∃ wi, PI X tg it wi ∧ ∀ σ H, Sl X.K H0 H σ δ → ∀ R : It → Hp → Prop, (∀ J H2 (G : Hp → Prop), Ex H H2 → Walk J ys.length G (YD X.K ys) → G H2 → (∀ H', Ex H0 H' → Tx H2 H' → G H') → R J H2) → wi σ H R
/-- a comprehension's walk: it stands while all stands -/
def DWc (X : Cx) (H0 : Hp) (δ : DSl) (tg it : Expr) (ys : List PyData) : Prop := ∃ wi, PI X tg it wi ∧ ∀ σ H, Sl X.K H0 H σ δ → ∀ R : It → Hp → Prop, (∀ J H2 (G : Hp → Prop), Ex H H2 → Walk J ys.length G (YD X.K ys) → G H2 → (∀ H', Ex H2 H' → G H') → R J H2) → wi σ H R
theorem DWk.c {X : Cx} {H0 : Hp} {δ : DSl} {tg it : Expr} {ys : List PyData} (h : DWk X H0 δ tg it ys) : DWc X H0 δ tg it ys := by
  obtain ⟨wi, hi, h⟩ := h
  exact ⟨wi, hi, fun σ H S R q => h σ H S R fun J H2 G e w g st => q J H2 G e w g fun H' e' => st H' ((S.ex.trans e).trans e') (Tx.of e')⟩
section
variable {K : PySem.W.Frag} {a b : Addr} {vs ws : List V} {ds es : List PyData}
theorem wk_tup (hl : vs.length = ds.length) : Walk (Itt K a) ds.length (fun H => SqT K H a vs ∧ DpAll K H vs ds) (YD K ds) := by
  have w := walk_tup (K := K) (a := a) (xs := vs)
  rw [hl] at w
  refine w.mono (fun H h => h.1) fun i H x H' hi h y => ?_
  obtain ⟨e, hx⟩ := y
  subst e
  refine ⟨.rfl, fun d hd => ?_⟩
  obtain ⟨v, h1, h2⟩ := dpa_get h.2 hd
  rw [hx] at h1
  cases h1
  exact h2
theorem wk_list (hl : vs.length = ds.length) : Walk (Itl K a) ds.length (fun H => SqL K H a vs ∧ DpAll K H vs ds) (YD K ds) := by
  have w := walk_list (K := K) (a := a) (xs := vs)
  rw [hl] at w
  refine w.mono (fun H h => h.1) fun i H x H' hi h y => ?_
  obtain ⟨e, hx⟩ := y
  subst e
  refine ⟨.rfl, fun d hd => ?_⟩
  obtain ⟨v, h1, h2⟩ := dpa_get h.2 hd
  rw [hx] at h1
  cases h1
  exact h2
def pairD (ds es : List PyData) : List PyData := (ds.zip es).map fun p => .tuple [p.1, p.2]
def enumD (n : Nat) : List PyData → List PyData
  | [] => []
  | d :: ds => .tuple [.int (n : Int), d] :: enumD (n + 1) ds
theorem enumD_length : ∀ (n : Nat) (ds : List PyData), (enumD n ds).length = ds.length
  | _, [] => rfl
  | n, d :: ds => by rw [enumD, List.length_cons, List.length_cons, enumD_length]
theorem enumD_get : ∀ (n : Nat) (ds : List PyData) (i : Nat), (enumD n ds)[i]? = ds[i]?.map fun d => .tuple [.int ((n + i : Nat) : Int), d]
  | n, [], i => by simp [enumD]
  | n, d :: ds, 0 => by simp [enumD]
  | n, d :: ds, i + 1 => by
    simp only [enumD, List.getElem?_cons_succ]
    rw [enumD_get (n + 1) ds i]
    have : n + 1 + i = n + (i + 1) := by omega
    rw [this]
theorem pairD_get (ds es : List PyData) (i : Nat) {p : PyData} (h : (pairD ds es)[i]? = some p) : ∃ d e, ds[i]? = some d ∧ es[i]? = some e ∧ p = .tuple [d, e] := by
  unfold pairD at h
  rw [List.getElem?_map] at h
  cases hz : (ds.zip es)[i]? with
  | none => rw [hz] at h; cases h
  | some q =>
    rw [hz] at h
    obtain ⟨d, e⟩ := q
    obtain ⟨h1, h2⟩ := List.getElem?_zip_eq_some.mp hz
    exact ⟨d, e, h1, h2, (Option.some.inj h).symm⟩
theorem yd_pair {xs ys : Nat → Option V} {ps : List PyData} {f g : Nat → Option PyData} (hp : ∀ i p, ps[i]? = some p → ∃ d e, f i = some d ∧ g i = some e ∧ p = .tuple [d, e]) {i : Nat} {H H' : Hp} {x : V} (y : YPair xs ys i H x H')
    (h1 : ∀ d v, f i = some d → xs i = some v → Dp K H v d) (h2 : ∀ d v, g i = some d → ys i = some v → Dp K H v d) : YD K ps i H x H' := by
  obtain ⟨T, v, u, rfl, nT, rfl, e1, e2⟩ := y
  have ex : Ex H (upd H T (.tup [v, u])) := Evl.Ex.new nT
  refine ⟨ex, fun p hp' => ?_⟩
  obtain ⟨d, e, f1, g1, rfl⟩ := hp i p hp'
  exact .tup (SqT.of upd_same) (.cons ((h1 d v f1 e1).up ex) (.cons ((h2 e u g1 e2).up ex) .nil))
end
section
variable {X : Cx} {E : XK} {H0 : Hp} {δ : DSl} {e c it tg : Expr} {d : PyData} {pos p : Pos} {ds es ys : List PyData}
theorem dwk_tup (h : DE X H0 δ it (.tuple ds)) (hn : noLs ds = true) : DWk X H0 δ tg it ds := by
  refine ⟨_, pi_tup pe_w, fun σ H S R q => ?_⟩
  refine h σ H S _ fun v H1 e1 h1 => ?_
  obtain ⟨pp, vs, rfl, h3, h4⟩ := dp_tup h1
  exact ⟨pp, rfl, ⟨vs, h3⟩, q _ H1 _ e1 (wk_tup (dpa_len h4)) ⟨h3, h4⟩ fun H' _ tx => ⟨rd_seqT tx h3, dpa_tx tx _ _ hn h4⟩⟩
theorem dwc_list (h : DE X H0 δ it (.list ds)) : DWc X H0 δ tg it ds := by
  refine ⟨_, pi_list pe_w, fun σ H S R q => ?_⟩
  refine h σ H S _ fun v H1 e1 h1 => ?_
  obtain ⟨pp, vs, rfl, h3, h4⟩ := dp_lst h1
  exact ⟨pp, rfl, ⟨vs, h3⟩, q _ H1 _ e1 (wk_list (dpa_len h4)) ⟨h3, h4⟩ fun H' ex => ⟨Evl.ex_l ex h3, h4.up ex⟩⟩
theorem dwc_tup (h : DE X H0 δ it (.tuple ds)) : DWc X H0 δ tg it ds := by
  refine ⟨_, pi_tup pe_w, fun σ H S R q => ?_⟩
  refine h σ H S _ fun v H1 e1 h1 => ?_
  obtain ⟨pp, vs, rfl, h3, h4⟩ := dp_tup h1
  exact ⟨pp, rfl, ⟨vs, h3⟩, q _ H1 _ e1 (wk_tup (dpa_len h4)) ⟨h3, h4⟩ fun H' ex => ⟨Evl.ex_t ex h3, h4.up ex⟩⟩
/-- a list that the entry knew, by its name -/
theorem dwk_name {i : Nat} {z : Str} (hN : X.N[i]? = some z) (hv : Vis X.env.scope z) (h : δ[i]? = some (some (.im (.list ds)))) (hd : (z == ("__debug__" : Str)) = false := by decide) (hcd : (z == ("__classdict__" : Str)) = false := by decide) : DWk X H0 δ tg (.Name z p) ds := by
  refine ⟨_, pi_list (pe_var hN hv hd hcd), fun σ H S R q => ?_⟩
  obtain ⟨v, h1, h2⟩ := S.at_ i _ h
  have h2 : Dp X.K H0 v (.list ds) := by
    rcases h2 with h2 | ⟨h2, _⟩
    · exact h2
    · simp [noL] at h2
  obtain ⟨pp, vs, rfl, h3, h4⟩ := dp_lst h2
  exact ⟨_, h1, pp, rfl, ⟨vs, Evl.ex_l S.ex h3⟩, q _ H _ .rfl (wk_list (dpa_len h4)) ⟨Evl.ex_l S.ex h3, h4.up S.ex⟩ fun H' e0 _ => ⟨Evl.ex_l e0 h3, h4.up e0⟩⟩
theorem dwk_zip {e2 : Expr} {tpos : Pos} {elts : List Expr} {kk : Nat} (hg : Gl X "zip") (hm : X.mg "zip" = none) (ha : DA X H0 δ [e, e2] [.tuple ds, .tuple es]) (hn : noLs ds = true) (hn2 : noLs es = true)
    (he : starEach [e, e2] X.env = (false, eval e X.env) :: starEach [e2] X.env := by rfl) (hpl : (backTo pos (starEach [e2] X.env)).any (·.1) = false := by rfl) : DWk X H0 δ (.Tuple elts kk tpos) (.Call (.Name "zip" p) [e, e2] [] pos) (pairD ds es) := by
  refine ⟨_, RZ.pi_zipA hg hm pa_w he hpl, fun σ H S R q => ?_⟩
  refine ha σ H S _ fun vs H1 e1 h1 => ?_
  obtain ⟨v, u, rfl, k1, k2⟩ := dpa2 h1
  obtain ⟨pa, xs, rfl, a3, a4⟩ := dp_tup k1
  obtain ⟨pb, ws, rfl, b3, b4⟩ := dp_tup k2
  refine ⟨pa, pb, xs, ws, rfl, .inr ⟨a3, b3, q _ H1 (fun H => (SqT X.K H pa xs ∧ SqT X.K H pb ws) ∧ DpAll X.K H xs ds ∧ DpAll X.K H ws es) e1 ?_ ⟨⟨a3, b3⟩, a4, b4⟩ fun H' _ tx => ⟨⟨rd_seqT tx a3, rd_seqT tx b3⟩, dpa_tx tx _ _ hn a4, dpa_tx tx _ _ hn2 b4⟩⟩⟩
  have la := dpa_len a4
  have lb := dpa_len b4
  have ln : (pairD ds es).length = min xs.length ws.length := by unfold pairD; rw [List.length_map, List.length_zip, la, lb]
  refine ⟨fun i H hi g => ?_, fun H g => ?_, fun i H v H' hi g y => ?_⟩
  · rw [ln] at hi
    have h1 : i < xs.length := by omega
    have h2 : i < ws.length := by omega
    exact ⟨xs, ws, xs[i], ws[i], g.1.1, g.1.2, by simp [h1], by simp [h2]⟩
  · exact ⟨xs, ws, g.1.1, g.1.2, by rw [ln]; omega⟩
  · obtain ⟨T, x, z, h1, h2, h3, h4, h5⟩ := y
    refine yd_pair (xs := fun i => xs[i]?) (ys := fun i => ws[i]?) (f := fun i => ds[i]?) (g := fun i => es[i]?) (fun i p hp => pairD_get ds es i hp) ⟨T, x, z, h1, h2, h3, h4 xs g.1.1, h5 ws g.1.2⟩ (fun d v hd hv => ?_) fun d v hd hv => ?_
    · obtain ⟨w', q1, q2⟩ := dpa_get g.2.1 hd
      have hv : xs[i]? = some v := hv
      rw [hv] at q1; cases q1; exact q2
    · obtain ⟨w', q1, q2⟩ := dpa_get g.2.2 hd
      have hv : ws[i]? = some v := hv
      rw [hv] at q1; cases q1; exact q2
theorem dwk_range1 {n : Int} (hg : Gl X "range") (hm : X.mg "range" = none) (ha : DA X H0 δ [e] [.int n]) (h0 : 0 ≤ n) (h1 : n < 2 ^ 40) (hs : starEach [e] X.env = [(false, eval e X.env)] := by rfl) : DWk X H0 δ tg (.Call (.Name "range" p) [e] [] pos) ((List.range n.toNat).map fun i : Nat => .int (i : Int)) := by
  refine ⟨_, pi_range1 hg hm pa_w hs, fun σ H S R q => ?_⟩
  refine ha σ H S _ fun vs H1 e1 k1 => ?_
  obtain ⟨v, rfl, k2⟩ := dpa1 k1
  cases k2
  have hb : n < 2 ^ 62 := Int.lt_trans h1 (by decide)
  refine ⟨n, rfl, by omega, hb, q _ H1 (fun _ => True) e1 ?_ trivial fun _ _ _ => trivial⟩
  rw [List.length_map, List.length_range]
  refine walk_range.mono (fun _ _ => trivial) fun i H x H' hi _ y => ?_
  obtain ⟨rfl, rfl⟩ := y
  refine ⟨.rfl, fun d hd => ?_⟩
  rw [List.getElem?_map, List.getElem?_range hi] at hd
  cases hd
  show Dp X.K H' (V.int (0 + (i : Int))) (PyData.int (i : Int))
  rw [Int.zero_add]
  exact .int _
theorem dwk_range2 {e2 : Expr} {lo n : Int} (hg : Gl X "range") (hm : X.mg "range" = none) (ha : DA X H0 δ [e, e2] [.int lo, .int n]) (h0 : 0 ≤ lo) (h1 : lo < 2 ^ 40) (h2 : 0 ≤ n) (h3 : n < 2 ^ 40) (hs : starEach [e, e2] X.env = [(false, eval e X.env), (false, eval e2 X.env)] := by rfl) (hs2 : starEach [e2] X.env = [(false, eval e2 X.env)] := by rfl) :
    DWk X H0 δ tg (.Call (.Name "range" p) [e, e2] [] pos) ((List.range (n - lo).toNat).map fun i : Nat => .int (lo + (i : Int))) := by
  refine ⟨_, pi_range2 hg hm pa_w hs hs2, fun σ H S R q => ?_⟩
  refine ha σ H S _ fun vs H1 e1 k1 => ?_
  obtain ⟨v, u, rfl, k2, k3⟩ := dpa2 k1
  cases k2
  cases k3
  have hb1 : lo < 2 ^ 62 := Int.lt_trans h1 (by decide)
  have hb2 : n < 2 ^ 62 := Int.lt_trans h3 (by decide)
  refine ⟨lo, n, rfl, ⟨by omega, hb1, by omega, hb2⟩, q _ H1 (fun _ => True) e1 ?_ trivial fun _ _ _ => trivial⟩
  rw [List.length_map, List.length_range]
  refine walk_range.mono (fun _ _ => trivial) fun i H x H' hi _ y => ?_
  obtain ⟨rfl, rfl⟩ := y
  refine ⟨.rfl, fun d hd => ?_⟩
  rw [List.getElem?_map, List.getElem?_range hi] at hd
  cases hd
  exact .int _
/-! ### comprehensions -/
def wipeD (δ : DSl) : List Nat → DSl
  | [] => δ
  | v :: vs => (wipeD δ vs).set v none
theorem Sl.wipe {K : PySem.W.Frag} {H0 H : Hp} {σ : L2.St} {δ : DSl} (S : Sl K H0 H σ δ) : ∀ vs : List Nat, Sl K H0 H (L2.wipe σ vs) (wipeD δ vs)
  | [] => S
  | v :: vs => (S.wipe vs).wipe1 v none
theorem wipe_get (σ : L2.St) : ∀ (vs : List Nat) (i : Nat), (L2.wipe σ vs)[i]? = if i ∈ vs ∧ i < σ.length then some none else σ[i]?
  | [], i => by simp [L2.wipe]
  | v :: vs, i => by
    have ih := wipe_get σ vs i
    show ((L2.wipe σ vs).set v none)[i]? = _
    rw [List.getElem?_set, L2.wipe_length, ih]
    by_cases h1 : v = i
    · subst h1
      by_cases h2 : v < σ.length <;> simp [h2]
    · have h1' : ¬ i = v := fun z => h1 z.symm
      simp [h1, h1']
theorem wipe_wipe (σ : L2.St) (vs : List Nat) : L2.wipe (L2.wipe σ vs) vs = L2.wipe σ vs := by
  apply List.ext_getElem?
  intro i
  rw [wipe_get, wipe_get, L2.wipe_length]
  split <;> simp_all
theorem wipe_set {σ : L2.St} {vs : List Nat} {i : Nat} {o : Option V} (h : i ∈ vs) : L2.wipe (σ.set i o) vs = L2.wipe σ vs := by
  apply List.ext_getElem?
  intro j
  rw [wipe_get, wipe_get, List.length_set, List.getElem?_set]
  by_cases h1 : i = j
  · subst h1
    by_cases h2 : i < σ.length
    · simp [h, h2]
    · simp [h2]
  · simp [h1]
/-- .. and what it changes lies in these slots -/
def GBc (K : PySem.W.Frag) (H0 : Hp) (vs : List Nat) (g : TG) (d : PyData) (δ δ' : DSl) : Prop := ∀ σ H v (Q : L2.St → Hp → Prop), Sl K H0 H σ δ → Dp K H v d → (∀ σ', Sl K H0 H σ' δ' → L2.wipe σ' vs = L2.wipe σ vs → Q σ' H) → g v σ H Q
theorem gc_name {K : PySem.W.Frag} {H0 : Hp} {i : Nat} {d : PyData} {δ : DSl} {vs : List Nat} (hn : noL d = true) (hi : i ∈ vs) : GBc K H0 vs (gName i) d δ (δ.set i (some (.im d))) := fun σ H v Q S h q => q _ (S.setIm (.inr ⟨hn, h⟩)) (wipe_set hi)
theorem gc_tup2 {K : PySem.W.Frag} {H0 : Hp} {g1 g2 : TG} {d1 d2 : PyData} {δ δ1 δ2 : DSl} {vs : List Nat} (h1 : GBc K H0 vs g1 d1 δ δ1) (h2 : GBc K H0 vs g2 d2 δ1 δ2) : GBc K H0 vs (gTup K 2 (gCons g1 (gCons g2 gNil))) (.tuple [d1, d2]) δ δ2 := fun σ H v Q S h q => by
  obtain ⟨p, us, rfl, h3, h4⟩ := dp_tup h
  obtain ⟨v1, v2, rfl, k1, k2⟩ := dpa2 h4
  exact ⟨p, _, rfl, h3, rfl, v1, [v2], rfl, h1 σ H v1 _ S k1 fun σ' S' w1 => ⟨v2, [], rfl, h2 σ' H v2 _ S' k2 fun σ2 S2 w2 => ⟨rfl, q σ2 S2 (w2.trans w1)⟩⟩⟩
theorem gc_tup3 {K : PySem.W.Frag} {H0 : Hp} {g1 g2 g3 : TG} {d1 d2 d3 : PyData} {δ δ1 δ2 δ3 : DSl} {vs : List Nat} (h1 : GBc K H0 vs g1 d1 δ δ1) (h2 : GBc K H0 vs g2 d2 δ1 δ2) (h3' : GBc K H0 vs g3 d3 δ2 δ3) : GBc K H0 vs (gTup K 3 (gCons g1 (gCons g2 (gCons g3 gNil)))) (.tuple [d1, d2, d3]) δ δ3 := fun σ H v Q S h q => by
  obtain ⟨p, us, rfl, h3, h4⟩ := dp_tup h
  cases h4 with
  | cons k1 h5 =>
    obtain ⟨v2, v3, rfl, k2, k3⟩ := dpa2 h5
    exact ⟨p, _, rfl, h3, rfl, _, [v2, v3], rfl, h1 σ H _ _ S k1 fun σ' S' w1 => ⟨v2, [v3], rfl, h2 σ' H v2 _ S' k2 fun σ2 S2 w2 => ⟨v3, [], rfl, h3' σ2 H v3 _ S2 k3 fun σ3 S3 w3 => ⟨rfl, q σ3 S3 ((w3.trans w2).trans w1)⟩⟩⟩⟩
/-- the reading of a comprehension of data -/
abbrev blkE (X : Cx) (scope : Scope) (elt : Expr) : TE := fun σ H Q => ∀ (s : Shared) (H' : Hp) (C : Addr) (cl : List (Str × Addr)) (fp : List Addr), WE (X.blk s H' scope (compEnvC scope cl C X.env) fp) elt σ H Q
theorem lc_read {elt : Expr} {scope : Scope} {vs : List Nat} {g : TG} {fs : List PyData} {wi : TI} {σ : L2.St} {H : Hp} {Q : VK} (S : Sl X.K H0 H σ δ)
    (hw : ∀ R : It → Hp → Prop, (∀ J H2 (G : Hp → Prop), Ex H H2 → Walk J ys.length G (YD X.K ys) → G H2 → (∀ H', Ex H2 H' → G H') → R J H2) → wi σ H R) (hl : fs.length = ys.length) (hz : ys.length ≤ 1000) (hn : noLs fs = true)
    (ht : ∀ (i : Nat) (y f : PyData), ys[i]? = some y → fs[i]? = some f → ∃ δ2, GBc X.K H0 vs g y (wipeD δ vs) δ2 ∧ ∀ (s : Shared) (H : Hp) (C : Addr) (cl : List (Str × Addr)) (fp : List Addr), DE (X.blk s H scope (compEnvC scope cl C X.env) fp) H0 δ2 elt f)
    (q : ∀ p H' us, H p = none → Ex H H' → H' p = some (.lst us) → DpAll X.K H' us fs → Q (.ref p) H') : tLc wi g tYes (blkE X scope elt) vs σ H Q := by
  refine hw _ fun J H2 G e2 w g2 st => fun D hD => ?_
  refine lc_it w (Pv := fun i H' => H2 D = none ∧ Ex H2 H' ∧ ∃ us, H' D = some (.lst us) ∧ DpAll X.K H' us (fs.take i)) ⟨hD, Evl.Ex.new hD, [], upd_same, by simp; exact .nil⟩ (fun i H' _ p => st H' p.2.1) (fun i x H3 H4 hi p y => ?_) (fun H' p => ?_)
  · obtain ⟨p1, p2, us, p3, p4⟩ := p
    obtain ⟨y1, y2⟩ := y
    have hy : ys[i]? = some ys[i] := by simp [hi]
    have hf : fs[i]? = some (fs[i]'(by omega)) := by simp [hl, hi]
    obtain ⟨δ2, gb, hde⟩ := ht i _ _ hy hf
    have S4 : Sl X.K H0 H4 (L2.wipe σ vs) (wipeD δ vs) := Sl.wipe (S.up ((e2.trans p2).trans y1)) vs
    refine gb _ _ x _ S4 (y2 _ hy) fun σ2 S2 hww => ⟨hww.trans (wipe_wipe σ vs), ?_⟩
    unfold L2.tYes
    dsimp only
    rw [if_pos rfl]
    intro s' H' C cl fp
    refine hde s' H' C cl fp σ2 H4 S2 _ fun v H5 e5 d5 => ?_
    have e45 : Ex H3 H5 := y1.trans e5
    refine ⟨us, e45 _ _ p3, ?_, p1, ?_, us ++ [v], upd_same, ?_⟩
    · rw [dpa_len p4, List.length_take]
      exact Evl.sz_lt (by omega)
    · exact Evl.Ex.mut (p2.trans e45) p1
    · have ta : fs.take (i + 1) = fs.take i ++ [fs[i]'(by omega)] := by
        rw [List.take_add_one, hf]
        rfl
      rw [ta]
      have hn2 : noLs (fs.take i ++ [fs[i]'(by omega)]) = true := by
        rw [← ta, noLs_all]
        intro d hd
        exact noLs_all.mp hn d (List.mem_of_mem_take hd)
      exact dpa_tx (Tx.write (e45 _ _ p3)) _ _ hn2 (dpa_app (p4.up e45) (.cons d5 .nil))
  · obtain ⟨p1, p2, us, p3, p4⟩ := p
    rw [← hl, List.take_length] at p4
    exact q D H' us (Evl.fresh_back e2 p1) (e2.trans p2) p3 p4
theorem dl_lc {elt : Expr} {scope : Scope} {own : List (Str × Nat)} {g : TG} {fs : List PyData} (hc : X.calm = true) (hN : X.N.Nodup) (hw : DWc X H0 δ tg it ys) (ok : BlkOk X.N X.env.scope scope own)
    (hg : ∀ (s : Shared) (H : Hp) (C : Addr) (cl : List (Str × Addr)) (fp : List Addr), PG (X.blk s H scope (compEnvC scope cl C X.env) fp) tg g) (hl : fs.length = ys.length) (hz : ys.length ≤ 1000) (hn : noLs fs = true)
    (ht : ∀ (i : Nat) (y f : PyData), ys[i]? = some y → fs[i]? = some f → ∃ δ2, GBc X.K H0 (own.map (·.2)) g y (wipeD δ (own.map (·.2))) δ2 ∧ ∀ (s : Shared) (H : Hp) (C : Addr) (cl : List (Str × Addr)) (fp : List Addr), DE (X.blk s H scope (compEnvC scope cl C X.env) fp) H0 δ2 elt f)
    (hs : ∀ x, foldedSetIterable it X.env x = pure x := by intro _; rfl) : DL X H0 δ (.ListComp elt [⟨tg, it, [], 0⟩] scope pos) fs := fun σ H S Q q => by
  obtain ⟨wi, hi, hw⟩ := hw
  exact we_of (pe_lc (te := blkE X scope elt) hc hN hi ok hg (fun _ _ _ _ _ => pts_nil) (fun s H C cl fp => ⟨fun pins s1 σ1 H1 Q1 I h => (h s H C cl fp).run pins s1 I⟩) hs) (lc_read S (hw σ H S) hl hz hn ht q)
end
end RS
set_option Elab.async false
set_option linter.all false
set_option maxRecDepth 100000
set_option maxHeartbeats 4000000
/-! part D: statements; a def's contract -/
namespace RS
open PySem PySem.Spec PyProof.Rows L2
def Nw (K : PySem.W.Frag) (H H' : Hp) (v : V) : Sd → Prop
  | .im d => noL d = true ∧ Dp K H' v d
  | .ow ds => ∃ p vs, v = .ref p ∧ H p = none ∧ H' p = some (.lst vs) ∧ DpAll K H' vs ds ∧ noLs ds = true
  | .rf p => v = .ref p
def DV (X : Cx) (H0 : Hp) (δ : DSl) (e : Expr) : Sd → Prop
  | .im d => DE X H0 δ e d ∧ noL d = true
  | .ow ds => DL X H0 δ e ds ∧ noLs ds = true
  | .rf _ => False
theorem Sl.put {K : PySem.W.Frag} {H0 H H' : Hp} {σ : L2.St} {δ : DSl} {v : V} {s : Sd} {i : Nat} (S : Sl K H0 H σ δ) (e : Ex H H') (n : Nw K H H' v s) : Sl K H0 H' (σ.set i (some v)) (δ.set i (some s)) := by
  cases s with
  | im d => exact (S.up e).setIm (.inr n)
  | ow ds =>
    obtain ⟨p, vs, rfl, h1, h2, h3, h4⟩ := n
    refine (S.up e).setOw (Evl.fresh_back S.ex h1) h2 h3 h4 fun j es hj he hw => ?_
    obtain ⟨v, e1, q, us, rfl, _, e3, _⟩ := S.at_ j _ he
    rw [hw] at e1
    cases e1
    rw [h1] at e3
    cases e3
  | rf p => exact (S.up e).setNo (z := .rf p) n (fun _ z => by cases z)
section
variable {X : Cx} {E : XK} {H0 : Hp} {δ : DSl} {e c it tg : Expr} {d : PyData} {pos p : Pos} {ds es ys : List PyData} {s : Sd} {rest t f : List Stmt} {nx : DSl → Prop} {rs : Res → Prop} {z : Str} {i : Nat}
theorem DV.run (h : DV X H0 δ e s) {σ : L2.St} {H : Hp} (S : Sl X.K H0 H σ δ) {Q : VK} (q : ∀ v H', Ex H H' → Nw X.K H H' v s → Q v H') : WE X e σ H Q := by
  cases s with
  | im d => exact h.1 σ H S Q fun v H' e1 h1 => q v H' e1 ⟨h.2, h1⟩
  | ow ds => exact h.1 σ H S Q fun p H' vs n1 e1 h1 h2 => q _ H' e1 ⟨p, vs, rfl, n1, h1, h2, h.2⟩
  | rf _ => exact h.elim
theorem db_nil (h : nx δ) : DB X E H0 δ [] nx rs := fun σ H D S kn kr => wb_of pss_nil (kn δ σ H h S (Tx.refl H))
theorem db_ret (h : DE X H0 δ e d) (hr : rs (.ok d)) : DB X E H0 δ (.Return (some e) pos :: rest) nx rs := fun σ H D S kn kr =>
  wb_of (pss_cons (ps_ret pe_w) pb_w) (h σ H S _ fun v H1 e1 h1 => kr _ hr v H1 (S.ex.trans e1) h1)
theorem db_retL (h : DL X H0 δ e ds) (hr : rs (.new ds)) : DB X E H0 δ (.Return (some e) pos :: rest) nx rs := fun σ H D S kn kr =>
  wb_of (pss_cons (ps_ret pe_w) pb_w) (h σ H S _ fun p H1 vs n1 e1 h1 h2 => kr _ hr p H1 vs (Evl.fresh_back S.ex n1) (S.ex.trans e1) h1 h2)
theorem db_retX {C : Addr} {fl : Str} (h : DX X E H0 δ e C fl d) (hr : rs (.err C fl d)) : DB X E H0 δ (.Return (some e) pos :: rest) nx rs := fun σ H D S kn kr =>
  wb_of (pss_cons (ps_ret pe_w) pb_w) (h σ H S (fun dd v H' n1 e1 h1 h2 => kr _ hr dd v H' (Evl.fresh_back S.ex n1) (S.ex.trans e1) h1 h2) _)
/-- a list of one's own is handed back -/
theorem db_retOw (hN : X.N[i]? = some z) (hv : Vis X.env.scope z) (h : δ[i]? = some (some (.ow ds))) (hr : rs (.new ds)) (hd : (z == ("__debug__" : Str)) = false := by decide) (hcd : (z == ("__classdict__" : Str)) = false := by decide) : DB X E H0 δ (.Return (some (.Name z p)) pos :: rest) nx rs := fun σ H D S kn kr => by
  obtain ⟨v, h1, q, vs, rfl, h2, h3, h4, _⟩ := S.at_ i _ h
  exact wb_of (pss_cons (ps_ret (pe_var hN hv hd hcd)) pb_w) ⟨_, h1, kr _ hr q H vs h2 S.ex h3 h4⟩
theorem db_set (hN : X.N.Nodup) (hi : X.N[i]? = some z) (hx : Loc X.env.scope z) (h : DV X H0 δ e s) (k : DB X E H0 (δ.set i (some s)) rest nx rs) (hs : swapsWith e (some (.Name z p)) pos.line X.env = pure false := by rfl)
    (hf : X.fn z = true ∨ X.env.scope.names.lookup z = some .local := by first | exact .inl rfl | exact .inr rfl) : DB X E H0 δ (.Assign [.Name z p] e pos :: rest) nx rs := fun σ H D S kn kr =>
  wb_of (pss_cons (ps_set hN hi hx pe_w hs hf) pb_w) (h.run S fun v H1 e1 n1 => k _ H1 D (S.put e1 n1) (fun δ' σ' H' a b tx => kn δ' σ' H' a b ((Tx.of e1).trans tx)) kr)
theorem db_setLc {spos : Pos} {elt : Expr} {scope : Scope} {own : List (Str × Nat)} {g : TG} {fs : List PyData} (hc : X.calm = true) (hN : X.N.Nodup) (hy : X.N[i]? = some z) (hyl : X.env.scope.names.lookup z = some .local)
    (hw : DWc X H0 δ tg it ys) (ok : BlkOk X.N X.env.scope scope own)
    (hg : ∀ (s : Shared) (H : Hp) (C : Addr) (cl : List (Str × Addr)) (fp : List Addr), PG (X.blk s H scope (compEnvC scope cl C X.env) fp) tg g) (hl : fs.length = ys.length) (hz : ys.length ≤ 1000) (hn : noLs fs = true)
    (ht : ∀ (i : Nat) (y f : PyData), ys[i]? = some y → fs[i]? = some f → ∃ δ2, GBc X.K H0 (own.map (·.2)) g y (wipeD δ (own.map (·.2))) δ2 ∧ ∀ (s : Shared) (H : Hp) (C : Addr) (cl : List (Str × Addr)) (fp : List Addr), DE (X.blk s H scope (compEnvC scope cl C X.env) fp) H0 δ2 elt f)
    (k : DB X E H0 (δ.set i (some (.ow fs))) rest nx rs) (hs : ∀ x, foldedSetIterable it X.env x = pure x := by intro _; rfl) (hsw2 : swapsWith (.ListComp elt [⟨tg, it, [], 0⟩] scope p) (some (.Name z pos)) spos.line X.env = pure true := by rfl) :
    DB X E H0 δ (.Assign [.Name z pos] (.ListComp elt [⟨tg, it, [], 0⟩] scope p) spos :: rest) nx rs := fun σ H D S kn kr => by
  obtain ⟨wi, hi, hw⟩ := hw
  refine wb_of (pss_cons (ps_setLc (te := blkE X scope elt) hc hN hy hyl hsw2 hi ok hg (fun _ _ _ _ _ => pts_nil) (fun s H C cl fp => ⟨fun pins s1 σ1 H1 Q1 I h => (h s H C cl fp).run pins s1 I⟩) hs) pb_w) ?_
  show tLc wi g tYes (blkE X scope elt) (own.map (·.2)) σ H (fun x H1 => WB X rest D (σ.set i (some x)) H1)
  refine lc_read S (hw σ H S) hl hz hn ht fun q H1 us n1 e1 h1 h2 => ?_
  exact k _ H1 D (S.put e1 (s := .ow fs) ⟨q, us, rfl, n1, h1, h2, hn⟩) (fun δ' σ' H' a b tx => kn δ' σ' H' a b ((Tx.of e1).trans tx)) kr
theorem da2_read {a b : Expr} {s1 s2 : Sd} (h1 : DV X H0 δ a s1) (h2 : DV X H0 δ b s2) {σ : L2.St} {H : Hp} (S : Sl X.K H0 H σ δ) {Q : List V → Hp → Prop} (q : ∀ v w H1 H2, Ex H H1 → Ex H1 H2 → Nw X.K H H1 v s1 → Nw X.K H1 H2 w s2 → Q [v, w] H2) :
    tCons (WE X a) (tCons (WE X b) tNil) σ H Q := h1.run S fun v H1 e1 n1 => h2.run (S.up e1) fun w H2 e2 n2 => q v w H1 H2 e1 e2 n1 n2
theorem db_par {a b : Expr} {s1 s2 : Sd} {x y : Str} {j : Nat} {px py pt : Pos} {kt k2 pt2} (hc : X.calm = true) (hN : X.N.Nodup) (hi : X.N[i]? = some x) (hj : X.N[j]? = some y) (hij : i ≠ j)
    (hx : X.env.scope.names.lookup x = some .local) (hy : X.env.scope.names.lookup y = some .local) (h1 : DV X H0 δ a s1) (h2 : DV X H0 δ b s2) (k : DB X E H0 ((δ.set i (some s1)).set j (some s2)) rest nx rs)
    (hw : swappedStores [.Tuple [.Name x px, .Name y py] kt pt] (.Tuple [a, b] k2 pt2) X.env = pure (some [x, y]) := by rfl)
    (hs : swapsWithSole [.Tuple [.Name x px, .Name y py] kt pt] (.Tuple [a, b] k2 pt2) pos.line X.env = pure false := by rfl)
    (he : starEach [a, b] X.env = (false, eval a X.env) :: starEach [b] X.env := by rfl) (he2 : starEach [b] X.env = (false, eval b X.env) :: starEach [] X.env := by rfl) :
    DB X E H0 δ (.Assign [.Tuple [.Name x px, .Name y py] kt pt] (.Tuple [a, b] k2 pt2) pos :: rest) nx rs := fun σ H D S kn kr => by
  refine wb_of (pss_cons (ps_par hc hN hi hj hij hx hy (pa_cons pe_w (pa_cons pe_w pa_nil he2) he) hw hs) pb_w) ?_
  show tCons (WE X a) (tCons (WE X b) tNil) σ H (fun vs H1 => ∃ v w, vs = [v, w] ∧ WB X rest D ((σ.set i (some v)).set j (some w)) H1)
  exact da2_read h1 h2 S fun v w H1 H2 e1 e2 n1 n2 => ⟨v, w, rfl, k _ H2 D ((S.put e1 n1).put e2 n2) (fun δ' σ' H' a b tx => kn δ' σ' H' a b ((Tx.of (e1.trans e2)).trans tx)) kr⟩
theorem db_par3 {a b c : Expr} {s1 s2 s3 : Sd} {x y w : Str} {j l : Nat} {px py pw pt : Pos} {kt k2 pt2} (hc : X.calm = true) (hN : X.N.Nodup) (hi : X.N[i]? = some x) (hj : X.N[j]? = some y) (hl : X.N[l]? = some w) (hij : i ≠ j) (hil : i ≠ l) (hjl : j ≠ l)
    (hx : X.env.scope.names.lookup x = some .local) (hy : X.env.scope.names.lookup y = some .local) (hw' : X.env.scope.names.lookup w = some .local) (h1 : DV X H0 δ a s1) (h2 : DV X H0 δ b s2) (h3 : DV X H0 δ c s3) (k : DB X E H0 (((δ.set i (some s1)).set j (some s2)).set l (some s3)) rest nx rs)
    (hw : swappedStores [.Tuple [.Name x px, .Name y py, .Name w pw] kt pt] (.Tuple [a, b, c] k2 pt2) X.env = pure (some [x, y, w]) := by rfl)
    (hs : swapsWithSole [.Tuple [.Name x px, .Name y py, .Name w pw] kt pt] (.Tuple [a, b, c] k2 pt2) pos.line X.env = pure false := by rfl)
    (he : starEach [a, b, c] X.env = (false, eval a X.env) :: starEach [b, c] X.env := by rfl) (he2 : starEach [b, c] X.env = (false, eval b X.env) :: starEach [c] X.env := by rfl) (he3 : starEach [c] X.env = (false, eval c X.env) :: starEach [] X.env := by rfl) :
    DB X E H0 δ (.Assign [.Tuple [.Name x px, .Name y py, .Name w pw] kt pt] (.Tuple [a, b, c] k2 pt2) pos :: rest) nx rs := fun σ H D S kn kr =>
  wb_of (pss_cons (ps_par3 hc hN hi hj hl hij hil hjl hx hy hw' (pa_cons pe_w (pa_cons pe_w (pa_cons pe_w pa_nil he3) he2) he) hw hs) pb_w) (h1.run S fun v H1 e1 n1 => h2.run (S.up e1) fun u H2 e2 n2 => h3.run (S.up (e1.trans e2)) fun r H3 e3 n3 =>
    ⟨v, u, r, rfl, k _ H3 D (((S.put e1 n1).put e2 n2).put e3 n3) (fun δ' σ' H' a b tx => kn δ' σ' H' a b ((Tx.of ((e1.trans e2).trans e3)).trans tx)) kr⟩)
/-- a, b = e1, e2 where a name is a cell: the pair is made and taken apart -/
theorem db_parT {a b : Expr} {s1 s2 : Sd} {x y : Str} {j : Nat} {px py pt : Pos} {kt k2 pt2} (hc : X.calm = true) (hN : X.N.Nodup) (hi : X.N[i]? = some x) (hj : X.N[j]? = some y) (hij : i ≠ j) (hx : Loc X.env.scope x) (hy : Loc X.env.scope y) (h1 : DV X H0 δ a s1) (h2 : DV X H0 δ b s2)
    (k : DB X E H0 ((δ.set i (some s1)).set j (some s2)) rest nx rs)
    (hfx : X.fn x = true ∨ X.env.scope.names.lookup x = some .local := by first | exact .inl rfl | exact .inr rfl) (hfy : X.fn y = true ∨ X.env.scope.names.lookup y = some .local := by first | exact .inl rfl | exact .inr rfl)
    (hs : swapsWithSole [.Tuple [.Name x px, .Name y py] kt pt] (.Tuple [a, b] k2 pt2) pos.line X.env = pure false := by rfl) (hw : swappedStores [.Tuple [.Name x px, .Name y py] kt pt] (.Tuple [a, b] k2 pt2) X.env = pure none := by rfl)
    (he : starEach [a, b] X.env = (false, eval a X.env) :: starEach [b] X.env := by rfl) (he2 : starEach [b] X.env = (false, eval b X.env) :: starEach [] X.env := by rfl) :
    DB X E H0 δ (.Assign [.Tuple [.Name x px, .Name y py] kt pt] (.Tuple [a, b] k2 pt2) pos :: rest) nx rs := fun σ H D S kn kr => by
  refine wb_of (pss_cons (ps_asg (pe_tup (pa_cons pe_w (pa_cons pe_w pa_nil he2) he)) (pg_tup (n := 2) hc (pgs_cons (pg_name hN hi hx hfx) (pgs_cons (pg_name hN hj hy hfy) pgs_nil))) hs hw) pb_w) ?_
  show tCons (WE X a) (tCons (WE X b) tNil) σ H (fun xs H1 => xs.length ≤ sizeLine ∧ ∀ q, H1 q = none → gTup X.K 2 (gCons (gName i) (gCons (gName j) gNil)) (.ref q) σ (upd H1 q (.tup xs)) (fun σ' H' => WB X rest D σ' H'))
  refine da2_read h1 h2 S fun v w H1 H2 e1 e2 n1 n2 => ⟨Evl.sz_of (by show 2 ≤ 100000; decide), fun q hq => ?_⟩
  have e3 : Ex H2 (upd H2 q (.tup [v, w])) := Evl.Ex.new hq
  refine ⟨q, [v, w], rfl, SqT.of upd_same, rfl, v, [w], rfl, w, [], rfl, rfl, ?_⟩
  exact k _ _ D (((S.put e1 n1).put e2 n2).up e3) (fun δ' σ' H' a b tx => kn δ' σ' H' a b ((Tx.of ((e1.trans e2).trans e3)).trans tx)) kr
/-- a target takes data apart -/
theorem db_asg {g : TG} {δ2 : DSl} (h : DE X H0 δ e d) (hg : PG X tg g) (gb : GB X.K H0 g d δ δ2) (k : DB X E H0 δ2 rest nx rs) (hs : swapsWithSole [tg] e pos.line X.env = pure false := by rfl) (hw : swappedStores [tg] e X.env = pure none := by rfl)
    (h1 : (assignEach [tg] X.env).map (·.2) = [assign tg X.env] := by rfl) : DB X E H0 δ (.Assign [tg] e pos :: rest) nx rs := fun σ H D S kn kr =>
  wb_of (pss_cons (ps_asg pe_w hg hs hw h1) pb_w) (h σ H S _ fun v H1 e1 d1 => gb σ H1 v _ (S.up e1) d1 fun σ' S' => k σ' H1 D S' (fun δ' σ' H' a b tx => kn δ' σ' H' a b ((Tx.of e1).trans tx)) kr)
theorem db_if {b : Bool} (h : DT X H0 δ c b) (mid : DSl → Prop) (h1 : b = true → DB X E H0 δ t mid rs) (h2 : b = false → DB X E H0 δ f mid rs) (k : ∀ δ', mid δ' → DB X E H0 δ' rest nx rs) : DB X E H0 δ (.If c t f pos :: rest) nx rs := fun σ H D S kn kr => by
  refine wb_of (pss_cons (ps_if pt_w pb_w pb_w) pb_w) (h σ H S _ fun H1 e1 => ?_)
  cases b with
  | true =>
    show WB X t { D with nx := WB X rest D } σ H1
    exact h1 rfl σ H1 { D with nx := WB X rest D } (S.up e1) (fun δ' σ' H' m S' tx => k δ' m σ' H' D S' (fun δ2 σ2 H2 a b tx2 => kn δ2 σ2 H2 a b (((Tx.of e1).trans tx).trans tx2)) kr) kr
  | false =>
    show WB X f { D with nx := WB X rest D } σ H1
    exact h2 rfl σ H1 { D with nx := WB X rest D } (S.up e1) (fun δ' σ' H' m S' tx => k δ' m σ' H' D S' (fun δ2 σ2 H2 a b tx2 => kn δ2 σ2 H2 a b (((Tx.of e1).trans tx).trans tx2)) kr) kr
theorem db_ifT (h : DT X H0 δ c true) (h1 : DB X E H0 δ t (fun _ => False) rs) : DB X E H0 δ (.If c t f pos :: rest) nx rs := db_if h (fun _ => False) (fun _ => h1) (fun z => Bool.noConfusion z) (fun _ z => z.elim)
theorem db_ifF (h : DT X H0 δ c false) (k : DB X E H0 δ rest nx rs) : DB X E H0 δ (.If c t [] pos :: rest) nx rs := db_if h (fun δ' => δ' = δ) (fun z => Bool.noConfusion z) (fun _ => db_nil rfl) (fun _ z => by rw [z]; exact k)
theorem db_ifEl (h : DT X H0 δ c false) (h1 : DB X E H0 δ f (fun _ => False) rs) : DB X E H0 δ (.If c t f pos :: rest) nx rs := db_if h (fun _ => False) (fun z => Bool.noConfusion z) (fun _ => h1) (fun _ z => z.elim)
/-- a test in whose left side an error is -/
theorem db_ifX {op : CmpOp} {a b : Expr} {rr : R2} {C : Addr} {fl : Str} (ho : OpR X (compareOp op) rr) (h : DX X E H0 δ a C fl d) (hr : rs (.err C fl d)) (hm : behindInMarks op b = false) : DB X E H0 δ (.If (.Compare a [op] [b] p) t f pos :: rest) nx rs := fun σ H D S kn kr =>
  wb_of (pss_cons (ps_if (pt_cmpR ho pe_w (pe_w (e := b)) hm) pb_w pb_w) pb_w) (h σ H S (fun dd v H' n1 e1 h1 h2 => kr _ hr dd v H' (Evl.fresh_back S.ex n1) (S.ex.trans e1) h1 h2) _)
theorem db_expr (h : DE X H0 δ e d) (k : DB X E H0 δ rest nx rs) (hs : swapsWith e none pos.line X.env = pure false := by rfl) : DB X E H0 δ (.Expr e pos :: rest) nx rs := fun σ H D S kn kr =>
  wb_of (pss_cons (ps_expr pe_w hs) pb_w) (h σ H S _ fun v H1 e1 _ => k σ H1 D (S.up e1) (fun δ' σ' H' a b tx => kn δ' σ' H' a b ((Tx.of e1).trans tx)) kr)
theorem db_exprX {C : Addr} {fl : Str} (h : DX X E H0 δ e C fl d) (hr : rs (.err C fl d)) (hs : swapsWith e none pos.line X.env = pure false := by rfl) : DB X E H0 δ (.Expr e pos :: rest) nx rs := fun σ H D S kn kr =>
  wb_of (pss_cons (ps_expr pe_w hs) pb_w) (h σ H S (fun dd v H' n1 e1 h1 h2 => kr _ hr dd v H' (Evl.fresh_back S.ex n1) (S.ex.trans e1) h1 h2) _)
/-- x.append(e), x a list of one's own -/
theorem db_app {q1 q2 : Pos} (hN : X.N[i]? = some z) (hv : Vis X.env.scope z) (hi : δ[i]? = some (some (.ow ds))) (h : DE X H0 δ e d) (hn : noL d = true) (hz : ds.length ≤ 1000) (k : DB X E H0 (δ.set i (some (.ow (ds ++ [d])))) rest nx rs)
    (hp : ∀ {to : TE} {t : TA}, PE X (.Name z q1) to → PA X [e] t → PE X (.Call (.Attribute (.Name z q1) "append" q2) [e] [] p) (tBM X.K "list" rAppend to t)) (he : starEach [e] X.env = (false, eval e X.env) :: starEach [] X.env := by rfl)
    (hs : swapsWith (.Call (.Attribute (.Name z q1) "append" q2) [e] [] p) none pos.line X.env = pure false := by rfl) (hd : (z == ("__debug__" : Str)) = false := by decide) (hcd : (z == ("__classdict__" : Str)) = false := by decide) :
    DB X E H0 δ (.Expr (.Call (.Attribute (.Name z q1) "append" q2) [e] [] p) pos :: rest) nx rs := fun σ H D S kn kr => by
  obtain ⟨v, h1, q, vs, rfl, h2, h3, h4, h5⟩ := S.at_ i _ hi
  refine wb_of (pss_cons (ps_expr (hp (pe_var hN hv hd hcd) (pa_cons pe_w pa_nil he)) hs) pb_w) ⟨_, h1, .inl ⟨rfl, _, SqL.of h3⟩, h σ H S _ fun w H1 e1 d1 => ?_⟩
  refine ⟨q, vs, w, rfl, rfl, e1 _ _ h3, by rw [dpa_len h4]; exact Evl.sz_lt (by omega), ?_⟩
  have S1 := S.up e1
  refine k σ _ D (S1.write hi h1 h2 ⟨vs, e1 _ _ h3⟩ (dpa_app (h4.up e1) (.cons d1 .nil)) (by rw [noLs_append, h5]; simp [noLs, hn])) (fun δ' σ' H' a b tx => kn δ' σ' H' a b (((Tx.of e1).trans (Tx.write (e1 _ _ h3))).trans tx)) kr
/-- x[j] = e, x a list of one's own -/
theorem db_put {ix : Expr} {q1 q2 : Pos} {n : Int} {j : Nat} (hN : X.N[i]? = some z) (hv : Vis X.env.scope z) (hi : δ[i]? = some (some (.ow ds))) (h : DE X H0 δ e d) (hn : noL d = true) (hx : DE X H0 δ ix (.int n)) (hj : ixN ds.length n = some j)
    (k : DB X E H0 (δ.set i (some (.ow (ds.set j d)))) rest nx rs)
    (ha : ∀ v, assign (.Subscript (.Name z q1) ix q2) X.env v = (do
      let ov ← holding [v] (eval (.Name z q1) X.env)
      let iv ← holding [v, ov] (eval ix X.env)
      standAt q2
      holding [v, ov, iv] (setItem ov iv v)
      release [v, ov, iv] []) := by intro _; rfl)
    (hs : swapsWithSole [.Subscript (.Name z q1) ix q2] e pos.line X.env = pure false := by rfl) (hw : swappedStores [.Subscript (.Name z q1) ix q2] e X.env = pure none := by rfl)
    (h1 : (assignEach [.Subscript (.Name z q1) ix q2] X.env).map (·.2) = [assign (.Subscript (.Name z q1) ix q2) X.env] := by rfl) (hd : (z == ("__debug__" : Str)) = false := by decide) (hcd : (z == ("__classdict__" : Str)) = false := by decide) :
    DB X E H0 δ (.Assign [.Subscript (.Name z q1) ix q2] e pos :: rest) nx rs := fun σ H D S kn kr => by
  obtain ⟨v, g1, q, vs, rfl, h2, h3, h4, h5⟩ := S.at_ i _ hi
  refine wb_of (pss_cons (ps_asg pe_w (pg_sub (pe_var hN hv hd hcd) pe_w set_list ha) hs hw h1) pb_w) (h σ H S _ fun w H1 e1 d1 => ⟨_, g1, hx σ H1 (S.up e1) _ fun u H2 e2 d2 => ?_⟩)
  cases d2
  have e12 : Ex H H2 := e1.trans e2
  refine ⟨q, vs, n, j, rfl, rfl, e12 _ _ h3, by rw [dpa_len h4]; exact hj, ?_⟩
  refine k σ _ D ((S.up e12).write hi g1 h2 ⟨vs, e12 _ _ h3⟩ (dpa_set (d1.up e2) j (h4.up e12)) ?_) (fun δ' σ' H' a b tx => kn δ' σ' H' a b (((Tx.of e12).trans (Tx.write (e12 _ _ h3))).trans tx)) kr
  rw [noLs_all]
  intro y hy
  rcases List.mem_or_eq_of_mem_set hy with hy | hy
  · exact noLs_all.mp h5 y hy
  · rw [hy]; exact hn
theorem db_for {g : TG} (hp : PassesOwn (model X.prog X.w) X.A X.env X.xe) (hc : X.calm = true) (hw : DWk X H0 δ tg it ys) (hg : PG X tg g) (Iv : Nat → DSl → Prop) (h0 : Iv 0 δ)
    (hs : ∀ (i : Nat) (y : PyData) (δ1 : DSl), ys[i]? = some y → Iv i δ1 → ∃ δ2, GB X.K H0 g y δ1 δ2 ∧ DB X E H0 δ2 t (Iv (i + 1)) rs) (hd : ∀ δ1, Iv ys.length δ1 → DB X E H0 δ1 rest nx rs) (hsf : ∀ x, foldedSetIterable it X.env x = pure x := by intro _; rfl) :
    DB X E H0 δ (.For tg it t [] pos :: rest) nx rs := fun σ H D S kn kr => by
  obtain ⟨wi, hi, hw⟩ := hw
  refine wb_of (pss_cons (ps_for hp hc hi hg pb_w hsf) pb_w) ?_
  refine hw σ H S _ fun J H2 G e2 w g2 st => ?_
  refine for_it w (Pv := fun i σ' H' => ∃ δ1, Iv i δ1 ∧ Sl X.K H0 H' σ' δ1 ∧ Tx H2 H') ⟨δ, h0, S.up e2, Tx.refl _⟩ (fun i σ' H' _ ⟨δ1, _, S1, tx⟩ => st H' S1.ex tx) (fun i x σ' H' H'' hi p y => ?_) (fun σ' H' ⟨δ1, iv, S1, tx⟩ => ?_)
  · obtain ⟨δ1, iv, S1, tx⟩ := p
    obtain ⟨y1, y2⟩ := y
    have hy : ys[i]? = some ys[i] := by simp [hi]
    obtain ⟨δ2, gb, hb⟩ := hs i _ δ1 hy iv
    refine gb σ' H'' x _ (S1.up y1) (y2 _ hy) fun σ2 S2 => ?_
    exact hb σ2 H'' _ S2 (fun δ' σ3 H3 a b tx2 => ⟨δ', a, b, (tx.trans (Tx.of y1)).trans tx2⟩) kr
  · exact hd δ1 iv σ' H' D S1 (fun δ' σ2 H3 a b tx2 => kn δ' σ2 H3 a b (((Tx.of e2).trans tx).trans tx2)) kr
theorem db_while (hp : PassesOwn (model X.prog X.w) X.A X.env X.xe) (W : Nat → DSl → Prop) (m0 : Nat) (h0 : W m0 δ)
    (hs : ∀ m δ1, W m δ1 → ∃ b, DT X H0 δ1 c b ∧ (b = true → DB X E H0 δ1 t (fun δ2 => ∃ m', m' < m ∧ W m' δ2) rs) ∧ (b = false → DB X E H0 δ1 rest nx rs)) : DB X E H0 δ (.While c t [] pos :: rest) nx rs := fun σ H D S kn kr => by
  refine wb_of (pss_cons (ps_while hp pt_w pb_w) pb_w) ?_
  refine ⟨fun m σ' H' => ∃ δ1, W m δ1 ∧ Sl X.K H0 H' σ' δ1 ∧ Tx H H', ⟨m0, δ, h0, S, Tx.refl _⟩, fun m σ' H' ⟨δ1, w1, S1, tx⟩ => ?_⟩
  obtain ⟨b, ht, h1, h2⟩ := hs m δ1 w1
  refine ht σ' H' S1 _ fun H1 e1 => ?_
  cases b with
  | true =>
    refine L2.iteT ⟨fun σ2 H2 => ∃ m', m' < m ∧ ∃ δ1, W m' δ1 ∧ Sl X.K H0 H2 σ2 δ1 ∧ Tx H H2, fun _ _ h => h, ?_⟩
    exact h1 rfl σ' H1 _ (S1.up e1) (fun δ' σ3 H3 ⟨m', hm, w'⟩ b tx2 => ⟨m', hm, δ', w', b, (tx.trans (Tx.of e1)).trans tx2⟩) kr
  | false =>
    refine L2.iteF ?_
    exact h2 rfl σ' H1 D (S1.up e1) (fun δ' σ2 H3 a b tx2 => kn δ' σ2 H3 a b ((tx.trans (Tx.of e1)).trans tx2)) kr
end
/-! ### a def's contract -/
def startD (N : List Str) (ds : List PyData) : DSl := ds.map (fun d => some (.im d)) ++ List.replicate (N.length - ds.length) none
section
variable {P : Program} {w : World} {K : PySem.W.Frag} {mg : Str → Option Value} {base : Heap}
/-- what the top has written of a def -/
structure Hd (K : PySem.W.Frag) (mg : Str → Option Value) (x : Str) (st : Stmt) (ps : List Str) : Prop where
  ex : ∃ f fd, L2.Fun K x x st f fd ∧ mg x = some (.ref f) ∧ L2.Binds K fd ps []
abbrev fnX (P : Program) (w : World) (K : PySem.W.Frag) (mg : Str → Option Value) (base : Heap) (N : List Str) (x : Str) (st : Stmt) (f : Addr) (cdv : Value) (A : Around) (outer : List Env) (s : Shared) (H : Hp) (E : XK) : Cx :=
  cxOf (L2.CX P w) P w K mg base N x (defScope st) f cdv A outer s H E
theorem sl_start {N : List Str} {H : Hp} {vs : List V} {ds : List PyData} (h : DpAll K H vs ds) : Sl K H H (L2.start N vs) (startD N ds) := by
  have hl := dpa_len h
  refine ⟨.rfl, ?_, fun i s e => ?_, fun i j v es es' hij e1 e2 => ?_⟩
  · unfold L2.start startD
    rw [List.length_append, List.length_append, List.length_map, List.length_map, List.length_replicate, List.length_replicate, hl]
  · unfold startD at e
    by_cases hi : i < ds.length
    · rw [List.getElem?_append_left (by rw [List.length_map]; exact hi), List.getElem?_map, List.getElem?_eq_getElem hi] at e
      cases e
      obtain ⟨v, h1, h2⟩ := dpa_get h (List.getElem?_eq_getElem hi)
      refine ⟨v, ?_, .inl h2⟩
      unfold L2.start
      rw [List.getElem?_append_left (by rw [List.length_map, hl]; exact hi), List.getElem?_map, h1]
      rfl
    · rw [List.getElem?_append_right (by rw [List.length_map]; omega), List.getElem?_replicate] at e
      split at e <;> cases e
  · unfold startD at e1
    by_cases hi : i < ds.length
    · rw [List.getElem?_append_left (by rw [List.length_map]; exact hi), List.getElem?_map, List.getElem?_eq_getElem hi] at e1
      cases e1
    · rw [List.getElem?_append_right (by rw [List.length_map]; omega), List.getElem?_replicate] at e1
      split at e1 <;> cases e1
theorem Hd.cn {x : Str} {st : Stmt} {ps N : List Str} {k : Nat} {FR : List PyData → Res → Prop} (h : Hd K mg x st ps) (S : FnScope N ps (defScope st)) (hlen : ∀ ds r, FR ds r → ds.length = ps.length)
    (hbody : ∀ (f : Addr) (cdv : Value) (A : Around) (outer : List Env) (s : Shared) (H : Hp) (E : XK) (ds : List PyData) (r : Res), FR ds r → Room k (A.deeper (envOfC x (defScope st) s.heap.objs.size f cdv)) →
      DB (fnX P w K mg base N x st f cdv A outer s H E) E H (startD N ds) (defBody st) (fun _ => r = .ok .none) (fun r' => r' = r)) : Cn P w K mg base x (k + 1) FR := by
  obtain ⟨f, fd, F, hm, hb⟩ := h.ex
  refine ⟨f, fd, ps, F.okX S (fun vs H Q E q => ?_) (fun cdv A outer s H vs Q E hr q => ?_), hm, F.kp, hb⟩
  · obtain ⟨ds, r, h1, h2, _⟩ := q
    rw [dpa_len h1]
    exact hlen ds r h2
  · obtain ⟨ds, r, h1, h2, h3⟩ := q
    refine ⟨_, pb_w, hbody f cdv A outer s H E ds r h2 hr (L2.start N vs) H _ (sl_start h1) (fun δ' σ' H' n S' _ => ?_) (fun r' e => by rw [e]; exact h3)⟩
    have n : r = .ok .none := n
    rw [n] at h3
    exact h3 .non H' S'.ex .non
theorem fn_pass {N : List Str} {x : Str} {st : Stmt} {f : Addr} {cdv : Value} {A : Around} {outer : List Env} {s : Shared} {H : Hp} {E : XK} : L2.Passes (L2.CX P w) (fnX P w K mg base N x st f cdv A outer s H E) E :=
  passes_call (takes_of rfl rfl rfl rfl) fun _ _ _ _ h => h
theorem fn_own {N : List Str} {x : Str} {st : Stmt} {f : Addr} {cdv : Value} {A : Around} {outer : List Env} {s : Shared} {H : Hp} {E : XK} : PassesOwn (model P w) (fnX P w K mg base N x st f cdv A outer s H E).A (fnX P w K mg base N x st f cdv A outer s H E).env (fnX P w K mg base N x st f cdv A outer s H E).xe :=
  passes_of rfl
end
end RS
set_option Elab.async false
set_option linter.all false
set_option maxRecDepth 100000
set_option maxHeartbeats 4000000
/-! part E: the program's errors -/
namespace RS
open PySem PySem.Spec PyProof.Rows L2
/-- __init__ of an error: the thing is kept by the field f -/
def spI (K : PySem.W.Frag) (f : Str) : Sp := fun vs H Q _ => ∃ (a C : Addr) (v : V), vs = [.ref a, v] ∧ OexC K C ∧ PySem.W.findIn K (.ref C) f = some none ∧ H a = some (exo a C none) ∧
  ∀ dx, H dx = none → dx ≠ a → Q .non (upd (upd H dx (exd dx [(f, v)])) a (exo a C (some dx)))
/-- an error's class -/
structure Er (P : Program) (w : World) (K : PySem.W.Frag) (mg : Str → Option Value) (base : Heap) (z : Str) (C : Addr) (f : Str) : Prop where
  oex : OexC K C
  ini : ∃ fI fd, PySem.W.findIn K (.ref C) "__init__" = some (some (.ref fI)) ∧ PySem.W.typeIn K (.ref fI) = some (.type "function") ∧ FnOk P w K mg base (L2.CX P w) 1 fI fd ["self", f] (spI K f) ∧ L2.Binds K fd ["self", f] []
  gC : mg z = some (.ref C)
  xf : XfC K C
  no : PySem.W.findIn K (.ref C) f = some none
section
variable {P : Program} {w : World} {K : PySem.W.Frag} {mg : Str → Option Value} {base : Heap}
theorem init_read {f : Str} {vs : List V} {H : Hp} {Q : VK} {E : XK} (h : spI K f vs H Q E) : tOst K f (tVar 0) (tVar 1) { nx := fun _ H' => Q .non H', rt := Q } (L2.start ["self", f] vs) H := by
  obtain ⟨a, C, v, rfl, h1, h2, h3, q⟩ := h
  exact ⟨v, rfl, .ref a, rfl, a, C, rfl, h1, h2, .inl ⟨h3, q⟩⟩
/-- the six __init__ -/
theorem ok_init {q : Str} {st : Stmt} {fI : Addr} {fd : FuncData} {f : Str} (F : L2.Fun K "__init__" q st fI fd) (S : FnScope ["self", f] ["self", f] (defScope st))
    (hb : ∀ (cdv : Value) (A : Around) (outer : List Env) (s : Shared) (H : Hp) (E : XK), PSs (cxOf (L2.CX P w) P w K mg base ["self", f] q (defScope st) fI cdv A outer s H E) (defBody st) (tOst K f (tVar 0) (tVar 1))) : FnOk P w K mg base (L2.CX P w) 1 fI fd ["self", f] (spI K f) :=
  F.okX S (fun vs H Q E h => by obtain ⟨a, C, v, rfl, _⟩ := h; rfl) fun cdv A outer s H vs Q E hr h => ⟨_, hb cdv A outer s H E, init_read h⟩
end
section
variable {X : Cx} {E : XK} {H0 : Hp} {δ : DSl} {e : Expr} {d : PyData} {pos p p2 : Pos} {rest : List Stmt} {nx : DSl → Prop} {rs : Res → Prop}
theorem db_raise {z : Str} {C : Addr} {f : Str} {j : Nat} (er : Er X.prog X.w X.K X.mg X.base z C f) (hc : X.calm = true) (tk : Takes X (fun cls d _ H => E cls d H)) (hr : Room j X.A) (hj : 2 ≤ j) (hg : Gl X z) (h : DE X H0 δ e d) (hrs : rs (.err C f d)) (hdb : (z == ("__debug__" : Str)) = false := by decide)
    (he : starEach [e] X.env = (false, eval e X.env) :: starEach [] X.env := by rfl) (hpl : (backTo p2 (starEach [] X.env)).any (·.1) = false := by rfl) : DB X E H0 δ (.Raise (some (.Call (.Name z p) [e] [] p2)) none pos :: rest) nx rs := fun σ H D S kn kr => by
  obtain ⟨fI, fd, i1, i2, i3, i4⟩ := er.ini
  refine wb_of (pss_cons (ps_raise hc tk (pmk_oex er.oex i1 i2 i3 (hr.mono hj) i4 .nil passL hg er.gC (pa_cons pe_w pa_nil he) hdb he hpl)) pb_w) ?_
  refine h σ H S _ fun v H1 e1 d1 => ⟨by simp, fun a ha => ?_⟩
  refine ⟨a, C, v, rfl, er.oex, er.no, upd_same, fun dx n1 n2 => ⟨rfl, dx, [(f, v)], upd_same, ?_, ?_, ?_⟩⟩
  · rw [upd_ne n2, upd_same]
  · rw [upd_ne n2] at n1
    exact n1
  · rw [upd_ne n2] at n1
    have ex : Ex H1 (upd (del (upd (upd (upd H1 a (exo a C none)) dx (exd dx [(f, v)])) a (exo a C (some dx))) a) dx (.xd [(f, v)])) := fun b o hb => by
      have b1 : b ≠ a := ne_of_none hb ha
      have b2 : b ≠ dx := ne_of_none hb n1
      rw [upd_ne b2, del_ne b1, upd_ne b1, upd_ne b2, upd_ne b1]
      exact hb
    exact kr _ hrs dx v _ (Evl.fresh_back (S.ex.trans e1) n1) ((S.ex.trans e1).trans ex) upd_same (d1.up ex)
end
section
variable {P : Program} {w : World} {K : PySem.W.Frag} {mg : Str → Option Value} {base : Heap}
theorem fn_takes {N : List Str} {x : Str} {st : Stmt} {f : Addr} {cdv : Value} {A : Around} {outer : List Env} {s : Shared} {H : Hp} {E : XK} : Takes (fnX P w K mg base N x st f cdv A outer s H E) (fun cls d _ H => E cls d H) := takes_of rfl rfl rfl rfl
end
end RS
set_option linter.all false
/-! the mathematics of fractions: plain Lean -/
namespace RM
abbrev Fr := Int × Int
/-- the fraction that t divided by b, from 1 on, is worth -/
def mkF (t b : Int) : Fr := (t / (Int.gcd t b : Int), b / (Int.gcd t b : Int))
theorem gcd_pos {t b : Int} (h : 0 < b) : 0 < (Int.gcd t b : Int) := by
  have : 0 < Int.gcd t b := Int.gcd_pos_of_ne_zero_right _ (by omega)
  omega
def Q2 (q : Rat) : Fr := (q.num, (q.den : Int))
theorem den_pos (q : Rat) : 0 < (q.den : Int) := by have := q.den_pos; omega
theorem mkF_rat {t b : Int} (h : 0 < b) : mkF t b = Q2 (Rat.divInt t b) := by
  unfold mkF Q2
  rw [Rat.num_divInt, Rat.den_divInt, if_neg (by omega), Int.gcd_comm b t, Int.sign_eq_one_of_pos h, Int.one_mul]
  congr 1
  have e : (b.natAbs : Int) = b := by omega
  rw [Int.natCast_ediv, e]
theorem add_q (p q : Rat) : mkF (p.num * q.den + q.num * p.den) ((p.den : Int) * q.den) = Q2 (p + q) := by
  rw [mkF_rat (Int.mul_pos (den_pos p) (den_pos q)), ← Rat.divInt_add_divInt _ _ (by have := den_pos p; omega) (by have := den_pos q; omega), Rat.num_divInt_den, Rat.num_divInt_den]
theorem sub_q (p q : Rat) : mkF (p.num * q.den - q.num * p.den) ((p.den : Int) * q.den) = Q2 (p - q) := by
  rw [mkF_rat (Int.mul_pos (den_pos p) (den_pos q)), ← Rat.divInt_sub_divInt _ _ (by have := den_pos p; omega) (by have := den_pos q; omega), Rat.num_divInt_den, Rat.num_divInt_den]
theorem mul_q (p q : Rat) : mkF (p.num * q.num) ((p.den : Int) * q.den) = Q2 (p * q) := by
  rw [mkF_rat (Int.mul_pos (den_pos p) (den_pos q)), ← Rat.divInt_mul_divInt, Rat.num_divInt_den, Rat.num_divInt_den]
theorem num_pos' {q : Rat} (h : 0 < q) : 0 < q.num := by
  have h1 := Rat.num_nonneg.mpr (Rat.le_of_lt h)
  have h2 : q.num ≠ 0 := fun z => by
    rw [Rat.num_eq_zero] at z
    rw [z] at h
    exact absurd h (by decide)
  omega
theorem div_q (p q : Rat) (h : 0 < q) : mkF (p.num * q.den) ((p.den : Int) * q.num) = Q2 (p / q) := by
  have hq := num_pos' h
  rw [mkF_rat (Int.mul_pos (den_pos p) hq), ← Rat.divInt_mul_divInt, Rat.num_divInt_den, Rat.div_def]
  congr 2
  rw [← Rat.inv_divInt, Rat.num_divInt_den]
theorem whole_q (n : Int) : Q2 (n : Rat) = (n, 1) := by
  unfold Q2
  rw [Rat.num_intCast, Rat.den_intCast]
  rfl
theorem mk_q {t b : Int} (h : 0 < b) : mkF t b = Q2 ((t : Rat) / (b : Rat)) := by
  have h2 : (0 : Rat) < (b : Rat) := by exact_mod_cast h
  have e := div_q (t : Rat) (b : Rat) h2
  rw [Rat.num_intCast, Rat.den_intCast, Rat.num_intCast, Rat.den_intCast] at e
  rw [← e]
  simp
/-- q times D is an integer, not above B -/
def Bd (D B : Nat) (q : Rat) : Prop := ∃ X : Int, q * (D : Rat) = (X : Rat) ∧ X.natAbs ≤ B
theorem Bd.add {D B C : Nat} {p q : Rat} (h : Bd D B p) (k : Bd D C q) : Bd D (B + C) (p + q) := by
  obtain ⟨X, h1, h2⟩ := h
  obtain ⟨Y, k1, k2⟩ := k
  exact ⟨X + Y, by rw [Rat.add_mul, h1, k1, Rat.intCast_add], by omega⟩
theorem Bd.sub {D B C : Nat} {p q : Rat} (h : Bd D B p) (k : Bd D C q) : Bd D (B + C) (p - q) := by
  obtain ⟨X, h1, h2⟩ := h
  obtain ⟨Y, k1, k2⟩ := k
  exact ⟨X - Y, by rw [Rat.sub_eq_add_neg, Rat.add_mul, Rat.neg_mul, h1, k1, ← Rat.sub_eq_add_neg, Rat.intCast_sub], by omega⟩
theorem Bd.mul {D D' B C : Nat} {p q : Rat} (h : Bd D B p) (k : Bd D' C q) : Bd (D * D') (B * C) (p * q) := by
  obtain ⟨X, h1, h2⟩ := h
  obtain ⟨Y, k1, k2⟩ := k
  refine ⟨X * Y, ?_, ?_⟩
  · rw [Rat.intCast_mul, ← h1, ← k1, Rat.natCast_mul]
    grind
  · rw [Int.natAbs_mul]
    exact Nat.mul_le_mul h2 k2
theorem Bd.mono {D B C : Nat} {q : Rat} (h : Bd D B q) (hb : B ≤ C) : Bd D C q := let ⟨X, h1, h2⟩ := h; ⟨X, h1, Nat.le_trans h2 hb⟩
theorem Bd.scale {D B : Nat} {q : Rat} (h : Bd D B q) (k : Nat) : Bd (D * k) (B * k) q := by
  obtain ⟨X, h1, h2⟩ := h
  refine ⟨X * k, ?_, ?_⟩
  · rw [Rat.intCast_mul, ← h1, Rat.natCast_mul, ← Rat.mul_assoc]
    rfl
  · rw [Int.natAbs_mul]
    exact Nat.mul_le_mul h2 (by simp)
theorem Bd.size {D B : Nat} {q : Rat} (h : Bd D B q) (hD : 0 < D) : q.num.natAbs ≤ B ∧ q.den ≤ D := by
  obtain ⟨X, h1, h2⟩ := h
  have hD' : (D : Rat) ≠ 0 := by
    intro z
    have : (D : Int) = 0 := by exact_mod_cast z
    omega
  have e : q = Rat.divInt X (D : Int) := by
    rw [Rat.divInt_eq_div, ← h1]
    have : ((D : Int) : Rat) = (D : Rat) := rfl
    rw [this]
    grind
  rw [e, Rat.num_divInt, Rat.den_divInt, if_neg (by omega)]
  have hs : ((D : Int)).sign = 1 := Int.sign_eq_one_of_pos (by omega)
  rw [hs, Int.one_mul]
  constructor
  · have : (X / ((Int.gcd (D : Int) X : Nat) : Int)).natAbs ≤ X.natAbs := by
      have hd : ((Int.gcd (D : Int) X : Nat) : Int) ∣ X := Int.gcd_dvd_right ..
      rw [Int.natAbs_ediv_of_dvd hd]
      exact Nat.div_le_self _ _
    omega
  · exact Nat.div_le_self _ _
end RM
set_option Elab.async false
set_option linter.all false
set_option maxRecDepth 100000
set_option maxHeartbeats 4000000
/-! part P1: the program's fractions -/
namespace RS
open PySem PySem.Spec PyProof.Rows L2 RM
def topS (i : Nat) : Stmt := PySem.Challenge.pw_rungshare_k29_whole_walk_weights_and_ref.main.body.getD i (.Pass ⟨0, 0, 0, 0⟩)
/-! data of fractions -/
def FI (n d : Int) : PyData := .tuple [.int n, .int d]
def FQ (q : Rat) : PyData := FI q.num (q.den : Int)
theorem noL_FI {n d : Int} : noL (FI n d) = true := by simp [FI, noL, noLs]
theorem noL_FQ {q : Rat} : noL (FQ q) = true := noL_FI
theorem shp_int {i : Int} : SeqAt.shaped (.int i) = true := by simp [SeqAt.shaped, PyData.canLay0, PyData.depth]
theorem shp_FI {n d : Int} : SeqAt.shaped (FI n d) = true := by simp [FI, SeqAt.shaped, PyData.canLay0, PyData.canLayAll0, PyData.depth, PyData.depthAll]
theorem shp_FQ {q : Rat} : SeqAt.shaped (FQ q) = true := shp_FI
theorem eqv_int {a b : Int} : PyData.eqv (.int a) (.int b) = (a == b) := by simp [PyData.eqv]
theorem eqv_FI {a b c d : Int} : PyData.eqv (FI a b) (FI c d) = ((a == c) && (b == d)) := by simp [FI, PyData.eqv, PyData.eqvAll]
theorem eqv_FQ {p q : Rat} : PyData.eqv (FQ p) (FQ q) = decide (p = q) := by
  unfold FQ
  rw [eqv_FI]
  by_cases h : p = q
  · subst h; simp
  · rw [decide_eq_false h]
    by_cases h1 : p.num = q.num
    · by_cases h2 : p.den = q.den
      · exact absurd (Rat.ext h1 h2) h
      · have : ((p.den : Int) == (q.den : Int)) = false := beq_eq_false_iff_ne.mpr (by omega)
        rw [this, Bool.and_false]
    · have : (p.num == q.num) = false := beq_eq_false_iff_ne.mpr h1
      rw [this, Bool.false_and]
def Sz (q : Rat) : Prop := q.num.natAbs < 2 ^ 3000 ∧ q.den < 2 ^ 3000
theorem sz_bd {D B : Nat} {q : Rat} (h : Bd D B q) (hD : 0 < D) (h1 : D < 2 ^ 3000) (h2 : B < 2 ^ 3000) : Sz q := let ⟨a, b⟩ := h.size hD; ⟨Nat.lt_of_le_of_lt a h2, Nat.lt_of_le_of_lt b h1⟩
theorem den_na (q : Rat) : ((q.den : Int)).natAbs = q.den := by simp
theorem sz_mul {i j : Int} (ha : i.natAbs < 2 ^ 3000) (hb : j.natAbs < 2 ^ 3000) : CMulW i j := wide_mul (a := 3000) (b := 3000) ha hb (by decide) (by decide) (by decide)
/-! the texts -/
abbrev sIsInt : Stmt := topS 10
abbrev sCommon : Stmt := topS 11
abbrev sMade : Stmt := topS 12
abbrev sIsFr : Stmt := topS 13
abbrev sWhole : Stmt := topS 14
abbrev sAdd : Stmt := topS 15
abbrev sSub : Stmt := topS 16
abbrev sMul : Stmt := topS 17
abbrev sDiv : Stmt := topS 18
abbrev sUnder : Stmt := topS 19
abbrev sSumIn : Stmt := topS 20
theorem scIsInt : FnScope ["thing"] ["thing"] (defScope sIsInt) := ⟨rfl, rfl, rfl, by decide +kernel, rfl, by decide +kernel, by decide +kernel⟩
theorem scCommon : FnScope ["one", "other"] ["one", "other"] (defScope sCommon) := ⟨rfl, rfl, rfl, by decide +kernel, rfl, by decide +kernel, by decide +kernel⟩
theorem scMade : FnScope ["top", "bottom", "divisor"] ["top", "bottom"] (defScope sMade) := ⟨rfl, rfl, rfl, by decide +kernel, rfl, by decide +kernel, by decide +kernel⟩
theorem scIsFr : FnScope ["thing", "one"] ["thing"] (defScope sIsFr) := ⟨rfl, rfl, rfl, by decide +kernel, rfl, by decide +kernel, by decide +kernel⟩
theorem scWhole : FnScope ["number"] ["number"] (defScope sWhole) := ⟨rfl, rfl, rfl, by decide +kernel, rfl, by decide +kernel, by decide +kernel⟩
theorem scAdd : FnScope ["one", "other"] ["one", "other"] (defScope sAdd) := ⟨rfl, rfl, rfl, by decide +kernel, rfl, by decide +kernel, by decide +kernel⟩
/-! contracts -/
def isI : PyData → Bool
  | .int _ => true
  | _ => false
def frIsInt (ds : List PyData) (r : Res) : Prop := ∃ d, ds = [d] ∧ r = .ok (.bool (isI d))
def frCommon (ds : List PyData) (r : Res) : Prop := ∃ a b : Int, ds = [.int a, .int b] ∧ r = .ok (.int (Int.gcd a b))
def frMade (ds : List PyData) (r : Res) : Prop := ∃ t b : Int, ds = [.int t, .int b] ∧ 0 < b ∧ b.natAbs < 2 ^ 6000 ∧ r = .ok (FI (mkF t b).1 (mkF t b).2)
def frAdd (ds : List PyData) (r : Res) : Prop := ∃ p q : Rat, ds = [FQ p, FQ q] ∧ Sz p ∧ Sz q ∧ r = .ok (FQ (p + q))
def isB : PyData → Bool
  | .bool _ => true
  | _ => false
def isT : PyData → Bool
  | .tuple _ => true
  | _ => false
def isS : PyData → Bool
  | .str _ => true
  | _ => false
theorem kb_int : ∀ d : PyData, L2.kitB (tyN d) "int" = some (isI d || isB d)
  | .none => (by decide +kernel : L2.kitB "NoneType" "int" = some false)
  | .bool _ => (by decide +kernel : L2.kitB "bool" "int" = some true)
  | .int _ => (by decide +kernel : L2.kitB "int" "int" = some true)
  | .str _ => (by decide +kernel : L2.kitB "str" "int" = some false)
  | .list _ => (by decide +kernel : L2.kitB "list" "int" = some false)
  | .tuple _ => (by decide +kernel : L2.kitB "tuple" "int" = some false)
  | .dict _ => (by decide +kernel : L2.kitB "dict" "int" = some false)
theorem kb_bool : ∀ d : PyData, L2.kitB (tyN d) "bool" = some (isB d)
  | .none => (by decide +kernel : L2.kitB "NoneType" "bool" = some false)
  | .bool _ => (by decide +kernel : L2.kitB "bool" "bool" = some true)
  | .int _ => (by decide +kernel : L2.kitB "int" "bool" = some false)
  | .str _ => (by decide +kernel : L2.kitB "str" "bool" = some false)
  | .list _ => (by decide +kernel : L2.kitB "list" "bool" = some false)
  | .tuple _ => (by decide +kernel : L2.kitB "tuple" "bool" = some false)
  | .dict _ => (by decide +kernel : L2.kitB "dict" "bool" = some false)
theorem kb_tuple : ∀ d : PyData, L2.kitB (tyN d) "tuple" = some (isT d)
  | .none => (by decide +kernel : L2.kitB "NoneType" "tuple" = some false)
  | .bool _ => (by decide +kernel : L2.kitB "bool" "tuple" = some false)
  | .int _ => (by decide +kernel : L2.kitB "int" "tuple" = some false)
  | .str _ => (by decide +kernel : L2.kitB "str" "tuple" = some false)
  | .list _ => (by decide +kernel : L2.kitB "list" "tuple" = some false)
  | .tuple _ => (by decide +kernel : L2.kitB "tuple" "tuple" = some true)
  | .dict _ => (by decide +kernel : L2.kitB "dict" "tuple" = some false)
theorem kb_str : ∀ d : PyData, L2.kitB (tyN d) "str" = some (isS d)
  | .none => (by decide +kernel : L2.kitB "NoneType" "str" = some false)
  | .bool _ => (by decide +kernel : L2.kitB "bool" "str" = some false)
  | .int _ => (by decide +kernel : L2.kitB "int" "str" = some false)
  | .str _ => (by decide +kernel : L2.kitB "str" "str" = some true)
  | .list _ => (by decide +kernel : L2.kitB "list" "str" = some false)
  | .tuple _ => (by decide +kernel : L2.kitB "tuple" "str" = some false)
  | .dict _ => (by decide +kernel : L2.kitB "dict" "str" = some false)
section
variable {P : Program} {w : World} {K : PySem.W.Frag} {mg : Str → Option Value} {base : Heap}
theorem cn_isint (h : Hd K mg "is_integer" sIsInt ["thing"]) (mi : mg "isinstance" = none) (mint : mg "int" = none) (mb : mg "bool" = none) : Cn P w K mg base "is_integer" 1 frIsInt := by
  refine h.cn scIsInt (fun ds r ⟨d, e, _⟩ => by rw [e]; rfl) fun f cdv A outer s H E ds r ⟨d, e1, e2⟩ hr => ?_
  subst e1 e2
  refine db_ret (de_and (de_isi rfl mi rfl mint (by decide +kernel) (de_im (i := 0) rfl (.inl rfl) rfl) (kb_int d)) fun _ => de_one (de_not (de_isi rfl mi rfl mb (by decide +kernel) (de_im (i := 0) rfl (.inl rfl) rfl) (kb_bool d)))) ?_
  cases d <;> rfl
theorem cn_common (h : Hd K mg "common" sCommon ["one", "other"]) (ma : mg "abs" = none) (mi : mg "int" = none) : Cn P w K mg base "common" 1 frCommon := by
  refine h.cn scCommon (fun ds r ⟨a, b, e, _⟩ => by rw [e]; rfl) fun f cdv A outer s H E ds r ⟨a, b, e1, e2⟩ hr => ?_
  subst e1 e2
  refine db_par (i := 0) (j := 1) (s1 := .im (.int a.natAbs)) (s2 := .im (.int b.natAbs)) rfl scCommon.nd rfl rfl (by decide) rfl rfl
    ⟨de_callB call_abs rfl ma (by decide +kernel) (da_cons (de_im (i := 0) rfl (.inl rfl) rfl) da_nil) c1_abs, by simp [noL]⟩
    ⟨de_callB call_abs rfl ma (by decide +kernel) (da_cons (de_im (i := 1) rfl (.inl rfl) rfl) da_nil) c1_abs, by simp [noL]⟩ ?_
  refine db_while fn_own (fun m δ1 => ∃ x y : Nat, δ1 = [some (.im (.int x)), some (.im (.int y))] ∧ m = y ∧ Nat.gcd x y = Int.gcd a b) b.natAbs ⟨a.natAbs, b.natAbs, rfl, rfl, rfl⟩ fun m δ1 ⟨x, y, e1, e2, e3⟩ => ?_
  subst e1 e2
  refine ⟨_, dt_cmp (op_neD hr.units) (de_im (i := 1) rfl (.inl rfl) rfl) de_int (v2_ne shp_int shp_int) (nomark _), fun hb => ?_, fun hb => ?_⟩
  · have hb' : (!PyData.eqv (.int (m : Int)) (.int 0)) = true := hb
    rw [eqv_int] at hb'
    have hm : m ≠ 0 := fun z => by subst z; simp at hb'
    refine db_par (i := 0) (j := 1) (s1 := .im (.int m)) (s2 := .im (.int ((x : Int) % (m : Int)))) rfl scCommon.nd rfl rfl (by decide) rfl rfl
      ⟨de_im (i := 1) rfl (.inl rfl) rfl, by simp [noL]⟩
      ⟨de_bin op_mod (de_im (i := 0) rfl (.inl rfl) rfl) (de_callTy call_int1 rfl mi (by decide +kernel) (da_cons (de_im (i := 1) rfl (.inl rfl) rfl) da_nil) c1_int) (v2_mod (by omega)), by simp [noL]⟩ (db_nil ?_)
    refine ⟨x % m, Nat.mod_lt _ (Nat.pos_of_ne_zero hm), m, x % m, rfl, rfl, ?_⟩
    rw [← e3, Nat.gcd_comm x m, Nat.gcd_rec m x, Nat.gcd_comm]
  · have hb' : (!PyData.eqv (.int (m : Int)) (.int 0)) = false := hb
    rw [eqv_int] at hb'
    have hm : m = 0 := by simp at hb'; omega
    subst hm
    refine db_ret (de_im (i := 0) rfl (.inl rfl) rfl) ?_
    show Res.ok (.int (x : Int)) = _
    rw [← e3, Nat.gcd_zero_right]
theorem natAbs_gcd_lt {t b : Int} {n : Nat} (h : 0 < b) (hb : b.natAbs < n) : ((Int.gcd t b : Nat) : Int).natAbs < n := by
  have : Int.gcd t b ≤ b.natAbs := Nat.le_of_dvd (by omega) (Int.gcd_dvd_natAbs_right t b)
  simp
  omega
theorem cn_made (h : Hd K mg "made" sMade ["top", "bottom"]) (cc : Cn P w K mg base "common" 1 frCommon) : Cn P w K mg base "made" 2 frMade := by
  refine h.cn scMade (fun ds r ⟨t, b, e, _⟩ => by rw [e]; rfl) fun f cdv A outer s H E ds r ⟨t, b, e1, h0, h1, e2⟩ hr => ?_
  subst e1 e2
  refine db_ifF (DT.is (dt_cmp op_lt (de_im (i := 1) rfl (.inl rfl) rfl) de_int v2_lt (nomark _)) (decide_eq_false (by omega))) ?_
  refine db_set (i := 2) (s := .im (.int (Int.gcd t b))) scMade.nd rfl (.inl rfl) ⟨de_call cc hr (by decide) rfl (da_cons (de_im (i := 0) rfl (.inl rfl) rfl) (da_cons (de_im (i := 1) rfl (.inl rfl) rfl) da_nil)) ⟨t, b, rfl, rfl⟩, by simp [noL]⟩ ?_
  have hg := gcd_pos (t := t) h0
  have hd : CDivW t (Int.gcd t b : Int) := wide_div hg (natAbs_gcd_lt h0 h1) (by decide) (by decide)
  have hd2 : CDivW b (Int.gcd t b : Int) := wide_div hg (natAbs_gcd_lt h0 h1) (by decide) (by decide)
  refine db_ret (de_tup (da_cons (de_bin op_fdivW (de_im (i := 0) rfl (.inl rfl) rfl) (de_im (i := 2) rfl (.inl rfl) rfl) (v2_div hd)) (da_cons (de_bin op_fdivW (de_im (i := 1) rfl (.inl rfl) rfl) (de_im (i := 2) rfl (.inl rfl) rfl) (v2_div hd2)) da_nil)) (Nat.le_of_ble_eq_true rfl)) rfl
/-! the four rules -/
theorem cn_whole (h : Hd K mg "whole" sWhole ["number"]) : Cn P w K mg base "whole" 1 (fun ds r => ∃ i : Int, ds = [.int i] ∧ r = .ok (FI i 1)) := by
  refine h.cn scWhole (fun ds r ⟨i, e, _⟩ => by rw [e]; rfl) fun f cdv A outer s H E ds r ⟨i, e1, e2⟩ hr => ?_
  subst e1 e2
  exact db_ret (de_tup (da_cons (de_im (i := 0) rfl (.inl rfl) rfl) (da_cons de_int da_nil)) (Nat.le_of_ble_eq_true rfl)) rfl
theorem FI_mk {t b : Int} {q : Rat} (h : mkF t b = Q2 q) : FI (mkF t b).1 (mkF t b).2 = FQ q := by rw [h]; rfl
theorem na_mul {i j : Int} (ha : i.natAbs < 2 ^ 3000) (hb : j.natAbs < 2 ^ 3000) : (i * j).natAbs < 2 ^ 6000 := wide_lt ha hb
theorem cn_add (h : Hd K mg "add" sAdd ["one", "other"]) (c_made : Cn P w K mg base "made" 2 frMade) : Cn P w K mg base "add" 3 frAdd := by
  refine h.cn scAdd (fun ds r ⟨p, q, e, _⟩ => by rw [e]; rfl) fun f cdv A outer s H E ds r ⟨p, q, e1, hp, hq, e2⟩ hr => ?_
  subst e1 e2
  have h1 : ((q.den : Int)).natAbs < 2 ^ 3000 := by rw [den_na]; exact hq.2
  have h2 : ((p.den : Int)).natAbs < 2 ^ 3000 := by rw [den_na]; exact hp.2
  refine db_ret (de_call c_made hr (by decide) rfl (da_cons (de_bin op_add (de_bin op_mulW (de_ixT (de_im (i := 0) rfl (.inl rfl) rfl) de_int (atI_nat (j := 0) rfl) (fun _ _ => rfl)) (de_ixT (de_im (i := 1) rfl (.inl rfl) rfl) de_int (atI_nat (j := 1) rfl) (fun _ _ => rfl)) (v2_mul (sz_mul hp.1 h1))) (de_bin op_mulW (de_ixT (de_im (i := 1) rfl (.inl rfl) rfl) de_int (atI_nat (j := 0) rfl) (fun _ _ => rfl)) (de_ixT (de_im (i := 0) rfl (.inl rfl) rfl) de_int (atI_nat (j := 1) rfl) (fun _ _ => rfl)) (v2_mul (sz_mul hq.1 h2))) v2_add) (da_cons (de_bin op_mulW (de_ixT (de_im (i := 0) rfl (.inl rfl) rfl) de_int (atI_nat (j := 1) rfl) (fun _ _ => rfl)) (de_ixT (de_im (i := 1) rfl (.inl rfl) rfl) de_int (atI_nat (j := 1) rfl) (fun _ _ => rfl)) (v2_mul (sz_mul h2 h1))) da_nil)) ⟨_, _, rfl, Int.mul_pos (den_pos p) (den_pos q), na_mul h2 h1, rfl⟩) ?_
  rw [FI_mk (add_q p q)]
theorem cn_sub (h : Hd K mg "sub" sSub ["one", "other"]) (c_made : Cn P w K mg base "made" 2 frMade) : Cn P w K mg base "sub" 3 (fun ds r => ∃ p q : Rat, ds = [FQ p, FQ q] ∧ Sz p ∧ Sz q ∧ r = .ok (FQ (p - q))) := by
  refine h.cn (N := ["one", "other"]) ⟨rfl, rfl, rfl, by decide +kernel, rfl, by decide +kernel, by decide +kernel⟩ (fun ds r ⟨p, q, e, _⟩ => by rw [e]; rfl) fun f cdv A outer s H E ds r ⟨p, q, e1, hp, hq, e2⟩ hr => ?_
  subst e1 e2
  have h1 : ((q.den : Int)).natAbs < 2 ^ 3000 := by rw [den_na]; exact hq.2
  have h2 : ((p.den : Int)).natAbs < 2 ^ 3000 := by rw [den_na]; exact hp.2
  refine db_ret (de_call c_made hr (by decide) rfl (da_cons (de_bin op_sub (de_bin op_mulW (de_ixT (de_im (i := 0) rfl (.inl rfl) rfl) de_int (atI_nat (j := 0) rfl) (fun _ _ => rfl)) (de_ixT (de_im (i := 1) rfl (.inl rfl) rfl) de_int (atI_nat (j := 1) rfl) (fun _ _ => rfl)) (v2_mul (sz_mul hp.1 h1))) (de_bin op_mulW (de_ixT (de_im (i := 1) rfl (.inl rfl) rfl) de_int (atI_nat (j := 0) rfl) (fun _ _ => rfl)) (de_ixT (de_im (i := 0) rfl (.inl rfl) rfl) de_int (atI_nat (j := 1) rfl) (fun _ _ => rfl)) (v2_mul (sz_mul hq.1 h2))) v2_sub) (da_cons (de_bin op_mulW (de_ixT (de_im (i := 0) rfl (.inl rfl) rfl) de_int (atI_nat (j := 1) rfl) (fun _ _ => rfl)) (de_ixT (de_im (i := 1) rfl (.inl rfl) rfl) de_int (atI_nat (j := 1) rfl) (fun _ _ => rfl)) (v2_mul (sz_mul h2 h1))) da_nil)) ⟨_, _, rfl, Int.mul_pos (den_pos p) (den_pos q), na_mul h2 h1, rfl⟩) ?_
  rw [FI_mk (sub_q p q)]
theorem cn_mul (h : Hd K mg "mul" sMul ["one", "other"]) (c_made : Cn P w K mg base "made" 2 frMade) : Cn P w K mg base "mul" 3 (fun ds r => ∃ p q : Rat, ds = [FQ p, FQ q] ∧ Sz p ∧ Sz q ∧ r = .ok (FQ (p * q))) := by
  refine h.cn (N := ["one", "other"]) ⟨rfl, rfl, rfl, by decide +kernel, rfl, by decide +kernel, by decide +kernel⟩ (fun ds r ⟨p, q, e, _⟩ => by rw [e]; rfl) fun f cdv A outer s H E ds r ⟨p, q, e1, hp, hq, e2⟩ hr => ?_
  subst e1 e2
  have h1 : ((q.den : Int)).natAbs < 2 ^ 3000 := by rw [den_na]; exact hq.2
  have h2 : ((p.den : Int)).natAbs < 2 ^ 3000 := by rw [den_na]; exact hp.2
  refine db_ret (de_call c_made hr (by decide) rfl (da_cons (de_bin op_mulW (de_ixT (de_im (i := 0) rfl (.inl rfl) rfl) de_int (atI_nat (j := 0) rfl) (fun _ _ => rfl)) (de_ixT (de_im (i := 1) rfl (.inl rfl) rfl) de_int (atI_nat (j := 0) rfl) (fun _ _ => rfl)) (v2_mul (sz_mul hp.1 hq.1))) (da_cons (de_bin op_mulW (de_ixT (de_im (i := 0) rfl (.inl rfl) rfl) de_int (atI_nat (j := 1) rfl) (fun _ _ => rfl)) (de_ixT (de_im (i := 1) rfl (.inl rfl) rfl) de_int (atI_nat (j := 1) rfl) (fun _ _ => rfl)) (v2_mul (sz_mul h2 h1))) da_nil)) ⟨_, _, rfl, Int.mul_pos (den_pos p) (den_pos q), na_mul h2 h1, rfl⟩) ?_
  rw [FI_mk (mul_q p q)]
theorem cn_div (h : Hd K mg "div" sDiv ["one", "other"]) (c_made : Cn P w K mg base "made" 2 frMade) : Cn P w K mg base "div" 3 (fun ds r => ∃ p q : Rat, ds = [FQ p, FQ q] ∧ Sz p ∧ Sz q ∧ 0 < q ∧ r = .ok (FQ (p / q))) := by
  refine h.cn (N := ["one", "other"]) ⟨rfl, rfl, rfl, by decide +kernel, rfl, by decide +kernel, by decide +kernel⟩ (fun ds r ⟨p, q, e, _⟩ => by rw [e]; rfl) fun f cdv A outer s H E ds r ⟨p, q, e1, hp, hq, h0, e2⟩ hr => ?_
  subst e1 e2
  have h1 : ((q.den : Int)).natAbs < 2 ^ 3000 := by rw [den_na]; exact hq.2
  have h2 : ((p.den : Int)).natAbs < 2 ^ 3000 := by rw [den_na]; exact hp.2
  refine db_ret (de_call c_made hr (by decide) rfl (da_cons (de_bin op_mulW (de_ixT (de_im (i := 0) rfl (.inl rfl) rfl) de_int (atI_nat (j := 0) rfl) (fun _ _ => rfl)) (de_ixT (de_im (i := 1) rfl (.inl rfl) rfl) de_int (atI_nat (j := 1) rfl) (fun _ _ => rfl)) (v2_mul (sz_mul hp.1 h1))) (da_cons (de_bin op_mulW (de_ixT (de_im (i := 0) rfl (.inl rfl) rfl) de_int (atI_nat (j := 1) rfl) (fun _ _ => rfl)) (de_ixT (de_im (i := 1) rfl (.inl rfl) rfl) de_int (atI_nat (j := 0) rfl) (fun _ _ => rfl)) (v2_mul (sz_mul h2 hq.1))) da_nil)) ⟨_, _, rfl, Int.mul_pos (den_pos p) (num_pos' h0), na_mul h2 hq.1, rfl⟩) ?_
  rw [FI_mk (div_q p q h0)]
theorem lt_q (p q : Rat) : decide (p.num * (q.den : Int) < q.num * (p.den : Int)) = decide (p < q) := by
  by_cases h : p < q
  · rw [decide_eq_true h, decide_eq_true ((Rat.lt_iff p q).mp h)]
  · rw [decide_eq_false h, decide_eq_false fun z => h ((Rat.lt_iff p q).mpr z)]
theorem cn_under (h : Hd K mg "is_under" sUnder ["one", "other"]) : Cn P w K mg base "is_under" 1 (fun ds r => ∃ p q : Rat, ds = [FQ p, FQ q] ∧ Sz p ∧ Sz q ∧ r = .ok (.bool (decide (p < q)))) := by
  refine h.cn (N := ["one", "other"]) ⟨rfl, rfl, rfl, by decide +kernel, rfl, by decide +kernel, by decide +kernel⟩ (fun ds r ⟨p, q, e, _⟩ => by rw [e]; rfl) fun f cdv A outer s H E ds r ⟨p, q, e1, hp, hq, e2⟩ hr => ?_
  subst e1 e2
  have h1 : ((q.den : Int)).natAbs < 2 ^ 3000 := by rw [den_na]; exact hq.2
  have h2 : ((p.den : Int)).natAbs < 2 ^ 3000 := by rw [den_na]; exact hp.2
  refine db_ret (de_cmp op_lt (de_bin op_mulW (de_ixT (de_im (i := 0) rfl (.inl rfl) rfl) de_int (atI_nat (j := 0) rfl) (fun _ _ => rfl)) (de_ixT (de_im (i := 1) rfl (.inl rfl) rfl) de_int (atI_nat (j := 1) rfl) (fun _ _ => rfl)) (v2_mul (sz_mul hp.1 h1))) (de_bin op_mulW (de_ixT (de_im (i := 1) rfl (.inl rfl) rfl) de_int (atI_nat (j := 0) rfl) (fun _ _ => rfl)) (de_ixT (de_im (i := 0) rfl (.inl rfl) rfl) de_int (atI_nat (j := 1) rfl) (fun _ _ => rfl)) (v2_mul (sz_mul hq.1 h2))) v2_lt (nomark _)) ?_
  rw [lt_q p q]
/-- the sum of the first ones of some fractions is bounded on the way -/
def frSum (ds : List PyData) (r : Res) : Prop := ∃ qs : List Rat, (ds = [.list (qs.map FQ)] ∨ ds = [.tuple (qs.map FQ)]) ∧ (∀ q ∈ qs, Sz q) ∧ (∀ n, Sz ((qs.take n).foldl (· + ·) 0)) ∧ qs.length ≤ 1000 ∧ r = .ok (FQ (qs.foldl (· + ·) 0))
theorem noLs_FQ : ∀ qs : List Rat, noLs (qs.map FQ) = true := fun qs => noLs_all.mpr fun d hd => by
  obtain ⟨q, _, rfl⟩ := List.mem_map.mp hd
  exact noL_FQ
theorem scSum : FnScope ["some", "found", "one"] ["some"] (defScope sSumIn) := ⟨rfl, rfl, rfl, by decide +kernel, rfl, by decide +kernel, by decide +kernel⟩
theorem cn_sumin (h : Hd K mg "sum_in" sSumIn ["some"]) (gNOUGHT : Kd K mg "NOUGHT" (FQ 0)) (c_add : Cn P w K mg base "add" 3 frAdd) : Cn P w K mg base "sum_in" 4 frSum := by
  refine h.cn scSum (fun ds r ⟨qs, e, _⟩ => by rcases e with e | e <;> rw [e] <;> rfl) fun f cdv A outer s H E ds r ⟨qs, e1, hs, hp, hl, e2⟩ hr => ?_
  subst e2
  obtain ⟨d, e3, wk⟩ : ∃ d, ds = [d] ∧ ∀ p1 p2, DWk (fnX P w K mg base ["some", "found", "one"] "sum_in" sSumIn f cdv A outer s H E) H ((startD ["some", "found", "one"] [d]).set 1 (some (.im (FQ 0)))) (.Name "one" p1) (.Name "some" p2) (qs.map FQ) := by
    rcases e1 with e1 | e1
    · exact ⟨_, e1, fun _ _ => dwk_name (i := 0) rfl (.inl rfl) rfl⟩
    · exact ⟨_, e1, fun _ _ => dwk_tup (de_im (i := 0) rfl (.inl rfl) rfl) (noLs_FQ qs)⟩
  subst e3
  refine db_set (i := 1) (s := .im (FQ 0)) scSum.nd rfl (.inl rfl) ⟨(de_glob gNOUGHT rfl), noL_FQ⟩ ?_
  refine db_for fn_own rfl (wk _ _) (pg_name (i := 2) scSum.nd rfl (.inl rfl)) (fun n δ1 => ∃ o, δ1 = [some (.im d), some (.im (FQ ((qs.take n).foldl (· + ·) 0))), o]) ⟨none, rfl⟩ (fun n y δ1 hy ⟨o, e⟩ => ?_) (fun δ1 ⟨o, e⟩ => ?_)
  · subst e
    rw [List.getElem?_map] at hy
    cases hq : qs[n]? with
    | none => rw [hq] at hy; cases hy
    | some q =>
      rw [hq] at hy
      cases hy
      refine ⟨_, gb_name noL_FQ, ?_⟩
      refine db_set (i := 1) (s := .im (FQ (((qs.take n).foldl (· + ·) 0) + q))) scSum.nd rfl (.inl rfl) ⟨(de_call c_add hr (by decide) rfl (da_cons (de_im (i := 1) rfl (.inl rfl) rfl) (da_cons (de_im (i := 2) rfl (.inl rfl) rfl) da_nil)) ⟨_, _, rfl, hp n, hs q (List.mem_of_getElem? hq), rfl⟩), noL_FQ⟩ (db_nil ⟨some (.im (FQ q)), ?_⟩)
      rw [List.take_add_one, hq, List.foldl_append]
      rfl
  · subst e
    rw [List.length_map, List.take_length]
    exact db_ret (de_im (i := 1) rfl (.inl rfl) rfl) rfl
end
end RS
set_option Elab.async false
set_option linter.all false
set_option maxRecDepth 100000
set_option maxHeartbeats 4000000
/-! part P2: what is a fraction, a rung, rates; what is refused -/
namespace RS
open PySem PySem.Spec PyProof.Rows L2 RM
section
variable {X : Cx} {E : XK} {H0 : Hp} {δ : DSl} {e it tg elt : Expr} {pos p : Pos} {ys : List PyData}
theorem dl_map {scope : Scope} {own : List (Str × Nat)} {g : TG} (hc : X.calm = true) (hN : X.N.Nodup) (hw : DWc X H0 δ tg it ys) (ok : BlkOk X.N X.env.scope scope own)
    (hg : ∀ (s : Shared) (H : Hp) (C : Addr) (cl : List (Str × Addr)) (fp : List Addr), PG (X.blk s H scope (compEnvC scope cl C X.env) fp) tg g) (F : PyData → PyData) (hz : ys.length ≤ 1000) (hn : ∀ y ∈ ys, noL (F y) = true)
    (ht : ∀ y ∈ ys, ∃ δ2, GBc X.K H0 (own.map (·.2)) g y (wipeD δ (own.map (·.2))) δ2 ∧ ∀ (s : Shared) (H : Hp) (C : Addr) (cl : List (Str × Addr)) (fp : List Addr), DE (X.blk s H scope (compEnvC scope cl C X.env) fp) H0 δ2 elt (F y))
    (hs : ∀ x, foldedSetIterable it X.env x = pure x := by intro _; rfl) : DL X H0 δ (.ListComp elt [⟨tg, it, [], 0⟩] scope pos) (ys.map F) :=
  dl_lc hc hN hw ok hg (List.length_map ..) hz (noLs_all.mpr fun d hd => by obtain ⟨y, hy, rfl⟩ := List.mem_map.mp hd; exact hn y hy) (fun i y f hy hf => by
    rw [List.getElem?_map, hy] at hf
    cases hf
    exact ht y (List.mem_of_getElem? hy)) hs
theorem de_all {p' : PyData → Bool} (hg : Gl X "all") (hm : X.mg "all" = none) (hc : X.calm = true) (h : DL X H0 δ e (ys.map fun y => .bool (p' y))) (he : starEach [e] X.env = (false, eval e X.env) :: starEach [] X.env := by rfl) (hpl : (backTo pos (starEach [] X.env)).any (·.1) = false := by rfl) :
    DE X H0 δ (.Call (.Name "all" p) [e] [] pos) (.bool (ys.all p')) := by
  have h2 : DE X H0 δ e (.list ((ys.map p').map .bool)) := by
    rw [List.map_map]
    exact h.de
  have q := de_callB (pos := pos) (p := p) (cr_all hc) hg hm (by decide +kernel) (da_cons h2 da_nil he) c1_all (by decide) (by decide) he hpl
  rw [List.all_map] at q
  exact q
theorem de_any {p' : PyData → Bool} (hg : Gl X "any") (hm : X.mg "any" = none) (hc : X.calm = true) (h : DL X H0 δ e (ys.map fun y => .bool (p' y))) (he : starEach [e] X.env = (false, eval e X.env) :: starEach [] X.env := by rfl) (hpl : (backTo pos (starEach [] X.env)).any (·.1) = false := by rfl) :
    DE X H0 δ (.Call (.Name "any" p) [e] [] pos) (.bool (ys.any p')) := by
  have h2 : DE X H0 δ e (.list ((ys.map p').map .bool)) := by
    rw [List.map_map]
    exact h.de
  have q := de_callB (pos := pos) (p := p) (cr_any hc) hg hm (by decide +kernel) (da_cons h2 da_nil he) c1_any (by decide) (by decide) he hpl
  rw [List.any_map] at q
  exact q
end
theorem DW.is {X : Cx} {H0 : Hp} {δ : DSl} {e : Expr} {p q : Bool} (h : DW X H0 δ e p) (e1 : p = q) : DW X H0 δ e q := by rw [← e1]; exact h
theorem db_guard {X : Cx} {E : XK} {H0 : Hp} {δ : DSl} {c : Expr} {b k : Bool} {rest : List Stmt} {nx : DSl → Prop} {rs : Res → Prop} {j : Nat} {p1 p2 pos : Pos} (h : DT X H0 δ c b) (h1 : b = true → rs (.ok (.bool k))) (h2 : b = false → DB X E H0 δ rest nx rs) :
    DB X E H0 δ (.If c [.Return (some (.Constant (.bool k) j p1)) p2] [] pos :: rest) nx rs := db_if h (fun δ' => δ' = δ ∧ b = false) (fun hb => db_ret de_bl (h1 hb)) (fun hb => db_nil ⟨rfl, hb⟩) (fun δ' z => by rw [z.1]; exact h2 z.2)
abbrev sAreFr : Stmt := topS 22
abbrev sNeedTop : Stmt := topS 25
abbrev sIsRung : Stmt := topS 29
abbrev sAreRates : Stmt := topS 30
/-! small data: no lists, no long tuples, no large numbers within -/
mutual
def okD : PyData → Bool
  | .none | .bool _ | .str _ => true
  | .int i => decide (i.natAbs < 2 ^ 250)
  | .list _ | .dict _ => false
  | .tuple xs => decide (xs.length ≤ 1000) && okDs xs
def okDs : List PyData → Bool
  | [] => true
  | x :: xs => okD x && okDs xs
end
mutual
theorem okD_noL : ∀ d : PyData, okD d = true → noL d = true
  | .none, _ | .bool _, _ | .str _, _ | .int _, _ => by simp [noL]
  | .list _, h => by simp [okD] at h
  | .dict _, h => by simp [okD] at h
  | .tuple xs, h => by
    have h' : xs.length ≤ 1000 ∧ okDs xs = true := by simpa [okD] using h
    simp only [noL]
    exact okDs_noL xs h'.2
theorem okDs_noL : ∀ ds : List PyData, okDs ds = true → noLs ds = true
  | [], _ => by simp [noLs]
  | d :: ds, h => by
    have h' : okD d = true ∧ okDs ds = true := by simpa [okDs] using h
    simp [noLs, okD_noL d h'.1, okDs_noL ds h'.2]
end
theorem okDs_all : ∀ {ds : List PyData}, okDs ds = true ↔ ∀ d ∈ ds, okD d = true
  | [] => by simp [okDs]
  | d :: ds => by simp [okDs, okDs_all (ds := ds)]
/-- what stands in it, where it is a tuple, is small -/
def Tpl (d : PyData) : Prop := ∀ l, d = .tuple l → okD (.tuple l) = true
theorem Tpl.of {d : PyData} (h : okD d = true) : Tpl d := fun l e => by rw [← e]; exact h
theorem Tpl.get {l : List PyData} (h : Tpl (.tuple l)) : l.length ≤ 1000 ∧ okDs l = true := by
  have := h l rfl
  simpa [okD] using this
theorem Tpl.item {l : List PyData} (h : Tpl (.tuple l)) {x : PyData} (hx : x ∈ l) : okD x = true := okDs_all.mp h.get.2 x hx
def isF : PyData → Bool
  | .tuple [.int a, .int b] => decide (1 ≤ b) && ((Int.gcd a b : Int) == 1)
  | _ => false
theorem isF_len {l : List PyData} (h : l.length ≠ 2) : isF (.tuple l) = false := by
  match l with
  | [] => simp [isF]
  | [_] => simp [isF]
  | [_, _] => simp at h
  | _ :: _ :: _ :: _ => simp [isF]
theorem isF_not {d : PyData} (h : isT d = false) : isF d = false := by
  cases d <;> first | rfl | simp [isT] at h
theorem tup_or (d : PyData) : isT d = false ∨ ∃ l, d = .tuple l := by
  cases d with
  | tuple l => exact .inr ⟨l, rfl⟩
  | _ => exact .inl rfl
theorem ne_len {l : List PyData} {n : Int} (h : (l.length : Int) ≠ n) : (!PyData.eqv (.int (l.length : Int)) (.int n)) = true := by
  rw [eqv_int, Bool.not_eq_true', beq_eq_false_iff_ne]
  exact h
theorem eq_len {l : List PyData} {n : Int} (h : (l.length : Int) = n) : (!PyData.eqv (.int (l.length : Int)) (.int n)) = false := by
  rw [eqv_int, Bool.not_eq_false', beq_iff_eq]
  exact h
section
variable {P : Program} {w : World} {K : PySem.W.Frag} {mg : Str → Option Value} {base : Heap}
theorem cn_isfr (h : Hd K mg "is_fraction" sIsFr ["thing"]) (m_isinstance : mg "isinstance" = none) (m_tuple : mg "tuple" = none) (m_len : mg "len" = none) (m_all : mg "all" = none)
    (c_is_integer : Cn P w K mg base "is_integer" 1 frIsInt) (c_common : Cn P w K mg base "common" 1 frCommon) : Cn P w K mg base "is_fraction" 2 (fun ds r => ∃ d, ds = [d] ∧ Tpl d ∧ r = .ok (.bool (isF d))) := by
  refine h.cn scIsFr (fun ds r ⟨d, e, _⟩ => by rw [e]; rfl) fun f cdv A outer s H E ds r ⟨d, e1, ht, e2⟩ hr => ?_
  subst e1 e2
  rcases tup_or d with hd | ⟨l, rfl⟩
  · refine db_ifT (DT.is (DW.dt (dw_or (l := true) (dt_not (dt_val (de_isi rfl m_isinstance rfl m_tuple (by decide +kernel) (de_im (i := 0) rfl (.inl rfl) rfl) (kb_tuple _)))) (fun z => by rw [hd] at z; cases z))) (by rw [hd]; rfl)) (db_ret de_bl ?_)
    rw [isF_not hd]
  · have hn := okDs_noL l ht.get.2
    have hz := ht.get.1
    refine db_guard (DW.dt (dw_or (dt_not (dt_val (de_isi rfl m_isinstance rfl m_tuple (by decide +kernel) (de_im (i := 0) rfl (.inl rfl) rfl) (kb_tuple _)))) (fun _ => dw_or (dt_cmp (op_neD (by exact hr.units)) (de_callB call_len rfl m_len (by decide +kernel) (da_cons (de_im (i := 0) rfl (.inl rfl) rfl) da_nil) c1_lenT) de_int (v2_ne shp_int shp_int) (nomark _)) (fun _ => dw_or1 (dt_not (dt_val (de_all rfl m_all rfl
      (dl_map rfl scIsFr.nd (dwc_tup (de_im (i := 0) rfl (.inl rfl) rfl)) (blkOk_by (N := ["thing", "one"]) (sc := defScope sIsFr) (own := [("one", 1)]) (by decide +kernel)) (fun _ _ _ _ _ => pg_name (i := 1) scIsFr.nd rfl (.inl rfl)) (fun y => .bool (isI y)) hz (fun _ _ => rfl) (fun z hz => ⟨_, gc_name (noLs_all.mp hn z hz) (by decide), fun _ _ _ _ _ => (de_call c_is_integer hr (by decide) rfl (da_cons (de_im (i := 1) rfl (.inl rfl) rfl) da_nil) ⟨_, rfl, rfl⟩)⟩))))))))) (fun hb => ?_) (fun hb => ?_)
    · have : isF (.tuple l) = false := by
        by_cases hl : l.length = 2
        · match l, hl with
          | [x, y], _ =>
            have hb : (!(([x, y] : List PyData).all isI)) = true := hb
            cases x <;> cases y <;> first | rfl | (simp [isI] at hb)
        · exact isF_len hl
      rw [this]
    · have hl : l.length = 2 := by
        refine Decidable.byContradiction fun z => ?_
        rw [ne_len (n := 2) (by omega)] at hb
        simp at hb
      match l, hl with
      | [x, y], _ =>
        have hb : (!(([x, y] : List PyData).all isI)) = false := hb
        obtain ⟨a, b, rfl, rfl⟩ : ∃ a b, x = .int a ∧ y = .int b := by
          cases x <;> cases y <;> first | exact ⟨_, _, rfl, rfl⟩ | (simp [isI] at hb)
        refine db_ret (de_and (de_cmp op_ge (de_ixT (de_im (i := 0) rfl (.inl rfl) rfl) de_int (atI_nat (j := 1) rfl) (fun _ _ => rfl)) de_int v2_ge (nomark _)) (fun _ => de_one (de_cmp (op_eqD (by exact hr.units)) (de_call c_common hr (by decide) rfl (da_cons (de_ixT (de_im (i := 0) rfl (.inl rfl) rfl) de_int (atI_nat (j := 0) rfl) (fun _ _ => rfl)) (da_cons (de_ixT (de_im (i := 0) rfl (.inl rfl) rfl) de_int (atI_nat (j := 1) rfl) (fun _ _ => rfl)) da_nil)) ⟨a, b, rfl, rfl⟩) de_int (v2_eq shp_int shp_int) (nomark _)))) ?_
        rw [eqv_int]
        rfl
/-! tuples of fractions -/
def toQ : PyData → Rat
  | .tuple [.int a, .int b] => mkRat a b.toNat
  | _ => 0
theorem isF_FQ {d : PyData} (h : isF d = true) : d = FQ (toQ d) := by
  unfold isF at h
  split at h
  · rename_i a b
    simp only [Bool.and_eq_true, decide_eq_true_eq, beq_iff_eq] at h
    obtain ⟨h1, h2⟩ := h
    have hb : (b.toNat : Int) = b := by omega
    have hc : Nat.Coprime a.natAbs b.toNat := by
      have e : Int.gcd a b = 1 := by omega
      rw [Int.gcd_eq_natAbs_gcd_natAbs] at e
      have e2 : b.natAbs = b.toNat := by omega
      rw [e2] at e
      exact e
    have e3 : mkRat a b.toNat = ⟨a, b.toNat, by omega, hc⟩ := by
      rw [Rat.mk_eq_mkRat]
    show PyData.tuple [.int a, .int b] = FQ (mkRat a b.toNat)
    rw [e3]
    unfold FQ FI
    simp only [hb]
  · simp at h
theorem toQ_FQ (q : Rat) : toQ (FQ q) = q := by
  unfold FQ FI toQ
  simp only [Int.toNat_natCast]
  exact Rat.mkRat_self q
theorem isF_q (q : Rat) : isF (FQ q) = true := by
  unfold FQ FI isF
  have h1 := q.den_pos
  have h2 := q.reduced
  simp only [Bool.and_eq_true, decide_eq_true_eq, beq_iff_eq]
  refine ⟨by omega, ?_⟩
  rw [Int.gcd_eq_natAbs_gcd_natAbs, den_na]
  have : Nat.gcd q.num.natAbs q.den = 1 := h2
  rw [this]
  rfl
theorem sz_ok {q : Rat} (h : okD (FQ q) = true) : q.num.natAbs < 2 ^ 250 ∧ q.den < 2 ^ 250 := by
  unfold FQ FI at h
  simp only [okD, okDs, Bool.and_eq_true, decide_eq_true_eq, den_na] at h
  exact ⟨h.2.1, h.2.2.1⟩
def frArFr (ds : List PyData) (r : Res) : Prop := ∃ (d : PyData) (m : Int), ds = [d, .int m] ∧ Tpl d ∧ r = .ok (.bool (match d with | .tuple l => decide ((l.length : Int) ≤ m) && l.all isF | _ => false))
theorem scArFr : FnScope ["thing", "most", "one"] ["thing", "most"] (defScope sAreFr) := ⟨rfl, rfl, rfl, by decide +kernel, rfl, by decide +kernel, by decide +kernel⟩
theorem cn_arfr (h : Hd K mg "are_fractions" sAreFr ["thing", "most"]) (m_isinstance : mg "isinstance" = none) (m_tuple : mg "tuple" = none) (m_len : mg "len" = none) (m_all : mg "all" = none)
    (c_is_fraction : Cn P w K mg base "is_fraction" 2 (fun ds r => ∃ d, ds = [d] ∧ Tpl d ∧ r = .ok (.bool (isF d)))) : Cn P w K mg base "are_fractions" 3 frArFr := by
  refine h.cn scArFr (fun ds r ⟨d, m, e, _⟩ => by rw [e]; rfl) fun f cdv A outer s H E ds r ⟨d, m, e1, ht, e2⟩ hr => ?_
  subst e1 e2
  rcases tup_or d with hd | ⟨l, rfl⟩
  · refine db_ret (de_and (l := false) (de_isi rfl m_isinstance rfl m_tuple (by decide +kernel) (de_im (i := 0) rfl (.inl rfl) rfl) (kb_tuple _)) (fun z => by rw [hd] at z; cases z)) ?_
    rw [hd]
    cases d <;> first | rfl | simp [isT] at hd
  · refine db_ret (de_and (de_isi rfl m_isinstance rfl m_tuple (by decide +kernel) (de_im (i := 0) rfl (.inl rfl) rfl) (kb_tuple _)) (fun g1 => (de_and (de_cmp op_le (de_callB call_len rfl m_len (by decide +kernel) (da_cons (de_im (i := 0) rfl (.inl rfl) rfl) da_nil) c1_lenT) (de_im (i := 1) rfl (.inl rfl) rfl) v2_le (nomark _)) (fun g2 => (de_one (de_all rfl m_all rfl (dl_map rfl scArFr.nd (dwc_tup (de_im (i := 0) rfl (.inl rfl) rfl)) (blkOk_by (N := ["thing", "most", "one"]) (sc := defScope sAreFr) (own := [("one", 2)]) (by decide +kernel)) (fun _ _ _ _ _ => pg_name (i := 2) scArFr.nd rfl (.inl rfl)) (fun y => .bool (isF y)) ht.get.1 (fun _ _ => rfl) (fun z hz => ⟨_, gc_name (okD_noL _ (ht.item hz)) (by decide), fun _ _ _ _ _ => de_call c_is_fraction hr (by decide) rfl (da_cons (de_im (i := 2) rfl (.inl rfl) rfl) da_nil) ⟨_, rfl, Tpl.of (ht.item hz), rfl⟩⟩)))))))) ?_
    rfl
end
end RS
set_option Elab.async false
set_option linter.all false
set_option maxRecDepth 100000
set_option maxHeartbeats 4000000
/-! part P3: rungs, rates, what is no rates -/
namespace RS
open PySem PySem.Spec PyProof.Rows L2 RM
abbrev sNeedRates : Stmt := topS 31
abbrev sIsClosed : Stmt := topS 32
theorem bd_self (q : Rat) : Bd q.den q.num.natAbs q := ⟨q.num, by
  have h : (q.den : Rat) ≠ 0 := by
    intro z
    have : (q.den : Int) = 0 := by exact_mod_cast z
    have := q.den_pos
    omega
  have e : q = (q.num : Rat) / ((q.den : Int) : Rat) := by rw [← Rat.divInt_eq_div, Rat.num_divInt_den]
  have e2 : ((q.den : Int) : Rat) = (q.den : Rat) := rfl
  rw [e2] at e
  grind, Nat.le_refl _⟩
def Szn (n : Nat) (q : Rat) : Prop := q.num.natAbs < 2 ^ n ∧ q.den < 2 ^ n
theorem Szn.add {n m : Nat} {p q : Rat} (h : Szn n p) (k : Szn m q) : Szn (n + m + 1) (p + q) := by
  have hb := (bd_self p).scale q.den
  have kb := (bd_self q).scale p.den
  rw [Nat.mul_comm q.den p.den] at kb
  have s := (hb.add kb).size (Nat.mul_pos p.den_pos q.den_pos)
  have e1 : p.num.natAbs * q.den < 2 ^ (n + m) := by
    rw [Nat.pow_add]
    exact Nat.mul_lt_mul'' h.1 k.2
  have e2 : q.num.natAbs * p.den < 2 ^ (n + m) := by
    rw [Nat.pow_add, Nat.mul_comm (2 ^ n)]
    exact Nat.mul_lt_mul'' k.1 h.2
  have e3 : p.den * q.den < 2 ^ (n + m) := by
    rw [Nat.pow_add]
    exact Nat.mul_lt_mul'' h.2 k.2
  have e4 : 2 ^ (n + m + 1) = 2 ^ (n + m) + 2 ^ (n + m) := by rw [Nat.pow_succ]; omega
  exact ⟨by omega, by omega⟩
theorem Szn.mono {n m : Nat} {q : Rat} (h : Szn n q) (hm : n ≤ m) : Szn m q := ⟨Nat.lt_of_lt_of_le h.1 (Nat.pow_le_pow_right (by decide) hm), Nat.lt_of_lt_of_le h.2 (Nat.pow_le_pow_right (by decide) hm)⟩
theorem Szn.sz {n : Nat} {q : Rat} (h : Szn n q) (hn : n ≤ 3000) : Sz q := h.mono hn
theorem szn_zero : Szn 1 0 := ⟨by decide, by decide⟩
theorem szn_one : Szn 2 1 := ⟨by decide, by decide⟩
def isRung : PyData → Bool
  | .tuple [a, b, c] => ([a, b, c].all isF) && (!([a, b, c].any fun x => decide (toQ x < 0)) && decide (toQ a + toQ b + toQ c = 1))
  | _ => false
theorem scRung : FnScope ["thing", "one"] ["thing"] (defScope sIsRung) := ⟨rfl, rfl, rfl, by decide +kernel, rfl, by decide +kernel, by decide +kernel⟩
section
variable {P : Program} {w : World} {K : PySem.W.Frag} {mg : Str → Option Value} {base : Heap}
abbrev frIsF (ds : List PyData) (r : Res) : Prop := ∃ d, ds = [d] ∧ Tpl d ∧ r = .ok (.bool (isF d))
abbrev frUnder (ds : List PyData) (r : Res) : Prop := ∃ p q : Rat, ds = [FQ p, FQ q] ∧ Sz p ∧ Sz q ∧ r = .ok (.bool (decide (p < q)))
abbrev frWhole (ds : List PyData) (r : Res) : Prop := ∃ i : Int, ds = [.int i] ∧ r = .ok (FI i 1)
theorem FI_one : FI 1 1 = FQ 1 := rfl
theorem cn_isrung (h : Hd K mg "is_rung" sIsRung ["thing"]) (m_isinstance : mg "isinstance" = none) (m_tuple : mg "tuple" = none) (m_len : mg "len" = none) (m_all : mg "all" = none) (m_any : mg "any" = none)
    (c_is_fraction : Cn P w K mg base "is_fraction" 2 frIsF) (c_is_under : Cn P w K mg base "is_under" 1 frUnder) (gNOUGHT : Kd K mg "NOUGHT" (FQ 0)) (c_sum_in : Cn P w K mg base "sum_in" 4 frSum) (c_whole : Cn P w K mg base "whole" 1 frWhole) :
    Cn P w K mg base "is_rung" 5 (fun ds r => ∃ d, ds = [d] ∧ Tpl d ∧ r = .ok (.bool (isRung d))) := by
  refine h.cn scRung (fun ds r ⟨d, e, _⟩ => by rw [e]; rfl) fun f cdv A outer s H E ds r ⟨d, e1, ht, e2⟩ hr => ?_
  subst e1 e2
  rcases tup_or d with hd | ⟨l, rfl⟩
  · refine db_ifT (DT.is (DW.dt (dw_or (l := true) (dt_not (dt_val (de_isi rfl m_isinstance rfl m_tuple (by decide +kernel) (de_im (i := 0) rfl (.inl rfl) rfl) (kb_tuple _)))) (fun z => by rw [hd] at z; cases z))) (by rw [hd]; rfl)) (db_ret de_bl ?_)
    cases d <;> first | rfl | simp [isT] at hd
  · have hn := okDs_noL l ht.get.2
    refine db_guard (DW.dt (dw_or (dt_not (dt_val (de_isi rfl m_isinstance rfl m_tuple (by decide +kernel) (de_im (i := 0) rfl (.inl rfl) rfl) (kb_tuple _)))) (fun g1 => dw_or (dt_cmp (op_neD (by exact hr.units)) (de_callB call_len rfl m_len (by decide +kernel) (da_cons (de_im (i := 0) rfl (.inl rfl) rfl) da_nil) c1_lenT) de_int (v2_ne shp_int shp_int) (nomark _)) (fun g2 => dw_or1 (dt_not (dt_val (de_all rfl m_all rfl (dl_map rfl scRung.nd (dwc_tup (de_im (i := 0) rfl (.inl rfl) rfl)) (blkOk_by (N := ["thing", "one"]) (sc := defScope sIsRung) (own := [("one", 1)]) (by decide +kernel)) (fun _ _ _ _ _ => pg_name (i := 1) scRung.nd rfl (.inl rfl)) (fun y => .bool (isF y)) ht.get.1 (fun _ _ => rfl) (fun z hz => ⟨_, gc_name (okD_noL _ (ht.item hz)) (by decide), fun _ _ _ _ _ => de_call c_is_fraction hr (by decide) rfl (da_cons (de_im (i := 1) rfl (.inl rfl) rfl) da_nil) ⟨_, rfl, Tpl.of (ht.item hz), rfl⟩⟩))))))))) (fun hb => ?_) (fun hb => ?_)
    · by_cases hl : l.length = 3
      · match l, hl with
        | [a, b, c], _ =>
          have hb : (!(([a, b, c] : List PyData).all isF)) = true := hb
          have hb2 : (([a, b, c] : List PyData).all isF) = false := by rw [Bool.not_eq_true'] at hb; exact hb
          show Res.ok (.bool false) = Res.ok (.bool (([a, b, c].all isF) && _))
          rw [hb2]
          rfl
      · have : isRung (.tuple l) = false := by
          match l, hl with
          | [], _ => rfl
          | [_], _ => rfl
          | [_, _], _ => rfl
          | [_, _, _], h => simp at h
          | _ :: _ :: _ :: _ :: _, _ => rfl
        rw [this]
    · have hl : l.length = 3 := by
        refine Decidable.byContradiction fun z => ?_
        rw [ne_len (n := 3) (by omega)] at hb
        simp at hb
      match l, hl with
      | [a, b, c], _ =>
        have hb : (!(([a, b, c] : List PyData).all isF)) = false := hb
        have hb2 : (([a, b, c] : List PyData).all isF) = true := by rw [Bool.not_eq_false'] at hb; exact hb
        have hf : ∀ x ∈ ([a, b, c] : List PyData), isF x = true := List.all_eq_true.mp hb2
        have ea := isF_FQ (hf a (by simp))
        have eb := isF_FQ (hf b (by simp))
        have ec := isF_FQ (hf c (by simp))
        have sa : Szn 250 (toQ a) := sz_ok (by rw [← ea]; exact ht.item (by simp))
        have sb : Szn 250 (toQ b) := sz_ok (by rw [← eb]; exact ht.item (by simp))
        have sc : Szn 250 (toQ c) := sz_ok (by rw [← ec]; exact ht.item (by simp))
        have hs : ∀ x ∈ ([a, b, c] : List PyData), x = FQ (toQ x) ∧ Szn 250 (toQ x) := fun x hx => ⟨isF_FQ (hf x hx), sz_ok (by rw [← isF_FQ (hf x hx)]; exact ht.item hx)⟩
        have el : ([a, b, c] : List PyData) = ([toQ a, toQ b, toQ c] : List Rat).map FQ := by
          show [a, b, c] = [FQ (toQ a), FQ (toQ b), FQ (toQ c)]
          rw [← ea, ← eb, ← ec]
        have ps : ∀ n, Sz ((([toQ a, toQ b, toQ c] : List Rat).take n).foldl (· + ·) 0) := fun n => by
          match n with
          | 0 => exact szn_zero.sz (by decide)
          | 1 => exact (szn_zero.add sa).sz (by decide)
          | 2 => exact ((szn_zero.add sa).add sb).sz (by decide)
          | n + 3 =>
            rw [List.take_of_length_le (by simp)]
            exact (((szn_zero.add sa).add sb).add sc).sz (by decide)
        have hsz : ∀ q ∈ ([toQ a, toQ b, toQ c] : List Rat), Sz q := fun q hq => by
          simp only [List.mem_cons, List.not_mem_nil, or_false] at hq
          rcases hq with rfl | rfl | rfl
          · exact sa.sz (by decide)
          · exact sb.sz (by decide)
          · exact sc.sz (by decide)
        refine db_ret (de_and (de_not (de_any rfl m_any rfl (dl_map rfl scRung.nd (dwc_tup (de_im (i := 0) rfl (.inl rfl) rfl)) (blkOk_by (N := ["thing", "one"]) (sc := defScope sIsRung) (own := [("one", 1)]) (by decide +kernel)) (fun _ _ _ _ _ => pg_name (i := 1) scRung.nd rfl (.inl rfl)) (fun y => .bool (decide (toQ y < 0))) ht.get.1 (fun _ _ => rfl) (fun z hz => ⟨_, gc_name (okD_noL _ (ht.item hz)) (by decide), fun _ _ _ _ _ => de_call c_is_under hr (by decide) rfl (da_cons (de_im (i := 1) rfl (.inl rfl) rfl) (da_cons (de_glob gNOUGHT rfl) da_nil)) ⟨_, _, by rw [← (hs z hz).1], (hs z hz).2.sz (by decide), szn_zero.sz (by decide), rfl⟩⟩)))) (fun g1 => (de_one (de_cmp (op_eqD (by exact hr.units)) (de_call c_sum_in hr (by decide) rfl (da_cons (de_im (i := 0) rfl (.inl rfl) rfl) da_nil) ⟨[toQ a, toQ b, toQ c], .inr (by rw [← el]), hsz, ps, by simp, rfl⟩) (de_call c_whole hr (by decide) rfl (da_cons de_int da_nil) ⟨1, rfl, rfl⟩) (v2_eq shp_FQ (by rw [FI_one]; exact shp_FQ)) (nomark _))))) ?_
        show Res.ok (.bool _) = Res.ok (.bool ((([a, b, c] : List PyData).all isF) && _))
        rw [hb2, FI_one, eqv_FQ, Bool.true_and]
        show Res.ok (.bool (_ && decide (0 + toQ a + toQ b + toQ c = 1))) = _
        rw [Rat.zero_add]
end
end RS
set_option Elab.async false
set_option linter.all false
set_option maxRecDepth 100000
set_option maxHeartbeats 4000000
/-! part P4: rates; what is no rates is refused -/
namespace RS
open PySem PySem.Spec PyProof.Rows L2 RM
def RD (u s d : Rat) : PyData := .tuple [FQ u, FQ s, FQ d]
def up3 : PyData → Rat
  | .tuple [a, _, _] => toQ a
  | _ => 0
def st3 : PyData → Rat
  | .tuple [_, a, _] => toQ a
  | _ => 0
def dn3 : PyData → Rat
  | .tuple [_, _, a] => toQ a
  | _ => 0
theorem isRung_eq {x : PyData} (h : isRung x = true) : x = RD (up3 x) (st3 x) (dn3 x) := by
  unfold isRung at h
  split at h
  · rename_i a b c
    have h1 := (Bool.and_eq_true_iff.mp h).1
    have hf := List.all_eq_true.mp h1
    show PyData.tuple [a, b, c] = .tuple [FQ (toQ a), FQ (toQ b), FQ (toQ c)]
    rw [← isF_FQ (hf a (by simp)), ← isF_FQ (hf b (by simp)), ← isF_FQ (hf c (by simp))]
  · cases h
def zer (q : Rat) : Bool := decide (q = 0)
def areRates : PyData → Bool
  | .tuple l => ((decide (1 ≤ (l.length : Int)) && decide ((l.length : Int) ≤ 5)) && l.all isRung) && ((zer (dn3 (l.headD .none)) && !((l.drop 1).any fun x => zer (dn3 x))) && !((l.dropLast).any fun x => zer (up3 x)))
  | _ => false
theorem scAR : FnScope ["thing", "one", "up", "stay", "down"] ["thing"] (defScope sAreRates) := ⟨rfl, rfl, rfl, by decide +kernel, rfl, by decide +kernel, by decide +kernel⟩
theorem shps_FQ : ∀ qs : List Rat, SeqAt.shaped (.list (qs.map FQ)) = true := fun qs => by
  have h1 : ∀ qs : List Rat, PyData.canLayAll0 (qs.map FQ) = true := fun qs => by
    induction qs with
    | nil => simp [PyData.canLayAll0]
    | cons q qs ih => simp [PyData.canLayAll0, ih, FQ, FI, PyData.canLay0]
  have h2 : ∀ qs : List Rat, PyData.depthAll (qs.map FQ) ≤ 1 := fun qs => by
    induction qs with
    | nil => simp [PyData.depthAll]
    | cons q qs ih =>
      simp only [List.map_cons, PyData.depthAll]
      have : (FQ q).depth = 1 := by simp [FQ, FI, PyData.depth, PyData.depthAll]
      omega
  have := h2 qs
  simp [SeqAt.shaped, PyData.canLay0, h1, PyData.depth]
  omega
theorem any_zer (l : List PyData) (g : PyData → Rat) : ((l.map fun y => FQ (g y)).any fun z => PyData.eqv z (FQ 0)) = l.any fun y => zer (g y) := by
  rw [List.any_map]
  congr 1
  funext y
  show PyData.eqv (FQ (g y)) (FQ 0) = _
  rw [eqv_FQ]
  rfl
theorem hu65 {k : Nat} {A : Around} (hr : Room k A) : A.units + 65 < cLine := by have := hr.un; omega
theorem shps_map (l : List PyData) (g : PyData → Rat) : SeqAt.shaped (.list (l.map fun y => FQ (g y))) = true := by
  have h := shps_FQ (l.map g)
  rw [List.map_map] at h
  exact h
theorem dn3_RD {u s d : Rat} : dn3 (RD u s d) = d := toQ_FQ d
theorem st3_RD {u s d : Rat} : st3 (RD u s d) = s := toQ_FQ s
theorem up3_RD {u s d : Rat} : up3 (RD u s d) = u := toQ_FQ u
theorem gc_rung {K : PySem.W.Frag} {H0 : Hp} {i j k : Nat} {vs : List Nat} {y : PyData} {δ : DSl} (hy : isRung y = true) (hi : i ∈ vs) (hj : j ∈ vs) (hk : k ∈ vs) :
    GBc K H0 vs (gTup K 3 (gCons (gName i) (gCons (gName j) (gCons (gName k) gNil)))) y δ (((δ.set i (some (.im (FQ (up3 y))))).set j (some (.im (FQ (st3 y))))).set k (some (.im (FQ (dn3 y))))) := by
  have h : GBc K H0 vs (gTup K 3 (gCons (gName i) (gCons (gName j) (gCons (gName k) gNil)))) (RD (up3 y) (st3 y) (dn3 y)) δ (((δ.set i (some (.im (FQ (up3 y))))).set j (some (.im (FQ (st3 y))))).set k (some (.im (FQ (dn3 y))))) :=
    gc_tup3 (gc_name noL_FQ hi) (gc_name noL_FQ hj) (gc_name noL_FQ hk)
  rwa [← isRung_eq hy] at h
section
variable {P : Program} {w : World} {K : PySem.W.Frag} {mg : Str → Option Value} {base : Heap}
abbrev frIsRung (ds : List PyData) (r : Res) : Prop := ∃ d, ds = [d] ∧ Tpl d ∧ r = .ok (.bool (isRung d))
abbrev frAreRates (ds : List PyData) (r : Res) : Prop := ∃ d, ds = [d] ∧ Tpl d ∧ r = .ok (.bool (areRates d))
theorem cn_arerates (h : Hd K mg "are_rates" sAreRates ["thing"]) (m_isinstance : mg "isinstance" = none) (m_tuple : mg "tuple" = none) (m_len : mg "len" = none) (m_all : mg "all" = none)
    (gMOST_RUNGS : Kd K mg "MOST_RUNGS" (.int 5)) (gNOUGHT : Kd K mg "NOUGHT" (FQ 0)) (c_is_rung : Cn P w K mg base "is_rung" 5 frIsRung) : Cn P w K mg base "are_rates" 6 frAreRates := by
  refine h.cn scAR (fun ds r ⟨d, e, _⟩ => by rw [e]; rfl) fun f cdv A outer s H E ds r ⟨d, e1, ht, e2⟩ hr => ?_
  subst e1 e2
  rcases tup_or d with hd | ⟨l, rfl⟩
  · refine db_ifT (DT.is (DW.dt (dw_or (l := true) (dt_not (dt_val (de_isi rfl m_isinstance rfl m_tuple (by decide +kernel) (de_im (i := 0) rfl (.inl rfl) rfl) (kb_tuple _)))) (fun z => by rw [hd] at z; cases z))) (by rw [hd]; rfl)) (db_ret de_bl ?_)
    cases d <;> first | rfl | simp [isT] at hd
  · have hn := okDs_noL l ht.get.2
    refine db_guard (DW.dt (dw_or (dt_not (dt_val (de_isi rfl m_isinstance rfl m_tuple (by decide +kernel) (de_im (i := 0) rfl (.inl rfl) rfl) (kb_tuple _)))) (fun g1 => dw_or (dt_not (dt_chain op_le op_le de_int (de_callB call_len rfl m_len (by decide +kernel) (da_cons (de_im (i := 0) rfl (.inl rfl) rfl) da_nil) c1_lenT) (fun _ => (de_glob gMOST_RUNGS rfl)) v2_le (fun _ => v2_le) (fun x y z => pt_chain op_le op_le x y z))) (fun g2 => dw_or1 (dt_not (dt_val (de_all rfl m_all rfl (dl_map rfl scAR.nd (dwc_tup (de_im (i := 0) rfl (.inl rfl) rfl)) (blkOk_by (N := ["thing", "one", "up", "stay", "down"]) (sc := defScope sAreRates) (own := [("one", 1)]) (by decide +kernel)) (fun _ _ _ _ _ => pg_name (i := 1) scAR.nd rfl (.inl rfl)) (fun y => .bool (isRung y)) ht.get.1 (fun _ _ => rfl) (fun z hz => ⟨_, gc_name (okD_noL _ (ht.item hz)) (by decide), fun _ _ _ _ _ => de_call c_is_rung hr (by decide) rfl (da_cons (de_im (i := 1) rfl (.inl rfl) rfl) da_nil) ⟨_, rfl, Tpl.of (ht.item hz), rfl⟩⟩))))))))) (fun hb => ?_) (fun hb => ?_)
    · have hb : ((!(decide (1 ≤ (l.length : Int)) && decide ((l.length : Int) ≤ 5))) || !l.all isRung) = true := hb
      have : ((decide (1 ≤ (l.length : Int)) && decide ((l.length : Int) ≤ 5)) && l.all isRung) = false := by
        rw [← Bool.not_and, Bool.not_eq_true'] at hb
        exact hb
      show Res.ok (.bool false) = Res.ok (.bool (_ && _))
      rw [this, Bool.false_and]
    · have hb : ((!(decide (1 ≤ (l.length : Int)) && decide ((l.length : Int) ≤ 5))) || !l.all isRung) = false := hb
      have hg : ((decide (1 ≤ (l.length : Int)) && decide ((l.length : Int) ≤ 5)) && l.all isRung) = true := by
        rw [← Bool.not_and, Bool.not_eq_false'] at hb
        exact hb
      have hall : ∀ x ∈ l, isRung x = true := List.all_eq_true.mp (Bool.and_eq_true_iff.mp hg).2
      have hlen := (Bool.and_eq_true_iff.mp (Bool.and_eq_true_iff.mp hg).1).1
      have hz5 : l.length ≤ 1000 := ht.get.1
      have hok : ∀ y ∈ l, noL y = true := fun y hy => okD_noL _ (ht.item hy)
      match l, hlen with
      | x :: t, _ =>
        obtain ⟨u0, s0, d0, rfl⟩ : ∃ u s d, x = RD u s d := ⟨_, _, _, isRung_eq (hall x (by simp))⟩
        refine db_guard (DW.dt (dw_or (dt_cmp (op_neD (by exact hr.units)) (de_ixT (de_ixT (de_im (i := 0) rfl (.inl rfl) rfl) de_int (atI_nat (j := 0) rfl) (fun _ _ => rfl)) de_int (by exact (atI_nat (j := 2) rfl)) (fun _ _ => rfl)) (de_glob gNOUGHT rfl) (v2_ne shp_FQ shp_FQ) (nomark _)) (fun g1 => dw_or1 (dt_cmp (op_inD (by exact hu65 hr)) (de_glob gNOUGHT rfl) (DL.de (dl_map rfl scAR.nd (ys := t) (dwc_tup (DE.is (de_slT (de_im (i := 0) rfl (.inl rfl) rfl) (.inr ⟨_, _, rfl, rfl, de_int⟩) (.inl ⟨rfl, rfl⟩)) (by rw [cutD_1]; rfl))) (blkOk_by (N := ["thing", "one", "up", "stay", "down"]) (sc := defScope sAreRates) (own := [("up", 2), ("stay", 3), ("down", 4)]) (by decide +kernel)) (fun _ _ _ _ _ => pg_tup (n := 3) rfl (pgs_cons (pg_name (i := 2) scAR.nd rfl (.inl rfl)) (pgs_cons (pg_name (i := 3) scAR.nd rfl (.inl rfl)) (pgs_cons (pg_name (i := 4) scAR.nd rfl (.inl rfl)) pgs_nil)))) (fun y => FQ (dn3 y)) (by simp at hz5; omega) (fun _ _ => noL_FQ) (fun y hy => ⟨_, gc_rung (hall y (by simp [hy])) (by decide) (by decide) (by decide), fun _ _ _ _ _ => de_im (i := 4) rfl (.inl rfl) rfl⟩))) (v2_in shp_FQ (shps_map t dn3)) (by rfl))))) (fun hb => ?_) (fun hb => ?_)
        · have hb : ((!PyData.eqv (FQ d0) (FQ 0)) || ((t.map fun y => FQ (dn3 y)).any fun z => PyData.eqv z (FQ 0))) = true := hb
          rw [any_zer, eqv_FQ] at hb
          have e : areRates (.tuple (RD u0 s0 d0 :: t)) = false := by
            show (_ && ((zer (dn3 (RD u0 s0 d0)) && !(t.any fun x => zer (dn3 x))) && _)) = false
            have h1 : (zer (dn3 (RD u0 s0 d0)) && !(t.any fun x => zer (dn3 x))) = false := by
              rw [dn3_RD, ← Bool.not_eq_true', Bool.not_and, Bool.not_not]
              exact hb
            rw [h1, Bool.false_and, Bool.and_false]
          rw [e]
        · have hb : ((!PyData.eqv (FQ d0) (FQ 0)) || ((t.map fun y => FQ (dn3 y)).any fun z => PyData.eqv z (FQ 0))) = false := hb
          rw [any_zer, eqv_FQ] at hb
          refine db_ret (de_cmp (op_notInD (by exact hu65 hr)) (de_glob gNOUGHT rfl) (DL.de (dl_map rfl scAR.nd (ys := (RD u0 s0 d0 :: t).dropLast) (dwc_tup (DE.is (de_slT (de_im (i := 0) rfl (.inl rfl) rfl) (.inl ⟨rfl, rfl⟩) (.inr ⟨_, _, rfl, rfl, (de_neg de_int)⟩)) (by rw [cutD_m1]))) (blkOk_by (N := ["thing", "one", "up", "stay", "down"]) (sc := defScope sAreRates) (own := [("up", 2), ("stay", 3), ("down", 4)]) (by decide +kernel)) (fun _ _ _ _ _ => pg_tup (n := 3) rfl (pgs_cons (pg_name (i := 2) scAR.nd rfl (.inl rfl)) (pgs_cons (pg_name (i := 3) scAR.nd rfl (.inl rfl)) (pgs_cons (pg_name (i := 4) scAR.nd rfl (.inl rfl)) pgs_nil)))) (fun y => FQ (up3 y)) (by rw [List.length_dropLast]; omega) (fun _ _ => noL_FQ) (fun y hy => ⟨_, gc_rung (hall y (by rw [List.dropLast_eq_take] at hy; exact List.mem_of_mem_take hy)) (by decide) (by decide) (by decide), fun _ _ _ _ _ => de_im (i := 2) rfl (.inl rfl) rfl⟩))) (v2_nin shp_FQ (shps_map _ up3)) (by rfl)) ?_
          rw [any_zer]
          show Res.ok (.bool (!_)) = Res.ok (.bool (_ && ((zer (dn3 (RD u0 s0 d0)) && !(t.any fun x => zer (dn3 x))) && _)))
          have h1 : (zer (dn3 (RD u0 s0 d0)) && !(t.any fun x => zer (dn3 x))) = true := by
            rw [dn3_RD, ← Bool.not_eq_false', Bool.not_and, Bool.not_not]
            exact hb
          rw [h1, hg, Bool.true_and, Bool.true_and]
end
end RS
set_option Elab.async false
set_option linter.all false
set_option maxRecDepth 100000
set_option maxHeartbeats 4000000
/-! part F: enumerate over a tuple -/
namespace RS
open PySem PySem.Spec PyProof.Rows L2
abbrev enuO (n : Nat) : Obj := { cls := .type "enumerate", data := .fields #[.none, .bool false, .ref n, rawInt 0, .none, .none] }
set_option maxHeartbeats 2000000 in
theorem meets_enumT {v : Value} {ob : Obj} {G : Heap → Prop} (B : Begins v ob G) : Meets (Builtin.«enumerate.__new__» ⟨[.type "enumerate", v], []⟩)
      (fun _ R s => G s.heap ∧ R (.ok (.ret (.ref (s.heap.push ob).objs.size)))
        { s with heap := (s.heap.push ob).push (enuO s.heap.objs.size) }) :=
  .of_wp fun P w A R s h => by
    obtain ⟨hp, gl, dd, tk, os⟩ := s
    obtain ⟨g1, h⟩ := h
    have hsub := sub_enumerate
    have starts : ∀ {A' : Around} {E Q : Value → Shared → Prop}, Q (.ref hp.objs.size) ⟨hp.push ob, gl, dd, tk, os⟩ → wpAny (model P w) A' (pyIter v) Q E ⟨hp, gl, dd, tk, os⟩ :=
      fun q => B.iter P w _ _ ⟨hp, gl, dd, tk, os⟩ _ g1 q
    wp_walk using starts
    refine wpAny_stack_any fun st => wpAny_pure ?_
    split
    · rename_i c _ _ _ _ _
      cases (c == Value.type "enumerate") <;> (wp_walk using starts; exact ⟨_, rfl, h⟩)
    · wp_walk using starts
      exact ⟨_, rfl, h⟩
section
variable {P : Program} {w : World} {A : Around} {E : Value → Shared → Prop} {s : Shared}
theorem call_enumT {t : Addr} {its : Array Value} {Q : Value → Shared → Prop} (hT : s.heap.IsTuple t its)
    (h : ∀ h2, IsEnum h2 (s.heap.objs.size + 1) s.heap.objs.size 0 .none → h2.IsTupleIter s.heap.objs.size t 0 → (∀ b o, s.heap.get? b = some o → h2.get? b = some o) → Q (.ref (s.heap.objs.size + 1)) { s with heap := h2 }) :
    wpAny (model P w) A (call (.type "enumerate") [.ref t]) Q E s := by
  have B := begins_tuple t its
  refine callType_new F.called_enumerate (by decide) (F.typeCall_enumerate_1 _) (F.newCall_enumerate_1 _) (fun obj => F.args_object_init_2 obj _) F.entry_enumerate_new (meets_enumT B) ⟨hT, ?_⟩
  generalize hob : ({ cls := .type "tuple_iterator", data := .fields #[.ref t, .int 0 0] } : Obj) = ob at B
  have hz : (s.heap.push ob).objs.size = s.heap.objs.size + 1 := Heap.size_push ..
  show _ ∧ _
  rw [hz]
  have he : IsEnum ((s.heap.push ob).push (enuO s.heap.objs.size)) (s.heap.objs.size + 1) s.heap.objs.size 0 .none := by
    have z := Heap.get?_push_size (s.heap.push ob) (o := enuO s.heap.objs.size) rfl
    rw [hz] at z
    exact z
  refine ⟨⟨_, he, rfl⟩, h _ he ?_ fun b o x => Heap.get?_push_of_some _ (Heap.get?_push_of_some _ x)⟩
  refine ⟨ob, Heap.get?_push_of_some _ (Heap.get?_push_size _ B.free), ?_, ?_⟩ <;> (rw [← hob]; try rfl)
end
/-- the tuple at a, each item in a new pair -/
def Ietu (K : PySem.W.Frag) (a : Addr) : It :=
  ⟨fun i H => ∃ (xs : List V) (x : V), SqT K H a xs ∧ xs[i]? = some x,
   fun i H v H' => ∃ T x, v = .ref T ∧ H T = none ∧ H' = upd H T (.tup [.int (i : Nat), x]) ∧ ∀ xs, SqT K H a xs → xs[i]? = some x,
   fun i H => ∃ xs : List V, SqT K H a xs ∧ xs.length = i⟩
theorem turn_enumT {P : Program} {w : World} {K : PySem.W.Frag} {elts : List Expr} {kk : Nat} {tpos : Pos} (a e it : Addr) :
    Turn P w K (.Tuple elts kk tpos) (Ietu K a) [e, it] e (fun i h => (∃ old, IsEnum h e it ((i : Nat) : Int) old) ∧ h.IsTupleIter it a i ∧ e ≠ it) where
  mem := by simp
  obj := fun i h st b hb => by
    obtain ⟨⟨old, he⟩, ⟨o, ho, hc, hd⟩, _⟩ := st
    rcases (show b = e ∨ b = it by simpa using hb) with rfl | rfl
    · exact ⟨_, he, fun v q => nomatch q⟩
    · exact ⟨o, ho, fun v q => by rw [hd] at q; cases q⟩
  keep := fun i h h' st k => ⟨⟨_, k e (by simp) _ st.1.choose_spec⟩, st.2.1.at fun o q => k it (by simp) o q, st.2.2⟩
  item := by
    intro X hP hw hK hc i pins s σ H E I hf st hg
    subst hP hw hK
    obtain ⟨⟨old, he⟩, hit, hne⟩ := st
    obtain ⟨xs, x, hq, hx⟩ := hg
    obtain ⟨its, rv, p, hz⟩ := I.tuple hq
    obtain ⟨u, hu, ru⟩ := rv.get hx
    have hel : e < s.heap.objs.size := Heap.lt_size he
    have hil : it < s.heap.objs.size := by obtain ⟨_, q, _⟩ := hit; exact Heap.lt_size q
    have tp : s.heap.IsTuple a its.toArray := p
    have hta : a ≠ it := fun z => by
      obtain ⟨o1, q1, c1, _⟩ := hit
      obtain ⟨o2, q2, c2, _⟩ := tp
      rw [z] at q2
      rw [q1] at q2
      cases q2
      rw [c1] at c2
      injection c2 with c3
      exact absurd c3 (by decide)
    have hea : e ≠ a := fun z => by
      obtain ⟨o2, q2, c2, _⟩ := tp
      rw [← z] at q2
      have he2 : s.heap.get? e = some _ := he
      rw [he2] at q2
      cases q2
      injection c2 with c3
      exact absurd c3 (by decide)
    have hui : its.toArray[i]? = some u := by simpa using hu
    have hlt : i < its.toArray.size := (Array.getElem?_eq_some_iff.mp hui).1
    refine wpAny_pyNext_enum_itemC (Draws.tuple (A := X.A.in1) (I.ok.hd hc) it a hta its.toArray) he ⟨hit, tp⟩ hlt hne (by simp [hne, hea]) fun y h' tk hy ho st' hT hsz hk => ?_
    obtain rfl : y = u := Option.some.inj (hy.symm.trans hui)
    obtain ⟨hit', _⟩ := st'
    refine ⟨_, rfl, wpAny_letOwnedTupleGo_enum (s := { s with heap := h', toks := tk + 1 }) ho fun h'' he' sb => ?_⟩
    have hT2 : h''.get? s.heap.objs.size = some { cls := .type "tuple", data := .seq #[.int i tk, y] } := (sb.2 _ (Nat.ne_of_gt hel)).trans hT
    have new : ObjOk X.prog X.w (upd H s.heap.objs.size (.tup [.int (i : Nat), x])) h'' s.heap.objs.size (.tup [.int (i : Nat), x]) := ⟨by show 2 ≤ sizeLine; decide, [.int i tk, y], .cons ⟨_, rfl⟩ (.cons ru .nil), ⟨_, hT2, rfl, _, rfl⟩⟩
    have I1 : Inv X pins σ (upd H s.heap.objs.size (.tup [.int (i : Nat), x])) { s with heap := h'', toks := tk + 1 } :=
      I.turnedNew (ch := [e, it]) (fun b ob hb q => (sb.2 b (fun z => hb (by simp [z]))).trans (hk b ob (fun z => hb (by simp [z])) (fun z => hb (by simp [z])) q)) hf (Nat.le_refl _) new
    refine ⟨.ref s.heap.objs.size, _, I1, rfl, ⟨_, x, rfl, I.hok.fresh (Nat.le_refl _), rfl, fun ys hy => by rw [I.tuple_inj hy hq]; exact hx⟩, ⟨⟨y, ?_⟩, hit'.at fun o q => (sb.2 it (Ne.symm hne)).trans q, hne⟩, fun b hb => ?_⟩
    · rw [show ((i + 1 : Nat) : Int) = (i : Int) + 1 by omega]
      exact he'
    · have hb' : b < s.heap.objs.size := by
        rcases (show b = e ∨ b = it by simpa using hb) with z | z <;> rw [z] <;> assumption
      rw [upd_ne (Nat.ne_of_lt hb')]
      exact (hf b hb).1
  done := by
    intro X hP hw hK hc i pins s σ H E I hf st hg
    subst hP hw hK
    obtain ⟨⟨old, he⟩, hit, hne⟩ := st
    obtain ⟨xs, hq, hx⟩ := hg
    obtain ⟨its, rv, p, hz⟩ := I.tuple hq
    obtain ⟨f0, f1, f2, f3, f4, f5⟩ := hf it (by simp)
    have tp : s.heap.IsTuple a its.toArray := p
    have hl := rv.length
    have hta : a ≠ it := fun z => by
      obtain ⟨o1, q1, c1, _⟩ := hit
      obtain ⟨o2, q2, c2, _⟩ := tp
      rw [z] at q2
      rw [q1] at q2
      cases q2
      rw [c1] at c2
      injection c2 with c3
      exact absurd c3 (by decide)
    have hn : its.toArray.size = i := by simp; omega
    exact wpAny_pyNext_enum_endD (Draws.tuple (A := X.A.in1) (I.ok.hd hc) it a hta its.toArray) he ⟨by rw [hn]; exact hit, tp⟩ fun h' eb => ⟨rfl, I.turned (t' := s.toks) (fun b o hb q => eb b o hb q) f0 f1 f3 f4 f5⟩
  self := fun A i s Q E st h => let ⟨⟨_, he⟩, _⟩ := st; wpAny_pyIter_enum he h
def iEnuT (K : PySem.W.Frag) (ta : TA) : TI := fun σ H R => ta σ H fun vs H1 => ∃ a xs, vs = [.ref a] ∧ SqT K H1 a xs ∧ R (Ietu K a) H1
theorem pi_enumT {X : Cx} {e : Expr} {ta : TA} {p pos tpos : Pos} {elts : List Expr} {kk : Nat} (hg : Gl X "enumerate") (hm : X.mg "enumerate" = none) (ha : PA X [e] ta) (hs : starEach [e] X.env = [(false, eval e X.env)] := by rfl) :
    PI X (.Tuple elts kk tpos) (.Call (.Name "enumerate" p) [e] [] pos) (iEnuT X.K ta) := by
  refine ⟨fun pins s σ H R I h => Call_ (ld_blt I hg hm boot_enumerate (PyProof.Rows.callWith_type1 (thn (ha.run pos pins s σ H _ I h) fun us s1 ⟨vs, H1, I1, r1, a, xs, ex, hq, q⟩ => ?_) hs rfl))⟩
  subst ex
  obtain ⟨u, rfl, r⟩ : ∃ u, us = [u] ∧ RelV (.ref a) u := by
    cases r1 with
    | cons r rr => cases rr; exact ⟨_, rfl, r⟩
  cases r
  obtain ⟨its, rv, tp, hz⟩ := I1.tuple hq
  refine call_enumT tp fun h2 he hit hk => wpAny_pyIter_enum he ?_
  refine ⟨s1.heap.objs.size + 1, [s1.heap.objs.size + 1, s1.heap.objs.size], _, _, H1, rfl, I1.kept (t' := s1.toks) hk, turn_enumT a (s1.heap.objs.size + 1) s1.heap.objs.size, ⟨⟨.none, he⟩, hit, Nat.succ_ne_self _⟩, fun b hb => ?_, q⟩
  have hle : s1.heap.objs.size ≤ b := by
    rcases (show b = s1.heap.objs.size + 1 ∨ b = s1.heap.objs.size by simpa using hb) with z | z <;> rw [z]
    · exact Nat.le_add_right _ _
    · exact Nat.le_refl _
  exact I1.fpOk hle (I1.hok.fresh hle)
/-! as data -/
theorem wk_enumT {K : PySem.W.Frag} {a : Addr} {vs : List V} {ds : List PyData} (hl : vs.length = ds.length) : Walk (Ietu K a) ds.length (fun H => SqT K H a vs ∧ DpAll K H vs ds) (YD K (enumD 0 ds)) := by
  refine ⟨fun i H hi g => ⟨vs, vs[i], g.1, by simp [hl, hi]⟩, fun H g => ⟨vs, g.1, hl⟩, fun i H v H' hi g y => ?_⟩
  obtain ⟨T, x, h1, h2, h3, h4⟩ := y
  refine yd_pair (xs := fun i => some (.int (i : Nat))) (ys := fun i => vs[i]?) (f := fun i => some (.int ((i : Nat) : Int))) (g := fun i => ds[i]?) (fun i p hp => ?_) ⟨T, .int (i : Nat), x, h1, h2, h3, rfl, h4 vs g.1⟩ (fun d v hd hv => ?_) fun d v hd hv => ?_
  · rw [enumD_get] at hp
    cases hd : ds[i]? with
    | none => rw [hd] at hp; cases hp
    | some d =>
      rw [hd] at hp
      cases hp
      exact ⟨_, d, rfl, rfl, by rw [Nat.zero_add]⟩
  · cases hd; cases hv; exact .int _
  · obtain ⟨w', q1, q2⟩ := dpa_get g.2 hd
    have hv : vs[i]? = some v := hv
    rw [hv] at q1; cases q1; exact q2
theorem wk_enumL {K : PySem.W.Frag} {a : Addr} {vs : List V} {ds : List PyData} (hl : vs.length = ds.length) : Walk (Ite K a) ds.length (fun H => SqL K H a vs ∧ DpAll K H vs ds) (YD K (enumD 0 ds)) := by
  refine ⟨fun i H hi g => ⟨vs, vs[i], g.1, by simp [hl, hi]⟩, fun H g => ⟨vs, g.1, by omega⟩, fun i H v H' hi g y => ?_⟩
  obtain ⟨T, x, h1, h2, h3, h4⟩ := y
  refine yd_pair (xs := fun i => some (.int (i : Nat))) (ys := fun i => vs[i]?) (f := fun i => some (.int ((i : Nat) : Int))) (g := fun i => ds[i]?) (fun i p hp => ?_) ⟨T, .int (i : Nat), x, h1, h2, h3, rfl, h4 vs g.1⟩ (fun d v hd hv => ?_) fun d v hd hv => ?_
  · rw [enumD_get] at hp
    cases hd : ds[i]? with
    | none => rw [hd] at hp; cases hp
    | some d =>
      rw [hd] at hp
      cases hp
      exact ⟨_, d, rfl, rfl, by rw [Nat.zero_add]⟩
  · cases hd; cases hv; exact .int _
  · obtain ⟨w', q1, q2⟩ := dpa_get g.2 hd
    have hv : vs[i]? = some v := hv
    rw [hv] at q1; cases q1; exact q2
section
variable {X : Cx} {H0 : Hp} {δ : DSl} {e : Expr} {pos p tpos : Pos} {ds : List PyData} {elts : List Expr} {kk : Nat}
theorem dwk_enumT (hg : Gl X "enumerate") (hm : X.mg "enumerate" = none) (ha : DA X H0 δ [e] [.tuple ds]) (hn : noLs ds = true) (hs : starEach [e] X.env = [(false, eval e X.env)] := by rfl) : DWk X H0 δ (.Tuple elts kk tpos) (.Call (.Name "enumerate" p) [e] [] pos) (enumD 0 ds) := by
  refine ⟨_, pi_enumT hg hm pa_w hs, fun σ H S R q => ?_⟩
  refine ha σ H S _ fun vs H1 e1 k1 => ?_
  obtain ⟨v, rfl, k2⟩ := dpa1 k1
  obtain ⟨pp, vs, rfl, h3, h4⟩ := dp_tup k2
  exact ⟨pp, vs, rfl, h3, q _ H1 (fun H => SqT X.K H pp vs ∧ DpAll X.K H vs ds) e1 (by rw [enumD_length]; exact wk_enumT (dpa_len h4)) ⟨h3, h4⟩ fun H' _ tx => ⟨rd_seqT tx h3, dpa_tx tx _ _ hn h4⟩⟩
theorem dwc_enumL (hg : Gl X "enumerate") (hm : X.mg "enumerate" = none) (ha : DA X H0 δ [e] [.list ds]) (hs : starEach [e] X.env = [(false, eval e X.env)] := by rfl) : DWc X H0 δ (.Tuple elts kk tpos) (.Call (.Name "enumerate" p) [e] [] pos) (enumD 0 ds) := by
  refine ⟨_, pi_enum hg hm pa_w hs, fun σ H S R q => ?_⟩
  refine ha σ H S _ fun vs H1 e1 k1 => ?_
  obtain ⟨v, rfl, k2⟩ := dpa1 k1
  obtain ⟨pp, vs, rfl, h3, h4⟩ := dp_lst k2
  exact ⟨pp, vs, rfl, h3, q _ H1 (fun H => SqL X.K H pp vs ∧ DpAll X.K H vs ds) e1 (by rw [enumD_length]; exact wk_enumL (dpa_len h4)) ⟨h3, h4⟩ fun H' ex => ⟨Evl.ex_l ex h3, h4.up ex⟩⟩
end
end RS
set_option linter.all false
/-! the walk's mathematics: one step, many steps, reversibility -/
namespace RM
abbrev Fn := Nat → Rat
/-- the rates of n rungs -/
structure Rt where
  n : Nat
  u : Fn
  s : Fn
  d : Fn
structure Rt.Good (R : Rt) : Prop where
  lo : 1 ≤ R.n
  hi : R.n ≤ 5
  bu : ∀ i, Bd 840 840 (R.u i)
  bs : ∀ i, Bd 840 840 (R.s i)
  bd : ∀ i, Bd 840 840 (R.d i)
  u0 : ∀ i, 0 ≤ R.u i
  s0 : ∀ i, 0 ≤ R.s i
  d0 : ∀ i, 0 ≤ R.d i
  one : ∀ i, i < R.n → R.u i + R.s i + R.d i = 1
  dz : R.d 0 = 0
  dp : ∀ i, 0 < i → i < R.n → 0 < R.d i
  up : ∀ i, i + 1 < R.n → 0 < R.u i
def addAt (f : Fn) (i : Nat) (x : Rat) : Fn := fun j => if j = i then f j + x else f j
/-- what the first k rungs give -/
def part (R : Rt) (q : Fn) (k : Nat) : Fn := fun j => (if j < k then q j * R.s j else 0) + (if 1 ≤ j ∧ j ≤ k then q (j - 1) * R.u (j - 1) else 0) + (if j + 1 < k then q (j + 1) * R.d (j + 1) else 0)
def stp (R : Rt) (q : Fn) : Fn := fun j => part R q R.n j + (if j = R.n then q R.n else 0)
theorem part_zero (R : Rt) (q : Fn) : part R q 0 = fun _ => 0 := by
  funext j
  unfold part
  have h2 : ¬ (1 ≤ j ∧ j ≤ 0) := by omega
  rw [if_neg (by omega), if_neg h2, if_neg (by omega)]
  grind
def turnP (R : Rt) (q : Fn) (k : Nat) (f : Fn) : Fn := let g := addAt (addAt f k (q k * R.s k)) (k + 1) (q k * R.u k); if 0 < k then addAt g (k - 1) (q k * R.d k) else g
theorem part_succ (R : Rt) (q : Fn) (k : Nat) : turnP R q k (part R q k) = part R q (k + 1) := by
  funext j
  unfold turnP addAt part
  by_cases h0 : 0 < k
  · simp only [h0, if_true]
    by_cases h1 : j = k
    · subst h1
      have a1 : ¬ j = j - 1 := by omega
      have a2 : ¬ j = j + 1 := by omega
      have a3 : ¬ j < j := by omega
      have a4 : j < j + 1 := by omega
      have a5 : ¬ j + 1 < j := by omega
      have a6 : ¬ j + 1 < j + 1 := by omega
      have a7 : 1 ≤ j ∧ j ≤ j := by omega
      have a8 : 1 ≤ j ∧ j ≤ j + 1 := by omega
      simp only [a1, a2, a3, a4, a5, a6, a7, a8, if_true, if_false]
      grind
    · by_cases h2 : j = k + 1
      · subst h2
        have a1 : ¬ k + 1 = k - 1 := by omega
        have a2 : ¬ k + 1 = k := by omega
        have a3 : ¬ k + 1 < k := by omega
        have a4 : ¬ k + 1 < k + 1 := by omega
        have a5 : ¬ k + 1 + 1 < k := by omega
        have a6 : ¬ k + 1 + 1 < k + 1 := by omega
        have a7 : ¬ (1 ≤ k + 1 ∧ k + 1 ≤ k) := by omega
        have a8 : 1 ≤ k + 1 ∧ k + 1 ≤ k + 1 := by omega
        have a9 : k + 1 - 1 = k := by omega
        simp only [a1, a2, a3, a4, a5, a6, a7, a8, a9, if_true, if_false]
        grind
      · by_cases h3 : j = k - 1
        · subst h3
          have a3 : k - 1 < k := by omega
          have a4 : k - 1 < k + 1 := by omega
          have a5 : ¬ k - 1 + 1 < k := by omega
          have a6 : k - 1 + 1 < k + 1 := by omega
          have a9 : k - 1 + 1 = k := by omega
          have a7 : (1 ≤ k - 1 ∧ k - 1 ≤ k) ↔ (1 ≤ k - 1 ∧ k - 1 ≤ k + 1) := by omega
          simp only [h1, h2, a3, a4, a5, a6, a7, a9, if_true, if_false]
          grind
        · have a3 : (j < k + 1) ↔ (j < k) := by omega
          have a4 : (j + 1 < k + 1) ↔ (j + 1 < k) := by omega
          have a5 : (1 ≤ j ∧ j ≤ k + 1) ↔ (1 ≤ j ∧ j ≤ k) := by omega
          simp only [h1, h2, h3, a3, a4, a5, if_false]
  · have hk : k = 0 := by omega
    subst hk
    simp only [show ¬ (0 < 0) by omega, if_false]
    by_cases h1 : j = 0
    · subst h1
      (try simp) <;> grind
    · by_cases h2 : j = 1
      · subst h2
        (try simp) <;> grind
      · have a3 : ¬ j < 0 + 1 := by omega
        have a5 : ¬ (1 ≤ j ∧ j ≤ 0 + 1) := by omega
        have a6 : ¬ (1 ≤ j ∧ j ≤ 0) := by omega
        have a7 : ¬ j + 1 < 0 + 1 := by omega
        have a8 : ¬ j = 0 + 1 := by omega
        simp only [h1, a8, a3, a5, a6, a7, if_false]
        (try simp) <;> grind
theorem stp_P (R : Rt) (q : Fn) : addAt (part R q R.n) R.n (q R.n) = stp R q := by
  funext j
  unfold addAt stp
  by_cases h : j = R.n
  · simp only [h, if_true]
  · simp only [h, if_false]
    grind
/-- the law's order -/
def turnL (R : Rt) (q : Fn) (k : Nat) (f : Fn) : Fn := let g := addAt (addAt f (k + 1) (q k * R.u k)) k (q k * R.s k); if 0 < k then addAt g (k - 1) (q k * R.d k) else g
def lost (R : Rt) (q : Fn) : Fn := fun j => if j = R.n then q R.n else 0
theorem addAt_comm (f : Fn) (i j : Nat) (x y : Rat) : addAt (addAt f i x) j y = addAt (addAt f j y) i x := by
  funext l
  unfold addAt
  by_cases h1 : l = i <;> by_cases h2 : l = j <;> simp only [h1, h2, if_true, if_false] <;> grind
theorem addAt_add (f g : Fn) (i : Nat) (x : Rat) : addAt (fun j => f j + g j) i x = fun j => addAt f i x j + g j := by
  funext l
  unfold addAt
  by_cases h1 : l = i <;> simp only [h1, if_true, if_false]
  grind
theorem turnL_P (R : Rt) (q : Fn) (k : Nat) (f : Fn) : turnL R q k f = turnP R q k f := by
  unfold turnL turnP
  rw [addAt_comm]
theorem turnP_add (R : Rt) (q : Fn) (k : Nat) (f g : Fn) : turnP R q k (fun j => f j + g j) = fun j => turnP R q k f j + g j := by
  unfold turnP
  by_cases h : 0 < k
  · simp only [h, if_true]
    rw [addAt_add, addAt_add, addAt_add]
  · simp only [h, if_false]
    rw [addAt_add, addAt_add]
def partL (R : Rt) (q : Fn) (k : Nat) : Fn := fun j => part R q k j + lost R q j
theorem partL_zero (R : Rt) (q : Fn) : partL R q 0 = lost R q := by
  funext j
  unfold partL
  rw [part_zero]
  grind
theorem partL_succ (R : Rt) (q : Fn) (k : Nat) : turnL R q k (partL R q k) = partL R q (k + 1) := by
  rw [turnL_P]
  unfold partL
  rw [turnP_add, part_succ]
theorem stp_L (R : Rt) (q : Fn) : partL R q R.n = stp R q := rfl
/-! many steps -/
def e1 (i : Nat) : Fn := fun j => if i = j then 1 else 0
def its (R : Rt) (q : Fn) : Nat → Fn
  | 0 => q
  | m + 1 => stp R (its R q m)
def Am (R : Rt) (m i : Nat) : Fn := its R (e1 i) m
/-! linearity -/
theorem part_lin (R : Rt) (a b : Rat) (f g : Fn) (k : Nat) : part R (fun j => a * f j + b * g j) k = fun j => a * part R f k j + b * part R g k j := by
  funext j
  unfold part
  by_cases h1 : j < k <;> by_cases h2 : (1 ≤ j ∧ j ≤ k) <;> by_cases h3 : j + 1 < k <;> simp only [h1, h2, h3, if_true, if_false] <;> grind
theorem stp_lin (R : Rt) (a b : Rat) (f g : Fn) : stp R (fun j => a * f j + b * g j) = fun j => a * stp R f j + b * stp R g j := by
  funext j
  unfold stp
  rw [part_lin]
  by_cases h : j = R.n <;> simp only [h, if_true, if_false] <;> grind
theorem its_lin (R : Rt) (a b : Rat) (f g : Fn) : ∀ m, its R (fun j => a * f j + b * g j) m = fun j => a * its R f m j + b * its R g m j
  | 0 => rfl
  | m + 1 => by
    unfold its
    rw [its_lin R a b f g m, stp_lin]
theorem its_shift (R : Rt) (q : Fn) : ∀ m, its R q (m + 1) = its R (stp R q) m
  | 0 => rfl
  | m + 1 => by
    show stp R (its R q (m + 1)) = stp R (its R (stp R q) m)
    rw [its_shift R q m]
theorem stp_e1 (R : Rt) (i : Nat) (h : i < R.n) : stp R (e1 i) = fun j => R.s i * e1 i j + 1 * (R.u i * e1 (i + 1) j + (if 0 < i then R.d i else 0) * e1 (i - 1) j) := by
  funext j
  unfold stp part e1
  by_cases h1 : i = j
  · subst h1
    have a1 : ¬ i = R.n := by omega
    have a2 : ¬ i + 1 = i := by omega
    have a3 : i = i - 1 ↔ ¬ 0 < i := by omega
    by_cases h0 : 0 < i
    · have a3 : ¬ i = i - 1 := by omega
      have a4 : ¬ i - 1 = i := by omega
      have a5 : ¬ i = i + 1 := by omega
      have a6 : 1 ≤ i ∧ i ≤ R.n := by omega
      simp only [h, h0, a1, a2, a3, a4, a5, a6, if_true, if_false]
      grind
    · have : i = 0 := by omega
      subst this
      have a6 : ¬ (0 : Nat) = R.n := by omega
      simp only [h, a6, if_true, if_false]
      (try simp) <;> grind
  · by_cases h2 : j = i + 1
    · subst h2
      have a6 : 1 ≤ i + 1 ∧ i + 1 ≤ R.n := by omega
      have a7 : i + 1 - 1 = i := by omega
      have a8 : ¬ i = i + 1 := by omega
      have a9 : ¬ i = i + 1 + 1 := by omega
      have b1 : ¬ i - 1 = i + 1 := by omega
      have b2 : ¬ i = R.n := by omega
      simp only [a6, a7, a8, a9, b1, b2, if_true, if_false]
      (try simp) <;> grind
    · by_cases h3 : 0 < i ∧ j = i - 1
      · obtain ⟨h3, rfl⟩ := h3
        have a1 : ¬ i = i - 1 := by omega
        have a2 : i - 1 + 1 = i := by omega
        have a3 : ¬ i = i - 1 - 1 := by omega
        have a4 : ¬ i + 1 = i - 1 := by omega
        have a5 : ¬ i - 1 = R.n := by omega
        simp only [h, h3, a1, a2, a3, a4, a5, if_true, if_false]
        grind
      · have a1 : ¬ (1 ≤ j ∧ j ≤ R.n ∧ i = j - 1) := by omega
        have a2 : ¬ (j + 1 < R.n ∧ i = j + 1) := by omega
        have a3 : ¬ i + 1 = j := by omega
        have a4 : ¬ (0 < i ∧ i - 1 = j) := by omega
        have a5 : ¬ i = R.n := by omega
        grind
theorem Am_fwd (R : Rt) (m i j : Nat) : Am R (m + 1) i j = stp R (Am R m i) j := rfl
theorem Am_bwd (R : Rt) (m i j : Nat) (h : i < R.n) : Am R (m + 1) i j = R.s i * Am R m i j + (R.u i * Am R m (i + 1) j + (if 0 < i then R.d i else 0) * Am R m (i - 1) j) := by
  unfold Am
  rw [its_shift, stp_e1 R i h, its_lin, its_lin]
  grind
theorem Am_lost (R : Rt) : ∀ (m j : Nat), j < R.n → Am R m R.n j = 0
  | 0, j, h => by
    show (if R.n = j then (1 : Rat) else 0) = 0
    rw [if_neg (by omega)]
  | m + 1, j, h => by
    rw [Am_fwd]
    unfold stp part
    rw [if_neg (show ¬ j = R.n by omega)]
    by_cases h1 : j + 1 < R.n
    · rw [Am_lost R m (j + 1) h1, Am_lost R m j h]
      by_cases h2 : 1 ≤ j ∧ j ≤ R.n
      · rw [Am_lost R m (j - 1) (by omega)]
        (try simp) <;> grind
      · rw [if_neg h2]
        (try simp) <;> grind
    · rw [if_neg h1, Am_lost R m j h]
      by_cases h2 : 1 ≤ j ∧ j ≤ R.n
      · rw [Am_lost R m (j - 1) (by omega)]
        (try simp) <;> grind
      · rw [if_neg h2]
        (try simp) <;> grind
def wt (R : Rt) : Fn
  | 0 => 1
  | i + 1 => wt R i * R.u i / R.d (i + 1)
theorem wt_step (R : Rt) (g : R.Good) (i : Nat) (h : i + 1 < R.n) : wt R (i + 1) * R.d (i + 1) = wt R i * R.u i := by
  have h1 : R.d (i + 1) ≠ 0 := by
    have := g.dp (i + 1) (by omega) h
    intro z
    rw [z] at this
    exact absurd this (by decide)
  show wt R i * R.u i / R.d (i + 1) * R.d (i + 1) = _
  rw [Rat.div_mul_cancel h1]
theorem balance (R : Rt) (g : R.Good) : ∀ (m i j : Nat), i < R.n → j < R.n → wt R i * Am R m i j = wt R j * Am R m j i
  | 0, i, j, hi, hj => by
    show wt R i * (if i = j then 1 else 0) = wt R j * (if j = i then 1 else 0)
    by_cases h : i = j
    · subst h; rfl
    · rw [if_neg h, if_neg fun z => h z.symm, Rat.mul_zero, Rat.mul_zero]
  | m + 1, i, j, hi, hj => by
    rw [Am_fwd, Am_bwd R m j i hj]
    unfold stp part
    have b0 := balance R g m i j hi hj
    have hjn : ¬ j = R.n := by omega
    simp only [hj, hjn, if_true, if_false]
    have e1 : wt R i * (if 1 ≤ j ∧ j ≤ R.n then Am R m i (j - 1) * R.u (j - 1) else 0) = wt R j * ((if 0 < j then R.d j else 0) * Am R m (j - 1) i) := by
      by_cases h : 0 < j
      · have h' : 1 ≤ j ∧ j ≤ R.n := by omega
        simp only [h, h', and_self, if_true]
        have b1 := balance R g m i (j - 1) hi (by omega)
        have w1 := wt_step R g (j - 1) (by omega)
        rw [show j - 1 + 1 = j by omega] at w1
        grind
      · have h' : ¬ (1 ≤ j ∧ j ≤ R.n) := by omega
        simp only [h, h', if_false]
        grind
    have e2 : wt R i * (if j + 1 < R.n then Am R m i (j + 1) * R.d (j + 1) else 0) = wt R j * (R.u j * Am R m (j + 1) i) := by
      by_cases h : j + 1 < R.n
      · simp only [h, if_true]
        have b1 := balance R g m i (j + 1) hi h
        have w1 := wt_step R g j h
        grind
      · have : j + 1 = R.n := by omega
        simp only [h, if_false]
        rw [this, Am_lost R m i hi]
        grind
    grind
end RM
namespace RM
/-! bounds -/
theorem Bd.zero {D B : Nat} : Bd D B 0 := ⟨0, by rw [Rat.zero_mul]; rfl, Nat.zero_le _⟩
theorem Bd.one : Bd 1 1 1 := ⟨1, by simp, by decide⟩
theorem Bd.neg {D B : Nat} {q : Rat} (h : Bd D B q) : Bd D B (-q) := by
  obtain ⟨X, h1, h2⟩ := h
  exact ⟨-X, by rw [Rat.neg_mul, h1, Rat.intCast_neg], by omega⟩
theorem bd_ite {c : Prop} [Decidable c] {D B : Nat} {q : Rat} (h : Bd D B q) : Bd D B (if c then q else 0) := by
  by_cases hc : c
  · rw [if_pos hc]; exact h
  · rw [if_neg hc]; exact .zero
theorem part_bd {R : Rt} (g : R.Good) {D B : Nat} {q : Fn} (hq : ∀ i, Bd D B (q i)) (k j : Nat) : Bd (D * 840) (3 * (B * 840)) (part R q k j) := by
  have h := ((bd_ite (c := j < k) ((hq j).mul (g.bs j))).add (bd_ite (c := 1 ≤ j ∧ j ≤ k) ((hq (j - 1)).mul (g.bu (j - 1))))).add (bd_ite (c := j + 1 < k) ((hq (j + 1)).mul (g.bd (j + 1))))
  exact h.mono (by omega)
theorem stp_bd {R : Rt} (g : R.Good) {D B : Nat} {q : Fn} (hq : ∀ i, Bd D B (q i)) (j : Nat) : Bd (D * 840) (B * 3360) (stp R q j) := by
  have h := (part_bd g hq R.n j).add (bd_ite (c := j = R.n) ((hq R.n).scale 840))
  exact h.mono (by omega)
theorem Am_bd {R : Rt} (g : R.Good) (i : Nat) : ∀ m j, Bd (840 ^ m) (3360 ^ m) (Am R m i j)
  | 0, j => bd_ite .one
  | m + 1, j => by
    rw [Nat.pow_succ, Nat.pow_succ]
    exact stp_bd g (Am_bd g i m) j
end RM
set_option Elab.async false
set_option linter.all false
set_option maxRecDepth 100000
set_option maxHeartbeats 4000000
/-! part G: lists joined and repeated; vectors of fractions -/
namespace RS
open PySem PySem.Spec PyProof.Rows L2 RM
/-- e is a list, no matter whose -/
def DO (X : Cx) (H0 : Hp) (δ : DSl) (e : Expr) (ds : List PyData) : Prop := ∀ σ H, Sl X.K H0 H σ δ → ∀ Q : VK, (∀ p H' vs, Ex H H' → H' p = some (.lst vs) → DpAll X.K H' vs ds → Q (.ref p) H') → WE X e σ H Q
section
variable {X : Cx} {E : XK} {H0 : Hp} {δ : DSl} {e a b c : Expr} {d x y : PyData} {pos p : Pos} {ds es : List PyData}
theorem DL.o (h : DL X H0 δ e ds) : DO X H0 δ e ds := fun σ H S Q q => h σ H S Q fun p H' vs _ e1 h1 h2 => q p H' vs e1 h1 h2
theorem DO.de (h : DO X H0 δ e ds) : DE X H0 δ e (.list ds) := fun σ H S Q q => h σ H S Q fun p H' vs e1 h1 h2 => q _ H' e1 (.lst (SqL.of h1) h2)
theorem do_ow {i : Nat} {z : Str} (hN : X.N[i]? = some z) (hv : Vis X.env.scope z) (h : δ[i]? = some (some (.ow ds))) (hd : (z == ("__debug__" : Str)) = false := by decide) (hcd : (z == ("__classdict__" : Str)) = false := by decide) : DO X H0 δ (.Name z pos) ds := fun σ H S Q q => by
  obtain ⟨v, h1, pp, vs, rfl, _, h3, h4, _⟩ := S.at_ i _ h
  exact we_of (pe_var hN hv hd hcd) ⟨_, h1, q pp H vs .rfl h3 h4⟩
theorem dl_rep {k : Int} {n : Nat} (ha : DO X H0 δ a ds) (hb : DE X H0 δ b (.int k)) (hk : k = n) (hz : ds.length * n ≤ 1000) (hz2 : n ≤ 1000) : DL X H0 δ (.BinOp a .Mult b pos) (List.replicate n ds).flatten := fun σ H S Q q =>
  we_of (pe_op op_rep pe_w pe_w) (ha σ H S _ fun pp H1 vs e1 h1 h2 => hb σ H1 (S.up e1) _ fun u H2 e2 d2 => by
    cases d2
    have hb1 : k < 2 ^ 63 := by have : (1000 : Int) < 2 ^ 63 := by decide
                                omega
    have hb2 : -(2 ^ 63) ≤ k := by have : -(2 ^ 63) ≤ (0 : Int) := by decide
                                   omega
    refine ⟨pp, k, vs, rfl, rfl, e2 _ _ h1, hb2, hb1, ?_, fun pn hp => ?_⟩
    · have : k.toNat = n := by omega
      rw [this, dpa_len h2]
      exact Evl.sz_of (by omega)
    · have e3 : Ex H2 (upd H2 pn (.lst (List.replicate k.toNat vs).flatten)) := Evl.Ex.new hp
      refine q pn _ _ (Evl.fresh_back (e1.trans e2) hp) ((e1.trans e2).trans e3) upd_same ?_
      have hn : k.toNat = n := by omega
      rw [hn]
      have aux : ∀ m : Nat, DpAll X.K H1 (List.replicate m vs).flatten (List.replicate m ds).flatten := fun m => by
        induction m with
        | zero => exact .nil
        | succ m ih =>
          rw [List.replicate_succ, List.replicate_succ, List.flatten_cons, List.flatten_cons]
          exact dpa_app h2 ih
      rw [hn] at e3
      exact (aux n).up (e2.trans e3))
theorem dl_cat (ha : DO X H0 δ a ds) (hb : DO X H0 δ b es) (hz : ds.length + es.length ≤ 1000) : DL X H0 δ (.BinOp a .Add b pos) (ds ++ es) := fun σ H S Q q =>
  we_of (pe_op op_cat pe_w pe_w) (ha σ H S _ fun pp H1 vs e1 h1 h2 => hb σ H1 (S.up e1) _ fun pq H2 ws e2 k1 k2 => by
    refine ⟨pp, pq, vs, ws, rfl, rfl, e2 _ _ h1, k1, ?_, fun pn hp => ?_⟩
    · rw [dpa_len h2, dpa_len k2]
      exact Evl.sz_of (by omega)
    · have e3 : Ex H2 (upd H2 pn (.lst (vs ++ ws))) := Evl.Ex.new hp
      exact q pn _ _ (Evl.fresh_back (e1.trans e2) hp) ((e1.trans e2).trans e3) upd_same (dpa_app (h2.up (e2.trans e3)) (k2.up e3)))
end
/-! ### vectors -/
def VF (f : Fn) (n : Nat) : List PyData := (List.range n).map fun i => FQ (f i)
theorem vf_len {f : Fn} {n : Nat} : (VF f n).length = n := by simp [VF]
theorem vf_get {f : Fn} {n i : Nat} (h : i < n) : (VF f n)[i]? = some (FQ (f i)) := by
  unfold VF
  rw [List.getElem?_map, List.getElem?_range h]
  rfl
theorem vf_at {f : Fn} {n i : Nat} (h : i < n) : atI (VF f n) (i : Int) = some (FQ (f i)) := atI_nat (vf_get h)
theorem vf_noL {f : Fn} {n : Nat} : noLs (VF f n) = true := noLs_all.mpr fun d hd => by
  obtain ⟨q, _, rfl⟩ := List.mem_map.mp hd
  exact noL_FQ
theorem vf_ext {f g : Fn} {n : Nat} (h : ∀ i, i < n → f i = g i) : VF f n = VF g n := by
  unfold VF
  apply List.map_congr_left
  intro i hi
  rw [h i (List.mem_range.mp hi)]
theorem vf_set {f g : Fn} {n i : Nat} {x : Rat} (h1 : g i = x) (h2 : ∀ j, j ≠ i → g j = f j) : (VF f n).set i (FQ x) = VF g n := by
  apply List.ext_getElem?
  intro j
  rw [List.getElem?_set, vf_len]
  by_cases hj : j < n
  · by_cases h : i = j
    · subst h
      rw [if_pos rfl, if_pos hj, vf_get hj, h1]
    · rw [if_neg h, vf_get hj, vf_get hj, h2 j (fun z => h z.symm)]
  · have e1 : (VF g n)[j]? = none := List.getElem?_eq_none (by rw [vf_len]; omega)
    have e2 : (VF f n)[j]? = none := List.getElem?_eq_none (by rw [vf_len]; omega)
    rw [e1, e2]
    by_cases h : i = j
    · subst h
      rw [if_pos rfl, if_neg hj]
    · rw [if_neg h]
theorem vf_add {f : Fn} {n i : Nat} {x : Rat} : (VF f n).set i (FQ (f i + x)) = VF (addAt f i x) n := vf_set (by unfold addAt; rw [if_pos rfl]) fun j hj => by unfold addAt; rw [if_neg hj]
theorem vf_rep {q : Rat} : ∀ n : Nat, (List.replicate n [FQ q]).flatten = VF (fun _ => q) n := fun n => by
  apply List.ext_getElem?
  intro j
  have e : (List.replicate n [FQ q]).flatten = List.replicate n (FQ q) := by
    induction n with
    | zero => rfl
    | succ n ih => rw [List.replicate_succ, List.flatten_cons, ih, List.replicate_succ]; rfl
  rw [e]
  by_cases h : j < n
  · rw [vf_get h, List.getElem?_replicate, if_pos h]
  · rw [List.getElem?_replicate, if_neg h, List.getElem?_eq_none (by rw [vf_len]; omega)]
theorem vf_snoc {f : Fn} {n : Nat} : VF f n ++ [FQ (f n)] = VF f (n + 1) := by
  unfold VF
  rw [List.range_succ, List.map_append]
  rfl
/-- the rates' data -/
def RTd (R : Rt) : PyData := .tuple ((List.range R.n).map fun i => RD (R.u i) (R.s i) (R.d i))
def RTl (R : Rt) : List PyData := (List.range R.n).map fun i => RD (R.u i) (R.s i) (R.d i)
theorem rtl_len {R : Rt} : (RTl R).length = R.n := by simp [RTl]
theorem rtl_get {R : Rt} {i : Nat} (h : i < R.n) : (RTl R)[i]? = some (RD (R.u i) (R.s i) (R.d i)) := by
  unfold RTl
  rw [List.getElem?_map, List.getElem?_range h]
  rfl
theorem noL_RD {u s d : Rat} : noL (RD u s d) = true := by simp [RD, noL, noLs, FQ, FI]
theorem rtl_noL {R : Rt} : noLs (RTl R) = true := noLs_all.mpr fun d hd => by
  obtain ⟨q, _, rfl⟩ := List.mem_map.mp hd
  exact noL_RD
theorem bd_lt {D B : Nat} {q : Rat} (h : Bd D B q) (hD : 0 < D) {n : Nat} (h1 : D < 2 ^ n) (h2 : B < 2 ^ n) : Szn n q := let ⟨a, b⟩ := h.size hD; ⟨Nat.lt_of_le_of_lt a h2, Nat.lt_of_le_of_lt b h1⟩
theorem rate_szn {q : Rat} (h : Bd 840 840 q) : Szn 10 q := bd_lt h (by decide) (by decide) (by decide)
theorem okD_FQ {q : Rat} (h : Szn 250 q) : okD (FQ q) = true := by
  unfold FQ FI
  simp only [okD, okDs, Bool.and_eq_true, decide_eq_true_eq, den_na]
  exact ⟨by simp, h.1, h.2, trivial⟩
theorem okD_RD {u s d : Rat} (h1 : Szn 250 u) (h2 : Szn 250 s) (h3 : Szn 250 d) : okD (RD u s d) = true := by
  unfold RD
  simp only [okD, okDs, Bool.and_eq_true, decide_eq_true_eq, okD_FQ h1, okD_FQ h2, okD_FQ h3]
  exact ⟨by simp, trivial, trivial, trivial, trivial⟩
theorem tpl_rt {R : Rt} (g : R.Good) : Tpl (RTd R) := by
  refine Tpl.of ?_
  show okD (.tuple (RTl R)) = true
  simp only [okD, Bool.and_eq_true, decide_eq_true_eq, rtl_len]
  refine ⟨by have := g.hi; omega, okDs_all.mpr fun d hd => ?_⟩
  obtain ⟨i, _, rfl⟩ := List.mem_map.mp hd
  exact okD_RD ((rate_szn (g.bu i)).mono (by decide)) ((rate_szn (g.bs i)).mono (by decide)) ((rate_szn (g.bd i)).mono (by decide))
theorem isRung_RD {u s d : Rat} (h1 : 0 ≤ u) (h2 : 0 ≤ s) (h3 : 0 ≤ d) (h : u + s + d = 1) : isRung (RD u s d) = true := by
  show (([FQ u, FQ s, FQ d].all isF) && (!([FQ u, FQ s, FQ d].any fun x => decide (toQ x < 0)) && decide (toQ (FQ u) + toQ (FQ s) + toQ (FQ d) = 1))) = true
  rw [toQ_FQ, toQ_FQ, toQ_FQ, decide_eq_true h]
  simp only [List.all_cons, List.all_nil, List.any_cons, List.any_nil, isF_q, toQ_FQ, Bool.and_true, Bool.or_false, Bool.true_and]
  rw [decide_eq_false (Rat.not_lt.mpr h1), decide_eq_false (Rat.not_lt.mpr h2), decide_eq_false (Rat.not_lt.mpr h3)]
  rfl
theorem rat_ne {q : Rat} (h : 0 < q) : zer q = false := decide_eq_false fun z => by rw [z] at h; exact absurd h (by decide)
theorem areRates_good {R : Rt} (g : R.Good) : areRates (RTd R) = true := by
  show (((decide (1 ≤ ((RTl R).length : Int)) && decide (((RTl R).length : Int) ≤ 5)) && (RTl R).all isRung) && ((zer (dn3 ((RTl R).headD .none)) && !(((RTl R).drop 1).any fun x => zer (dn3 x))) && !(((RTl R).dropLast).any fun x => zer (up3 x)))) = true
  have h1 := g.lo
  have h2 := g.hi
  rw [rtl_len, decide_eq_true (show (1 : Int) ≤ R.n by omega), decide_eq_true (show (R.n : Int) ≤ 5 by omega)]
  have a1 : (RTl R).all isRung = true := List.all_eq_true.mpr fun x hx => by
    obtain ⟨i, hi, rfl⟩ := List.mem_map.mp hx
    exact isRung_RD (g.u0 i) (g.s0 i) (g.d0 i) (g.one i (List.mem_range.mp hi))
  have a2 : zer (dn3 ((RTl R).headD .none)) = true := by
    have : (RTl R).headD .none = RD (R.u 0) (R.s 0) (R.d 0) := by
      rw [List.headD_eq_head?_getD, List.head?_eq_getElem?, rtl_get (by omega)]
      rfl
    rw [this, dn3_RD, g.dz]
    rfl
  have a3 : ((RTl R).drop 1).any (fun x => zer (dn3 x)) = false := List.any_eq_false.mpr fun x hx => by
    obtain ⟨i, hi⟩ := List.getElem?_of_mem hx
    rw [List.getElem?_drop] at hi
    have hl : 1 + i < R.n := by
      have := (List.getElem?_eq_some_iff.mp hi).1
      rw [rtl_len] at this
      omega
    rw [rtl_get hl] at hi
    cases hi
    rw [dn3_RD, rat_ne (g.dp _ (by omega) hl)]
    decide
  have a4 : ((RTl R).dropLast).any (fun x => zer (up3 x)) = false := List.any_eq_false.mpr fun x hx => by
    obtain ⟨i, hi⟩ := List.getElem?_of_mem hx
    rw [List.getElem?_dropLast, rtl_len] at hi
    split at hi
    · rename_i hl
      rw [rtl_get (by omega)] at hi
      cases hi
      rw [up3_RD, rat_ne (g.up _ (by omega))]
      decide
    · cases hi
  rw [a1, a2, a3, a4]
  rfl
end RS
set_option Elab.async false
set_option linter.all false
/-! part O: sizes of weights, of first returns -/
namespace RS
open RM
theorem Szn.mul {n m : Nat} {p q : Rat} (h : Szn n p) (k : Szn m q) : Szn (n + m) (p * q) := by
  have s := ((bd_self p).mul (bd_self q)).size (Nat.mul_pos p.den_pos q.den_pos)
  have e1 : p.num.natAbs * q.num.natAbs < 2 ^ (n + m) := by
    rw [Nat.pow_add]
    exact Nat.mul_lt_mul'' h.1 k.1
  have e3 : p.den * q.den < 2 ^ (n + m) := by
    rw [Nat.pow_add]
    exact Nat.mul_lt_mul'' h.2 k.2
  exact ⟨by omega, by omega⟩
theorem rat_nz {q : Rat} (h : 0 < q) : q ≠ 0 := fun z => by rw [z] at h; exact absurd h (by decide)
theorem Szn.inv {m : Nat} {q : Rat} (h : Szn m q) (h0 : 0 < q) : Szn m q⁻¹ := by
  have hn := num_pos' h0
  obtain ⟨X, e, _⟩ := bd_self q
  have e1 : q * (q.den : Rat) = (q.num : Rat) := by
    have hd : (q.den : Rat) ≠ 0 := by
      intro z
      have : (q.den : Int) = 0 := by exact_mod_cast z
      have := q.den_pos
      omega
    have e : q = (q.num : Rat) / ((q.den : Int) : Rat) := by rw [← Rat.divInt_eq_div, Rat.num_divInt_den]
    have e2 : ((q.den : Int) : Rat) = (q.den : Rat) := rfl
    rw [e2] at e
    grind
  have hb : Bd q.num.natAbs q.den q⁻¹ := by
    refine ⟨(q.den : Int), ?_, by simp⟩
    have e3 : (q.num.natAbs : Rat) = (q.num : Rat) := by
      have : ((q.num.natAbs : Int) : Rat) = (q.num : Rat) := by rw [show (q.num.natAbs : Int) = q.num by omega]
      exact this
    have hq := rat_nz h0
    have e4 : ((q.den : Int) : Rat) = (q.den : Rat) := rfl
    rw [e3, ← e1, e4, ← Rat.mul_assoc, Rat.inv_mul_cancel q hq, Rat.one_mul]
  have s := hb.size (by omega)
  exact ⟨Nat.lt_of_le_of_lt s.1 h.2, Nat.lt_of_le_of_lt s.2 h.1⟩
theorem Szn.div {n m : Nat} {p q : Rat} (h : Szn n p) (k : Szn m q) (h0 : 0 < q) : Szn (n + m) (p / q) := by
  rw [Rat.div_def]
  exact h.mul (k.inv h0)
theorem wt_szn {R : Rt} (g : R.Good) : ∀ i, i < R.n → Szn (2 + 20 * i) (wt R i)
  | 0, _ => szn_one
  | i + 1, h => by
    have := ((wt_szn g i (by omega)).mul (rate_szn (g.bu i))).div (rate_szn (g.bd (i + 1))) (g.dp (i + 1) (by omega) h)
    exact this.mono (by omega)
theorem take_succ_sum {qs : List Rat} {n : Nat} {q : Rat} (h : qs[n]? = some q) : (qs.take (n + 1)).foldl (· + ·) 0 = (qs.take n).foldl (· + ·) 0 + q := by
  rw [List.take_add_one, h, List.foldl_append]
  rfl
theorem sum_szn {m : Nat} {qs : List Rat} (h : ∀ q ∈ qs, Szn m q) : ∀ n, Szn (1 + min n qs.length * (m + 1)) ((qs.take n).foldl (· + ·) 0)
  | 0 => by
    have := szn_zero
    simpa using this
  | n + 1 => by
    have ih := sum_szn h n
    cases hq : qs[n]? with
    | none =>
      have hl := List.getElem?_eq_none_iff.mp hq
      rw [List.take_of_length_le (by omega)]
      rw [List.take_of_length_le (by omega)] at ih
      exact ih.mono (by rw [show min (n + 1) qs.length = qs.length by omega, show min n qs.length = qs.length by omega]; omega)
    | some q =>
      have hl := (List.getElem?_eq_some_iff.mp hq).1
      rw [take_succ_sum hq]
      refine (ih.add (h q (List.mem_of_getElem? hq))).mono ?_
      rw [show min (n + 1) qs.length = n + 1 by omega, show min n qs.length = n by omega, Nat.succ_mul]
      omega
theorem sum_bd {D B : Nat} {qs : List Rat} (h : ∀ q ∈ qs, Bd D B q) : ∀ n, Bd D (min n qs.length * B) ((qs.take n).foldl (· + ·) 0)
  | 0 => by
    have : Bd D (min 0 qs.length * B) 0 := .zero
    simpa using this
  | n + 1 => by
    have ih := sum_bd h n
    cases hq : qs[n]? with
    | none =>
      have hl := List.getElem?_eq_none_iff.mp hq
      rw [List.take_of_length_le (by omega)]
      rw [List.take_of_length_le (by omega)] at ih
      exact ih.mono (by rw [show min (n + 1) qs.length = qs.length by omega, show min n qs.length = qs.length by omega]; omega)
    | some q =>
      have hl := (List.getElem?_eq_some_iff.mp hq).1
      rw [take_succ_sum hq]
      refine (ih.add (h q (List.mem_of_getElem? hq))).mono ?_
      rw [show min (n + 1) qs.length = n + 1 by omega, show min n qs.length = n by omega, Nat.succ_mul]
      omega
/-! first returns -/
def row (R : Rt) : Fn := fun k => Am R k 0 0
def known (R : Rt) (l : List Rat) (k : Nat) : List Rat := (List.range k).map fun j => l.getD j 0 * row R (k - j)
def fbl (R : Rt) : Nat → List Rat
  | 0 => []
  | k + 1 => fbl R k ++ [row R (k + 1) - (known R (fbl R k) k).foldl (· + ·) 0]
theorem fbl_len (R : Rt) : ∀ k, (fbl R k).length = k
  | 0 => rfl
  | k + 1 => by rw [fbl, List.length_append, fbl_len R k]; rfl
theorem known_len (R : Rt) (l : List Rat) (k : Nat) : (known R l k).length = k := by simp [known]
theorem row_bd {R : Rt} (g : R.Good) (k : Nat) : Bd (840 ^ k) (3360 ^ k) (row R k) := Am_bd g 0 k 0
theorem known_bd {R : Rt} (g : R.Good) {l : List Rat} {k : Nat} (h : ∀ j, j < k → Bd (840 ^ (j + 1)) (16 ^ (j + 1) * 3360 ^ (j + 1)) (l.getD j 0)) : ∀ q ∈ known R l k, Bd (840 ^ (k + 1)) (16 ^ k * 3360 ^ (k + 1)) q := fun q hq => by
  obtain ⟨j, hj, rfl⟩ := List.mem_map.mp hq
  have hj := List.mem_range.mp hj
  have := (h j hj).mul (row_bd g (k - j))
  rw [← Nat.pow_add, show j + 1 + (k - j) = k + 1 by omega, Nat.mul_assoc, ← Nat.pow_add, show j + 1 + (k - j) = k + 1 by omega] at this
  exact this.mono (Nat.mul_le_mul_right _ (Nat.pow_le_pow_right (by decide) (by omega)))
theorem fbl_bd {R : Rt} (g : R.Good) : ∀ k, k ≤ 8 → ∀ j, j < k → Bd (840 ^ (j + 1)) (16 ^ (j + 1) * 3360 ^ (j + 1)) ((fbl R k).getD j 0)
  | 0, _, j, h => by omega
  | k + 1, hk, j, h => by
    have ih := fbl_bd g k (by omega)
    rw [fbl, List.getD_eq_getElem?_getD]
    by_cases hj : j < k
    · rw [List.getElem?_append_left (by rw [fbl_len]; exact hj), ← List.getD_eq_getElem?_getD]
      exact ih j hj
    · have : j = k := by omega
      subst this
      rw [List.getElem?_append_right (by rw [fbl_len]; omega), fbl_len, Nat.sub_self]
      have s := sum_bd (known_bd g ih) j
      rw [known_len, Nat.min_self, List.take_of_length_le (by rw [known_len]; omega)] at s
      refine ((row_bd g (j + 1)).sub s).mono ?_
      rw [← Nat.mul_assoc, Nat.pow_succ 16]
      have h1 : 1 ≤ 16 ^ j := Nat.pow_pos (by decide)
      have h2 : 1 + j * 16 ^ j ≤ 16 ^ j * 16 := by
        have : j * 16 ^ j ≤ 8 * 16 ^ j := Nat.mul_le_mul_right _ (by omega)
        omega
      calc 3360 ^ (j + 1) + j * 16 ^ j * 3360 ^ (j + 1) = (1 + j * 16 ^ j) * 3360 ^ (j + 1) := by rw [Nat.add_mul, Nat.one_mul]
        _ ≤ 16 ^ j * 16 * 3360 ^ (j + 1) := Nat.mul_le_mul_right _ h2
end RS
set_option Elab.async false
set_option linter.all false
set_option maxRecDepth 100000
set_option maxHeartbeats 4000000
/-! part P5: chances -/
namespace RS
open PySem PySem.Spec PyProof.Rows L2 RM
abbrev sGoneOn : Stmt := topS 33
abbrev sBegunAt : Stmt := topS 34
abbrev sChances : Stmt := topS 35
abbrev sBackIn : Stmt := topS 36
abbrev sBackRow : Stmt := topS 37
theorem scNR : FnScope ["thing"] ["thing"] (defScope sNeedRates) := ⟨rfl, rfl, rfl, by decide +kernel, rfl, by decide +kernel, by decide +kernel⟩
theorem scNT : FnScope ["top"] ["top"] (defScope sNeedTop) := ⟨rfl, rfl, rfl, by decide +kernel, rfl, by decide +kernel, by decide +kernel⟩
theorem scIC : FnScope ["rates"] ["rates"] (defScope sIsClosed) := ⟨rfl, rfl, rfl, by decide +kernel, rfl, by decide +kernel, by decide +kernel⟩
theorem scGO : FnScope ["rates", "some", "found", "rung", "up", "stay", "down"] ["rates", "some"] (defScope sGoneOn) := ⟨rfl, rfl, rfl, by decide +kernel, rfl, by decide +kernel, by decide +kernel⟩
theorem scBA : FnScope ["rates", "rung", "spot"] ["rates", "rung"] (defScope sBegunAt) := ⟨rfl, rfl, rfl, by decide +kernel, rfl, by decide +kernel, by decide +kernel⟩
theorem scCh : FnScope ["rates", "rung", "steps", "found", "turn"] ["rates", "rung", "steps"] (defScope sChances) := ⟨rfl, rfl, rfl, by decide +kernel, rfl, by decide +kernel, by decide +kernel⟩
theorem scBI : FnScope ["rates", "top", "some", "found", "turn"] ["rates", "top"] (defScope sBackIn) := ⟨rfl, rfl, rfl, by decide +kernel, rfl, by decide +kernel, by decide +kernel⟩
theorem scBR : FnScope ["rates", "top"] ["rates", "top"] (defScope sBackRow) := ⟨rfl, rfl, rfl, by decide +kernel, rfl, by decide +kernel, by decide +kernel⟩
section
variable {P : Program} {w : World} {K : PySem.W.Frag} {mg : Str → Option Value} {base : Heap} {CR CN CG : Addr}
abbrev frNeed (CR : Addr) (ds : List PyData) (r : Res) : Prop := ∃ d, ds = [d] ∧ Tpl d ∧ r = if areRates d then .ok d else .err CR "given" d
theorem cn_needrates (h : Hd K mg "need_rates" sNeedRates ["thing"]) (c_are_rates : Cn P w K mg base "are_rates" 6 frAreRates) (er : Er P w K mg base "BadRates" CR "given") : Cn P w K mg base "need_rates" 7 (frNeed CR) := by
  refine h.cn scNR (fun ds r ⟨d, e, _⟩ => by rw [e]; rfl) fun f cdv A outer s H E ds r ⟨d, e1, ht, e2⟩ hr => ?_
  subst e1
  cases hb : areRates d with
  | true =>
    rw [hb] at e2
    subst e2
    exact db_ifF (DT.is (dt_not (dt_val (de_call c_are_rates hr (by decide) rfl (da_cons (de_im (i := 0) rfl (.inl rfl) rfl) da_nil) ⟨_, rfl, ht, rfl⟩))) (by rw [hb]; rfl)) (db_ret (de_im (i := 0) rfl (.inl rfl) rfl) rfl)
  | false =>
    rw [hb] at e2
    subst e2
    exact db_ifT (DT.is (dt_not (dt_val (de_call c_are_rates hr (by decide) rfl (da_cons (de_im (i := 0) rfl (.inl rfl) rfl) da_nil) ⟨_, rfl, ht, rfl⟩))) (by rw [hb]; rfl)) (db_raise er rfl fn_takes hr (by decide) rfl (de_im (i := 0) rfl (.inl rfl) rfl) rfl)
theorem int_or (d : PyData) : isI d = false ∨ ∃ i, d = .int i := by
  cases d with
  | int i => exact .inr ⟨i, rfl⟩
  | _ => exact .inl rfl
theorem ixN_last {n : Nat} : ixN (n + 1) (-1) = some n := by
  unfold ixN
  simp
  try omega
theorem vf_last {f : Fn} {n : Nat} : atI (VF f (n + 1)) (-1) = some (FQ (f n)) := by
  unfold atI
  rw [vf_len, ixN_last]
  exact vf_get (by omega)
abbrev topOk : PyData → Bool
  | .int i => decide (0 ≤ i) && decide (i < 9)
  | _ => false
theorem cn_needtop (h : Hd K mg "need_top" sNeedTop ["top"]) (c_is_integer : Cn P w K mg base "is_integer" 1 frIsInt) (gMOST_MOMENTS : Kd K mg "MOST_MOMENTS" (.int 9)) (er : Er P w K mg base "BadNumber" CN "given") : Cn P w K mg base "need_top" 3 (fun ds r => ∃ d, ds = [d] ∧ r = if topOk d then .ok .none else .err CN "given" d) := by
  refine h.cn scNT (fun ds r ⟨d, e, _⟩ => by rw [e]; rfl) fun f cdv A outer s H E ds r ⟨d, e1, e2⟩ hr => ?_
  subst e1
  rcases int_or d with hd | ⟨i, rfl⟩
  · have e : topOk d = false := by cases d <;> first | rfl | cases hd
    rw [e] at e2
    subst e2
    exact db_ifT (DT.is (DW.dt (dw_or (l := true) (dt_not (dt_val (de_call c_is_integer hr (by decide) rfl (da_cons (de_im (i := 0) rfl (.inl rfl) rfl) da_nil) ⟨_, rfl, rfl⟩))) (fun z => by rw [hd] at z; cases z))) (by rw [hd]; rfl)) (db_raise er rfl fn_takes hr (by decide) rfl (de_im (i := 0) rfl (.inl rfl) rfl) rfl)
  · cases hb : topOk (.int i) with
    | true =>
      rw [hb] at e2
      subst e2
      refine db_ifF (DT.is (DW.dt (dw_or (dt_not (dt_val (de_call c_is_integer hr (by decide) rfl (da_cons (de_im (i := 0) rfl (.inl rfl) rfl) da_nil) ⟨_, rfl, rfl⟩))) (fun g1 => dw_or1 (dt_not (dt_chain op_le op_lt de_int (de_im (i := 0) rfl (.inl rfl) rfl) (fun _ => (de_glob gMOST_MOMENTS rfl)) v2_le (fun _ => v2_lt) (fun x y z => pt_chain op_le op_lt x y z)))))) ?_) (db_nil rfl)
      show (!true || !(topOk (.int i))) = false
      rw [hb]; rfl
    | false =>
      rw [hb] at e2
      subst e2
      refine db_ifT (DT.is (DW.dt (dw_or (dt_not (dt_val (de_call c_is_integer hr (by decide) rfl (da_cons (de_im (i := 0) rfl (.inl rfl) rfl) da_nil) ⟨_, rfl, rfl⟩))) (fun g1 => dw_or1 (dt_not (dt_chain op_le op_lt de_int (de_im (i := 0) rfl (.inl rfl) rfl) (fun _ => (de_glob gMOST_MOMENTS rfl)) v2_le (fun _ => v2_lt) (fun x y z => pt_chain op_le op_lt x y z)))))) ?_) (db_raise er rfl fn_takes hr (by decide) rfl (de_im (i := 0) rfl (.inl rfl) rfl) rfl)
      show (!true || !(topOk (.int i))) = true
      rw [hb]; rfl
abbrev frGo (ds : List PyData) (r : Res) : Prop := ∃ (R : Rt) (q : Fn) (D B : Nat), ds = [RTd R, .list (VF q (R.n + 1))] ∧ R.Good ∧ (∀ i, Bd D B (q i)) ∧ 0 < D ∧ D * 840 < 2 ^ 300 ∧ B * 3360 < 2 ^ 300 ∧ r = .new (VF (stp R q) (R.n + 1))
theorem bd_sz {D B : Nat} {q : Rat} (h : Bd D B q) (hD : 0 < D) (h1 : D < 2 ^ 300) (h2 : B < 2 ^ 300) : Sz q := (bd_lt h hD h1 h2).mono (by decide)
theorem cn_goneon (h : Hd K mg "gone_on" sGoneOn ["rates", "some"]) (gNOUGHT : Kd K mg "NOUGHT" (FQ 0)) (m_len : mg "len" = none) (m_enumerate : mg "enumerate" = none) (c_add : Cn P w K mg base "add" 3 frAdd) (c_mul : Cn P w K mg base "mul" 3 (fun ds r => ∃ p q : Rat, ds = [FQ p, FQ q] ∧ Sz p ∧ Sz q ∧ r = .ok (FQ (p * q)))) : Cn P w K mg base "gone_on" 4 frGo := by
  refine h.cn scGO (fun ds r ⟨R, q, D, B, e, _⟩ => by rw [e]; rfl) fun f cdv A outer s H E ds r ⟨R, q, D, B, e1, g, hq, hD, hD2, hB2, e2⟩ hr => ?_
  subst e1 e2
  have n1 := g.lo
  have n5 := g.hi
  have szq : ∀ i, Sz (q i) := fun i => bd_sz (hq i) hD (by omega) (by omega)
  have szm : ∀ i j, Bd (D * 840) (B * 840) (q i * j) → Sz (q i * j) := fun i j hb => bd_sz hb (by omega) hD2 (by omega)
  have szp : ∀ k j, Sz (part R q k j) := fun k j => bd_sz (part_bd g hq k j) (by omega) hD2 (by omega)
  have szr : ∀ {x : Rat}, Bd 840 840 x → Sz x := fun hx => (rate_szn hx).sz (by decide)
  refine db_set (i := 2) (s := .ow (VF (fun _ => 0) (R.n + 1))) scGO.nd rfl (.inl rfl) ⟨DL.is (dl_rep (n := R.n + 1) (DL.o (dl_lst (da_cons (de_glob gNOUGHT rfl) da_nil) (Nat.le_of_ble_eq_true rfl))) (de_callB call_len rfl m_len (by decide +kernel) (da_cons (de_im (i := 1) rfl (.inl rfl) rfl) da_nil) c1_lenL) (by rw [vf_len]) (by show 1 * (R.n + 1) ≤ 1000; omega) (by omega)) (vf_rep _), vf_noL⟩ ?_
  refine db_for fn_own rfl (dwk_enumT rfl m_enumerate (da_cons (de_im (d := .tuple (RTl R)) (i := 0) rfl (.inl rfl) rfl) da_nil) rtl_noL) (pg_tup (n := 2) rfl (pgs_cons (pg_name (i := 3) scGO.nd rfl (.inl rfl)) (pgs_cons (pg_tup (n := 3) rfl (pgs_cons (pg_name (i := 4) scGO.nd rfl (.inl rfl)) (pgs_cons (pg_name (i := 5) scGO.nd rfl (.inl rfl)) (pgs_cons (pg_name (i := 6) scGO.nd rfl (.inl rfl)) pgs_nil)))) pgs_nil)))
    (fun k δ1 => ∃ o1 o2 o3 o4, δ1 = [some (.im (RTd R)), some (.im (.list (VF q (R.n + 1)))), some (.ow (VF (part R q k) (R.n + 1))), o1, o2, o3, o4]) ⟨none, none, none, none, by rw [part_zero]; rfl⟩ (fun k y δ1 hy ⟨o1, o2, o3, o4, e⟩ => ?_) (fun δ1 ⟨o1, o2, o3, o4, e⟩ => ?_)
  · subst e
    rw [enumD_get] at hy
    have hk : k < R.n := by
      refine Decidable.byContradiction fun z => ?_
      rw [List.getElem?_eq_none (by rw [rtl_len]; omega)] at hy
      cases hy
    rw [rtl_get hk, Nat.zero_add] at hy
    cases hy
    refine ⟨_, gb_tup2 (gb_name rfl) (gb_tup3 (gb_name noL_FQ) (gb_name noL_FQ) (gb_name noL_FQ)), ?_⟩
    refine db_put (i := 2) (n := (k : Int)) (j := k) (ds := VF (part R q k) (R.n + 1)) (d := FQ (part R q k k + q k * R.s k)) rfl (.inl rfl) rfl (de_call c_add hr (by decide) rfl (da_cons (de_ixL (de_ow (i := 2) rfl (.inl rfl) rfl) (de_im (i := 3) rfl (.inl rfl) rfl) (vf_at (by omega)) (fun _ _ => rfl)) (da_cons (de_call c_mul hr (by decide) rfl (da_cons (de_ixL (de_im (i := 1) rfl (.inl rfl) rfl) (de_im (i := 3) rfl (.inl rfl) rfl) (vf_at (by omega)) (fun _ _ => rfl)) (da_cons (de_im (i := 5) rfl (.inl rfl) rfl) da_nil)) ⟨_, _, rfl, szq k, szr (g.bs k), rfl⟩) da_nil)) ⟨_, _, rfl, szp k k, szm _ _ ((hq k).mul (g.bs k)), rfl⟩) noL_FQ (de_im (i := 3) rfl (.inl rfl) rfl) (by rw [vf_len]; exact Evl.ixN_nat (by omega)) ?_
    rw [vf_add]
    have w1 : addAt (part R q k) k (q k * R.s k) (k + 1) = part R q k (k + 1) := by unfold addAt; rw [if_neg (by omega)]
    refine db_put (i := 2) (n := (k : Int) + 1) (j := k + 1) (ds := VF (addAt (part R q k) k (q k * R.s k)) (R.n + 1)) (d := FQ (addAt (part R q k) k (q k * R.s k) (k + 1) + q k * R.u k)) rfl (.inl rfl) rfl (de_call c_add hr (by decide) rfl (da_cons (de_ixL (de_ow (i := 2) rfl (.inl rfl) rfl) (de_bin op_add (de_im (i := 3) rfl (.inl rfl) rfl) de_int v2_add) (vf_at (i := k + 1) (by omega)) (fun _ _ => rfl)) (da_cons (de_call c_mul hr (by decide) rfl (da_cons (de_ixL (de_im (i := 1) rfl (.inl rfl) rfl) (de_im (i := 3) rfl (.inl rfl) rfl) (vf_at (by omega)) (fun _ _ => rfl)) (da_cons (de_im (i := 4) rfl (.inl rfl) rfl) da_nil)) ⟨_, _, rfl, szq k, szr (g.bu k), rfl⟩) da_nil)) ⟨_, _, rfl, by rw [w1]; exact szp k (k + 1), szm _ _ ((hq k).mul (g.bu k)), rfl⟩) noL_FQ (de_bin op_add (de_im (i := 3) rfl (.inl rfl) rfl) de_int v2_add) (by rw [vf_len]; exact Evl.ixN_nat (j := k + 1) (by omega)) ?_
    rw [vf_add]
    generalize hF : addAt (addAt (part R q k) k (q k * R.s k)) (k + 1) (q k * R.u k) = F
    refine db_if (b := decide (0 < k)) (DT.is (dt_cmp op_gt (de_im (i := 3) rfl (.inl rfl) rfl) de_int v2_gt (nomark _)) (by exact decide_eq_decide.mpr (by omega))) (fun δ' => ∃ o1 o2 o3 o4, δ' = [some (.im (RTd R)), some (.im (.list (VF q (R.n + 1)))), some (.ow (VF (part R q (k + 1)) (R.n + 1))), o1, o2, o3, o4]) (fun hb => ?_) (fun hb => ?_) (fun δ' hδ => db_nil hδ)
    · have h0 : 0 < k := of_decide_eq_true hb
      have w2 : F (k - 1) = part R q k (k - 1) := by
        rw [← hF]
        unfold addAt
        rw [if_neg (by omega), if_neg (by omega)]
      have ek : (k : Int) - 1 = ((k - 1 : Nat) : Int) := by omega
      refine db_put (i := 2) (n := (k : Int) - 1) (j := k - 1) (ds := VF F (R.n + 1)) (d := FQ (F (k - 1) + q k * R.d k)) rfl (.inl rfl) rfl (de_call c_add hr (by decide) rfl (da_cons (de_ixL (de_ow (i := 2) rfl (.inl rfl) rfl) (de_bin op_sub (de_im (i := 3) rfl (.inl rfl) rfl) de_int v2_sub) (by rw [ek]; exact vf_at (i := k - 1) (by omega)) (fun _ _ => rfl)) (da_cons (de_call c_mul hr (by decide) rfl (da_cons (de_ixL (de_im (i := 1) rfl (.inl rfl) rfl) (de_im (i := 3) rfl (.inl rfl) rfl) (vf_at (by omega)) (fun _ _ => rfl)) (da_cons (de_im (i := 6) rfl (.inl rfl) rfl) da_nil)) ⟨_, _, rfl, szq k, szr (g.bd k), rfl⟩) da_nil)) ⟨_, _, rfl, by rw [w2]; exact szp k (k - 1), szm _ _ ((hq k).mul (g.bd k)), rfl⟩) noL_FQ (de_bin op_sub (de_im (i := 3) rfl (.inl rfl) rfl) de_int v2_sub) (by rw [vf_len, ek]; exact Evl.ixN_nat (by omega)) ?_
      rw [vf_add]
      refine db_nil ⟨some (.im (.int (k : Int))), some (.im (FQ (R.u k))), some (.im (FQ (R.s k))), some (.im (FQ (R.d k))), ?_⟩
      rw [← part_succ]
      unfold turnP
      rw [if_pos h0, hF]
      rfl
    · refine db_nil ⟨some (.im (.int (k : Int))), some (.im (FQ (R.u k))), some (.im (FQ (R.s k))), some (.im (FQ (R.d k))), ?_⟩
      rw [← part_succ]
      unfold turnP
      rw [if_neg (of_decide_eq_false hb), hF]
      rfl
  · subst e
    rw [enumD_length, rtl_len]
    have e1 : atI (VF (part R q R.n) (R.n + 1)) (-1) = some (FQ (part R q R.n R.n)) := vf_last
    have e2 : atI (VF q (R.n + 1)) (-1) = some (FQ (q R.n)) := vf_last
    refine db_put (i := 2) (n := -1) (j := R.n) (ds := VF (part R q R.n) (R.n + 1)) (d := FQ (part R q R.n R.n + q R.n)) rfl (.inl rfl) rfl (de_call c_add hr (by decide) rfl (da_cons (de_ixL (de_ow (i := 2) rfl (.inl rfl) rfl) (de_neg de_int) e1 (fun _ _ => rfl)) (da_cons (de_ixL (de_im (i := 1) rfl (.inl rfl) rfl) (de_neg de_int) e2 (fun _ _ => rfl)) da_nil)) ⟨_, _, rfl, szp R.n R.n, szq R.n, rfl⟩) noL_FQ (de_neg de_int) (by rw [vf_len]; exact ixN_last) ?_
    rw [vf_add, stp_P]
    exact db_retOw (i := 2) rfl (.inl rfl) rfl rfl
end
end RS
set_option Elab.async false
set_option linter.all false
set_option maxRecDepth 100000
set_option maxHeartbeats 4000000
/-! part P6: chances, rows -/
namespace RS
open PySem PySem.Spec PyProof.Rows L2 RM
theorem DWk.is {X : Cx} {H0 : Hp} {δ : DSl} {tg it : Expr} {ys zs : List PyData} (h : DWk X H0 δ tg it ys) (e : ys = zs) : DWk X H0 δ tg it zs := by rw [← e]; exact h
theorem FI_e1 (i j : Nat) : FI (if PyData.eqv (.int (i : Int)) (.int (j : Int)) then 1 else 0) 1 = FQ (e1 i j) := by
  rw [eqv_int]
  unfold e1
  by_cases h : i = j
  · subst h; simp; rfl
  · rw [if_neg h, if_neg (by simp; omega)]
    rfl
theorem pow_lt {m : Nat} (h : m ≤ 12) : 840 ^ m < 2 ^ 200 ∧ 3360 ^ m < 2 ^ 200 := by
  have a : 840 ^ m ≤ 840 ^ 12 := Nat.pow_le_pow_right (by decide) h
  have b : 3360 ^ m ≤ 3360 ^ 12 := Nat.pow_le_pow_right (by decide) h
  have c : 840 ^ 12 < 2 ^ 200 := by decide +kernel
  have d : 3360 ^ 12 < 2 ^ 200 := by decide +kernel
  omega
theorem pow_pos840 (m : Nat) : 0 < 840 ^ m := Nat.pow_pos (by decide)
theorem Am_sz {R : Rt} (g : R.Good) (i : Nat) {m : Nat} (h : m ≤ 12) (j : Nat) : Szn 200 (Am R m i j) := bd_lt (Am_bd g i m j) (pow_pos840 m) (pow_lt h).1 (pow_lt h).2
section
variable {P : Program} {w : World} {K : PySem.W.Frag} {mg : Str → Option Value} {base : Heap} {CR CN CG : Addr}
abbrev frBa (ds : List PyData) (r : Res) : Prop := ∃ (R : Rt) (i : Nat), ds = [RTd R, .int i] ∧ R.Good ∧ r = .new (VF (e1 i) (R.n + 1))
theorem cn_begunat (h : Hd K mg "begun_at" sBegunAt ["rates", "rung"]) (m_len : mg "len" = none) (m_range : mg "range" = none) (m_int : mg "int" = none) (c_whole : Cn P w K mg base "whole" 1 frWhole) : Cn P w K mg base "begun_at" 2 frBa := by
  refine h.cn scBA (fun ds r ⟨R, i, e, _⟩ => by rw [e]; rfl) fun f cdv A outer s H E ds r ⟨R, i, e1, g, e2⟩ hr => ?_
  subst e1 e2
  have n5 := g.hi
  have hnb : (R.n : Int) + 1 < 2 ^ 40 := by
    have : (6 : Int) < 2 ^ 40 := by decide
    omega
  refine db_retL (dl_lc rfl scBA.nd (ys := (List.range (R.n + 1)).map fun j : Nat => .int (j : Int)) (DWk.c ?_) (blkOk_by (N := ["rates", "rung", "spot"]) (sc := defScope sBegunAt) (own := [("spot", 2)]) (by decide +kernel)) (fun _ _ _ _ _ => pg_name (i := 2) scBA.nd rfl (.inl rfl)) (by rw [vf_len]; simp) (by simp; omega) vf_noL (fun j y fv hy hf => ?_)) rfl
  · exact DWk.is (dwk_range1 (n := (R.n : Int) + 1) rfl m_range (da_cons (DE.is (de_bin op_add (de_callB call_len rfl m_len (by decide +kernel) (da_cons (de_im (d := .tuple (RTl R)) (i := 0) rfl (.inl rfl) rfl) da_nil) c1_lenT) de_int v2_add) (by rw [rtl_len])) da_nil) (by omega) hnb) rfl
  · have hj : j < R.n + 1 := by
      have := (List.getElem?_eq_some_iff.mp hy).1
      simpa using this
    rw [List.getElem?_map, List.getElem?_range hj] at hy
    cases hy
    rw [vf_get hj] at hf
    cases hf
    refine ⟨_, gc_name rfl (by decide), fun _ _ _ _ _ => DE.is (de_call c_whole hr (by decide) rfl (da_cons (de_callTy call_int1 rfl m_int (by decide +kernel) (da_cons (de_cmp (op_eqD (by exact hr.units)) (de_im (i := 1) rfl (.inr (.inl rfl)) rfl) (de_im (i := 2) rfl (.inl rfl) rfl) (v2_eq shp_int shp_int) (nomark _)) da_nil) c1_intb) da_nil) ⟨_, rfl, rfl⟩) (FI_e1 i j)⟩
def inR (n : Nat) : PyData → Bool
  | .int i => decide (0 ≤ i) && decide (i < (n : Int))
  | _ => false
def le12 : PyData → Bool
  | .int i => decide (0 ≤ i) && decide (i ≤ 12)
  | _ => false
inductive FrCh (CR CG CN : Addr) : List PyData → Res → Prop
  | bad {d x y : PyData} (ht : Tpl d) (hb : areRates d = false) : FrCh CR CG CN [d, x, y] (.err CR "given" d)
  | rung {R : Rt} {x y : PyData} (g : R.Good) (hx : inR R.n x = false) : FrCh CR CG CN [RTd R, x, y] (.err CG "given" x)
  | num {R : Rt} {i : Nat} {y : PyData} (g : R.Good) (hi : i < R.n) (hy : le12 y = false) : FrCh CR CG CN [RTd R, .int i, y] (.err CN "given" y)
  | ok {R : Rt} {i m : Nat} (g : R.Good) (hi : i < R.n) (hm : m ≤ 12) : FrCh CR CG CN [RTd R, .int i, .int m] (.ok (.tuple (VF (Am R m i) (R.n + 1))))
theorem need_bad {d : PyData} (ht : Tpl d) (hb : areRates d = false) : frNeed CR [d] (.err CR "given" d) := ⟨d, rfl, ht, by rw [hb]; rfl⟩
theorem need_ok {R : Rt} (g : R.Good) : frNeed CR [RTd R] (.ok (RTd R)) := ⟨_, rfl, tpl_rt g, by rw [areRates_good g]; rfl⟩
theorem cn_chances (h : Hd K mg "chances" sChances ["rates", "rung", "steps"]) (m_len : mg "len" = none) (m_range : mg "range" = none) (m_tuple : mg "tuple" = none) (c_need_rates : Cn P w K mg base "need_rates" 7 (frNeed CR)) (c_is_integer : Cn P w K mg base "is_integer" 1 frIsInt)
    (erG : Er P w K mg base "BadRung" CG "given") (erN : Er P w K mg base "BadNumber" CN "given") (gMOST_TURNS : Kd K mg "MOST_TURNS" (.int 12)) (c_begun_at : Cn P w K mg base "begun_at" 2 frBa) (c_gone_on : Cn P w K mg base "gone_on" 4 frGo) : Cn P w K mg base "chances" 8 (FrCh CR CG CN) := by
  refine h.cn scCh (fun ds r e => by cases e <;> rfl) fun f cdv A outer s H E ds r hf hr => ?_
  have lenR : ∀ {δ : DSl} {R : Rt} {p1 p2 p3 : Pos}, δ[0]? = some (some (.im (RTd R))) → DE (fnX P w K mg base ["rates", "rung", "steps", "found", "turn"] "chances" sChances f cdv A outer s H E) H δ (.Call (.Name "len" p1) [.Name "rates" p2] [] p3) (.int R.n) := fun {δ R p1 p2 p3} e =>
    DE.is (de_callB call_len rfl m_len (by decide +kernel) (da_cons (de_im (d := .tuple (RTl R)) (i := 0) rfl (.inl rfl) e) da_nil) c1_lenT) (by rw [rtl_len])
  cases hf with
  | bad ht hb => exact db_exprX (dx_call fn_pass c_need_rates hr (by decide) rfl (da_cons (de_im (i := 0) rfl (.inl rfl) rfl) da_nil) (need_bad ht hb)) rfl
  | @rung R x y g hx =>
    refine db_expr (de_call c_need_rates hr (by decide) rfl (da_cons (de_im (i := 0) rfl (.inl rfl) rfl) da_nil) (need_ok g)) ?_
    rcases int_or x with hd | ⟨i, rfl⟩
    · exact db_ifT (DT.is (DW.dt (dw_or (l := true) (dt_not (dt_val (de_call c_is_integer hr (by decide) rfl (da_cons (de_im (i := 1) rfl (.inl rfl) rfl) da_nil) ⟨_, rfl, rfl⟩))) (fun z => by rw [hd] at z; cases z))) (by rw [hd]; rfl)) (db_raise erG rfl fn_takes hr (by decide) rfl (de_im (i := 1) rfl (.inl rfl) rfl) rfl)
    · refine db_ifT (DT.is (DW.dt (dw_or (dt_not (dt_val (de_call c_is_integer hr (by decide) rfl (da_cons (de_im (i := 1) rfl (.inl rfl) rfl) da_nil) ⟨_, rfl, rfl⟩))) (fun _ => dw_or1 (dt_not (dt_chain op_le op_lt de_int (de_im (i := 1) rfl (.inl rfl) rfl) (fun _ => lenR rfl) v2_le (fun _ => v2_lt) (fun x y z => pt_chain op_le op_lt x y z)))))) ?_) (db_raise erG rfl fn_takes hr (by decide) rfl (de_im (i := 1) rfl (.inl rfl) rfl) rfl)
      show (!true || !(inR R.n (.int i))) = true
      rw [hx]
      rfl
  | @num R i y g hi hy =>
    refine db_expr (de_call c_need_rates hr (by decide) rfl (da_cons (de_im (i := 0) rfl (.inl rfl) rfl) da_nil) (need_ok g)) ?_
    refine db_ifF (DT.is (DW.dt (dw_or (dt_not (dt_val (de_call c_is_integer hr (by decide) rfl (da_cons (de_im (i := 1) rfl (.inl rfl) rfl) da_nil) ⟨_, rfl, rfl⟩))) (fun _ => dw_or1 (dt_not (dt_chain op_le op_lt de_int (de_im (i := 1) rfl (.inl rfl) rfl) (fun _ => lenR rfl) v2_le (fun _ => v2_lt) (fun x y z => pt_chain op_le op_lt x y z)))))) ?_) ?_
    · rw [decide_eq_true (show (0 : Int) ≤ i by omega), decide_eq_true (show (i : Int) < R.n by omega)]
      rfl
    · rcases int_or y with hd | ⟨m, rfl⟩
      · exact db_ifT (DT.is (DW.dt (dw_or (l := true) (dt_not (dt_val (de_call c_is_integer hr (by decide) rfl (da_cons (de_im (i := 2) rfl (.inl rfl) rfl) da_nil) ⟨_, rfl, rfl⟩))) (fun z => by rw [hd] at z; cases z))) (by rw [hd]; rfl)) (db_raise erN rfl fn_takes hr (by decide) rfl (de_im (i := 2) rfl (.inl rfl) rfl) rfl)
      · refine db_ifT (DT.is (DW.dt (dw_or (dt_not (dt_val (de_call c_is_integer hr (by decide) rfl (da_cons (de_im (i := 2) rfl (.inl rfl) rfl) da_nil) ⟨_, rfl, rfl⟩))) (fun g1 => dw_or1 (dt_not (dt_chain op_le op_le de_int (de_im (i := 2) rfl (.inl rfl) rfl) (fun _ => (de_glob gMOST_TURNS rfl)) v2_le (fun _ => v2_le) (fun x y z => pt_chain op_le op_le x y z)))))) ?_) (db_raise erN rfl fn_takes hr (by decide) rfl (de_im (i := 2) rfl (.inl rfl) rfl) rfl)
        show (!true || !(le12 (.int m))) = true
        rw [hy]
        rfl
  | @ok R i m g hi hm =>
    refine db_expr (de_call c_need_rates hr (by decide) rfl (da_cons (de_im (i := 0) rfl (.inl rfl) rfl) da_nil) (need_ok g)) ?_
    refine db_ifF (DT.is (DW.dt (dw_or (dt_not (dt_val (de_call c_is_integer hr (by decide) rfl (da_cons (de_im (i := 1) rfl (.inl rfl) rfl) da_nil) ⟨_, rfl, rfl⟩))) (fun _ => dw_or1 (dt_not (dt_chain op_le op_lt de_int (de_im (i := 1) rfl (.inl rfl) rfl) (fun _ => lenR rfl) v2_le (fun _ => v2_lt) (fun x y z => pt_chain op_le op_lt x y z)))))) ?_) ?_
    · rw [decide_eq_true (show (0 : Int) ≤ i by omega), decide_eq_true (show (i : Int) < R.n by omega)]
      rfl
    refine db_ifF (DT.is (DW.dt (dw_or (dt_not (dt_val (de_call c_is_integer hr (by decide) rfl (da_cons (de_im (i := 2) rfl (.inl rfl) rfl) da_nil) ⟨_, rfl, rfl⟩))) (fun g1 => dw_or1 (dt_not (dt_chain op_le op_le de_int (de_im (i := 2) rfl (.inl rfl) rfl) (fun _ => (de_glob gMOST_TURNS rfl)) v2_le (fun _ => v2_le) (fun x y z => pt_chain op_le op_le x y z)))))) ?_) ?_
    · show (!true || !(decide ((0 : Int) ≤ m) && decide ((m : Int) ≤ 12))) = false
      rw [decide_eq_true (show (0 : Int) ≤ m by omega), decide_eq_true (show (m : Int) ≤ 12 by omega)]
      rfl
    refine db_set (i := 3) (s := .ow (VF (e1 i) (R.n + 1))) scCh.nd rfl (.inl rfl) ⟨dl_call c_begun_at hr (by decide) rfl (da_cons (de_im (i := 0) rfl (.inl rfl) rfl) (da_cons (de_im (i := 1) rfl (.inl rfl) rfl) da_nil)) ⟨R, i, rfl, g, rfl⟩, vf_noL⟩ ?_
    have hmb : (m : Int) < 2 ^ 40 := by
      have : (13 : Int) < 2 ^ 40 := by decide
      omega
    refine db_for fn_own rfl (dwk_range1 (n := (m : Int)) rfl m_range (da_cons (de_im (i := 2) rfl (.inl rfl) rfl) da_nil) (by omega) hmb) (pg_name (i := 4) scCh.nd rfl (.inl rfl)) (fun k δ1 => ∃ o, δ1 = [some (.im (RTd R)), some (.im (.int i)), some (.im (.int m)), some (.ow (VF (Am R k i) (R.n + 1))), o]) ⟨none, rfl⟩ (fun k y δ1 hy ⟨o, e⟩ => ?_) (fun δ1 ⟨o, e⟩ => ?_)
    · subst e
      have hk : k < m := by
        have := (List.getElem?_eq_some_iff.mp hy).1
        simpa using this
      rw [List.getElem?_map, List.getElem?_range (by omega)] at hy
      cases hy
      have hp := pow_lt (m := k) (by omega)
      refine ⟨_, gb_name rfl, ?_⟩
      refine db_set (i := 3) (s := .ow (VF (Am R (k + 1) i) (R.n + 1))) scCh.nd rfl (.inl rfl) ⟨dl_call c_gone_on hr (by decide) rfl (da_cons (de_im (i := 0) rfl (.inl rfl) rfl) (da_cons (de_ow (i := 3) rfl (.inl rfl) rfl) da_nil)) ⟨R, Am R k i, 840 ^ k, 3360 ^ k, rfl, g, Am_bd g i k, pow_pos840 k, ?_, ?_, rfl⟩, vf_noL⟩ (db_nil ⟨some (.im (.int (k : Int))), rfl⟩)
      · exact Nat.lt_of_lt_of_le (Nat.mul_lt_mul_of_pos_right hp.1 (by decide)) (by decide +kernel)
      · exact Nat.lt_of_lt_of_le (Nat.mul_lt_mul_of_pos_right hp.2 (by decide)) (by decide +kernel)
    · subst e
      rw [List.length_map, List.length_range, Int.toNat_natCast]
      exact db_ret (de_callTy call_tuple_of rfl m_tuple (by decide +kernel) (da_cons (de_ow (i := 3) rfl (.inl rfl) rfl) da_nil) c1_tuple) rfl
end
end RS
set_option Elab.async false
set_option linter.all false
set_option maxRecDepth 100000
set_option maxHeartbeats 4000000
/-! part P7: rows of first rungs, weights -/
namespace RS
open PySem PySem.Spec PyProof.Rows L2 RM
abbrev sWIn : Stmt := topS 39
abbrev sRW : Stmt := topS 40
abbrev sFB : Stmt := topS 41
abbrev sMB : Stmt := topS 42
theorem scWIn : FnScope ["rates", "found", "near", "far"] ["rates"] (defScope sWIn) := ⟨rfl, rfl, rfl, by decide +kernel, rfl, by decide +kernel, by decide +kernel⟩
theorem scRW : FnScope ["rates"] ["rates"] (defScope sRW) := ⟨rfl, rfl, rfl, by decide +kernel, rfl, by decide +kernel, by decide +kernel⟩
theorem scFB : FnScope ["rates", "top", "row", "found", "many", "known", "spot", "first"] ["rates", "top"] (defScope sFB) := ⟨rfl, rfl, rfl, by decide +kernel, rfl, by decide +kernel, by decide +kernel⟩
theorem scMB : FnScope ["rates"] ["rates"] (defScope sMB) := ⟨rfl, rfl, rfl, by decide +kernel, rfl, by decide +kernel, by decide +kernel⟩
abbrev frSub (ds : List PyData) (r : Res) : Prop := ∃ p q : Rat, ds = [FQ p, FQ q] ∧ Sz p ∧ Sz q ∧ r = .ok (FQ (p - q))
abbrev frMul (ds : List PyData) (r : Res) : Prop := ∃ p q : Rat, ds = [FQ p, FQ q] ∧ Sz p ∧ Sz q ∧ r = .ok (FQ (p * q))
abbrev frDiv (ds : List PyData) (r : Res) : Prop := ∃ p q : Rat, ds = [FQ p, FQ q] ∧ Sz p ∧ Sz q ∧ 0 < q ∧ r = .ok (FQ (p / q))
section
variable {P : Program} {w : World} {K : PySem.W.Frag} {mg : Str → Option Value} {base : Heap} {CR CN CG : Addr}
abbrev frBad (CR : Addr) (ds : List PyData) (r : Res) : Prop := ∃ d, ds = [d] ∧ Tpl d ∧ areRates d = false ∧ r = .err CR "given" d
theorem cn_isclosed (h : Hd K mg "is_closed" sIsClosed ["rates"]) (c_need_rates : Cn P w K mg base "need_rates" 7 (frNeed CR)) : Cn P w K mg base "is_closed" 8 (frBad CR) := by
  refine h.cn scIC (fun ds r ⟨d, e, _⟩ => by rw [e]; rfl) fun f cdv A outer s H E ds r ⟨d, e1, ht, hb, e2⟩ hr => ?_
  subst e1 e2
  exact db_retX (dx_cmp (op_eqD (by exact hr.units)) (dx_ix (dx_ix (dx_call fn_pass c_need_rates hr (by decide) rfl (da_cons (de_im (i := 0) rfl (.inl rfl) rfl) da_nil) (need_bad ht hb)) (fun _ _ => rfl)) (fun _ _ => rfl)) (nomark _)) rfl
abbrev frBi (ds : List PyData) (r : Res) : Prop := ∃ (R : Rt) (m : Nat), ds = [RTd R, .int m] ∧ R.Good ∧ m ≤ 8 ∧ r = .ok (.tuple (VF (row R) (m + 1)))
theorem cn_backin (h : Hd K mg "back_in" sBackIn ["rates", "top"]) (m_range : mg "range" = none) (m_tuple : mg "tuple" = none) (c_begun_at : Cn P w K mg base "begun_at" 2 frBa) (c_gone_on : Cn P w K mg base "gone_on" 4 frGo) : Cn P w K mg base "back_in" 5 frBi := by
  refine h.cn scBI (fun ds r ⟨R, m, e, _⟩ => by rw [e]; rfl) fun f cdv A outer s H E ds r ⟨R, m, e1, g, hm, e2⟩ hr => ?_
  subst e1 e2
  refine db_set (i := 2) (s := .ow (VF (e1 0) (R.n + 1))) scBI.nd rfl (.inl rfl) ⟨dl_call c_begun_at hr (by decide) rfl (da_cons (de_im (i := 0) rfl (.inl rfl) rfl) (da_cons de_int da_nil)) ⟨R, 0, rfl, g, rfl⟩, vf_noL⟩ ?_
  refine db_set (i := 3) (s := .ow (VF (row R) 1)) scBI.nd rfl (.inl rfl) ⟨dl_lst (da_cons (de_ixL (de_ow (i := 2) rfl (.inl rfl) rfl) de_int (vf_at (i := 0) (by omega)) (fun _ _ => rfl)) da_nil) (Nat.le_of_ble_eq_true rfl), vf_noL⟩ ?_
  have hmb : (m : Int) < 2 ^ 40 := by
    have : (13 : Int) < 2 ^ 40 := by decide
    omega
  refine db_for fn_own rfl (dwk_range1 (n := (m : Int)) rfl m_range (da_cons (de_im (i := 1) rfl (.inl rfl) rfl) da_nil) (by omega) hmb) (pg_name (i := 4) scBI.nd rfl (.inl rfl)) (fun k δ1 => ∃ o, δ1 = [some (.im (RTd R)), some (.im (.int m)), some (.ow (VF (Am R k 0) (R.n + 1))), some (.ow (VF (row R) (k + 1))), o]) ⟨none, rfl⟩ (fun k y δ1 hy ⟨o, e⟩ => ?_) (fun δ1 ⟨o, e⟩ => ?_)
  · subst e
    have hk : k < m := by
      have := (List.getElem?_eq_some_iff.mp hy).1
      simpa using this
    rw [List.getElem?_map, List.getElem?_range (by omega)] at hy
    cases hy
    have hp := pow_lt (m := k) (by omega)
    refine ⟨_, gb_name rfl, ?_⟩
    refine db_set (i := 2) (s := .ow (VF (Am R (k + 1) 0) (R.n + 1))) scBI.nd rfl (.inl rfl) ⟨dl_call c_gone_on hr (by decide) rfl (da_cons (de_im (i := 0) rfl (.inl rfl) rfl) (da_cons (de_ow (i := 2) rfl (.inl rfl) rfl) da_nil)) ⟨R, Am R k 0, 840 ^ k, 3360 ^ k, rfl, g, Am_bd g 0 k, pow_pos840 k, ?_, ?_, rfl⟩, vf_noL⟩ ?_
    · exact Nat.lt_of_lt_of_le (Nat.mul_lt_mul_of_pos_right hp.1 (by decide)) (by decide +kernel)
    · exact Nat.lt_of_lt_of_le (Nat.mul_lt_mul_of_pos_right hp.2 (by decide)) (by decide +kernel)
    · refine db_app (i := 3) rfl (.inl rfl) rfl (de_ixL (de_ow (i := 2) rfl (.inl rfl) rfl) de_int (vf_at (i := 0) (by omega)) (fun _ _ => rfl)) noL_FQ (by rw [vf_len]; omega) (db_nil ⟨some (.im (.int (k : Int))), ?_⟩) (pe_bm F.plainAttrs_list F.slot_list_append F.type_list_append mt_append)
      rw [← vf_snoc (n := k + 1)]
      rfl
  · subst e
    rw [List.length_map, List.length_range, Int.toNat_natCast]
    exact db_ret (de_callTy call_tuple_of rfl m_tuple (by decide +kernel) (da_cons (de_ow (i := 3) rfl (.inl rfl) rfl) da_nil) c1_tuple) rfl
inductive FrBr (CR CN : Addr) (G : Rt → Nat → PyData) : List PyData → Res → Prop
  | bad {d y : PyData} (ht : Tpl d) (hb : areRates d = false) : FrBr CR CN G [d, y] (.err CR "given" d)
  | num {R : Rt} {y : PyData} (g : R.Good) (hy : topOk y = false) : FrBr CR CN G [RTd R, y] (.err CN "given" y)
  | ok {R : Rt} {m : Nat} (g : R.Good) (hm : m ≤ 8) : FrBr CR CN G [RTd R, .int m] (.ok (G R m))
abbrev frNT (CN : Addr) (ds : List PyData) (r : Res) : Prop := ∃ d, ds = [d] ∧ r = if topOk d then .ok .none else .err CN "given" d
theorem nt_bad {d : PyData} (hb : topOk d = false) : frNT CN [d] (.err CN "given" d) := ⟨d, rfl, by rw [hb]; rfl⟩
theorem nt_ok {m : Nat} (h : m ≤ 8) : frNT CN [.int m] (.ok .none) := ⟨_, rfl, by
  have : topOk (.int (m : Int)) = true := by
    show (decide _ && decide _) = true
    rw [decide_eq_true (show (0 : Int) ≤ m by omega), decide_eq_true (show (m : Int) < 9 by omega)]
    rfl
  rw [this]
  rfl⟩
theorem cn_backrow (h : Hd K mg "back_row" sBackRow ["rates", "top"]) (c_need_rates : Cn P w K mg base "need_rates" 7 (frNeed CR)) (c_need_top : Cn P w K mg base "need_top" 3 (frNT CN)) (c_back_in : Cn P w K mg base "back_in" 5 frBi) :
    Cn P w K mg base "back_row" 8 (FrBr CR CN fun R m => .tuple (VF (row R) (m + 1))) := by
  refine h.cn scBR (fun ds r e => by cases e <;> rfl) fun f cdv A outer s H E ds r hf hr => ?_
  cases hf with
  | bad ht hb => exact db_exprX (dx_call fn_pass c_need_rates hr (by decide) rfl (da_cons (de_im (i := 0) rfl (.inl rfl) rfl) da_nil) (need_bad ht hb)) rfl
  | num g hy => exact db_expr (de_call c_need_rates hr (by decide) rfl (da_cons (de_im (i := 0) rfl (.inl rfl) rfl) da_nil) (need_ok g)) (db_exprX (dx_call fn_pass c_need_top hr (by decide) rfl (da_cons (de_im (i := 1) rfl (.inl rfl) rfl) da_nil) (nt_bad hy)) rfl)
  | @ok R m g hm => exact db_expr (de_call c_need_rates hr (by decide) rfl (da_cons (de_im (i := 0) rfl (.inl rfl) rfl) da_nil) (need_ok g)) (db_expr (de_call c_need_top hr (by decide) rfl (da_cons (de_im (i := 1) rfl (.inl rfl) rfl) da_nil) (nt_ok hm)) (db_ret (de_call c_back_in hr (by decide) rfl (da_cons (de_im (i := 0) rfl (.inl rfl) rfl) (da_cons (de_im (i := 1) rfl (.inl rfl) rfl) da_nil)) ⟨R, m, rfl, g, hm, rfl⟩) rfl))
abbrev frWIn (ds : List PyData) (r : Res) : Prop := ∃ R : Rt, ds = [RTd R] ∧ R.Good ∧ r = .new (VF (wt R) R.n)
theorem cn_wIn (h : Hd K mg "weights_in" sWIn ["rates"]) (m_zip : mg "zip" = none) (c_whole : Cn P w K mg base "whole" 1 frWhole) (c_mul : Cn P w K mg base "mul" 3 frMul) (c_div : Cn P w K mg base "div" 3 frDiv) : Cn P w K mg base "weights_in" 4 frWIn := by
  refine h.cn scWIn (fun ds r ⟨R, e, _⟩ => by rw [e]; rfl) fun f cdv A outer s H E ds r ⟨R, e1, g, e2⟩ hr => ?_
  subst e1 e2
  have n1 := g.lo
  have n5 := g.hi
  have pl : (pairD (RTl R) ((RTl R).drop 1)).length = R.n - 1 := by
    unfold pairD
    rw [List.length_map, List.length_zip, List.length_drop, rtl_len]
    omega
  refine db_set (i := 1) (s := .ow (VF (wt R) 1)) scWIn.nd rfl (.inl rfl) ⟨dl_lst (da_cons (DE.is (de_call c_whole hr (by decide) rfl (da_cons de_int da_nil) ⟨1, rfl, rfl⟩) FI_one) da_nil) (Nat.le_of_ble_eq_true rfl), vf_noL⟩ ?_
  refine db_for fn_own rfl (dwk_zip (ds := RTl R) (es := (RTl R).drop 1) rfl m_zip (da_cons (de_im (i := 0) rfl (.inl rfl) rfl) (da_cons (DE.is (de_slT (de_im (i := 0) rfl (.inl rfl) rfl) (.inr ⟨_, _, rfl, rfl, de_int⟩) (.inl ⟨rfl, rfl⟩)) (by rw [cutD_1]; rfl)) da_nil)) rtl_noL (noLs_all.mpr fun d hd => noLs_all.mp rtl_noL d (List.mem_of_mem_drop hd))) (pg_tup (n := 2) rfl (pgs_cons (pg_name (i := 2) scWIn.nd rfl (.inl rfl)) (pgs_cons (pg_name (i := 3) scWIn.nd rfl (.inl rfl)) pgs_nil)))
    (fun k δ1 => ∃ o1 o2, δ1 = [some (.im (RTd R)), some (.ow (VF (wt R) (k + 1))), o1, o2]) ⟨none, none, rfl⟩ (fun k y δ1 hy ⟨o1, o2, e⟩ => ?_) (fun δ1 ⟨o1, o2, e⟩ => ?_)
  · subst e
    have hk : k + 1 < R.n := by
      have := (List.getElem?_eq_some_iff.mp hy).1
      rw [pl] at this
      omega
    obtain ⟨d1, d2, h1, h2, rfl⟩ := pairD_get _ _ _ hy
    rw [List.getElem?_drop, Nat.add_comm, rtl_get hk] at h2
    rw [rtl_get (by omega)] at h1
    cases h1
    cases h2
    have sw : Szn (2 + 20 * k) (wt R k) := wt_szn g k (by omega)
    have s1 := sw.mul (rate_szn (g.bu k))
    have lastw : atI (VF (wt R) (k + 1)) (-1) = some (FQ (wt R k)) := vf_last
    refine ⟨_, gb_tup2 (gb_name noL_RD) (gb_name noL_RD), ?_⟩
    refine db_app (i := 1) rfl (.inl rfl) rfl (de_call c_div hr (by decide) rfl (da_cons (de_call c_mul hr (by decide) rfl (da_cons (de_ixL (de_ow (i := 1) rfl (.inl rfl) rfl) (de_neg de_int) lastw (fun _ _ => rfl)) (da_cons (de_ixT (de_im (i := 2) rfl (.inl rfl) rfl) de_int (atI_nat (j := 0) rfl) (fun _ _ => rfl)) da_nil)) ⟨_, _, rfl, sw.sz (by omega), (rate_szn (g.bu k)).sz (by decide), rfl⟩) (da_cons (de_ixT (de_im (i := 3) rfl (.inl rfl) rfl) de_int (atI_nat (j := 2) rfl) (fun _ _ => rfl)) da_nil)) ⟨_, _, rfl, s1.sz (by omega), (rate_szn (g.bd (k + 1))).sz (by decide), g.dp (k + 1) (by omega) hk, rfl⟩) noL_FQ (by rw [vf_len]; omega) (db_nil ⟨some (.im (RD (R.u k) (R.s k) (R.d k))), some (.im (RD (R.u (k + 1)) (R.s (k + 1)) (R.d (k + 1)))), ?_⟩) (pe_bm F.plainAttrs_list F.slot_list_append F.type_list_append mt_append)
    rw [← vf_snoc (n := k + 1)]
    rfl
  · subst e
    rw [pl, show R.n - 1 + 1 = R.n by omega]
    exact db_retOw (i := 1) rfl (.inl rfl) rfl rfl
inductive FrRW (CR : Addr) (G : Rt → PyData) : List PyData → Res → Prop
  | bad {d : PyData} (ht : Tpl d) (hb : areRates d = false) : FrRW CR G [d] (.err CR "given" d)
  | ok {R : Rt} (g : R.Good) : FrRW CR G [RTd R] (.ok (G R))
theorem cn_rw (h : Hd K mg "rung_weights" sRW ["rates"]) (m_tuple : mg "tuple" = none) (c_need_rates : Cn P w K mg base "need_rates" 7 (frNeed CR)) (c_weights_in : Cn P w K mg base "weights_in" 4 frWIn) : Cn P w K mg base "rung_weights" 8 (FrRW CR fun R => .tuple (VF (wt R) R.n)) := by
  refine h.cn scRW (fun ds r e => by cases e <;> rfl) fun f cdv A outer s H E ds r hf hr => ?_
  cases hf with
  | bad ht hb => exact db_retX (dx_callTy call_tuple_of rfl m_tuple (by decide +kernel) (dx_arg c_weights_in hr (by decide) rfl (dx_call fn_pass c_need_rates hr (by decide) rfl (da_cons (de_im (i := 0) rfl (.inl rfl) rfl) da_nil) (need_bad ht hb)))) rfl
  | @ok R g => exact db_ret (de_callTy call_tuple_of rfl m_tuple (by decide +kernel) (da_cons (DL.de (dl_call c_weights_in hr (by decide) rfl (da_cons (de_call c_need_rates hr (by decide) rfl (da_cons (de_im (i := 0) rfl (.inl rfl) rfl) da_nil) (need_ok g)) da_nil) ⟨R, rfl, g, rfl⟩)) da_nil) c1_tuple) rfl
end
end RS
set_option Elab.async false
set_option linter.all false
set_option maxRecDepth 100000
set_option maxHeartbeats 4000000
/-! part P8: first returns, the mean -/
namespace RS
open PySem PySem.Spec PyProof.Rows L2 RM
theorem pow_lt9 {k : Nat} (h : k ≤ 9) : 840 ^ k < 2 ^ 250 ∧ 16 ^ k * 3360 ^ k < 2 ^ 250 := by
  have a : 840 ^ k ≤ 840 ^ 9 := Nat.pow_le_pow_right (by decide) h
  have b : 16 ^ k * 3360 ^ k ≤ 16 ^ 9 * 3360 ^ 9 := Nat.mul_le_mul (Nat.pow_le_pow_right (by decide) h) (Nat.pow_le_pow_right (by decide) h)
  have c : 840 ^ 9 < 2 ^ 250 := by decide +kernel
  have d : 16 ^ 9 * 3360 ^ 9 < 2 ^ 250 := by decide +kernel
  omega
theorem fbl_sz {R : Rt} (g : R.Good) {k : Nat} (hk : k ≤ 8) {j : Nat} (hj : j < k) : Szn 250 ((fbl R k).getD j 0) := bd_lt (fbl_bd g k hk j hj) (pow_pos840 _) (pow_lt9 (by omega)).1 (pow_lt9 (by omega)).2
theorem row_sz {R : Rt} (g : R.Good) {k : Nat} (hk : k ≤ 8) : Szn 200 (row R k) := Am_sz g 0 (by omega) 0
theorem known_sz {R : Rt} (g : R.Good) {k : Nat} (hk : k < 8) : (∀ q ∈ known R (fbl R k) k, Sz q) ∧ ∀ n, Sz (((known R (fbl R k) k).take n).foldl (· + ·) 0) := by
  have hb := known_bd g (fbl_bd g k (by omega))
  have e1 : 840 ^ (k + 1) < 2 ^ 300 := Nat.lt_of_lt_of_le (pow_lt9 (k := k + 1) (by omega)).1 (Nat.pow_le_pow_right (by decide) (by decide))
  have e2 : 16 ^ k * 3360 ^ (k + 1) < 2 ^ 250 := Nat.lt_of_le_of_lt (Nat.mul_le_mul_right _ (Nat.pow_le_pow_right (by decide) (Nat.le_succ k))) (pow_lt9 (k := k + 1) (by omega)).2
  refine ⟨fun q hq => bd_sz (hb q hq) (pow_pos840 _) e1 (Nat.lt_of_lt_of_le e2 (Nat.pow_le_pow_right (by decide) (by decide))), fun n => bd_sz (sum_bd hb n) (pow_pos840 _) e1 ?_⟩
  have : min n (known R (fbl R k) k).length ≤ 8 := by rw [known_len]; omega
  refine Nat.lt_of_le_of_lt (Nat.mul_le_mul_right _ this) ?_
  have : (2 : Nat) ^ 250 * 8 < 2 ^ 300 := by decide +kernel
  omega
theorem fsum_sz {R : Rt} (g : R.Good) {k : Nat} (hk : k < 8) : Sz ((known R (fbl R k) k).foldl (· + ·) 0) := by
  have := (known_sz g hk).2 k
  rwa [List.take_of_length_le (by rw [known_len]; omega)] at this
theorem wts_sz {R : Rt} (g : R.Good) : (∀ q ∈ (List.range R.n).map (wt R), Sz q) ∧ ∀ n, Sz ((((List.range R.n).map (wt R)).take n).foldl (· + ·) 0) := by
  have n5 := g.hi
  have hb : ∀ q ∈ (List.range R.n).map (wt R), Szn 102 q := fun q hq => by
    obtain ⟨i, hi, rfl⟩ := List.mem_map.mp hq
    have := List.mem_range.mp hi
    exact (wt_szn g i this).mono (by omega)
  refine ⟨fun q hq => (hb q hq).sz (by decide), fun n => (sum_szn hb n).sz ?_⟩
  have : min n ((List.range R.n).map (wt R)).length ≤ 5 := by simp; omega
  have := Nat.mul_le_mul_right 103 this
  omega
theorem vf_map {f : Fn} {n : Nat} : VF f n = ((List.range n).map f).map FQ := by
  unfold VF
  rw [List.map_map]
  rfl
section
variable {P : Program} {w : World} {K : PySem.W.Frag} {mg : Str → Option Value} {base : Heap} {CR CN CG : Addr}
theorem cn_mb (h : Hd K mg "mean_back" sMB ["rates"]) (gNOUGHT : Kd K mg "NOUGHT" (FQ 0)) (c_need_rates : Cn P w K mg base "need_rates" 7 (frNeed CR)) (c_weights_in : Cn P w K mg base "weights_in" 4 frWIn) (c_sum_in : Cn P w K mg base "sum_in" 4 frSum) :
    Cn P w K mg base "mean_back" 8 (FrRW CR fun R => if R.u (R.n - 1) = 0 then FQ (((List.range R.n).map (wt R)).foldl (· + ·) 0) else .none) := by
  refine h.cn scMB (fun ds r e => by cases e <;> rfl) fun f cdv A outer s H E ds r hf hr => ?_
  cases hf with
  | bad ht hb => exact db_ifX (op_neD (by exact hr.units)) (dx_ix (dx_ix (dx_call fn_pass c_need_rates hr (by decide) rfl (da_cons (de_im (i := 0) rfl (.inl rfl) rfl) da_nil) (need_bad ht hb)) (fun _ _ => rfl)) (fun _ _ => rfl)) rfl (nomark _)
  | @ok R g =>
    have n1 := g.lo
    have n5 := g.hi
    have el : atI (RTl R) (-1) = some (RD (R.u (R.n - 1)) (R.s (R.n - 1)) (R.d (R.n - 1))) := by
      unfold atI
      have : R.n = R.n - 1 + 1 := by omega
      rw [rtl_len, this, ixN_last]
      exact rtl_get (by omega)
    refine db_if (b := !decide (R.u (R.n - 1) = 0)) (DT.is (dt_cmp (op_neD (by exact hr.units)) (de_ixT (de_ixT (de_call c_need_rates hr (by decide) rfl (da_cons (de_im (i := 0) rfl (.inl rfl) rfl) da_nil) (need_ok g)) (de_neg de_int) el (fun _ _ => rfl)) de_int (by exact (atI_nat (j := 0) rfl)) (fun _ _ => rfl)) (de_glob gNOUGHT rfl) (v2_ne shp_FQ shp_FQ) (nomark _)) (by rw [eqv_FQ])) (fun δ' => δ' = startD ["rates"] [RTd R] ∧ R.u (R.n - 1) = 0) (fun hb => ?_) (fun hb => ?_) (fun δ' hd => ?_)
    · have hb : ¬ R.u (R.n - 1) = 0 := by simpa using hb
      refine db_ret de_non ?_
      rw [if_neg hb]
    · have hb : R.u (R.n - 1) = 0 := by simpa using hb
      exact db_nil ⟨rfl, hb⟩
    · obtain ⟨rfl, hb⟩ := hd
      rw [if_pos hb]
      exact db_ret (de_call c_sum_in hr (by decide) rfl (da_cons (DL.de (dl_call c_weights_in hr (by decide) rfl (da_cons (de_im (i := 0) rfl (.inl rfl) rfl) da_nil) ⟨R, rfl, g, rfl⟩)) da_nil) ⟨(List.range R.n).map (wt R), .inl (by rw [vf_map]), (wts_sz g).1, (wts_sz g).2, by simp; omega, rfl⟩) rfl
theorem cn_fb (h : Hd K mg "first_backs" sFB ["rates", "top"]) (m_range : mg "range" = none) (m_enumerate : mg "enumerate" = none) (m_tuple : mg "tuple" = none) (c_need_rates : Cn P w K mg base "need_rates" 7 (frNeed CR)) (c_need_top : Cn P w K mg base "need_top" 3 (frNT CN)) (c_back_in : Cn P w K mg base "back_in" 5 frBi)
    (c_mul : Cn P w K mg base "mul" 3 frMul) (c_sub : Cn P w K mg base "sub" 3 frSub) (c_sum_in : Cn P w K mg base "sum_in" 4 frSum) : Cn P w K mg base "first_backs" 8 (FrBr CR CN fun R m => .tuple ((fbl R m).map FQ)) := by
  refine h.cn scFB (fun ds r e => by cases e <;> rfl) fun f cdv A outer s H E ds r hf hr => ?_
  cases hf with
  | bad ht hb => exact db_exprX (dx_call fn_pass c_need_rates hr (by decide) rfl (da_cons (de_im (i := 0) rfl (.inl rfl) rfl) da_nil) (need_bad ht hb)) rfl
  | num g hy => exact db_expr (de_call c_need_rates hr (by decide) rfl (da_cons (de_im (i := 0) rfl (.inl rfl) rfl) da_nil) (need_ok g)) (db_exprX (dx_call fn_pass c_need_top hr (by decide) rfl (da_cons (de_im (i := 1) rfl (.inl rfl) rfl) da_nil) (nt_bad hy)) rfl)
  | @ok R m g hm =>
    refine db_expr (de_call c_need_rates hr (by decide) rfl (da_cons (de_im (i := 0) rfl (.inl rfl) rfl) da_nil) (need_ok g)) (db_expr (de_call c_need_top hr (by decide) rfl (da_cons (de_im (i := 1) rfl (.inl rfl) rfl) da_nil) (nt_ok hm)) ?_)
    refine db_parT (i := 2) (j := 3) (s1 := .im (.tuple (VF (row R) (m + 1)))) (s2 := .ow []) rfl scFB.nd rfl rfl (by decide) (.inr rfl) (.inl rfl) ⟨(de_call c_back_in hr (by decide) rfl (da_cons (de_im (i := 0) rfl (.inl rfl) rfl) (da_cons (de_im (i := 1) rfl (.inl rfl) rfl) da_nil)) ⟨R, m, rfl, g, hm, rfl⟩), by rw [noL_tuple]; exact vf_noL⟩ ⟨dl_lst da_nil (by decide), rfl⟩ ?_
    have hmb : (m : Int) + 1 < 2 ^ 40 := by
      have : (13 : Int) < 2 ^ 40 := by decide
      omega
    refine db_for fn_own rfl (dwk_range2 (lo := 1) (n := (m : Int) + 1) rfl m_range (da_cons de_int (da_cons (de_bin op_add (de_im (i := 1) rfl (.inl rfl) rfl) de_int v2_add) da_nil)) (by decide) (by decide) (by omega) hmb) (pg_name (i := 4) scFB.nd rfl (.inr rfl))
      (fun k δ1 => ∃ o1 o2, δ1 = [some (.im (RTd R)), some (.im (.int m)), some (.im (.tuple (VF (row R) (m + 1)))), some (.ow ((fbl R k).map FQ)), o1, o2, none, none]) ⟨none, none, rfl⟩ (fun k y δ1 hy ⟨o1, o2, e⟩ => ?_) (fun δ1 ⟨o1, o2, e⟩ => ?_)
    · subst e
      have hk : k < m := by
        have := (List.getElem?_eq_some_iff.mp hy).1
        simp at this
        omega
      rw [List.getElem?_map, List.getElem?_range (by omega)] at hy
      cases hy
      refine ⟨_, gb_name rfl, ?_⟩
      refine db_setLc (i := 5) (g := gTup K 2 (gCons (gName 6) (gCons (gName 7) gNil))) (fs := (known R (fbl R k) k).map FQ) rfl scFB.nd rfl rfl (dwc_enumL (ds := (fbl R k).map FQ) rfl m_enumerate (da_cons (de_ow (i := 3) rfl (.inl rfl) rfl) da_nil)) (blkOk_by (N := ["rates", "top", "row", "found", "many", "known", "spot", "first"]) (sc := defScope sFB) (own := [("spot", 6), ("first", 7)]) (by decide +kernel))
        (fun _ _ _ _ _ => pg_tup (n := 2) rfl (pgs_cons (pg_name (i := 6) scFB.nd rfl (.inl rfl)) (pgs_cons (pg_name (i := 7) scFB.nd rfl (.inl rfl)) pgs_nil))) (by rw [List.length_map, enumD_length, List.length_map, known_len, fbl_len]) (by rw [enumD_length, List.length_map, fbl_len]; omega) (noLs_FQ _) (fun j y fv hy hf => ?_) ?_
      · rw [enumD_get, Nat.zero_add, List.getElem?_map] at hy
        have hj : j < k := by
          refine Decidable.byContradiction fun z => ?_
          rw [List.getElem?_eq_none (by rw [fbl_len]; omega)] at hy
          cases hy
        have e1 : (fbl R k)[j]? = some ((fbl R k).getD j 0) := by
          rw [List.getD_eq_getElem?_getD, List.getElem?_eq_getElem (by rw [fbl_len]; omega)]
          rfl
        rw [e1] at hy
        cases hy
        have e2 : (known R (fbl R k) k)[j]? = some ((fbl R k).getD j 0 * row R (k - j)) := by
          unfold known
          rw [List.getElem?_map, List.getElem?_range hj]
          rfl
        rw [List.getElem?_map, e2] at hf
        cases hf
        have ei : (1 : Int) + k - j - 1 = ((k - j : Nat) : Int) := by omega
        exact ⟨_, gc_tup2 (gc_name rfl (by decide)) (gc_name noL_FQ (by decide)), fun _ _ _ _ _ => (de_call c_mul hr (by decide) rfl (da_cons (de_im (i := 7) rfl (.inl rfl) rfl) (da_cons (de_ixT (de_im (i := 2) rfl (.inr (.inl rfl)) rfl) (de_bin op_sub (de_bin op_sub (de_im (i := 4) rfl (.inr (.inl rfl)) rfl) (de_im (i := 6) rfl (.inl rfl) rfl) v2_sub) de_int v2_sub) (by rw [ei]; exact vf_at (by omega)) (fun _ _ => rfl)) da_nil)) ⟨_, _, rfl, (fbl_sz g (by omega) hj).sz (by decide), (row_sz g (by omega)).sz (by decide), rfl⟩)⟩
      · have ei : (1 : Int) + k = ((k + 1 : Nat) : Int) := by omega
        refine db_app (i := 3) rfl (.inl rfl) rfl (de_call c_sub hr (by decide) rfl (da_cons (de_ixT (de_im (i := 2) rfl (.inr (.inl rfl)) rfl) (de_im (i := 4) rfl (.inr (.inl rfl)) rfl) (by rw [ei]; exact vf_at (by omega)) (fun _ _ => rfl)) (da_cons (de_call c_sum_in hr (by decide) rfl (da_cons (de_ow (i := 5) rfl (.inl rfl) rfl) da_nil) ⟨known R (fbl R k) k, .inl rfl, (known_sz g (by omega)).1, (known_sz g (by omega)).2, by rw [known_len]; omega, rfl⟩) da_nil)) ⟨_, _, rfl, (row_sz g (by omega)).sz (by decide), fsum_sz g (by omega), rfl⟩) noL_FQ (by rw [List.length_map, fbl_len]; omega) (db_nil ⟨some (.im (.int ((1 : Int) + k))), some (.ow ((known R (fbl R k) k).map FQ)), ?_⟩) (pe_bm F.plainAttrs_list F.slot_list_append F.type_list_append mt_append)
        have ek : (fbl R (k + 1)).map FQ = (fbl R k).map FQ ++ [FQ (row R (k + 1) - (known R (fbl R k) k).foldl (· + ·) 0)] := by rw [fbl, List.map_append]; rfl
        rw [ek]
        rfl
    · subst e
      rw [List.length_map, List.length_range, show ((m : Int) + 1 - 1).toNat = m by omega]
      exact db_ret (de_callTy call_tuple_of rfl m_tuple (by decide +kernel) (da_cons (de_ow (i := 3) rfl (.inl rfl) rfl) da_nil) c1_tuple) rfl
end
end RS
set_option Elab.async false
set_option linter.all false
set_option maxRecDepth 100000
set_option maxHeartbeats 4000000
/-! part P9: what is a ladder -/
namespace RS
open PySem PySem.Spec PyProof.Rows L2 RM
abbrev sForm : Stmt := topS 46
abbrev sEndI : Stmt := topS 47
abbrev sIsLad : Stmt := topS 48
abbrev sNeedW : Stmt := topS 56
theorem scForm : FnScope ["thing"] ["thing"] (defScope sForm) := ⟨rfl, rfl, rfl, by decide +kernel, rfl, by decide +kernel, by decide +kernel⟩
theorem scEndI : FnScope ["ladder"] ["ladder"] (defScope sEndI) := ⟨rfl, rfl, rfl, by decide +kernel, rfl, by decide +kernel, by decide +kernel⟩
theorem scIsLad : FnScope ["thing", "total", "levels", "steps", "one"] ["thing"] (defScope sIsLad) := ⟨rfl, rfl, rfl, by decide +kernel, rfl, by decide +kernel, by decide +kernel⟩
theorem scNeedW : FnScope ["ladder"] ["ladder"] (defScope sNeedW) := ⟨rfl, rfl, rfl, by decide +kernel, rfl, by decide +kernel, by decide +kernel⟩
/-! x in a tuple of flat data -/
def dV : PyData → V
  | .bool b => .bl b
  | .int i => .int i
  | .str s => .str s
  | _ => .non
def flD : PyData → Bool
  | .none | .bool _ | .int _ | .str _ => true
  | _ => false
theorem dp_dV {K : PySem.W.Frag} {H : Hp} {v : V} {d : PyData} (h : Dp K H v d) (f : flD d = true) : v = dV d := by
  cases h <;> first | rfl | cases f
theorem fl_dV (d : PyData) : flatV (dV d) = true := by cases d <;> rfl
theorem dpa_dV {K : PySem.W.Frag} {H : Hp} : ∀ {vs : List V} {ds : List PyData}, DpAll K H vs ds → ds.all flD = true → vs = ds.map dV
  | _, _, .nil, _ => rfl
  | _, _, .cons h t, f => by
    rw [List.all_cons, Bool.and_eq_true] at f
    rw [dp_dV h f.1, dpa_dV t f.2]
    rfl
theorem v2_ninT {K : PySem.W.Frag} {x : PyData} {ds : List PyData} (hx : flD x = true) (hd : ds.all flD = true) : V2 K (rIn K true) x (.tuple ds) (.bool (!inV (dV x) (ds.map dV))) := fun v u H Q h1 h2 q => by
  obtain ⟨p, vs, rfl, h3, h4⟩ := dp_tup h2
  rw [dp_dV h1 hx]
  have e := dpa_dV h4 hd
  refine ⟨p, vs, rfl, .inr h3, fl_dV x, ?_, ?_⟩
  · rw [e, List.all_map]
    exact List.all_eq_true.mpr fun d _ => fl_dV d
  · rw [if_pos rfl, e]
    exact q _ H .rfl (.bl _)
/-! forms -/
def fr5 : PyData → Bool
  | .tuple l => decide ((l.length : Int) ≤ 5) && l.all isF
  | _ => false
def isForm : PyData → Bool
  | .tuple [a, b, c] => (isF a && decide (0 < toQ a)) && (fr5 b && fr5 c)
  | _ => false
theorem isForm_len {l : List PyData} (h : l.length ≠ 3) : isForm (.tuple l) = false := by
  match l, h with
  | [], _ => rfl
  | [_], _ => rfl
  | [_, _], _ => rfl
  | [_, _, _], h => simp at h
  | _ :: _ :: _ :: _ :: _, _ => rfl
def LD (t : Rat) (ls ss : List Rat) : PyData := .tuple [FQ t, .tuple (ls.map FQ), .tuple (ss.map FQ)]
structure LGood (t : Rat) (ls ss : List Rat) : Prop where
  zt : Szn 250 t
  zl : ∀ q ∈ ls, Szn 250 q
  zs : ∀ q ∈ ss, Szn 250 q
  p : 0 < t
  nl : ls.length ≤ 5
  ns : ss.length ≤ 5
theorem okDs_FQ {qs : List Rat} (h : ∀ q ∈ qs, Szn 250 q) : okDs (qs.map FQ) = true := okDs_all.mpr fun d hd => by
  obtain ⟨q, hq, rfl⟩ := List.mem_map.mp hd
  exact okD_FQ (h q hq)
theorem LGood.tpl {t : Rat} {ls ss : List Rat} (g : LGood t ls ss) : Tpl (LD t ls ss) := by
  refine Tpl.of ?_
  unfold LD
  have n1 := g.nl
  have n2 := g.ns
  simp only [okD, okDs, Bool.and_eq_true, decide_eq_true_eq, List.length_map, okD_FQ g.zt, okDs_FQ g.zl, okDs_FQ g.zs]
  exact ⟨by simp, trivial, ⟨by omega, trivial⟩, ⟨by omega, trivial⟩, trivial⟩
theorem fr5_FQ {qs : List Rat} (h : qs.length ≤ 5) : fr5 (.tuple (qs.map FQ)) = true := by
  show (decide (((qs.map FQ).length : Int) ≤ 5) && (qs.map FQ).all isF) = true
  rw [List.length_map, decide_eq_true (by omega), Bool.true_and]
  exact List.all_eq_true.mpr fun d hd => by
    obtain ⟨q, _, rfl⟩ := List.mem_map.mp hd
    exact isF_q q
theorem LGood.form {t : Rat} {ls ss : List Rat} (g : LGood t ls ss) : isForm (LD t ls ss) = true := by
  show ((isF (FQ t) && decide (0 < toQ (FQ t))) && (fr5 _ && fr5 _)) = true
  rw [isF_q, toQ_FQ, fr5_FQ g.nl, fr5_FQ g.ns, decide_eq_true g.p]
  rfl
theorem noL_LD {t : Rat} {ls ss : List Rat} : noL (LD t ls ss) = true := by
  unfold LD
  simp [noL, noLs, noLs_FQ, noL_FQ]
section
variable {P : Program} {w : World} {K : PySem.W.Frag} {mg : Str → Option Value} {base : Heap} {CL : Addr}
abbrev frForm (ds : List PyData) (r : Res) : Prop := ∃ d, ds = [d] ∧ Tpl d ∧ r = .ok (.bool (isForm d))
theorem cn_form (h : Hd K mg "is_form" sForm ["thing"]) (m_isinstance : mg "isinstance" = none) (m_tuple : mg "tuple" = none) (m_len : mg "len" = none) (gNOUGHT : Kd K mg "NOUGHT" (FQ 0)) (gMOST_ENDED : Kd K mg "MOST_ENDED" (.int 5))
    (c_is_fraction : Cn P w K mg base "is_fraction" 2 frIsF) (c_is_under : Cn P w K mg base "is_under" 1 frUnder) (c_are_fractions : Cn P w K mg base "are_fractions" 3 frArFr) : Cn P w K mg base "is_form" 4 frForm := by
  refine h.cn scForm (fun ds r ⟨d, e, _⟩ => by rw [e]; rfl) fun f cdv A outer s H E ds r ⟨d, e1, ht, e2⟩ hr => ?_
  subst e1 e2
  rcases tup_or d with hd | ⟨l, rfl⟩
  · refine db_ifT (DT.is (DW.dt (dw_or (l := true) (dt_not (dt_val (de_isi rfl m_isinstance rfl m_tuple (by decide +kernel) (de_im (i := 0) rfl (.inl rfl) rfl) (kb_tuple _)))) (fun z => by rw [hd] at z; cases z))) (by rw [hd]; rfl)) (db_ret de_bl ?_)
    cases d <;> first | rfl | simp [isT] at hd
  by_cases hl : l.length = 3
  · match l, hl with
    | [a, b, c], _ =>
      cases hF : isF a with
      | false =>
        refine db_ifT (DT.is (DW.dt (dw_or (dt_not (dt_val (de_isi rfl m_isinstance rfl m_tuple (by decide +kernel) (de_im (i := 0) rfl (.inl rfl) rfl) (kb_tuple _)))) (fun _ => dw_or (dt_cmp (op_neD (by exact hr.units)) (de_callB call_len rfl m_len (by decide +kernel) (da_cons (de_im (i := 0) rfl (.inl rfl) rfl) da_nil) c1_lenT) de_int (v2_ne shp_int shp_int) (nomark _)) (fun _ => dw_or (l := true) (dt_not (dt_val (de_call c_is_fraction hr (by decide) rfl (da_cons (de_ixT (de_im (i := 0) rfl (.inl rfl) rfl) de_int (atI_nat (j := 0) rfl) (fun _ _ => rfl)) da_nil) ⟨_, rfl, Tpl.of (ht.item (by simp)), rfl⟩))) (fun z => by rw [hF] at z; cases z))))) (by rw [hF]; rfl)) (db_ret de_bl ?_)
        show _ = Res.ok (.bool ((isF a && _) && _))
        rw [hF]
        rfl
      | true =>
        have ea := isF_FQ hF
        have sa : Szn 250 (toQ a) := sz_ok (by rw [← ea]; exact ht.item (by simp))
        refine db_guard (DW.dt (dw_or (dt_not (dt_val (de_isi rfl m_isinstance rfl m_tuple (by decide +kernel) (de_im (i := 0) rfl (.inl rfl) rfl) (kb_tuple _)))) (fun g1 => dw_or (dt_cmp (op_neD (by exact hr.units)) (de_callB call_len rfl m_len (by decide +kernel) (da_cons (de_im (i := 0) rfl (.inl rfl) rfl) da_nil) c1_lenT) de_int (v2_ne shp_int shp_int) (nomark _)) (fun g2 => dw_or (dt_not (dt_val (de_call c_is_fraction hr (by decide) rfl (da_cons (de_ixT (de_im (i := 0) rfl (.inl rfl) rfl) de_int (atI_nat (j := 0) rfl) (fun _ _ => rfl)) da_nil) ⟨_, rfl, Tpl.of (ht.item (by simp)), rfl⟩))) (fun g3 => dw_or1 (dt_not (dt_val (de_call c_is_under hr (by decide) rfl (da_cons (de_glob gNOUGHT rfl) (da_cons (de_ixT (de_im (i := 0) rfl (.inl rfl) rfl) de_int (atI_nat (j := 0) rfl) (fun _ _ => rfl)) da_nil)) ⟨0, toQ a, by rw [← ea], szn_zero.sz (by decide), sa.sz (by decide), rfl⟩)))))))) (fun hb => ?_) (fun hb => ?_)
        · have hb : (!isF a || !decide (0 < toQ a)) = true := hb
          show _ = Res.ok (.bool ((isF a && decide (0 < toQ a)) && _))
          rw [← Bool.not_and, Bool.not_eq_true'] at hb
          rw [hb]
          rfl
        · have hb : (!isF a || !decide (0 < toQ a)) = false := hb
          rw [← Bool.not_and, Bool.not_eq_false'] at hb
          refine db_ret (de_and (de_call c_are_fractions hr (by decide) rfl (da_cons (de_ixT (de_im (i := 0) rfl (.inl rfl) rfl) de_int (atI_nat (j := 1) rfl) (fun _ _ => rfl)) (da_cons (de_glob gMOST_ENDED rfl) da_nil)) ⟨_, _, rfl, Tpl.of (ht.item (by simp)), rfl⟩) (fun g1 => (de_one (de_call c_are_fractions hr (by decide) rfl (da_cons (de_ixT (de_im (i := 0) rfl (.inl rfl) rfl) de_int (atI_nat (j := 2) rfl) (fun _ _ => rfl)) (da_cons (de_glob gMOST_ENDED rfl) da_nil)) ⟨_, _, rfl, Tpl.of (ht.item (by simp)), rfl⟩)))) ?_
          show _ = Res.ok (.bool ((isF a && decide (0 < toQ a)) && _))
          rw [hb, Bool.true_and]
          rfl
  · refine db_ifT (DT.is (DW.dt (dw_or (dt_not (dt_val (de_isi rfl m_isinstance rfl m_tuple (by decide +kernel) (de_im (i := 0) rfl (.inl rfl) rfl) (kb_tuple _)))) (fun _ => dw_or (l := true) (dt_cmp (op_neD (by exact hr.units)) (de_callB call_len rfl m_len (by decide +kernel) (da_cons (de_im (i := 0) rfl (.inl rfl) rfl) da_nil) c1_lenT) de_int (v2_ne shp_int shp_int) (nomark _)) (fun z => by rw [ne_len (n := 3) (by omega)] at z; cases z)))) (by rw [ne_len (n := 3) (by omega)]; rfl)) (db_ret de_bl ?_)
    rw [isForm_len hl]
/-! ended -/
def endB (ss : List Rat) : Bool := match ss.getLast? with
  | none => false
  | some q => zer q
abbrev frEnd (ds : List PyData) (r : Res) : Prop := ∃ t ls ss, ds = [LD t ls ss] ∧ LGood t ls ss ∧ r = .ok (.bool (endB ss))
theorem shpT_FQ (qs : List Rat) : SeqAt.shaped (.tuple (qs.map FQ)) = true := by
  have := shps_FQ qs
  simpa [SeqAt.shaped, PyData.canLay0, PyData.depth] using this
theorem atI_lastM {qs : List Rat} {q : Rat} (h : qs.getLast? = some q) : atI (qs.map FQ) (-1) = some (FQ q) := by
  obtain ⟨l, rfl⟩ := List.getLast?_eq_some_iff.mp h
  rw [List.map_append]
  exact atI_last _ _
theorem eqv_nil {qs : List Rat} : PyData.eqv (.tuple (qs.map FQ)) (.tuple []) = qs.isEmpty := by
  cases qs <;> simp [PyData.eqv, PyData.eqvAll]
theorem cn_endI (h : Hd K mg "is_ended_in" sEndI ["ladder"]) (gNOUGHT : Kd K mg "NOUGHT" (FQ 0)) : Cn P w K mg base "is_ended_in" 1 frEnd := by
  refine h.cn scEndI (fun ds r ⟨t, ls, ss, e, _⟩ => by rw [e]; rfl) fun f cdv A outer s H E ds r ⟨t, ls, ss, e1, g, e2⟩ hr => ?_
  subst e1 e2
  cases hL : ss.getLast? with
  | none =>
    have : ss = [] := List.getLast?_eq_none_iff.mp hL
    subst this
    exact db_ret (de_and (l := false) (de_cmp (op_neD (by exact hr.units)) (de_ixT (de_im (i := 0) rfl (.inl rfl) rfl) de_int (atI_nat (j := 2) rfl) (fun _ _ => rfl)) (de_tup da_nil (Nat.le_of_ble_eq_true rfl)) (v2_ne (shpT_FQ []) (shpT_FQ [])) (nomark _)) (fun z => by rw [eqv_nil (qs := [])] at z; cases z)) (by rw [eqv_nil (qs := [])]; rfl)
  | some q =>
    have e := atI_lastM hL
    refine db_ret (de_and (de_cmp (op_neD (by exact hr.units)) (de_ixT (de_im (i := 0) rfl (.inl rfl) rfl) de_int (atI_nat (j := 2) rfl) (fun _ _ => rfl)) (de_tup da_nil (Nat.le_of_ble_eq_true rfl)) (v2_ne (shpT_FQ ss) (shpT_FQ [])) (nomark _)) (fun g1 => (de_one (de_cmp (op_eqD (by exact hr.units)) (de_ixT (de_ixT (de_im (i := 0) rfl (.inl rfl) rfl) de_int (atI_nat (j := 2) rfl) (fun _ _ => rfl)) (de_neg de_int) e (fun _ _ => rfl)) (de_glob gNOUGHT rfl) (v2_eq shp_FQ shp_FQ) (nomark _))))) ?_
    rw [eqv_nil, eqv_FQ]
    have hn : ss.isEmpty = false := by
      cases ss with
      | nil => cases hL
      | cons _ _ => rfl
    show Res.ok (.bool (!_ && _)) = Res.ok (.bool (endB ss))
    rw [hn]
    unfold endB
    rw [hL]
    rfl
end
end RS
set_option Elab.async false
set_option linter.all false
set_option maxRecDepth 100000
set_option maxHeartbeats 4000000
/-! part P10: ladders that are refused, papers that are refused -/
namespace RS
open PySem PySem.Spec PyProof.Rows L2 RM
abbrev sWalkL : Stmt := topS 55
abbrev sRatesOf : Stmt := topS 60
abbrev sWalkP : Stmt := topS 61
abbrev sShow : Stmt := topS 62
abbrev sCheck : Stmt := topS 63
theorem scWalkL : FnScope ["rates"] ["rates"] (defScope sWalkL) := ⟨rfl, rfl, rfl, by decide +kernel, rfl, by decide +kernel, by decide +kernel⟩
theorem scRatesOf : FnScope ["ladder"] ["ladder"] (defScope sRatesOf) := ⟨rfl, rfl, rfl, by decide +kernel, rfl, by decide +kernel, by decide +kernel⟩
theorem scWalkP : FnScope ["ladder", "low", "barred", "rung", "level"] ["ladder"] (defScope sWalkP) := ⟨rfl, rfl, rfl, by decide +kernel, rfl, by decide +kernel, by decide +kernel⟩
theorem scShow : FnScope ["ladder", "paper"] ["ladder", "paper"] (defScope sShow) := ⟨rfl, rfl, rfl, by decide +kernel, rfl, by decide +kernel, by decide +kernel⟩
theorem scCheck : FnScope ["ladder", "paper"] ["ladder", "paper"] (defScope sCheck) := ⟨rfl, rfl, rfl, by decide +kernel, rfl, by decide +kernel, by decide +kernel⟩
def up0 (y : PyData) : Bool := decide (0 < toQ y)
def ladB (ls ss : List Rat) : Bool := if endB ss then decide ((ls.length : Int) = ss.length) && ((ss.map FQ).dropLast).all up0 else !(decide ((4 : Int) < ls.length) || !inV (.int ((ls.length : Int) - ss.length)) [.int 0, .int 1]) && (ss.map FQ).all up0
inductive FrIL : List PyData → Res → Prop
  | no {d : PyData} (ht : Tpl d) (hb : isForm d = false) : FrIL [d] (.ok (.bool false))
  | form {t : Rat} {ls ss : List Rat} (g : LGood t ls ss) : FrIL [LD t ls ss] (.ok (.bool (ladB ls ss)))
section
variable {P : Program} {w : World} {K : PySem.W.Frag} {mg : Str → Option Value} {base : Heap} {CR CL CP : Addr}
theorem cn_islad (h : Hd K mg "is_ladder" sIsLad ["thing"]) (m_len : mg "len" = none) (m_all : mg "all" = none) (gNOUGHT : Kd K mg "NOUGHT" (FQ 0)) (gMOST_OPEN : Kd K mg "MOST_OPEN" (.int 4)) (c_is_form : Cn P w K mg base "is_form" 4 frForm) (c_is_ended_in : Cn P w K mg base "is_ended_in" 1 frEnd)
    (c_is_under : Cn P w K mg base "is_under" 1 frUnder) : Cn P w K mg base "is_ladder" 5 FrIL := by
  refine h.cn scIsLad (fun ds r e => by cases e <;> rfl) fun f cdv A outer s H E ds r hf hr => ?_
  cases hf with
  | no ht hb => exact db_ifT (DT.is (dt_not (dt_val (de_call c_is_form hr (by decide) rfl (da_cons (de_im (i := 0) rfl (.inl rfl) rfl) da_nil) ⟨_, rfl, ht, rfl⟩))) (by rw [hb]; rfl)) (db_ret de_bl rfl)
  | @form t ls ss g =>
    have n1 := g.nl
    have n2 := g.ns
    have hs : ∀ d ∈ ss.map FQ, okD d = true := fun d hd => by
      obtain ⟨q, hq, rfl⟩ := List.mem_map.mp hd
      exact okD_FQ (g.zs q hq)
    have hq : ∀ d ∈ ss.map FQ, d = FQ (toQ d) ∧ Szn 250 (toQ d) := fun d hd => by
      obtain ⟨q, hq, rfl⟩ := List.mem_map.mp hd
      rw [toQ_FQ]
      exact ⟨rfl, g.zs q hq⟩
    refine db_ifF (DT.is (dt_not (dt_val (de_call c_is_form hr (by decide) rfl (da_cons (de_im (i := 0) rfl (.inl rfl) rfl) da_nil) ⟨_, rfl, g.tpl, rfl⟩))) (by rw [g.form]; rfl)) ?_
    refine db_asg (d := LD t ls ss) (de_im (i := 0) rfl (.inl rfl) rfl) (pg_tup (n := 3) rfl (pgs_cons (pg_name (i := 1) scIsLad.nd rfl (.inl rfl)) (pgs_cons (pg_name (i := 2) scIsLad.nd rfl (.inl rfl)) (pgs_cons (pg_name (i := 3) scIsLad.nd rfl (.inl rfl)) pgs_nil)))) (gb_tup3 (gb_name noL_FQ) (gb_name (by rw [noL_tuple]; exact noLs_FQ ls)) (gb_name (by rw [noL_tuple]; exact noLs_FQ ss))) ?_
    cases hE : endB ss with
    | true =>
      refine db_ifT (DT.is (dt_val (de_call c_is_ended_in hr (by decide) rfl (da_cons (de_im (i := 0) rfl (.inl rfl) rfl) da_nil) ⟨t, ls, ss, rfl, g, rfl⟩)) hE) ?_
      refine db_ret (de_and (de_cmp (op_eqD (by exact hr.units)) (de_callB call_len rfl m_len (by decide +kernel) (da_cons (de_im (i := 2) rfl (.inl rfl) rfl) da_nil) c1_lenT) (de_callB call_len rfl m_len (by decide +kernel) (da_cons (de_im (i := 3) rfl (.inl rfl) rfl) da_nil) c1_lenT) (v2_eq shp_int shp_int) (nomark _)) (fun g1 => (de_one (de_all rfl m_all rfl (dl_map rfl scIsLad.nd (g := gName 4) (ys := (ss.map FQ).dropLast) (dwc_tup (DE.is (de_slT (de_im (i := 3) rfl (.inl rfl) rfl) (.inl ⟨rfl, rfl⟩) (.inr ⟨_, _, rfl, rfl, (de_neg de_int)⟩)) (by rw [cutD_m1]))) (blkOk_by (N := ["thing", "total", "levels", "steps", "one"]) (sc := defScope sIsLad) (own := [("one", 4)]) (by decide +kernel)) (fun _ _ _ _ _ => pg_name (i := 4) scIsLad.nd rfl (.inl rfl)) (fun y => .bool (up0 y)) (by rw [List.length_dropLast, List.length_map]; omega) (fun _ _ => rfl) (fun z hz => ⟨_, gc_name (okD_noL _ (hs z (by rw [List.dropLast_eq_take] at hz; exact List.mem_of_mem_take hz))) (by decide), fun _ _ _ _ _ => de_call c_is_under hr (by decide) rfl (da_cons (de_glob gNOUGHT rfl) (da_cons (de_im (i := 4) rfl (.inl rfl) rfl) da_nil)) ⟨0, toQ z, by rw [← (hq z (by rw [List.dropLast_eq_take] at hz; exact List.mem_of_mem_take hz)).1], szn_zero.sz (by decide), (hq z (by rw [List.dropLast_eq_take] at hz; exact List.mem_of_mem_take hz)).2.sz (by decide), rfl⟩⟩)))))) ?_
      unfold ladB
      rw [if_pos hE, eqv_int, List.length_map, List.length_map]
      rfl
    | false =>
      refine db_ifF (DT.is (dt_val (de_call c_is_ended_in hr (by decide) rfl (da_cons (de_im (i := 0) rfl (.inl rfl) rfl) da_nil) ⟨t, ls, ss, rfl, g, rfl⟩)) hE) ?_
      have lenL : ∀ {p1 p2 p3 : Pos}, DE (fnX P w K mg base ["thing", "total", "levels", "steps", "one"] "is_ladder" sIsLad f cdv A outer s H E) H [some (.im (LD t ls ss)), some (.im (FQ t)), some (.im (.tuple (ls.map FQ))), some (.im (.tuple (ss.map FQ))), none] (.Call (.Name "len" p1) [.Name "levels" p2] [] p3) (.int ls.length) := fun {p1 p2 p3} =>
        DE.is (de_callB call_len rfl m_len (by decide +kernel) (da_cons (de_im (i := 2) rfl (.inl rfl) rfl) da_nil) c1_lenT) (by rw [List.length_map])
      have lenS : ∀ {p1 p2 p3 : Pos}, DE (fnX P w K mg base ["thing", "total", "levels", "steps", "one"] "is_ladder" sIsLad f cdv A outer s H E) H [some (.im (LD t ls ss)), some (.im (FQ t)), some (.im (.tuple (ls.map FQ))), some (.im (.tuple (ss.map FQ))), none] (.Call (.Name "len" p1) [.Name "steps" p2] [] p3) (.int ss.length) := fun {p1 p2 p3} =>
        DE.is (de_callB call_len rfl m_len (by decide +kernel) (da_cons (de_im (i := 3) rfl (.inl rfl) rfl) da_nil) c1_lenT) (by rw [List.length_map])
      refine db_guard (b := decide ((4 : Int) < ls.length) || !inV (.int ((ls.length : Int) - ss.length)) [.int 0, .int 1]) (DW.dt (dw_or (dt_cmp op_gt lenL (de_glob gMOST_OPEN rfl) v2_gt (nomark _)) (fun _ => dw_or1 (dt_cmp op_notIn_seq (de_bin op_sub lenL lenS v2_sub) (de_tup (da_cons de_int (da_cons de_int da_nil)) (Nat.le_of_ble_eq_true rfl)) (v2_ninT rfl rfl) (by rfl))))) (fun hb => ?_) (fun hb => ?_)
      · unfold ladB
        rw [if_neg (by rw [hE]; decide), hb]
        rfl
      · refine db_ret (de_all rfl m_all rfl (dl_map rfl scIsLad.nd (g := gName 4) (ys := ss.map FQ) (dwc_tup (de_im (i := 3) rfl (.inl rfl) rfl)) (blkOk_by (N := ["thing", "total", "levels", "steps", "one"]) (sc := defScope sIsLad) (own := [("one", 4)]) (by decide +kernel)) (fun _ _ _ _ _ => pg_name (i := 4) scIsLad.nd rfl (.inl rfl)) (fun y => .bool (up0 y)) (by rw [List.length_map]; omega) (fun _ _ => rfl) (fun z hz => ⟨_, gc_name (okD_noL _ (hs z hz)) (by decide), fun _ _ _ _ _ => de_call c_is_under hr (by decide) rfl (da_cons (de_glob gNOUGHT rfl) (da_cons (de_im (i := 4) rfl (.inl rfl) rfl) da_nil)) ⟨0, toQ z, by rw [← (hq z hz).1], szn_zero.sz (by decide), (hq z hz).2.sz (by decide), rfl⟩⟩))) ?_
        unfold ladB
        rw [if_neg (by rw [hE]; decide), hb]
        rfl
inductive FrNW (CL : Addr) : List PyData → Res → Prop
  | no {d : PyData} (ht : Tpl d) (hb : isForm d = false) : FrNW CL [d] (.err CL "given" d)
  | bad {t : Rat} {ls ss : List Rat} (g : LGood t ls ss) (hb : (ladB ls ss && (endB ss && zer (t - 1))) = false) : FrNW CL [LD t ls ss] (.err CL "given" (LD t ls ss))
  | ok {t : Rat} {ls ss : List Rat} (g : LGood t ls ss) (hb : (ladB ls ss && (endB ss && zer (t - 1))) = true) : FrNW CL [LD t ls ss] (.ok .none)
theorem zer_one {t : Rat} : decide (t = 1) = zer (t - 1) := by
  unfold zer
  exact decide_eq_decide.mpr ⟨fun h => by rw [h]; exact Rat.sub_self, fun h => by grind⟩
theorem cn_needw (h : Hd K mg "need_walkable" sNeedW ["ladder"]) (c_is_ladder : Cn P w K mg base "is_ladder" 5 FrIL) (c_is_ended_in : Cn P w K mg base "is_ended_in" 1 frEnd) (c_whole : Cn P w K mg base "whole" 1 frWhole) (er : Er P w K mg base "BadLadder" CL "given") : Cn P w K mg base "need_walkable" 6 (FrNW CL) := by
  refine h.cn scNeedW (fun ds r e => by cases e <;> rfl) fun f cdv A outer s H E ds r hf hr => ?_
  cases hf with
  | no ht hb => exact db_ifT (DT.is (DW.dt (dw_or (l := true) (dt_not (dt_val (de_call c_is_ladder hr (by decide) rfl (da_cons (de_im (i := 0) rfl (.inl rfl) rfl) da_nil) (FrIL.no ht hb)))) (fun z => by cases z))) rfl) (db_raise er rfl fn_takes hr (by decide) rfl (de_im (i := 0) rfl (.inl rfl) rfl) rfl)
  | @bad t ls ss g hb =>
    refine db_ifT (DT.is (DW.dt (dw_or (dt_not (dt_val (de_call c_is_ladder hr (by decide) rfl (da_cons (de_im (i := 0) rfl (.inl rfl) rfl) da_nil) (FrIL.form g)))) (fun g1 => dw_or (dt_not (dt_val (de_call c_is_ended_in hr (by decide) rfl (da_cons (de_im (i := 0) rfl (.inl rfl) rfl) da_nil) ⟨t, ls, ss, rfl, g, rfl⟩))) (fun g2 => dw_or1 (dt_cmp (op_neD (by exact hr.units)) (de_ixT (de_im (i := 0) rfl (.inl rfl) rfl) de_int (atI_nat (j := 0) rfl) (fun _ _ => rfl)) (de_call c_whole hr (by decide) rfl (da_cons de_int da_nil) ⟨1, rfl, rfl⟩) (v2_ne shp_FQ (by rw [FI_one]; exact shp_FQ)) (nomark _)))))) ?_) (db_raise er rfl fn_takes hr (by decide) rfl (de_im (i := 0) rfl (.inl rfl) rfl) rfl)
    rw [FI_one, eqv_FQ, zer_one, ← Bool.not_and, ← Bool.not_and, hb]
    rfl
  | @ok t ls ss g hb =>
    refine db_ifF (DT.is (DW.dt (dw_or (dt_not (dt_val (de_call c_is_ladder hr (by decide) rfl (da_cons (de_im (i := 0) rfl (.inl rfl) rfl) da_nil) (FrIL.form g)))) (fun g1 => dw_or (dt_not (dt_val (de_call c_is_ended_in hr (by decide) rfl (da_cons (de_im (i := 0) rfl (.inl rfl) rfl) da_nil) ⟨t, ls, ss, rfl, g, rfl⟩))) (fun g2 => dw_or1 (dt_cmp (op_neD (by exact hr.units)) (de_ixT (de_im (i := 0) rfl (.inl rfl) rfl) de_int (atI_nat (j := 0) rfl) (fun _ _ => rfl)) (de_call c_whole hr (by decide) rfl (da_cons de_int da_nil) ⟨1, rfl, rfl⟩) (v2_ne shp_FQ (by rw [FI_one]; exact shp_FQ)) (nomark _)))))) ?_) (db_nil rfl)
    rw [FI_one, eqv_FQ, zer_one, ← Bool.not_and, ← Bool.not_and, hb]
    rfl
theorem cn_walkl (h : Hd K mg "walk_ladder" sWalkL ["rates"]) (c_need_rates : Cn P w K mg base "need_rates" 7 (frNeed CR)) {k : Nat} {FR : List PyData → Res → Prop} (hk : k ≤ 7) (c_ladder_from : Cn P w K mg base "ladder_from" k FR) : Cn P w K mg base "walk_ladder" 8 (frBad CR) := by
  refine h.cn scWalkL (fun ds r ⟨d, e, _⟩ => by rw [e]; rfl) fun f cdv A outer s H E ds r ⟨d, e1, ht, hb, e2⟩ hr => ?_
  subst e1 e2
  exact db_retX (dx_arg c_ladder_from hr hk rfl (dx_call fn_pass c_need_rates hr (by decide) rfl (da_cons (de_im (i := 0) rfl (.inl rfl) rfl) da_nil) (need_bad ht hb))) rfl
inductive FrLX (CL : Addr) : List PyData → Res → Prop
  | no {d : PyData} (ht : Tpl d) (hb : isForm d = false) : FrLX CL [d] (.err CL "given" d)
  | bad {t : Rat} {ls ss : List Rat} (g : LGood t ls ss) (hb : (ladB ls ss && (endB ss && zer (t - 1))) = false) : FrLX CL [LD t ls ss] (.err CL "given" (LD t ls ss))
theorem cn_ratesof (h : Hd K mg "rates_of" sRatesOf ["ladder"]) (c_need_walkable : Cn P w K mg base "need_walkable" 6 (FrNW CL)) : Cn P w K mg base "rates_of" 7 (FrLX CL) := by
  refine h.cn scRatesOf (fun ds r e => by cases e <;> rfl) fun f cdv A outer s H E ds r hf hr => ?_
  cases hf with
  | no ht hb => exact db_exprX (dx_call fn_pass c_need_walkable hr (by decide) rfl (da_cons (de_im (i := 0) rfl (.inl rfl) rfl) da_nil) (FrNW.no ht hb)) rfl
  | bad g hb => exact db_exprX (dx_call fn_pass c_need_walkable hr (by decide) rfl (da_cons (de_im (i := 0) rfl (.inl rfl) rfl) da_nil) (FrNW.bad g hb)) rfl
theorem cn_walkp (h : Hd K mg "walk_paper" sWalkP ["ladder"]) (c_need_walkable : Cn P w K mg base "need_walkable" 6 (FrNW CL)) : Cn P w K mg base "walk_paper" 7 (FrLX CL) := by
  refine h.cn scWalkP (fun ds r e => by cases e <;> rfl) fun f cdv A outer s H E ds r hf hr => ?_
  cases hf with
  | no ht hb => exact db_exprX (dx_call fn_pass c_need_walkable hr (by decide) rfl (da_cons (de_im (i := 0) rfl (.inl rfl) rfl) da_nil) (FrNW.no ht hb)) rfl
  | bad g hb => exact db_exprX (dx_call fn_pass c_need_walkable hr (by decide) rfl (da_cons (de_im (i := 0) rfl (.inl rfl) rfl) da_nil) (FrNW.bad g hb)) rfl
def stayP : PyData := .tuple [.str "stay", .bool false]
abbrev frShow (ds : List PyData) (r : Res) : Prop := ∃ d, ds = [d, stayP] ∧ r = .ok (.bool false)
theorem shp_str {z : Str} (h : PyData.strOk z = true := by decide +kernel) : SeqAt.shaped (.str z) = true := by simp [SeqAt.shaped, PyData.canLay0, PyData.depth, h]
theorem ne_walk : PyData.eqv (.str "stay") (.str "walk") = false := by
  have : (Str.ofString "stay" == Str.ofString "walk") = false := by decide +kernel
  simpa [PyData.eqv] using this
theorem cn_show (h : Hd K mg "does_show" sShow ["ladder", "paper"]) (gWALK : Kd K mg "WALK" (.str "walk")) (c_is_integer : Cn P w K mg base "is_integer" 1 frIsInt) : Cn P w K mg base "does_show" 2 frShow := by
  refine h.cn scShow (fun ds r ⟨d, e, _⟩ => by rw [e]; rfl) fun f cdv A outer s H E ds r ⟨d, e1, e2⟩ hr => ?_
  subst e1 e2
  refine db_ifF (DT.is (dt_cmp (op_eqD (by exact hr.units)) (de_ixT (de_im (i := 1) rfl (.inl rfl) rfl) de_int (atI_nat (j := 0) rfl) (fun _ _ => rfl)) (de_glob gWALK rfl) (v2_eq shp_str shp_str) (nomark _)) ne_walk) ?_
  exact db_ifT (DT.is (DW.dt (dw_or (l := true) (dt_not (dt_val (de_call c_is_integer hr (by decide) rfl (da_cons (de_ixT (de_im (i := 1) rfl (.inl rfl) rfl) de_int (atI_nat (j := 1) rfl) (fun _ _ => rfl)) da_nil) ⟨_, rfl, rfl⟩))) (fun z => by cases z))) rfl) (db_ret de_bl rfl)
def wordsD : List PyData := [.str "walk", .str "stay", .str "up"]
def formP : PyData → Bool
  | .tuple [.str s, _] => inV (.str s) (wordsD.map dV)
  | _ => false
inductive FrCW (CL CP : Addr) : List PyData → Res → Prop
  | no {d y : PyData} (ht : Tpl d) (hb : isForm d = false) : FrCW CL CP [d, y] (.err CL "given" d)
  | bad {t : Rat} {ls ss : List Rat} {y : PyData} (g : LGood t ls ss) (hb : (ladB ls ss && (endB ss && zer (t - 1))) = false) : FrCW CL CP [LD t ls ss, y] (.err CL "given" (LD t ls ss))
  | form {t : Rat} {ls ss : List Rat} {y : PyData} (g : LGood t ls ss) (hb : (ladB ls ss && (endB ss && zer (t - 1))) = true) (hp : formP y = false) : FrCW CL CP [LD t ls ss, y] (.err CP "part" (.str "form"))
  | stay {t : Rat} {ls ss : List Rat} (g : LGood t ls ss) (hb : (ladB ls ss && (endB ss && zer (t - 1))) = true) : FrCW CL CP [LD t ls ss, stayP] (.err CP "part" (.str "stay"))
theorem cn_check (h : Hd K mg "check_walk" sCheck ["ladder", "paper"]) (m_isinstance : mg "isinstance" = none) (m_tuple : mg "tuple" = none) (m_str : mg "str" = none) (m_len : mg "len" = none) (gWORDS : Kd K mg "WORDS" (.tuple wordsD)) (c_need_walkable : Cn P w K mg base "need_walkable" 6 (FrNW CL))
    (c_does_show : Cn P w K mg base "does_show" 2 frShow) (er : Er P w K mg base "BadPaper" CP "part") : Cn P w K mg base "check_walk" 7 (FrCW CL CP) := by
  refine h.cn scCheck (fun ds r e => by cases e <;> rfl) fun f cdv A outer s H E ds r hf hr => ?_
  cases hf with
  | no ht hb => exact db_exprX (dx_call fn_pass c_need_walkable hr (by decide) rfl (da_cons (de_im (i := 0) rfl (.inl rfl) rfl) da_nil) (FrNW.no ht hb)) rfl
  | bad g hb => exact db_exprX (dx_call fn_pass c_need_walkable hr (by decide) rfl (da_cons (de_im (i := 0) rfl (.inl rfl) rfl) da_nil) (FrNW.bad g hb)) rfl
  | @form t ls ss y g hb hp =>
    refine db_expr (de_call c_need_walkable hr (by decide) rfl (da_cons (de_im (i := 0) rfl (.inl rfl) rfl) da_nil) (FrNW.ok g hb)) ?_
    rcases tup_or y with hd | ⟨l, rfl⟩
    · exact db_ifT (DT.is (DW.dt (dw_or (l := true) (dt_not (dt_val (de_isi rfl m_isinstance rfl m_tuple (by decide +kernel) (de_im (i := 1) rfl (.inl rfl) rfl) (kb_tuple _)))) (fun z => by rw [hd] at z; cases z))) (by rw [hd]; rfl)) (db_raise er rfl fn_takes hr (by decide) rfl de_str rfl)
    by_cases hl : l.length = 2
    · match l, hl with
      | [a, b], _ =>
        cases hS : isS a with
        | false =>
          exact db_ifT (DT.is (DW.dt (dw_or (dt_not (dt_val (de_isi rfl m_isinstance rfl m_tuple (by decide +kernel) (de_im (i := 1) rfl (.inl rfl) rfl) (kb_tuple _)))) (fun _ => dw_or (dt_cmp (op_neD (by exact hr.units)) (de_callB call_len rfl m_len (by decide +kernel) (da_cons (de_im (i := 1) rfl (.inl rfl) rfl) da_nil) c1_lenT) de_int (v2_ne shp_int shp_int) (nomark _)) (fun _ => dw_or (l := true) (dt_not (dt_val (de_isi rfl m_isinstance rfl m_str (by decide +kernel) (de_ixT (de_im (i := 1) rfl (.inl rfl) rfl) de_int (atI_nat (j := 0) rfl) (fun _ _ => rfl)) (kb_str _)))) (fun z => by rw [hS] at z; cases z))))) (by rw [hS]; rfl)) (db_raise er rfl fn_takes hr (by decide) rfl de_str rfl)
        | true =>
          obtain ⟨z, rfl⟩ : ∃ z, a = .str z := by cases a <;> first | exact ⟨_, rfl⟩ | cases hS
          refine db_ifT (DT.is (DW.dt (dw_or (dt_not (dt_val (de_isi rfl m_isinstance rfl m_tuple (by decide +kernel) (de_im (i := 1) rfl (.inl rfl) rfl) (kb_tuple _)))) (fun _ => dw_or (dt_cmp (op_neD (by exact hr.units)) (de_callB call_len rfl m_len (by decide +kernel) (da_cons (de_im (i := 1) rfl (.inl rfl) rfl) da_nil) c1_lenT) de_int (v2_ne shp_int shp_int) (nomark _)) (fun _ => dw_or (dt_not (dt_val (de_isi rfl m_isinstance rfl m_str (by decide +kernel) (de_ixT (de_im (i := 1) rfl (.inl rfl) rfl) de_int (atI_nat (j := 0) rfl) (fun _ _ => rfl)) (kb_str _)))) (fun _ => dw_or1 (dt_cmp op_notIn_seq (de_ixT (de_im (i := 1) rfl (.inl rfl) rfl) de_int (atI_nat (j := 0) rfl) (fun _ _ => rfl)) (de_glob gWORDS rfl) (v2_ninT rfl rfl) (by rfl))))))) ?_) (db_raise er rfl fn_takes hr (by decide) rfl de_str rfl)
          have hp : inV (.str z) (wordsD.map dV) = false := hp
          show (_ || (_ || (_ || !(inV (.str z) (wordsD.map dV))))) = true
          rw [hp]
          rfl
    · exact db_ifT (DT.is (DW.dt (dw_or (dt_not (dt_val (de_isi rfl m_isinstance rfl m_tuple (by decide +kernel) (de_im (i := 1) rfl (.inl rfl) rfl) (kb_tuple _)))) (fun _ => dw_or (l := true) (dt_cmp (op_neD (by exact hr.units)) (de_callB call_len rfl m_len (by decide +kernel) (da_cons (de_im (i := 1) rfl (.inl rfl) rfl) da_nil) c1_lenT) de_int (v2_ne shp_int shp_int) (nomark _)) (fun z => by rw [ne_len (n := 2) (by omega)] at z; cases z)))) (by rw [ne_len (n := 2) (by omega)]; rfl)) (db_raise er rfl fn_takes hr (by decide) rfl de_str rfl)
  | @stay t ls ss g hb =>
    refine db_expr (de_call c_need_walkable hr (by decide) rfl (da_cons (de_im (i := 0) rfl (.inl rfl) rfl) da_nil) (FrNW.ok g hb)) ?_
    refine db_ifF (DT.is (DW.dt (dw_or (dt_not (dt_val (de_isi rfl m_isinstance rfl m_tuple (by decide +kernel) (de_im (i := 1) rfl (.inl rfl) rfl) (kb_tuple _)))) (fun _ => dw_or (dt_cmp (op_neD (by exact hr.units)) (de_callB call_len rfl m_len (by decide +kernel) (da_cons (de_im (i := 1) rfl (.inl rfl) rfl) da_nil) c1_lenT) de_int (v2_ne shp_int shp_int) (nomark _)) (fun _ => dw_or (dt_not (dt_val (de_isi rfl m_isinstance rfl m_str (by decide +kernel) (de_ixT (de_im (i := 1) rfl (.inl rfl) rfl) de_int (atI_nat (j := 0) rfl) (fun _ _ => rfl)) (kb_str _)))) (fun _ => dw_or1 (dt_cmp op_notIn_seq (de_ixT (de_im (i := 1) rfl (.inl rfl) rfl) de_int (atI_nat (j := 0) rfl) (fun _ _ => rfl)) (de_glob gWORDS rfl) (v2_ninT rfl rfl) (by rfl))))))) ?_) ?_
    · have : inV (.str "stay") (wordsD.map dV) = true := by decide +kernel
      show (_ || (_ || (_ || !(inV (.str "stay") (wordsD.map dV))))) = false
      rw [this]
      rfl
    · exact db_ifT (DT.is (dt_not (dt_val (de_call c_does_show hr (by decide) rfl (da_cons (de_im (i := 0) rfl (.inl rfl) rfl) (da_cons (de_im (i := 1) rfl (.inl rfl) rfl) da_nil)) ⟨_, rfl, rfl⟩))) rfl) (db_raise er rfl fn_takes hr (by decide) rfl (de_ixT (de_im (i := 1) rfl (.inl rfl) rfl) de_int (atI_nat (j := 0) rfl) (fun _ _ => rfl)) rfl)
end
end RS
set_option Elab.async false
set_option linter.all false
set_option maxRecDepth 100000
set_option maxHeartbeats 4000000
/-! part L1: the law's own arithmetic -/
namespace RS
open PySem PySem.Spec PyProof.Rows L2 RM
abbrev sRatio : Stmt := topS 68
abbrev sPlus : Stmt := topS 69
abbrev sLess : Stmt := topS 70
abbrev sTimes : Stmt := topS 71
abbrev sOver : Stmt := topS 72
abbrev sLSum : Stmt := topS 74
abbrev sStep : Stmt := topS 76
abbrev sLCh : Stmt := topS 77
abbrev sMixed : Stmt := topS 65
theorem scRatio : FnScope ["_law_top", "_law_bottom", "_law_one", "_law_other"] ["_law_top", "_law_bottom"] (defScope sRatio) := ⟨rfl, rfl, rfl, by decide +kernel, rfl, by decide +kernel, by decide +kernel⟩
theorem scLSum : FnScope ["_law_some", "_law_found", "_law_one"] ["_law_some"] (defScope sLSum) := ⟨rfl, rfl, rfl, by decide +kernel, rfl, by decide +kernel, by decide +kernel⟩
theorem scStep : FnScope ["_law_rates_so", "_law_some", "_law_found_so", "_law_k", "_law_rate"] ["_law_rates_so", "_law_some"] (defScope sStep) := ⟨rfl, rfl, rfl, by decide +kernel, rfl, by decide +kernel, by decide +kernel⟩
theorem scLCh : FnScope ["_law_rates_so", "_law_rung", "_law_many", "_law_found_so", "_law_k"] ["_law_rates_so", "_law_rung", "_law_many"] (defScope sLCh) := ⟨rfl, rfl, rfl, by decide +kernel, rfl, by decide +kernel, by decide +kernel⟩
theorem scMixed : FnScope ["_law_cell", "_law_k"] ["_law_cell", "_law_k"] (defScope sMixed) := ⟨rfl, rfl, rfl, by decide +kernel, rfl, by decide +kernel, by decide +kernel⟩
section
variable {P : Program} {w : World} {K : PySem.W.Frag} {mg : Str → Option Value} {base : Heap}
theorem cn_ratio (h : Hd K mg "_law_ratio" sRatio ["_law_top", "_law_bottom"]) (m_abs : mg "abs" = none) (m_int : mg "int" = none) : Cn P w K mg base "_law_ratio" 1 frMade := by
  refine h.cn scRatio (fun ds r ⟨t, b, e, _⟩ => by rw [e]; rfl) fun f cdv A outer s H E ds r ⟨t, b, e1, h0, h1, e2⟩ hr => ?_
  subst e1 e2
  have hg := gcd_pos (t := t) h0
  have hd : CDivW t (Int.gcd t b : Int) := wide_div hg (natAbs_gcd_lt h0 h1) (by decide) (by decide)
  have hd2 : CDivW b (Int.gcd t b : Int) := wide_div hg (natAbs_gcd_lt h0 h1) (by decide) (by decide)
  have hbn : b = (b.natAbs : Int) := by omega
  refine db_par (i := 2) (j := 3) (s1 := .im (.int t.natAbs)) (s2 := .im (.int b.natAbs)) rfl scRatio.nd rfl rfl (by decide) rfl rfl ⟨(de_callB call_abs rfl m_abs (by decide +kernel) (da_cons (de_im (i := 0) rfl (.inl rfl) rfl) da_nil) c1_abs), by simp [noL]⟩ ⟨DE.is (de_im (i := 1) rfl (.inl rfl) rfl) (by rw [← hbn]), by simp [noL]⟩ ?_
  refine db_while fn_own (fun m δ1 => ∃ x y : Nat, δ1 = [some (.im (.int t)), some (.im (.int b)), some (.im (.int x)), some (.im (.int y))] ∧ m = y ∧ Nat.gcd x y = Int.gcd t b) b.natAbs ⟨t.natAbs, b.natAbs, rfl, rfl, rfl⟩ fun m δ1 ⟨x, y, e1, e2, e3⟩ => ?_
  subst e1 e2
  refine ⟨_, (dt_cmp (op_neD (by exact hr.units)) (de_im (i := 3) rfl (.inl rfl) rfl) de_int (v2_ne shp_int shp_int) (nomark _)), fun hb => ?_, fun hb => ?_⟩
  · have hb' : (!PyData.eqv (.int (m : Int)) (.int 0)) = true := hb
    rw [eqv_int] at hb'
    have hm : m ≠ 0 := fun z => by subst z; simp at hb'
    refine db_par (i := 2) (j := 3) (s1 := .im (.int m)) (s2 := .im (.int ((x : Int) % (m : Int)))) rfl scRatio.nd rfl rfl (by decide) rfl rfl ⟨(de_im (i := 3) rfl (.inl rfl) rfl), by simp [noL]⟩ ⟨(de_bin op_mod (de_callTy call_int1 rfl m_int (by decide +kernel) (da_cons (de_im (i := 2) rfl (.inl rfl) rfl) da_nil) c1_int) (de_im (i := 3) rfl (.inl rfl) rfl) (v2_mod (by omega))), by simp [noL]⟩ (db_nil ?_)
    refine ⟨x % m, Nat.mod_lt _ (Nat.pos_of_ne_zero hm), m, x % m, rfl, rfl, ?_⟩
    rw [← e3, Nat.gcd_comm x m, Nat.gcd_rec m x, Nat.gcd_comm]
  · have hb' : (!PyData.eqv (.int (m : Int)) (.int 0)) = false := hb
    rw [eqv_int] at hb'
    have hm : m = 0 := by simp at hb'; omega
    subst hm
    rw [Nat.gcd_zero_right] at e3
    subst e3
    exact db_ret (de_tup (da_cons (de_bin op_fdivW (de_im (i := 0) rfl (.inl rfl) rfl) (de_im (i := 2) rfl (.inl rfl) rfl) (v2_div hd)) (da_cons (de_bin op_fdivW (de_im (i := 1) rfl (.inl rfl) rfl) (de_im (i := 2) rfl (.inl rfl) rfl) (v2_div hd2)) da_nil)) (Nat.le_of_ble_eq_true rfl)) rfl
theorem cn_plus (h : Hd K mg "_law_plus" sPlus ["_law_one", "_law_other"]) (c__law_ratio : Cn P w K mg base "_law_ratio" 1 frMade) : Cn P w K mg base "_law_plus" 2 frAdd := by
  refine h.cn (N := ["_law_one", "_law_other"]) ⟨rfl, rfl, rfl, by decide +kernel, rfl, by decide +kernel, by decide +kernel⟩ (fun ds r ⟨p, q, e, _⟩ => by rw [e]; rfl) fun f cdv A outer s H E ds r ⟨p, q, e1, hp, hq, e2⟩ hr => ?_
  subst e1 e2
  have h1 : ((q.den : Int)).natAbs < 2 ^ 3000 := by rw [den_na]; exact hq.2
  have h2 : ((p.den : Int)).natAbs < 2 ^ 3000 := by rw [den_na]; exact hp.2
  refine db_ret (de_call c__law_ratio hr (by decide) rfl (da_cons (de_bin op_add (de_bin op_mulW (de_ixT (de_im (i := 0) rfl (.inl rfl) rfl) de_int (atI_nat (j := 0) rfl) (fun _ _ => rfl)) (de_ixT (de_im (i := 1) rfl (.inl rfl) rfl) de_int (atI_nat (j := 1) rfl) (fun _ _ => rfl)) (v2_mul (sz_mul hp.1 h1))) (de_bin op_mulW (de_ixT (de_im (i := 1) rfl (.inl rfl) rfl) de_int (atI_nat (j := 0) rfl) (fun _ _ => rfl)) (de_ixT (de_im (i := 0) rfl (.inl rfl) rfl) de_int (atI_nat (j := 1) rfl) (fun _ _ => rfl)) (v2_mul (sz_mul hq.1 h2))) v2_add) (da_cons (de_bin op_mulW (de_ixT (de_im (i := 0) rfl (.inl rfl) rfl) de_int (atI_nat (j := 1) rfl) (fun _ _ => rfl)) (de_ixT (de_im (i := 1) rfl (.inl rfl) rfl) de_int (atI_nat (j := 1) rfl) (fun _ _ => rfl)) (v2_mul (sz_mul h2 h1))) da_nil)) ⟨_, _, rfl, Int.mul_pos (den_pos p) (den_pos q), na_mul h2 h1, rfl⟩) ?_
  rw [FI_mk (add_q p q)]
theorem cn_less (h : Hd K mg "_law_less" sLess ["_law_one", "_law_other"]) (c__law_ratio : Cn P w K mg base "_law_ratio" 1 frMade) : Cn P w K mg base "_law_less" 2 frSub := by
  refine h.cn (N := ["_law_one", "_law_other"]) ⟨rfl, rfl, rfl, by decide +kernel, rfl, by decide +kernel, by decide +kernel⟩ (fun ds r ⟨p, q, e, _⟩ => by rw [e]; rfl) fun f cdv A outer s H E ds r ⟨p, q, e1, hp, hq, e2⟩ hr => ?_
  subst e1 e2
  have h1 : ((q.den : Int)).natAbs < 2 ^ 3000 := by rw [den_na]; exact hq.2
  have h2 : ((p.den : Int)).natAbs < 2 ^ 3000 := by rw [den_na]; exact hp.2
  refine db_ret (de_call c__law_ratio hr (by decide) rfl (da_cons (de_bin op_sub (de_bin op_mulW (de_ixT (de_im (i := 0) rfl (.inl rfl) rfl) de_int (atI_nat (j := 0) rfl) (fun _ _ => rfl)) (de_ixT (de_im (i := 1) rfl (.inl rfl) rfl) de_int (atI_nat (j := 1) rfl) (fun _ _ => rfl)) (v2_mul (sz_mul hp.1 h1))) (de_bin op_mulW (de_ixT (de_im (i := 1) rfl (.inl rfl) rfl) de_int (atI_nat (j := 0) rfl) (fun _ _ => rfl)) (de_ixT (de_im (i := 0) rfl (.inl rfl) rfl) de_int (atI_nat (j := 1) rfl) (fun _ _ => rfl)) (v2_mul (sz_mul hq.1 h2))) v2_sub) (da_cons (de_bin op_mulW (de_ixT (de_im (i := 0) rfl (.inl rfl) rfl) de_int (atI_nat (j := 1) rfl) (fun _ _ => rfl)) (de_ixT (de_im (i := 1) rfl (.inl rfl) rfl) de_int (atI_nat (j := 1) rfl) (fun _ _ => rfl)) (v2_mul (sz_mul h2 h1))) da_nil)) ⟨_, _, rfl, Int.mul_pos (den_pos p) (den_pos q), na_mul h2 h1, rfl⟩) ?_
  rw [FI_mk (sub_q p q)]
theorem cn_times (h : Hd K mg "_law_times" sTimes ["_law_one", "_law_other"]) (c__law_ratio : Cn P w K mg base "_law_ratio" 1 frMade) : Cn P w K mg base "_law_times" 2 frMul := by
  refine h.cn (N := ["_law_one", "_law_other"]) ⟨rfl, rfl, rfl, by decide +kernel, rfl, by decide +kernel, by decide +kernel⟩ (fun ds r ⟨p, q, e, _⟩ => by rw [e]; rfl) fun f cdv A outer s H E ds r ⟨p, q, e1, hp, hq, e2⟩ hr => ?_
  subst e1 e2
  have h1 : ((q.den : Int)).natAbs < 2 ^ 3000 := by rw [den_na]; exact hq.2
  have h2 : ((p.den : Int)).natAbs < 2 ^ 3000 := by rw [den_na]; exact hp.2
  refine db_ret (de_call c__law_ratio hr (by decide) rfl (da_cons (de_bin op_mulW (de_ixT (de_im (i := 0) rfl (.inl rfl) rfl) de_int (atI_nat (j := 0) rfl) (fun _ _ => rfl)) (de_ixT (de_im (i := 1) rfl (.inl rfl) rfl) de_int (atI_nat (j := 0) rfl) (fun _ _ => rfl)) (v2_mul (sz_mul hp.1 hq.1))) (da_cons (de_bin op_mulW (de_ixT (de_im (i := 0) rfl (.inl rfl) rfl) de_int (atI_nat (j := 1) rfl) (fun _ _ => rfl)) (de_ixT (de_im (i := 1) rfl (.inl rfl) rfl) de_int (atI_nat (j := 1) rfl) (fun _ _ => rfl)) (v2_mul (sz_mul h2 h1))) da_nil)) ⟨_, _, rfl, Int.mul_pos (den_pos p) (den_pos q), na_mul h2 h1, rfl⟩) ?_
  rw [FI_mk (mul_q p q)]
theorem cn_over (h : Hd K mg "_law_over" sOver ["_law_one", "_law_other"]) (c__law_ratio : Cn P w K mg base "_law_ratio" 1 frMade) : Cn P w K mg base "_law_over" 2 frDiv := by
  refine h.cn (N := ["_law_one", "_law_other"]) ⟨rfl, rfl, rfl, by decide +kernel, rfl, by decide +kernel, by decide +kernel⟩ (fun ds r ⟨p, q, e, _⟩ => by rw [e]; rfl) fun f cdv A outer s H E ds r ⟨p, q, e1, hp, hq, h0, e2⟩ hr => ?_
  subst e1 e2
  have h1 : ((q.den : Int)).natAbs < 2 ^ 3000 := by rw [den_na]; exact hq.2
  have h2 : ((p.den : Int)).natAbs < 2 ^ 3000 := by rw [den_na]; exact hp.2
  refine db_ret (de_call c__law_ratio hr (by decide) rfl (da_cons (de_bin op_mulW (de_ixT (de_im (i := 0) rfl (.inl rfl) rfl) de_int (atI_nat (j := 0) rfl) (fun _ _ => rfl)) (de_ixT (de_im (i := 1) rfl (.inl rfl) rfl) de_int (atI_nat (j := 1) rfl) (fun _ _ => rfl)) (v2_mul (sz_mul hp.1 h1))) (da_cons (de_bin op_mulW (de_ixT (de_im (i := 0) rfl (.inl rfl) rfl) de_int (atI_nat (j := 1) rfl) (fun _ _ => rfl)) (de_ixT (de_im (i := 1) rfl (.inl rfl) rfl) de_int (atI_nat (j := 0) rfl) (fun _ _ => rfl)) (v2_mul (sz_mul h2 hq.1))) da_nil)) ⟨_, _, rfl, Int.mul_pos (den_pos p) (num_pos' h0), na_mul h2 hq.1, rfl⟩) ?_
  rw [FI_mk (div_q p q h0)]
theorem FI_zero : FI 0 1 = FQ 0 := rfl
theorem cn_lsum (h : Hd K mg "_law_sum" sLSum ["_law_some"]) (c__law_plus : Cn P w K mg base "_law_plus" 2 frAdd) : Cn P w K mg base "_law_sum" 3 frSum := by
  refine h.cn scLSum (fun ds r ⟨qs, e, _⟩ => by rcases e with e | e <;> rw [e] <;> rfl) fun f cdv A outer s H E ds r ⟨qs, e1, hs, hp, hl, e2⟩ hr => ?_
  subst e2
  obtain ⟨d, e3, wk⟩ : ∃ d, ds = [d] ∧ ∀ p1 p2, DWk (fnX P w K mg base ["_law_some", "_law_found", "_law_one"] "_law_sum" sLSum f cdv A outer s H E) H ((startD ["_law_some", "_law_found", "_law_one"] [d]).set 1 (some (.im (FQ 0)))) (.Name "_law_one" p1) (.Name "_law_some" p2) (qs.map FQ) := by
    rcases e1 with e1 | e1
    · exact ⟨_, e1, fun _ _ => dwk_name (i := 0) rfl (.inl rfl) rfl⟩
    · exact ⟨_, e1, fun _ _ => dwk_tup (de_im (i := 0) rfl (.inl rfl) rfl) (noLs_FQ qs)⟩
  subst e3
  refine db_set (i := 1) (s := .im (FQ 0)) scLSum.nd rfl (.inl rfl) ⟨DE.is (de_tup (da_cons de_int (da_cons de_int da_nil)) (Nat.le_of_ble_eq_true rfl)) FI_zero, noL_FQ⟩ ?_
  refine db_for fn_own rfl (wk _ _) (pg_name (i := 2) scLSum.nd rfl (.inl rfl)) (fun n δ1 => ∃ o, δ1 = [some (.im d), some (.im (FQ ((qs.take n).foldl (· + ·) 0))), o]) ⟨none, rfl⟩ (fun n y δ1 hy ⟨o, e⟩ => ?_) (fun δ1 ⟨o, e⟩ => ?_)
  · subst e
    rw [List.getElem?_map] at hy
    cases hq : qs[n]? with
    | none => rw [hq] at hy; cases hy
    | some q =>
      rw [hq] at hy
      cases hy
      refine ⟨_, gb_name noL_FQ, ?_⟩
      refine db_set (i := 1) (s := .im (FQ (((qs.take n).foldl (· + ·) 0) + q))) scLSum.nd rfl (.inl rfl) ⟨(de_call c__law_plus hr (by decide) rfl (da_cons (de_im (i := 1) rfl (.inl rfl) rfl) (da_cons (de_im (i := 2) rfl (.inl rfl) rfl) da_nil)) ⟨_, _, rfl, hp n, hs q (List.mem_of_getElem? hq), rfl⟩), noL_FQ⟩ (db_nil ⟨some (.im (FQ q)), ?_⟩)
      rw [take_succ_sum hq]
      rfl
  · subst e
    rw [List.length_map, List.take_length]
    exact db_ret (de_im (i := 1) rfl (.inl rfl) rfl) rfl
end
end RS
set_option Elab.async false
set_option linter.all false
set_option maxRecDepth 100000
set_option maxHeartbeats 4000000
/-! part L2: the law's own walk -/
namespace RS
open PySem PySem.Spec PyProof.Rows L2 RM
theorem partL_bd {R : Rt} (g : R.Good) {D B : Nat} {q : Fn} (hq : ∀ i, Bd D B (q i)) (k j : Nat) : Bd (D * 840) (B * 3360) (partL R q k j) := by
  have h := (part_bd g hq k j).add (bd_ite (c := j = R.n) ((hq R.n).scale 840))
  exact h.mono (by omega)
section
variable {P : Program} {w : World} {K : PySem.W.Frag} {mg : Str → Option Value} {base : Heap}
theorem cn_step (h : Hd K mg "_law_step" sStep ["_law_rates_so", "_law_some"]) (m_len : mg "len" = none) (m_enumerate : mg "enumerate" = none) (c__law_plus : Cn P w K mg base "_law_plus" 2 frAdd) (c__law_times : Cn P w K mg base "_law_times" 2 frMul) : Cn P w K mg base "_law_step" 3 frGo := by
  refine h.cn scStep (fun ds r ⟨R, q, D, B, e, _⟩ => by rw [e]; rfl) fun f cdv A outer s H E ds r ⟨R, q, D, B, e1, g, hq, hD, hD2, hB2, e2⟩ hr => ?_
  subst e1 e2
  have n1 := g.lo
  have n5 := g.hi
  have szq : ∀ i, Sz (q i) := fun i => bd_sz (hq i) hD (by omega) (by omega)
  have szm : ∀ i j, Bd (D * 840) (B * 840) (q i * j) → Sz (q i * j) := fun i j hb => bd_sz hb (by omega) hD2 (by omega)
  have szp : ∀ k j, Sz (partL R q k j) := fun k j => bd_sz (partL_bd g hq k j) (by omega) hD2 (by omega)
  have szr : ∀ {x : Rat}, Bd 840 840 x → Sz x := fun hx => (rate_szn hx).sz (by decide)
  refine db_set (i := 2) (s := .ow (VF (fun _ => 0) (R.n + 1))) scStep.nd rfl (.inl rfl) ⟨DL.is (dl_rep (n := R.n + 1) (DL.o (dl_lst (da_cons (DE.is (de_tup (da_cons de_int (da_cons de_int da_nil)) (Nat.le_of_ble_eq_true rfl)) FI_zero) da_nil) (Nat.le_of_ble_eq_true rfl))) (de_callB call_len rfl m_len (by decide +kernel) (da_cons (de_im (i := 1) rfl (.inl rfl) rfl) da_nil) c1_lenL) (by rw [vf_len]) (by show 1 * (R.n + 1) ≤ 1000; omega) (by omega)) (vf_rep _), vf_noL⟩ ?_
  have e2 : atI (VF q (R.n + 1)) (-1) = some (FQ (q R.n)) := vf_last
  refine db_put (i := 2) (n := -1) (j := R.n) (ds := VF (fun _ => 0) (R.n + 1)) (d := FQ (q R.n)) rfl (.inl rfl) rfl (de_ixL (de_im (i := 1) rfl (.inl rfl) rfl) (de_neg de_int) e2 (fun _ _ => rfl)) noL_FQ (de_neg de_int) (by rw [vf_len]; exact ixN_last) ?_
  rw [vf_set (g := partL R q 0) (by rw [partL_zero]; unfold lost; rw [if_pos rfl]) (fun j hj => by rw [partL_zero]; unfold lost; rw [if_neg hj])]
  refine db_for fn_own rfl (dwk_enumT rfl m_enumerate (da_cons (de_im (d := .tuple (RTl R)) (i := 0) rfl (.inl rfl) rfl) da_nil) rtl_noL) (pg_tup (n := 2) rfl (pgs_cons (pg_name (i := 3) scStep.nd rfl (.inl rfl)) (pgs_cons (pg_name (i := 4) scStep.nd rfl (.inl rfl)) pgs_nil)))
    (fun k δ1 => ∃ o1 o2, δ1 = [some (.im (RTd R)), some (.im (.list (VF q (R.n + 1)))), some (.ow (VF (partL R q k) (R.n + 1))), o1, o2]) ⟨none, none, rfl⟩ (fun k y δ1 hy ⟨o1, o2, e⟩ => ?_) (fun δ1 ⟨o1, o2, e⟩ => ?_)
  · subst e
    rw [enumD_get] at hy
    have hk : k < R.n := by
      refine Decidable.byContradiction fun z => ?_
      rw [List.getElem?_eq_none (by rw [rtl_len]; omega)] at hy
      cases hy
    rw [rtl_get hk, Nat.zero_add] at hy
    cases hy
    refine ⟨_, gb_tup2 (gb_name rfl) (gb_name noL_RD), ?_⟩
    refine db_put (i := 2) (n := (k : Int) + 1) (j := k + 1) (ds := VF (partL R q k) (R.n + 1)) (d := FQ (partL R q k (k + 1) + q k * R.u k)) rfl (.inl rfl) rfl (de_call c__law_plus hr (by decide) rfl (da_cons (de_ixL (de_ow (i := 2) rfl (.inl rfl) rfl) (de_bin op_add (de_im (i := 3) rfl (.inl rfl) rfl) de_int v2_add) (vf_at (i := k + 1) (by omega)) (fun _ _ => rfl)) (da_cons (de_call c__law_times hr (by decide) rfl (da_cons (de_ixL (de_im (i := 1) rfl (.inl rfl) rfl) (de_im (i := 3) rfl (.inl rfl) rfl) (vf_at (by omega)) (fun _ _ => rfl)) (da_cons (de_ixT (de_im (i := 4) rfl (.inl rfl) rfl) de_int (atI_nat (j := 0) rfl) (fun _ _ => rfl)) da_nil)) ⟨_, _, rfl, szq k, szr (g.bu k), rfl⟩) da_nil)) ⟨_, _, rfl, szp k (k + 1), szm _ _ ((hq k).mul (g.bu k)), rfl⟩) noL_FQ (de_bin op_add (de_im (i := 3) rfl (.inl rfl) rfl) de_int v2_add) (by rw [vf_len]; exact Evl.ixN_nat (j := k + 1) (by omega)) ?_
    rw [vf_add]
    have w1 : addAt (partL R q k) (k + 1) (q k * R.u k) k = partL R q k k := by unfold addAt; rw [if_neg (by omega)]
    refine db_put (i := 2) (n := (k : Int)) (j := k) (ds := VF (addAt (partL R q k) (k + 1) (q k * R.u k)) (R.n + 1)) (d := FQ (addAt (partL R q k) (k + 1) (q k * R.u k) k + q k * R.s k)) rfl (.inl rfl) rfl (de_call c__law_plus hr (by decide) rfl (da_cons (de_ixL (de_ow (i := 2) rfl (.inl rfl) rfl) (de_im (i := 3) rfl (.inl rfl) rfl) (vf_at (by omega)) (fun _ _ => rfl)) (da_cons (de_call c__law_times hr (by decide) rfl (da_cons (de_ixL (de_im (i := 1) rfl (.inl rfl) rfl) (de_im (i := 3) rfl (.inl rfl) rfl) (vf_at (by omega)) (fun _ _ => rfl)) (da_cons (de_ixT (de_im (i := 4) rfl (.inl rfl) rfl) de_int (atI_nat (j := 1) rfl) (fun _ _ => rfl)) da_nil)) ⟨_, _, rfl, szq k, szr (g.bs k), rfl⟩) da_nil)) ⟨_, _, rfl, by rw [w1]; exact szp k k, szm _ _ ((hq k).mul (g.bs k)), rfl⟩) noL_FQ (de_im (i := 3) rfl (.inl rfl) rfl) (by rw [vf_len]; exact Evl.ixN_nat (by omega)) ?_
    rw [vf_add]
    generalize hF : addAt (addAt (partL R q k) (k + 1) (q k * R.u k)) k (q k * R.s k) = F
    refine db_if (b := decide (0 < k)) (DT.is (dt_cmp op_gt (de_im (i := 3) rfl (.inl rfl) rfl) de_int v2_gt (nomark _)) (by exact decide_eq_decide.mpr (by omega))) (fun δ' => ∃ o1 o2, δ' = [some (.im (RTd R)), some (.im (.list (VF q (R.n + 1)))), some (.ow (VF (partL R q (k + 1)) (R.n + 1))), o1, o2]) (fun hb => ?_) (fun hb => ?_) (fun δ' hδ => db_nil hδ)
    · have h0 : 0 < k := of_decide_eq_true hb
      have w2 : F (k - 1) = partL R q k (k - 1) := by
        rw [← hF]
        unfold addAt
        rw [if_neg (by omega), if_neg (by omega)]
      have ek : (k : Int) - 1 = ((k - 1 : Nat) : Int) := by omega
      refine db_put (i := 2) (n := (k : Int) - 1) (j := k - 1) (ds := VF F (R.n + 1)) (d := FQ (F (k - 1) + q k * R.d k)) rfl (.inl rfl) rfl (de_call c__law_plus hr (by decide) rfl (da_cons (de_ixL (de_ow (i := 2) rfl (.inl rfl) rfl) (de_bin op_sub (de_im (i := 3) rfl (.inl rfl) rfl) de_int v2_sub) (by rw [ek]; exact vf_at (i := k - 1) (by omega)) (fun _ _ => rfl)) (da_cons (de_call c__law_times hr (by decide) rfl (da_cons (de_ixL (de_im (i := 1) rfl (.inl rfl) rfl) (de_im (i := 3) rfl (.inl rfl) rfl) (vf_at (by omega)) (fun _ _ => rfl)) (da_cons (de_ixT (de_im (i := 4) rfl (.inl rfl) rfl) de_int (atI_nat (j := 2) rfl) (fun _ _ => rfl)) da_nil)) ⟨_, _, rfl, szq k, szr (g.bd k), rfl⟩) da_nil)) ⟨_, _, rfl, by rw [w2]; exact szp k (k - 1), szm _ _ ((hq k).mul (g.bd k)), rfl⟩) noL_FQ (de_bin op_sub (de_im (i := 3) rfl (.inl rfl) rfl) de_int v2_sub) (by rw [vf_len, ek]; exact Evl.ixN_nat (by omega)) ?_
      rw [vf_add]
      refine db_nil ⟨some (.im (.int (k : Int))), some (.im (RD (R.u k) (R.s k) (R.d k))), ?_⟩
      rw [← partL_succ]
      unfold turnL
      rw [if_pos h0, hF]
      rfl
    · refine db_nil ⟨some (.im (.int (k : Int))), some (.im (RD (R.u k) (R.s k) (R.d k))), ?_⟩
      rw [← partL_succ]
      unfold turnL
      rw [if_neg (of_decide_eq_false hb), hF]
      rfl
  · subst e
    rw [enumD_length, rtl_len, stp_L]
    exact db_retOw (i := 2) rfl (.inl rfl) rfl rfl
abbrev frLCh (ds : List PyData) (r : Res) : Prop := ∃ (R : Rt) (i m : Nat), ds = [RTd R, .int i, .int m] ∧ R.Good ∧ i < R.n ∧ m ≤ 12 ∧ r = .ok (.tuple (VF (Am R m i) (R.n + 1)))
theorem cn_lch (h : Hd K mg "_law_chances" sLCh ["_law_rates_so", "_law_rung", "_law_many"]) (m_len : mg "len" = none) (m_range : mg "range" = none) (m_tuple : mg "tuple" = none) (c__law_step : Cn P w K mg base "_law_step" 3 frGo) : Cn P w K mg base "_law_chances" 4 frLCh := by
  refine h.cn scLCh (fun ds r ⟨R, i, m, e, _⟩ => by rw [e]; rfl) fun f cdv A outer s H E ds r ⟨R, i, m, e1, g, hi, hm, e2⟩ hr => ?_
  subst e1 e2
  have n5 := g.hi
  refine db_set (i := 3) (s := .ow (VF (fun _ => 0) (R.n + 1))) scLCh.nd rfl (.inl rfl) ⟨DL.is (dl_rep (n := R.n + 1) (DL.o (dl_lst (da_cons (DE.is (de_tup (da_cons de_int (da_cons de_int da_nil)) (Nat.le_of_ble_eq_true rfl)) FI_zero) da_nil) (Nat.le_of_ble_eq_true rfl))) (de_bin op_add (de_callB call_len rfl m_len (by decide +kernel) (da_cons (de_im (d := .tuple (RTl R)) (i := 0) rfl (.inl rfl) rfl) da_nil) c1_lenT) de_int v2_add) (by show ((RTl R).length : Int) + 1 = _; rw [rtl_len]; omega) (by show 1 * (R.n + 1) ≤ 1000; omega) (by omega)) (vf_rep _), vf_noL⟩ ?_
  refine db_put (i := 3) (n := (i : Int)) (j := i) (ds := VF (fun _ => 0) (R.n + 1)) (d := FQ 1) rfl (.inl rfl) rfl (DE.is (de_tup (da_cons de_int (da_cons de_int da_nil)) (Nat.le_of_ble_eq_true rfl)) FI_one) noL_FQ (de_im (i := 1) rfl (.inl rfl) rfl) (by rw [vf_len]; exact Evl.ixN_nat (by omega)) ?_
  rw [vf_set (g := e1 i) (by unfold e1; rw [if_pos rfl]) (fun j hj => by unfold e1; rw [if_neg fun z => hj z.symm])]
  have hmb : (m : Int) < 2 ^ 40 := by
    have : (13 : Int) < 2 ^ 40 := by decide
    omega
  refine db_for fn_own rfl (dwk_range1 (n := (m : Int)) rfl m_range (da_cons (de_im (i := 2) rfl (.inl rfl) rfl) da_nil) (by omega) hmb) (pg_name (i := 4) scLCh.nd rfl (.inl rfl)) (fun k δ1 => ∃ o, δ1 = [some (.im (RTd R)), some (.im (.int i)), some (.im (.int m)), some (.ow (VF (Am R k i) (R.n + 1))), o]) ⟨none, rfl⟩ (fun k y δ1 hy ⟨o, e⟩ => ?_) (fun δ1 ⟨o, e⟩ => ?_)
  · subst e
    have hk : k < m := by
      have := (List.getElem?_eq_some_iff.mp hy).1
      simpa using this
    rw [List.getElem?_map, List.getElem?_range (by omega)] at hy
    cases hy
    have hp := pow_lt (m := k) (by omega)
    refine ⟨_, gb_name rfl, ?_⟩
    refine db_set (i := 3) (s := .ow (VF (Am R (k + 1) i) (R.n + 1))) scLCh.nd rfl (.inl rfl) ⟨dl_call c__law_step hr (by decide) rfl (da_cons (de_im (i := 0) rfl (.inl rfl) rfl) (da_cons (de_ow (i := 3) rfl (.inl rfl) rfl) da_nil)) ⟨R, Am R k i, 840 ^ k, 3360 ^ k, rfl, g, Am_bd g i k, pow_pos840 k, ?_, ?_, rfl⟩, vf_noL⟩ (db_nil ⟨some (.im (.int (k : Int))), rfl⟩)
    · exact Nat.lt_of_lt_of_le (Nat.mul_lt_mul_of_pos_right hp.1 (by decide)) (by decide +kernel)
    · exact Nat.lt_of_lt_of_le (Nat.mul_lt_mul_of_pos_right hp.2 (by decide)) (by decide +kernel)
  · subst e
    rw [List.length_map, List.length_range, Int.toNat_natCast]
    exact db_ret (de_callTy call_tuple_of rfl m_tuple (by decide +kernel) (da_cons (de_ow (i := 3) rfl (.inl rfl) rfl) da_nil) c1_tuple) rfl
end
end RS
set_option Elab.async false
set_option linter.all false
set_option maxRecDepth 100000
set_option maxHeartbeats 4000000
/-! part R: repr of data; defs that show -/
namespace RS
open PySem PySem.Spec PyProof.Rows L2 RM
/-! ### how long a text is -/
mutual
def wid : PyData → Nat
  | .none => 5
  | .bool _ => 5
  | .int _ => 2000
  | .str x => (PyData.shown (.str x)).length
  | .list xs => 4 + widA xs
  | .tuple xs => 4 + widA xs
  | .dict kvs => (PyData.shown (.dict kvs)).length
def widA : List PyData → Nat
  | [] => 0
  | x :: xs => wid x + 2 + widA xs
end
theorem widA_cons {x : PyData} {xs : List PyData} : widA (x :: xs) = wid x + 2 + widA xs := by simp [widA]
theorem widA_nil : widA [] = 0 := by simp [widA]
theorem wid_tuple {xs : List PyData} : wid (.tuple xs) = 4 + widA xs := by simp [wid]
theorem textFrom_le : ∀ (ts : List Str) (k : Nat) (acc : Str), (textFrom k acc ts).length ≤ acc.length + piled ts
  | [], _, acc => by show acc.length ≤ acc.length + 0; omega
  | t :: r, k, acc => by
    have ih := textFrom_le r (k + 1) (acc ++ (if k > 0 then ", " else "" : String) ++ t)
    have e : (acc ++ (if k > 0 then ", " else "" : String) ++ t).length ≤ acc.length + 2 + t.length := by
      rw [strLen_append, strLen_append]
      split
      · exact Nat.le_of_eq rfl
      · show acc.length + 0 + t.length ≤ _
        omega
    show (textFrom (k + 1) _ r).length ≤ _
    rw [piled_cons]
    omega
theorem listText_le (ts : List Str) : (listText ts).length ≤ 4 + piled ts := by
  unfold listText
  rw [strLen_append]
  have := textFrom_le ts 0 "["
  have e1 : ((("[" : String) : Str)).length = 1 := rfl
  have e2 : ((("]" : String) : Str)).length = 1 := rfl
  omega
theorem tupleText_le (ts : List Str) : (tupleText ts).length ≤ 4 + piled ts := by
  unfold tupleText
  rw [strLen_append, strLen_append]
  have e1 : ((("(" : String) : Str)).length = 1 := rfl
  have e3 : (((if ts.length == 1 then ",)" else ")" : String) : Str)).length ≤ 2 := by split <;> decide
  by_cases h : ts = []
  · subst h
    have : (Str.join (", " : Str) ([] : List Str)).length = 0 := rfl
    omega
  · have := join_length_add ts h
    omega
mutual
theorem wid_ok : ∀ d : PyData, d.showable = true → d.shown.length ≤ wid d
  | .none, _ => by simp only [PyData.shown, wid]; decide
  | .bool b, _ => by cases b <;> (simp only [PyData.shown, wid]; decide)
  | .int i, h => by
    have h' : i.natAbs.log2 < 1920 := by simpa [PyData.showable] using h
    have := int_text_length_le (k := 1920) (by decide) h'
    simp only [PyData.shown, wid]
    rw [PySem.ofString_length]
    omega
  | .str x, _ => by simp [wid]
  | .list xs, h => by
    have := listText_le (PyData.shownAll xs)
    have := widA_ok xs (by simpa [PyData.showable] using h)
    simp only [PyData.shown, wid]
    omega
  | .tuple xs, h => by
    have := tupleText_le (PyData.shownAll xs)
    have := widA_ok xs (by simpa [PyData.showable] using h)
    simp only [PyData.shown, wid]
    omega
  | .dict kvs, _ => by simp [wid]
theorem widA_ok : ∀ ds : List PyData, PyData.showableAll ds = true → piled (PyData.shownAll ds) ≤ widA ds
  | [], _ => by simp [PyData.shownAll, piled]
  | d :: ds, h => by
    have h' : d.showable = true ∧ PyData.showableAll ds = true := by simpa [PyData.showableAll] using h
    have := wid_ok d h'.1
    have := widA_ok ds h'.2
    rw [widA_cons, PyData.shownAll, piled_cons]
    omega
end
/-- data that can be shown -/
structure Shw (d : PyData) : Prop where
  s : d.showable = true
  n : d.hasDict = false
  dp : d.depth ≤ 60
  w : wid d ≤ 16777216
theorem Shw.len {d : PyData} (h : Shw d) : d.shown.length ≤ sizeLine := Nat.le_trans (wid_ok d h.s) (by have := h.w; have e : sizeLine = 16777216 := (by decide); omega)
section
variable {X : Cx} {H0 : Hp} {δ : DSl} {e : Expr} {d : PyData} {p pos : Pos}
def rRepr (K : PySem.W.Frag) : List V → Hp → VK → Prop := fun xs H Q => ∃ x d, xs = [x] ∧ Dp K H x d ∧ Shw d ∧ (isT d = true ∨ d = .none ∨ ∃ l, d = .list l) ∧ Q (.str d.shown) H
theorem call_reprD (hg : X.A.guards = some []) (hu : X.A.units + 64 < cLine) : CallR X (.builtin "repr") (rRepr X.K) := by
  intro pins s σ H xs us Q I r h
  obtain ⟨x, d, rfl, hd, sw, kd, q⟩ := h
  obtain ⟨u, rfl, ru⟩ := vals1 r
  have fin : ∀ a, u = .ref a → wpAny (model X.prog X.w) X.A (call (.builtin "repr") [u]) (EP X pins σ Q) X.xe s := fun a ea => by
    obtain ⟨as, rd⟩ := Dp.reads I d x u hd ru
    subst ea
    exact repr_of_reads' rd sw.s (PyData.noDict_hsm sw.n) hg (by have := sw.dp; omega) (fun _ _ e => e) (fun h' t tk hk => ⟨.str d.shown, H, I.kept (t' := tk) hk, ⟨_, rfl⟩, q⟩) sw.len
  cases hd with
  | non =>
    cases ru
    exact PySem.P.repr_of_none ⟨.str _, H, I.tok _, ⟨_, rfl⟩, q⟩
  | lst h1 h2 =>
    cases ru
    exact fin _ rfl
  | tup h1 h2 =>
    cases ru
    exact fin _ rfl
  | _ => rcases kd with kd | kd | ⟨l, kd⟩ <;> cases kd
theorem de_repr (hG : X.A.guards = some []) (hu : X.A.units + 64 < cLine) (hg : Gl X "repr") (hm : X.mg "repr" = none) (ha : DE X H0 δ e d) (sw : Shw d) (kd : isT d = true ∨ d = .none ∨ ∃ l, d = .list l)
    (he : starEach [e] X.env = (false, eval e X.env) :: starEach [] X.env := by rfl) (hpl : (backTo pos (starEach [] X.env)).any (·.1) = false := by rfl) : DE X H0 δ (.Call (.Name "repr" p) [e] [] pos) (.str d.shown) :=
  de_callB (call_reprD hG hu) hg hm (by decide +kernel) (da_cons ha da_nil he) (fun vs H Q h q => by
    obtain ⟨v, rfl, h1⟩ := dpa1 h
    exact ⟨v, d, rfl, h1, sw, kd, q _ H .rfl (.str _)⟩) (by decide) (by decide) he hpl
theorem v2_neS {K : PySem.W.Frag} {a b : Str} : V2 K rNe (.str a) (.str b) (.bool (!decide (a = b))) := fun v u H Q h1 h2 q => by
  cases h1; cases h2
  have e : decide (V.str a = V.str b) = decide (a = b) := decide_eq_decide.mpr ⟨fun z => by injection z, fun z => by rw [z]⟩
  refine ⟨rfl, ?_⟩
  rw [e]
  exact q _ H .rfl (.bl _)
theorem v2_eqS {K : PySem.W.Frag} {a b : Str} : V2 K rEq (.str a) (.str b) (.bool (decide (a = b))) := fun v u H Q h1 h2 q => by
  cases h1; cases h2
  have e : decide (V.str a = V.str b) = decide (a = b) := decide_eq_decide.mpr ⟨fun z => by injection z, fun z => by rw [z]⟩
  refine ⟨rfl, ?_⟩
  rw [e]
  exact q _ H .rfl (.bl _)
end
/-! ### defs that show -/
structure FnG (P : Program) (w : World) (K : PySem.W.Frag) (mg : Str → Option Value) (base : Heap) (k : Nat) (f : Addr) (fd : FuncData) (ps : List Str) (sp : Sp) : Prop where
  len : ∀ vs H Q E, sp vs H Q E → vs.length = ps.length
  run : ∀ (A : Around) (outer : List Env) (s : Shared) (H : Hp) (args : Args) (us : List Value) (vs : List V) (Q : VK) (E : XK), Room k A → A.guards = some [] → Env0 P w K mg base A outer s H → BindsTo s fd args (ps.zip us) → Vals vs us → sp vs H Q E →
    codeAny (model P w) A (.call (.ref f) args) (CR (L2.CX P w) outer P w H s Q E) s
structure CnG (P : Program) (w : World) (K : PySem.W.Frag) (mg : Str → Option Value) (base : Heap) (x : Str) (k : Nat) (sp : Sp) : Prop where
  ex : ∃ f fd ps, FnG P w K mg base k f fd ps sp ∧ mg x = some (.ref f) ∧ PySem.W.keepIn K (.ref f) = true ∧ L2.Binds K fd ps []
section
variable {P : Program} {w : World} {K : PySem.W.Frag} {mg : Str → Option Value} {base : Heap}
/-- cdv is the code object of the def of this name -/
def CodeAt (K : PySem.W.Frag) (mg : Str → Option Value) (x : Str) (cdv : Value) : Prop := PySem.W.codeIn K cdv x = true ∧ ∃ (f : Addr) (o : Obj) (fd : FuncData), mg x = some (.ref f) ∧ K.lookup f = some o ∧ o.data = .func fd ∧ fd.code = cdv
/-- a body whose run is shown for the very context -/
theorem Hd.cnG {x : Str} {st : Stmt} {ps N : List Str} {k : Nat} {sp : Sp} (h : Hd K mg x st ps) (S : FnScope N ps (defScope st)) (hlen : ∀ vs H Q E, sp vs H Q E → vs.length = ps.length)
    (hbody : ∀ (f : Addr) (cdv : Value) (A : Around) (outer : List Env) (s : Shared) (H : Hp) (vs : List V) (Q : VK) (E : XK), sp vs H Q E → Room k (A.deeper (envOfC x (defScope st) s.heap.objs.size f cdv)) → A.guards = some [] → CodeAt K mg x cdv →
      WB (fnX P w K mg base N x st f cdv A outer s H E) (defBody st) { nx := fun _ H' => Q .non H', rt := Q } (L2.start N vs) H) : CnG P w K mg base x (k + 1) sp := by
  obtain ⟨f, fd, F, hm, hb⟩ := h.ex
  have kp := F.kp
  obtain ⟨oc, od, kV, doc, pm, an, cdv, ct, osl, e, lk, hcd⟩ := F.ex
  subst e
  refine ⟨f, _, ps, ⟨hlen, fun A outer s H args us vs Q E hr hg e0 hbn r q => ?_⟩, hm, kp, hb⟩
  exact LamX.run_ofS lk hcd S hr e0 hbn r (hlen _ _ _ _ q) fun hr' => ⟨_, pb_w, hbody f cdv A outer s H vs Q E q hr' hg ⟨hcd, f, _, _, hm, lk, rfl, rfl⟩⟩
theorem CnG.mono {x : Str} {k : Nat} {sp sp' : Sp} (c : CnG P w K mg base x k sp) (h : ∀ vs H Q E, sp' vs H Q E → sp vs H Q E) : CnG P w K mg base x k sp' := by
  obtain ⟨f, fd, ps, F, h1, h2, h3⟩ := c.ex
  exact ⟨f, fd, ps, ⟨fun vs H Q E q => F.len vs H Q E (h _ _ _ _ q), fun A outer s H args us vs Q E hr hg e0 hb r q => F.run A outer s H args us vs Q E hr hg e0 hb r (h _ _ _ _ q)⟩, h1, h2, h3⟩
end
section
variable {X : Cx} {z : Str} {k j : Nat} {sp : Sp} {e : Expr} {es : List Expr} {σ : L2.St} {H : Hp} {Q : VK} {p pos : Pos}
theorem FnG.call {pins : List (Addr × Obj)} {s : Shared} {f : Addr} {fd : FuncData} {ps : List Str} {us : List Value} {vs : List V} (F : FnG X.prog X.w X.K X.mg X.base k f fd ps sp) (hr : Room k X.A) (hG : X.A.guards = some []) (hb : L2.Binds X.K fd ps [])
    (I : Inv X pins σ H s) (r : Vals vs us) (h : sp vs H Q E0) : wpAny (model X.prog X.w) X.A (call (.ref f) us) (EP X pins σ Q) X.xe s := by
  have hl : us.length = ps.length := by rw [← r.length]; exact F.len _ _ _ _ h
  have hb2 := hb s us I.kIn (by rw [List.append_nil]; exact hl)
  rw [List.append_nil] at hb2
  refine wpAny_call (codeAny_mono (F.run X.A X.stack s H ⟨us, []⟩ us vs Q E0 hr hG I.env0 hb2 r h) fun res s' hq => ?_)
  cases res with
  | error e => exact passL pins σ H s e s' I hq
  | ok fl =>
    cases fl with
    | ret u => exact I.after hq
    | next => exact False.elim hq
    | brk => exact False.elim hq
    | cont => exact False.elim hq
theorem we_callG (c : CnG X.prog X.w X.K X.mg X.base z k sp) (hr : Room j X.A) (hk : k ≤ j) (hG : X.A.guards = some []) (hg : Gl X z) (h : WA X (e :: es) σ H fun vs H1 => sp vs H1 Q E0) (hdb : (z == ("__debug__" : Str)) = false := by decide)
    (he : starEach (e :: es) X.env = (false, eval e X.env) :: starEach es X.env := by rfl) (hpl : (backTo pos (starEach es X.env)).any (·.1) = false := by rfl) : WE X (.Call (.Name z p) (e :: es) [] pos) σ H Q := .mk fun pins s I => by
  obtain ⟨f, fd, ps, F, hm, hkp, hb⟩ := c.ex
  refine wpAny_Call_Name_kw (ld_glob I hg hm ?_ hdb)
  refine PySem.W.callWith_K (h₀ := X.base) I.ok.mod.kin hkp (thn (h.run pos pins s I) fun us s1 ⟨vs, H1, I1, r, q⟩ => ⟨I1.kIn, ?_⟩) he hpl
  exact F.call (hr.mono hk) hG hb I1 r q
theorem we_callG0 (c : CnG X.prog X.w X.K X.mg X.base z k sp) (hr : Room j X.A) (hk : k ≤ j) (hG : X.A.guards = some []) (hg : Gl X z) (h : sp [] H Q E0) (hdb : (z == ("__debug__" : Str)) = false := by decide) : WE X (.Call (.Name z p) [] [] pos) σ H Q := .mk fun pins s I => by
  obtain ⟨f, fd, ps, F, hm, hkp, hb⟩ := c.ex
  refine wpAny_Call_Name_kw (ld_glob I hg hm ?_ hdb)
  exact PySem.W.callWith_K0 I.kIn hkp (F.call (us := []) (hr.mono hk) hG hb I .nil h)
end
end RS
set_option Elab.async false
set_option linter.all false
set_option maxRecDepth 100000
set_option maxHeartbeats 4000000
/-! part S1: the law's state: its numbers, a draw -/
namespace RS
open PySem PySem.Spec PyProof.Rows L2 RM
abbrev sDraw : Stmt := topS 67
theorem scDraw : FnScope ["_law_state", "_law_many", "_law_at", "_law_place", "_law_left", "_law_number"] ["_law_state", "_law_many"] (defScope sDraw) := ⟨rfl, rfl, rfl, by decide +kernel, rfl, by decide +kernel, by decide +kernel⟩
def mixI (c k : Int) : Int := (c % 2147483647 * (48271 + 2 * k * k) + 69621 * k + 11) % 2147483647 * 69621 % 2147483629
theorem mixI_range (c k : Int) : 0 ≤ mixI c k ∧ mixI c k < 2147483629 := ⟨Int.emod_nonneg _ (by decide), Int.emod_lt_of_pos _ (by decide)⟩
abbrev frMixed (ds : List PyData) (r : Res) : Prop := ∃ c k : Int, ds = [.int c, .int k] ∧ k.natAbs < 2 ^ 250 ∧ r = .ok (.int (mixI c k))
section
variable {P : Program} {w : World} {K : PySem.W.Frag} {mg : Str → Option Value} {base : Heap}
theorem lt3000 {i : Int} {a : Nat} (h : i.natAbs < 2 ^ a) (ha : a ≤ 3000) : i.natAbs < 2 ^ 3000 := Nat.lt_of_lt_of_le h (Nat.pow_le_pow_right (by decide) ha)
theorem cn_mixed (h : Hd K mg "_law_mixed" sMixed ["_law_cell", "_law_k"]) (m_int : mg "int" = none) : Cn P w K mg base "_law_mixed" 1 frMixed := by
  refine h.cn scMixed (fun ds r ⟨c, k, e, _⟩ => by rw [e]; rfl) fun f cdv A outer s H E ds r ⟨c, k, e1, hk, e2⟩ hr => ?_
  subst e1 e2
  refine db_set (i := 0) (s := .im (.int (c % 2147483647))) scMixed.nd rfl (.inl rfl) ⟨(de_bin op_mod (de_callTy call_int1 rfl m_int (by decide +kernel) (da_cons (de_im (i := 0) rfl (.inl rfl) rfl) da_nil) c1_int) de_int (v2_mod (by decide))), rfl⟩ ?_
  have c0 : (c % 2147483647).natAbs < 2 ^ 31 := by
    have := Int.emod_nonneg c (show (2147483647 : Int) ≠ 0 by decide)
    have := Int.emod_lt_of_pos c (show (0 : Int) < 2147483647 by decide)
    have e : (2 : Nat) ^ 31 = 2147483648 := by decide
    omega
  have k1 : (2 * k).natAbs < 2 ^ (2 + 250) := wide_lt (by decide) hk
  have k2 : (2 * k * k).natAbs < 2 ^ (2 + 250 + 250) := wide_lt k1 hk
  have k3 : (48271 + 2 * k * k).natAbs < 2 ^ 600 := by
    have e : (2 : Nat) ^ (2 + 250 + 250) + 48271 < 2 ^ 600 := by decide +kernel
    omega
  refine db_ret (de_bin op_mod (de_bin op_mulW (de_bin op_mod (de_bin op_add (de_bin op_add (de_bin op_mulW (de_im (i := 0) rfl (.inl rfl) rfl) (de_bin op_add de_int (de_bin op_mulW (de_bin op_mulW de_int (de_im (i := 1) rfl (.inl rfl) rfl) (v2_mul (sz_mul (by decide +kernel) (lt3000 hk (by decide))))) (de_im (i := 1) rfl (.inl rfl) rfl) (v2_mul (sz_mul (lt3000 k1 (by decide)) (lt3000 hk (by decide))))) v2_add) (v2_mul (sz_mul (lt3000 c0 (by decide)) (lt3000 k3 (by decide))))) (de_bin op_mulW de_int (de_im (i := 1) rfl (.inl rfl) rfl) (v2_mul (sz_mul (by decide +kernel) (lt3000 hk (by decide))))) v2_add) de_int v2_add) de_int (v2_mod (by decide))) de_int (v2_mul (sz_mul ?_ (by decide +kernel)))) de_int (v2_mod (by decide))) rfl
  generalize (c % 2147483647 * (48271 + 2 * k * k) + 69621 * k + 11) = x
  have := Int.emod_nonneg x (show (2147483647 : Int) ≠ 0 by decide)
  have := Int.emod_lt_of_pos x (show (0 : Int) < 2147483647 by decide)
  refine lt3000 (a := 31) ?_ (by decide)
  have e : (2 : Nat) ^ 31 = 2147483648 := by decide
  omega
end
/-! the state -/
abbrev stKv (c l : Addr) (a r : Int) : List (Key × V) := [(.inr "cells", .ref c), (.inr "lefts", .ref l), (.inr "at", .int a), (.inr "room", .int r)]
section
variable {c l : Addr} {a r : Int}
theorem kne {x y : Str} (h : (x == y) = false) : ¬ (Sum.inr x : Key) = Sum.inr y := fun z => by
  injection z with z
  rw [z] at h
  simp at h
theorem stv_cells : valV (stKv c l a r) (.inr "cells") = some (.ref c) := valV_pos rfl
theorem stv_lefts : valV (stKv c l a r) (.inr "lefts") = some (.ref l) := (valV_neg (kne (by decide +kernel))).trans (valV_pos rfl)
theorem stv_at : valV (stKv c l a r) (.inr "at") = some (.int a) := (valV_neg (kne (by decide +kernel))).trans ((valV_neg (kne (by decide +kernel))).trans (valV_pos rfl))
theorem stv_put {b : Int} : putK (stKv c l a r) (.inr "at") (.int b) = stKv c l b r := by
  unfold putK stKv
  have h1 := kne (x := "cells") (y := "at") (by decide +kernel)
  have h2 := kne (x := "lefts") (y := "at") (by decide +kernel)
  have h3 := kne (x := "room") (y := "at") (by decide +kernel)
  simp [h1, h2, h3]
end
/-- the state at S, its lists at c and l; at most N were drawn -/
def StA (H : Hp) (S c l : Addr) (N : Nat) : Prop := ∃ (ms ns : List Int) (a r : Int), H S = some (.dK (stKv c l a r)) ∧ H c = some (.lst (ms.map V.int)) ∧ H l = some (.lst (ns.map V.int)) ∧ c ≠ l ∧ ms.length = ns.length ∧ 0 < ms.length ∧ 0 ≤ a ∧ a ≤ N
/-- all but the state stays -/
def Off (S c l : Addr) (H H' : Hp) : Prop := ∀ a o, a ≠ S → a ≠ c → a ≠ l → H a = some o → H' a = some o
theorem Off.refl {S c l : Addr} (H : Hp) : Off S c l H H := fun _ _ _ _ _ h => h
theorem Off.trans {S c l : Addr} {H H1 H2 : Hp} (a : Off S c l H H1) (b : Off S c l H1 H2) : Off S c l H H2 := fun x o h1 h2 h3 h => b x o h1 h2 h3 (a x o h1 h2 h3 h)
theorem Off.of {S c l : Addr} {H H' : Hp} (e : Ex H H') : Off S c l H H' := fun x o _ _ _ h => e x o h
theorem StA.up {H H' : Hp} {S c l : Addr} {N : Nat} (h : StA H S c l N) (e : Ex H H') : StA H' S c l N := by
  obtain ⟨ms, ns, a, r, h1, h2, h3, h4⟩ := h
  exact ⟨ms, ns, a, r, e _ _ h1, e _ _ h2, e _ _ h3, h4⟩
theorem StA.mono {H : Hp} {S c l : Addr} {N M : Nat} (h : StA H S c l N) (e : N ≤ M) : StA H S c l M := by
  obtain ⟨ms, ns, a, r, h1, h2, h3, h4, h5, h6, h7, h8⟩ := h
  exact ⟨ms, ns, a, r, h1, h2, h3, h4, h5, h6, h7, by omega⟩
abbrev XD (P : Program) (w : World) (K : PySem.W.Frag) (mg : Str → Option Value) (base : Heap) (f : Addr) (cdv : Value) (A : Around) (outer : List Env) (s : Shared) (H : Hp) (E : XK) : Cx := fnX P w K mg base ["_law_state", "_law_many", "_law_at", "_law_place", "_law_left", "_law_number"] "_law_draw" sDraw f cdv A outer s H E
def spDraw : Sp := fun vs H Q _ => ∃ (S c l : Addr) (N m : Nat), vs = [.ref S, .int m] ∧ 0 < m ∧ m ≤ 100 ∧ StA H S c l N ∧ N ≤ 2 ^ 240 ∧ ∀ (r : Nat) H', r < m → Off S c l H H' → StA H' S c l (N + 1) → Q (.int r) H'
section
variable {P : Program} {w : World} {K : PySem.W.Frag} {mg : Str → Option Value} {base : Heap}
theorem natV {i : Int} (h : 0 ≤ i) : V.int i = V.int ((i.toNat : Nat) : Int) := by rw [Int.toNat_of_nonneg h]
theorem cn_draw (h : Hd K mg "_law_draw" sDraw ["_law_state", "_law_many"]) (m_int : mg "int" = none) (m_len : mg "len" = none) (c__law_mixed : Cn P w K mg base "_law_mixed" 1 frMixed) : CnG P w K mg base "_law_draw" 2 spDraw := by
  refine h.cnG scDraw (fun vs H Q E q => by obtain ⟨_, _, _, _, _, e, _⟩ := q; rw [e]; rfl) fun f cdv A outer s H vs Q E q hr hG hcd => ?_
  obtain ⟨S, c, l, N, m, rfl, m0, m1, ⟨ms, ns, a, ro, hS, hc, hl, hcl, hml, hm0, ha0, haN⟩, hN, q⟩ := q
  have hu := hr.un
  have ncS : c ≠ S := fun z => by rw [z, hS] at hc; cases hc
  have nlS : l ≠ S := fun z => by rw [z, hS] at hl; cases hl
  have hu1 : (XD P w K mg base f cdv A outer s H E).A.units + 1 < cLine := by
    have : (A.deeper (envOfC "_law_draw" (defScope sDraw) s.heap.objs.size f cdv)).units + 1 < cLine := by omega
    exact this
  have gD : ∀ (ky : Str) {p1 p2 p3 : Pos} {j : Nat}, PE (XD P w K mg base f cdv A outer s H E) (.Subscript (.Name "_law_state" p1) (.Constant (.str ky) j p2) p3) (tDGet (tVar 0) (tC (.str ky))) := fun ky _ _ _ _ => pe_dget hu1 (pe_var (i := 0) rfl (.inl rfl)) pe_str (fun _ _ => rfl)
  have W : ∀ {st : Stmt} {rest : List Stmt} {t : TS} {D : Ends} {σ : L2.St} {H2 : Hp}, PS (XD P w K mg base f cdv A outer s H E) st t → t { D with nx := WB (XD P w K mg base f cdv A outer s H E) rest D } σ H2 → WB (XD P w K mg base f cdv A outer s H E) (st :: rest) D σ H2 := fun h q => wb_of (pss_cons h pb_w) q
  show WB (XD P w K mg base f cdv A outer s H E) (defBody sDraw) _ _ _
  -- _law_at = _law_state['at']
  refine W (ps_set scDraw.nd (i := 2) rfl (.inl rfl) (gD "at") rfl) ?_
  refine ⟨_, rfl, S, .int a, rfl, .inl ⟨_, .inr "at", .inl hS, rfl, stv_at.symm⟩, ?_⟩
  -- _law_state['at'] = _law_at + 1
  generalize hH1 : upd H S (.dK (stKv c l (a + 1) ro)) = H1
  have hput : DPut H S (kV (.inr "at")) (.int (a + 1)) H1 := by
    have := DPut.k (k := .inr "at") (v := .int (a + 1)) hS (by show 4 < sizeLine; decide)
    rw [stv_put, hH1] at this
    exact this
  have hS1 : H1 S = some (.dK (stKv c l (a + 1) ro)) := by rw [← hH1, upd_same]
  have hc1 : H1 c = some (.lst (ms.map V.int)) := by rw [← hH1, upd_ne ncS]; exact hc
  have hl1 : H1 l = some (.lst (ns.map V.int)) := by rw [← hH1, upd_ne nlS]; exact hl
  have off1 : Off S c l H H1 := fun x o h1 _ _ h => by rw [← hH1, upd_ne h1]; exact h
  refine W (ps_dput hu1 (pe_var (i := 0) rfl (.inl rfl)) pe_str (pe_op op_add (pe_var (i := 2) rfl (.inl rfl)) pe_int) rfl) ?_
  refine ⟨_, rfl, a, 1, rfl, rfl, _, rfl, S, H1, rfl, hput, ?_⟩
  -- _law_place = int(_law_at) % len(_law_state['cells'])
  have hn0 : (0 : Int) < (ms.length : Int) := by omega
  obtain ⟨k, hk, hkl⟩ : ∃ k : Nat, a % (ms.length : Int) = k ∧ k < ms.length := by
    have h1 := Int.emod_nonneg a (show (ms.length : Int) ≠ 0 by omega)
    have h2 := Int.emod_lt_of_pos a hn0
    exact ⟨(a % (ms.length : Int)).toNat, by omega, by omega⟩
  refine W (ps_set scDraw.nd (i := 3) rfl (.inl rfl) (pe_op op_mod (pe_callTy call_int1 rfl m_int (by decide +kernel) (pa_cons (pe_var (i := 2) rfl (.inl rfl)) pa_nil)) (pe_callB call_len rfl m_len (by decide +kernel) (pa_cons (gD "cells") pa_nil))) rfl) ?_
  refine ⟨_, rfl, .inl ⟨a, rfl, ?_⟩⟩
  refine ⟨_, rfl, S, .ref c, rfl, .inl ⟨_, .inr "cells", .inl hS1, rfl, stv_cells.symm⟩, .ref c, ms.length, rfl, .inl ⟨_, SqL.of hc1, by simp⟩, ?_⟩
  refine ⟨a, ms.length, rfl, rfl, hn0, ?_⟩
  dsimp only
  rw [hk]
  -- _law_left = _law_state['lefts'][_law_place]
  have hkn : k < ns.length := by omega
  have atl : atI (ns.map V.int) (k : Int) = some (.int (ns.getD k 0)) := atI_nat (by rw [List.getElem?_map, List.getElem?_eq_getElem hkn, List.getD_eq_getElem?_getD, List.getElem?_eq_getElem hkn]; rfl)
  have atc : atI (ms.map V.int) (k : Int) = some (.int (ms.getD k 0)) := atI_nat (by rw [List.getElem?_map, List.getElem?_eq_getElem hkl, List.getD_eq_getElem?_getD, List.getElem?_eq_getElem hkl]; rfl)
  generalize ns.getD k 0 = left at atl
  generalize ms.getD k 0 = cell at atc
  refine W (ps_set scDraw.nd (i := 4) rfl (.inl rfl) (pe_ix ix_list (gD "lefts") (pe_var (i := 3) rfl (.inl rfl)) (fun _ _ => rfl)) rfl) ?_
  refine ⟨_, rfl, S, .ref l, rfl, .inl ⟨_, .inr "lefts", .inl hS1, rfl, stv_lefts.symm⟩, _, rfl, l, ns.map V.int, k, .int left, rfl, rfl, SqL.of hl1, atl, ?_⟩
  have mI : (0 : Int) < (m : Int) := by omega
  have mm : ∀ x : Int, ∃ r : Nat, x % (m : Int) = r ∧ r < m := fun x => by
    have h1 := Int.emod_nonneg x (show (m : Int) ≠ 0 by omega)
    have h2 := Int.emod_lt_of_pos x mI
    exact ⟨(x % (m : Int)).toNat, by omega, by omega⟩
  refine W (ps_if (pt_cmpR op_gt (pe_var (i := 4) rfl (.inl rfl)) pe_int (nomark _)) pb_w pb_w) ?_
  refine ⟨_, rfl, left, 0, rfl, rfl, decide (0 < left), rfl, ?_⟩
  by_cases hlf : 0 < left
  · rw [decide_eq_true hlf]
    refine W (ps_asg (pe_op op_fdivW (pe_var (i := 4) rfl (.inl rfl)) (pe_var (i := 1) rfl (.inl rfl))) (pg_sub (gD "lefts") (pe_var (i := 3) rfl (.inl rfl)) set_list (by intro _; rfl)) rfl rfl rfl) ?_
    refine ⟨_, rfl, _, rfl, left, (m : Int), rfl, rfl, wide_div mI (b := 100) (by have e : (100 : Nat) < 2 ^ 100 := (by decide); omega) (by decide) (by decide), ?_⟩
    refine ⟨_, rfl, S, .ref l, rfl, .inl ⟨_, .inr "lefts", .inl hS1, rfl, stv_lefts.symm⟩, _, rfl, l, ns.map V.int, k, k, rfl, rfl, hl1, by rw [List.length_map]; exact Evl.ixN_nat hkn, ?_⟩
    generalize hH2 : upd H1 l (.lst ((ns.map V.int).set k (.int (left / (m : Int))))) = H2
    have st2 : StA H2 S c l (N + 1) := by
      refine ⟨ms, ns.set k (left / (m : Int)), a + 1, ro, ?_, ?_, ?_, hcl, by rw [List.length_set]; exact hml, hm0, by omega, by omega⟩
      · rw [← hH2, upd_ne (Ne.symm nlS)]; exact hS1
      · rw [← hH2, upd_ne hcl]; exact hc1
      · rw [← hH2, upd_same, List.map_set]
    have off2 : Off S c l H H2 := fun x o h1 h2 h3 h => by rw [← hH2, upd_ne h3]; exact off1 x o h1 h2 h3 h
    refine W (ps_ret (pe_op op_mod (pe_callTy call_int1 rfl m_int (by decide +kernel) (pa_cons (pe_var (i := 4) rfl (.inl rfl)) pa_nil)) (pe_var (i := 1) rfl (.inl rfl)))) ?_
    refine ⟨_, rfl, .inl ⟨left, rfl, _, rfl, left, (m : Int), rfl, rfl, mI, ?_⟩⟩
    obtain ⟨r, e, hr2⟩ := mm left
    show Q (.int (left % (m : Int))) H2
    rw [e]
    exact q r H2 hr2 off2 st2
  · rw [decide_eq_false hlf]
    refine wb_of pss_nil ?_
    have st1 : StA H1 S c l (N + 1) := ⟨ms, ns, a + 1, ro, hS1, hc1, hl1, hcl, hml, hm0, by omega, by omega⟩
    have an : a.natAbs < 2 ^ 250 := by
      have e : (2 : Nat) ^ 240 < 2 ^ 250 := by decide +kernel
      omega
    have an40 : (40 + a).natAbs < 2 ^ 250 := by
      have e : (2 : Nat) ^ 240 + 40 < 2 ^ 250 := by decide +kernel
      omega
    have an7 : (7 + a).natAbs < 2 ^ 250 := by
      have e : (2 : Nat) ^ 240 + 7 < 2 ^ 250 := by decide +kernel
      omega
    obtain ⟨fm, fdm, psm, Fm, hmm, hkm, hbm⟩ := c__law_mixed.ex
    have hrm : Room 1 (XD P w K mg base f cdv A outer s H E).A := hr
    have kMix : ∀ {i : Nat} {z2 : Str} {s2 : Sd} {x y : Int} {H0 H2 : Hp}, True := fun {_ _ _ _ _ _ _} => trivial
    have callM : ∀ {x y : Int} {Hq : Hp} {R : VK} (ds : List V), ds = [.int x, .int y] → y.natAbs < 2 ^ 250 → (∀ H', Ex Hq H' → R (.int (mixI x y)) H') → spR K frMixed (ds ++ []) Hq R E0 := fun {x y Hq R} ds e hy hR => by
      subst e
      exact ⟨[.int x, .int y], _, .cons (.int x) (.cons (.int y) .nil), ⟨x, y, rfl, hy, rfl⟩, fun v H' e1 d1 => by cases d1; exact hR H' e1⟩
    -- _law_number = ..
    refine W (ps_set scDraw.nd (i := 5) rfl (.inl rfl) (pe_call Fm hrm rfl hmm hkm hbm .nil passL (pa_cons (pe_call Fm hrm rfl hmm hkm hbm .nil passL (pa_cons (pe_ix ix_list (gD "cells") (pe_var (i := 3) rfl (.inl rfl)) (fun _ _ => rfl)) (pa_cons (pe_var (i := 2) rfl (.inl rfl)) pa_nil))) (pa_cons (pe_op op_add pe_int (pe_var (i := 2) rfl (.inl rfl))) pa_nil))) rfl) ?_
    refine ⟨_, rfl, S, .ref c, rfl, .inl ⟨_, .inr "cells", .inl hS1, rfl, stv_cells.symm⟩, _, rfl, c, ms.map V.int, k, .int cell, rfl, rfl, SqL.of hc1, atc, _, rfl, ?_⟩
    refine callM (x := cell) (y := a) _ rfl an fun H2 e2 => ?_
    refine ⟨_, rfl, 40, a, rfl, rfl, ?_⟩
    refine callM (x := mixI cell a) (y := 40 + a) _ rfl an40 fun H3 e3 => ?_
    generalize hnum : mixI (mixI cell a) (40 + a) = num
    have hnr : 0 ≤ num ∧ num < 2147483629 := by rw [← hnum]; exact mixI_range _ _
    refine W (ps_ret (pe_op op_mod (pe_op op_fdivW (pe_callTy call_int1 rfl m_int (by decide +kernel) (pa_cons (pe_op op_add (pe_op op_mulW (pe_var (i := 5) rfl (.inl rfl)) pe_int) (pe_call Fm hrm rfl hmm hkm hbm .nil passL (pa_cons (pe_var (i := 5) rfl (.inl rfl)) (pa_cons (pe_op op_add pe_int (pe_var (i := 2) rfl (.inl rfl))) pa_nil)))) pa_nil)) pe_int) (pe_var (i := 1) rfl (.inl rfl)))) ?_
    refine ⟨_, rfl, num, 2147483647, rfl, rfl, sz_mul (lt3000 (a := 31) (by have e : (2 : Nat) ^ 31 = 2147483648 := (by decide); omega) (by decide)) (by decide +kernel), _, rfl, _, rfl, 7, a, rfl, rfl, ?_⟩
    refine callM (x := num) (y := 7 + a) _ rfl an7 fun H4 e4 => ?_
    refine ⟨num * 2147483647, _, rfl, rfl, .inl ⟨_, rfl, ?_⟩⟩
    refine ⟨_, 64, rfl, rfl, wide_div (by decide) (b := 10) (by decide) (by decide) (by decide), _, rfl, _, (m : Int), rfl, rfl, mI, ?_⟩
    obtain ⟨r, e, hr2⟩ := mm ((num * 2147483647 + mixI num (7 + a)) / 64)
    show Q (.int ((num * 2147483647 + mixI num (7 + a)) / 64 % (m : Int))) H4
    rw [e]
    have ee : Ex H1 H4 := (e2.trans e3).trans e4
    exact q r H4 hr2 (off1.trans (.of ee)) (st1.up ee)
end
end RS
set_option Elab.async false
set_option linter.all false
set_option maxRecDepth 100000
set_option maxHeartbeats 4000000
/-! part S2: statements around draws -/
namespace RS
open PySem PySem.Spec PyProof.Rows L2 RM
/-- the data of the slots hold no lists -/
def Pn : DSl → Prop
  | [] => True
  | none :: t => Pn t
  | some (.im d) :: t => noL d = true ∧ Pn t
  | some (.ow _) :: t => Pn t
  | some (.rf _) :: t => Pn t
theorem Pn.get : ∀ {δ : DSl} {i : Nat} {d : PyData}, Pn δ → δ[i]? = some (some (.im d)) → noL d = true
  | [], _, _, _, e => by simp at e
  | some (.im x) :: t, 0, d, h, e => by
    simp at e
    subst e
    exact h.1
  | none :: t, 0, d, h, e => by simp at e
  | some (.ow _) :: t, 0, d, h, e => by simp at e
  | some (.rf _) :: t, 0, d, h, e => by simp at e
  | none :: t, i + 1, d, h, e => Pn.get (δ := t) (i := i) h (by simpa using e)
  | some (.im _) :: t, i + 1, d, h, e => Pn.get (δ := t) (i := i) h.2 (by simpa using e)
  | some (.ow _) :: t, i + 1, d, h, e => Pn.get (δ := t) (i := i) h (by simpa using e)
  | some (.rf _) :: t, i + 1, d, h, e => Pn.get (δ := t) (i := i) h (by simpa using e)
section
variable {K : PySem.W.Frag} {H0 H1 H2 : Hp} {σ : L2.St} {δ : DSl} {S c l : Addr} {N M : Nat}
theorem StA.ne {H : Hp} (h : StA H S c l N) {a : Addr} {xs : List V} (r : Rd H a (.tup xs)) : a ≠ S ∧ a ≠ c ∧ a ≠ l := by
  obtain ⟨ms, ns, x, y, h1, h2, h3, _⟩ := h
  refine ⟨fun z => ?_, fun z => ?_, fun z => ?_⟩ <;> subst z <;> rcases r with r | ⟨o, r⟩ <;> first | (rw [h1] at r; cases r; done) | (rw [h2] at r; cases r; done) | (rw [h3] at r; cases r; done)
theorem Off.tx {H : Hp} (e : Off S c l H H1) (h : StA H S c l N) : Tx H H1 := fun a xs r => by
  obtain ⟨n1, n2, n3⟩ := h.ne r
  rcases r with r | ⟨o, r⟩
  · exact .inl (e _ _ n1 n2 n3 r)
  · exact .inr ⟨o, e _ _ n1 n2 n3 r⟩
theorem StA.cases {H : Hp} (h : StA H S c l N) : (∃ o, H S = some o) ∧ (∃ o, H c = some o) ∧ ∃ o, H l = some o := by
  obtain ⟨ms, ns, x, y, h1, h2, h3, _⟩ := h
  exact ⟨⟨_, h1⟩, ⟨_, h2⟩, ⟨_, h3⟩⟩
/-- the state was changed: the entry's view is laid anew -/
theorem rebase (Sl1 : Sl K H0 H1 σ δ) (st0 : StA H0 S c l N) (pn : Pn δ) (off : Off S c l H1 H2) (st2 : StA H2 S c l M) : ∃ H0', Sl K H0' H2 σ δ ∧ StA H0' S c l M ∧ Off S c l H0 H0' := by
  have tx := off.tx (st0.up Sl1.ex)
  have d0 : ∀ a, a = S ∨ a = c ∨ a = l → ∃ o, H0 a = some o := fun a h => by
    obtain ⟨x1, x2, x3⟩ := st0.cases
    rcases h with h | h | h <;> subst h <;> assumption
  refine ⟨fun a => if a = S ∨ a = c ∨ a = l then H2 a else H0 a, ⟨fun a o h => ?_, Sl1.len, fun i d h => ?_, Sl1.ap⟩, ?_, fun a o n1 n2 n3 h => ?_⟩
  · by_cases hm : a = S ∨ a = c ∨ a = l
    · rw [if_pos hm] at h
      exact h
    · rw [if_neg hm] at h
      exact off a o (fun z => hm (.inl z)) (fun z => hm (.inr (.inl z))) (fun z => hm (.inr (.inr z))) (Sl1.ex a o h)
  · obtain ⟨v, h1, h2⟩ := Sl1.at_ i d h
    refine ⟨v, h1, ?_⟩
    cases d with
    | im d =>
      have nl := pn.get h
      refine .inr ⟨nl, ?_⟩
      rcases h2 with h2 | h2
      · exact dp_tx tx _ _ nl (h2.up Sl1.ex)
      · exact dp_tx tx _ _ nl h2.2
    | ow ds =>
      obtain ⟨p, vs, rfl, e1, e2, e3, e4⟩ := h2
      have hm : ¬ (p = S ∨ p = c ∨ p = l) := fun z => by
        obtain ⟨o, q⟩ := d0 p z
        rw [e1] at q
        cases q
      exact ⟨p, vs, rfl, (if_neg hm).trans e1, off p _ (fun z => hm (.inl z)) (fun z => hm (.inr (.inl z))) (fun z => hm (.inr (.inr z))) e2, dpa_tx tx _ _ e4 e3, e4⟩
    | rf p => exact h2
  · obtain ⟨ms, ns, x, y, h1, h2, h3, h4⟩ := st2
    exact ⟨ms, ns, x, y, (if_pos (.inl rfl)).trans h1, (if_pos (.inr (.inl rfl))).trans h2, (if_pos (.inr (.inr rfl))).trans h3, h4⟩
  · exact (if_neg (fun z : a = S ∨ a = c ∨ a = l => z.elim n1 fun z => z.elim n2 n3)).trans h
end
/-- slots, state, and what stayed since the entry H00 -/
def Gd (K : PySem.W.Frag) (S c l : Addr) (H00 : Hp) (δ : DSl) (N : Nat) (σ : L2.St) (H : Hp) : Prop := ∃ H0, Sl K H0 H σ δ ∧ StA H0 S c l N ∧ Off S c l H00 H0
section
variable {X : Cx} {E : XK} {S c l : Addr} {H00 : Hp} {δ : DSl} {N M : Nat} {e a b cn : Expr} {pos p : Pos} {rest : List Stmt} {fin : VK} {nx : DSl → Nat → Prop} {z : Str} {i j : Nat}
theorem Gd.end_ {K : PySem.W.Frag} {σ : L2.St} {H : Hp} (g : Gd K S c l H00 δ N σ H) : StA H S c l N ∧ Off S c l H00 H := by
  obtain ⟨H0, s, st, off⟩ := g
  exact ⟨st.up s.ex, off.trans (.of s.ex)⟩
/-- an expression that draws: its values are ints -/
def SE (X : Cx) (S c l : Addr) (H00 : Hp) (δ : DSl) (N M : Nat) (e : Expr) (V0 : Int → Prop) : Prop := ∀ σ H, Gd X.K S c l H00 δ N σ H → ∀ Q : VK, (∀ r H', V0 r → Gd X.K S c l H00 δ M σ H' → Tx H H' → Q (.int r) H') → WE X e σ H Q
theorem se_pure {r : Int} (h : ∀ H0, DE X H0 δ e (.int r)) : SE X S c l H00 δ N N e (fun x => x = r) := fun σ H ⟨H0, s, st, off⟩ Q q => h H0 σ H s Q fun v H' e1 d1 => by
  cases d1
  exact q r H' rfl ⟨H0, s.up e1, st, off⟩ (Tx.of e1)
theorem se_draw {m k : Nat} {q1 : Pos} (cg : CnG X.prog X.w X.K X.mg X.base "_law_draw" k spDraw) (hr : Room j X.A) (hk : k ≤ j) (hG : X.A.guards = some []) (hg : Gl X "_law_draw") (hN : X.N[i]? = some z) (hv : Vis X.env.scope z) (hi : δ[i]? = some (some (.rf S))) (pn : Pn δ) (he : ∀ H0, DE X H0 δ e (.int m)) (m0 : 0 < m) (m1 : m ≤ 100) (hNb : N ≤ 2 ^ 240)
    (hst : starEach [.Name z q1, e] X.env = (false, eval (.Name z q1) X.env) :: starEach [e] X.env := by rfl) (hst2 : starEach [e] X.env = (false, eval e X.env) :: starEach [] X.env := by rfl) (hpl : (backTo pos (starEach [e] X.env)).any (·.1) = false := by rfl)
    (hd : (z == ("__debug__" : Str)) = false := by decide) (hcd : (z == ("__classdict__" : Str)) = false := by decide) : SE X S c l H00 δ N (N + 1) (.Call (.Name "_law_draw" p) [.Name z q1, e] [] pos) (fun x => ∃ r : Nat, x = r ∧ r < m) := fun σ H ⟨H0, s, st, off⟩ Q q => by
  refine we_callG cg hr hk hG hg ?_ (by decide) hst hpl
  refine wa_of (pa_cons (pe_var hN hv hd hcd) (pa_cons (pe_w (e := e)) pa_nil hst2) hst) ⟨_, s.getRf hi, he H0 σ H s _ fun v H1 e1 d1 => ?_⟩
  cases d1
  have s1 := s.up e1
  refine ⟨S, c, l, N, m, rfl, m0, m1, st.up s1.ex, hNb, fun r H' hr' off' st' => ?_⟩
  obtain ⟨H0', s', st'', off''⟩ := rebase s1 st pn off' st'
  exact q r H' ⟨r, rfl, hr'⟩ ⟨H0', s', st'', off.trans off''⟩ ((Tx.of e1).trans (off'.tx (st.up s1.ex)))
theorem se_add1 {V0 : Int → Prop} {k0 : Nat} {q1 : Pos} (h : SE X S c l H00 δ N M e V0) : SE X S c l H00 δ N M (.BinOp (.Constant (.int 1) k0 q1) .Add e pos) (fun x => ∃ y, V0 y ∧ x = 1 + y) := fun σ H g Q q =>
  we_of (pe_op op_add pe_int pe_w) (h σ H g _ fun r H' hv g' tx => ⟨1, r, rfl, rfl, q _ H' ⟨r, hv, rfl⟩ g' tx⟩)
theorem se_mul {V0 : Int → Prop} {y : Int} (h : SE X S c l H00 δ N M e V0) (hb : ∀ H0, DE X H0 δ b (.int y)) (hc : ∀ x, V0 x → CMulW x y) : SE X S c l H00 δ N M (.BinOp e .Mult b pos) (fun x => ∃ u, V0 u ∧ x = u * y) := fun σ H g Q q =>
  we_of (pe_op op_mulW pe_w pe_w) (h σ H g _ fun r H' hv ⟨H0, s, st, off⟩ tx => hb H0 σ H' s _ fun v H2 e2 d2 => by
    cases d2
    exact ⟨r, y, rfl, rfl, hc r hv, q _ H2 ⟨r, hv, rfl⟩ ⟨H0, s.up e2, st, off⟩ (tx.trans (Tx.of e2))⟩)
theorem se_if {V0 : Int → Prop} {k : Bool} (hc : ∀ H0, DT X H0 δ cn k) (h1 : k = true → SE X S c l H00 δ N M a V0) (h2 : k = false → SE X S c l H00 δ N M b V0) : SE X S c l H00 δ N M (.IfExp cn a b pos) V0 := fun σ H ⟨H0, s, st, off⟩ Q q =>
  we_of (pe_ifExp pt_w pe_w pe_w) (hc H0 σ H s _ fun H1 e1 => by
    have g1 : Gd X.K S c l H00 δ N σ H1 := ⟨H0, s.up e1, st, off⟩
    cases k with
    | true =>
      show WE X a σ H1 Q
      exact h1 rfl σ H1 g1 Q fun r H' hv g tx => q r H' hv g ((Tx.of e1).trans tx)
    | false =>
      show WE X b σ H1 Q
      exact h2 rfl σ H1 g1 Q fun r H' hv g tx => q r H' hv g ((Tx.of e1).trans tx))
theorem SE.mono {V0 V1 : Int → Prop} (h : SE X S c l H00 δ N M e V0) (q : ∀ x, V0 x → V1 x) : SE X S c l H00 δ N M e V1 := fun σ H g Q k => h σ H g Q fun r H' hv => k r H' (q r hv)
/-- statements that may draw -/
def DG (X : Cx) (S c l : Addr) (H00 : Hp) (δ : DSl) (N : Nat) (ss : List Stmt) (nx : DSl → Nat → Prop) (fin : VK) : Prop :=
  ∀ σ H D, Gd X.K S c l H00 δ N σ H → (∀ δ' N' σ' H', nx δ' N' → Gd X.K S c l H00 δ' N' σ' H' → D.nx σ' H') → (∀ v H', fin v H' → D.rt v H') → WB X ss D σ H
/-- statements without a draw -/
theorem dg_db {ss : List Stmt} (h : ∀ H0, StA H0 S c l N → Off S c l H00 H0 → DB X E H0 δ ss (fun δ' => nx δ' N) (fun r => r = .cust fin)) : DG X S c l H00 δ N ss nx fin := fun σ H D ⟨H0, s, st, off⟩ kn kr =>
  h H0 st off σ H D s (fun δ' σ' H' n s' _ => kn δ' N σ' H' n ⟨H0, s', st, off⟩) (fun r e => by rw [e]; exact kr)
/-- .. and on to ones with draws -/
theorem db_dg {H0 : Hp} {ss : List Stmt} (st : StA H0 S c l N) (off : Off S c l H00 H0) (h : DG X S c l H00 δ N ss (fun _ _ => False) fin) : DB X E H0 δ ss (fun _ => False) (fun r => r = .cust fin) := fun σ H D s kn kr =>
  h σ H D ⟨H0, s, st, off⟩ (fun _ _ _ _ z => z.elim) (kr _ rfl)
theorem Gd.set {K : PySem.W.Frag} {σ : L2.St} {H : Hp} (g : Gd K S c l H00 δ N σ H) (r : Int) (i : Nat) : Gd K S c l H00 (δ.set i (some (.im (.int r)))) N (σ.set i (some (.int r))) H := by
  obtain ⟨H0, s, st, off⟩ := g
  exact ⟨H0, s.setIm (.inr ⟨rfl, .int r⟩), st, off⟩
theorem dg_set {V0 : Int → Prop} (hN : X.N.Nodup) (hi : X.N[i]? = some z) (hx : Loc X.env.scope z) (h : SE X S c l H00 δ N M e V0) (k : ∀ r, V0 r → DG X S c l H00 (δ.set i (some (.im (.int r)))) M rest nx fin) (hs : swapsWith e (some (.Name z p)) pos.line X.env = pure false := by rfl)
    (hf : X.fn z = true ∨ X.env.scope.names.lookup z = some .local := by first | exact .inl rfl | exact .inr rfl) : DG X S c l H00 δ N (.Assign [.Name z p] e pos :: rest) nx fin := fun σ H D g kn kr =>
  wb_of (pss_cons (ps_set hN hi hx pe_w hs hf) pb_w) (h σ H g _ fun r H1 hv g1 _ => k r hv _ H1 D (g1.set r i) kn kr)
/-- x, y = e1, e2 -/
theorem dg_par {M2 : Nat} {V0 V1 : Int → Prop} {x y : Str} {px py pt : Pos} {kt k2 pt2} (hc : X.calm = true) (hN : X.N.Nodup) (hi : X.N[i]? = some x) (hj : X.N[j]? = some y) (hij : i ≠ j)
    (hx : X.env.scope.names.lookup x = some .local) (hy : X.env.scope.names.lookup y = some .local) (h1 : SE X S c l H00 δ N M a V0) (h2 : SE X S c l H00 δ M M2 b V1) (k : ∀ r u, V0 r → V1 u → DG X S c l H00 ((δ.set i (some (.im (.int r)))).set j (some (.im (.int u)))) M2 rest nx fin)
    (hw : swappedStores [.Tuple [.Name x px, .Name y py] kt pt] (.Tuple [a, b] k2 pt2) X.env = pure (some [x, y]) := by rfl)
    (hs : swapsWithSole [.Tuple [.Name x px, .Name y py] kt pt] (.Tuple [a, b] k2 pt2) pos.line X.env = pure false := by rfl)
    (he : starEach [a, b] X.env = (false, eval a X.env) :: starEach [b] X.env := by rfl) (he2 : starEach [b] X.env = (false, eval b X.env) :: starEach [] X.env := by rfl) :
    DG X S c l H00 δ N (.Assign [.Tuple [.Name x px, .Name y py] kt pt] (.Tuple [a, b] k2 pt2) pos :: rest) nx fin := fun σ H D g kn kr => by
  refine wb_of (pss_cons (ps_par hc hN hi hj hij hx hy (pa_cons pe_w (pa_cons pe_w pa_nil he2) he) hw hs) pb_w) ?_
  show tCons (WE X a) (tCons (WE X b) tNil) σ H (fun vs H1 => ∃ v w, vs = [v, w] ∧ WB X rest D ((σ.set i (some v)).set j (some w)) H1)
  exact h1 σ H g _ fun r H1 hv g1 _ => h2 σ H1 g1 _ fun u H2 hw g2 _ => ⟨_, _, rfl, k r u hv hw _ H2 D ((g2.set r i).set u j) kn kr⟩
/-- x, y = e1, [] -/
theorem dg_parL {V0 : Int → Prop} {x y : Str} {px py pt : Pos} {kt k2 pt2} (hc : X.calm = true) (hN : X.N.Nodup) (hi : X.N[i]? = some x) (hj : X.N[j]? = some y) (hij : i ≠ j)
    (hx : X.env.scope.names.lookup x = some .local) (hy : X.env.scope.names.lookup y = some .local) (h1 : SE X S c l H00 δ N M a V0) (h2 : ∀ H0, DL X H0 δ b []) (k : ∀ r, V0 r → DG X S c l H00 ((δ.set i (some (.im (.int r)))).set j (some (.ow []))) M rest nx fin)
    (hw : swappedStores [.Tuple [.Name x px, .Name y py] kt pt] (.Tuple [a, b] k2 pt2) X.env = pure (some [x, y]) := by rfl)
    (hs : swapsWithSole [.Tuple [.Name x px, .Name y py] kt pt] (.Tuple [a, b] k2 pt2) pos.line X.env = pure false := by rfl)
    (he : starEach [a, b] X.env = (false, eval a X.env) :: starEach [b] X.env := by rfl) (he2 : starEach [b] X.env = (false, eval b X.env) :: starEach [] X.env := by rfl) :
    DG X S c l H00 δ N (.Assign [.Tuple [.Name x px, .Name y py] kt pt] (.Tuple [a, b] k2 pt2) pos :: rest) nx fin := fun σ H D g kn kr => by
  refine wb_of (pss_cons (ps_par hc hN hi hj hij hx hy (pa_cons pe_w (pa_cons pe_w pa_nil he2) he) hw hs) pb_w) ?_
  show tCons (WE X a) (tCons (WE X b) tNil) σ H (fun vs H1 => ∃ v w, vs = [v, w] ∧ WB X rest D ((σ.set i (some v)).set j (some w)) H1)
  refine h1 σ H g _ fun r H1 hv ⟨H0, s, st, off⟩ _ => h2 H0 σ H1 s _ fun q H2 us n1 e1 d1 d2 => ⟨_, _, rfl, ?_⟩
  exact k r hv _ H2 D ⟨H0, (s.setIm (i := i) (v := .int r) (.inr ⟨rfl, .int r⟩)).put e1 (s := .ow []) ⟨q, us, rfl, n1, d1, d2, rfl⟩, st, off⟩ kn kr
/-- x, y, u = e1, e2, e3 -/
theorem dg_par3 {M2 M3 i3 : Nat} {V0 V1 V2 : Int → Prop} {e3 : Expr} {x y u : Str} {px py pu pt : Pos} {kt k2 pt2} (hc : X.calm = true) (hN : X.N.Nodup) (hi : X.N[i]? = some x) (hj : X.N[j]? = some y) (hl : X.N[i3]? = some u) (hij : i ≠ j) (hil : i ≠ i3) (hjl : j ≠ i3)
    (hx : X.env.scope.names.lookup x = some .local) (hy : X.env.scope.names.lookup y = some .local) (hu : X.env.scope.names.lookup u = some .local) (h1 : SE X S c l H00 δ N M a V0) (h2 : SE X S c l H00 δ M M2 b V1) (h3 : SE X S c l H00 δ M2 M3 e3 V2)
    (k : ∀ r t s, V0 r → V1 t → V2 s → DG X S c l H00 (((δ.set i (some (.im (.int r)))).set j (some (.im (.int t)))).set i3 (some (.im (.int s)))) M3 rest nx fin)
    (hw : swappedStores [.Tuple [.Name x px, .Name y py, .Name u pu] kt pt] (.Tuple [a, b, e3] k2 pt2) X.env = pure (some [x, y, u]) := by rfl)
    (hs : swapsWithSole [.Tuple [.Name x px, .Name y py, .Name u pu] kt pt] (.Tuple [a, b, e3] k2 pt2) pos.line X.env = pure false := by rfl)
    (he : starEach [a, b, e3] X.env = (false, eval a X.env) :: starEach [b, e3] X.env := by rfl) (he2 : starEach [b, e3] X.env = (false, eval b X.env) :: starEach [e3] X.env := by rfl) (he3 : starEach [e3] X.env = (false, eval e3 X.env) :: starEach [] X.env := by rfl) :
    DG X S c l H00 δ N (.Assign [.Tuple [.Name x px, .Name y py, .Name u pu] kt pt] (.Tuple [a, b, e3] k2 pt2) pos :: rest) nx fin := fun σ H D g kn kr =>
  wb_of (pss_cons (ps_par3 hc hN hi hj hl hij hil hjl hx hy hu (pa_cons pe_w (pa_cons pe_w (pa_cons pe_w pa_nil he3) he2) he) hw hs) pb_w) (h1 σ H g _ fun r H1 hv g1 _ => h2 σ H1 g1 _ fun t H2 hw g2 _ => h3 σ H2 g2 _ fun s H3 hu g3 _ => ⟨_, _, _, rfl, k r t s hv hw hu _ H3 D (((g3.set r i).set t j).set s i3) kn kr⟩)
/-- for i in range(e): the body may draw -/
theorem dg_range {n : Nat} {t : List Stmt} {q1 q2 q3 : Pos} (hp : PassesOwn (model X.prog X.w) X.A X.env X.xe) (hc : X.calm = true) (hg : Gl X "range") (hm : X.mg "range" = none) (he : ∀ H0, DE X H0 δ e (.int n)) (hn : n < 2 ^ 40) (hN : X.N.Nodup) (hi : X.N[i]? = some z) (hx : Loc X.env.scope z)
    (Iv : Nat → DSl → Nat → Prop) (h0 : Iv 0 δ N) (hb : ∀ k δ1 N1, k < n → Iv k δ1 N1 → DG X S c l H00 (δ1.set i (some (.im (.int (k : Int))))) N1 t (Iv (k + 1)) fin) (hd : ∀ δ1 N1, Iv n δ1 N1 → DG X S c l H00 δ1 N1 rest nx fin)
    (hs : starEach [e] X.env = [(false, eval e X.env)] := by rfl) (hs2 : starEach [e] X.env = (false, eval e X.env) :: starEach [] X.env := by rfl) (hf : X.fn z = true ∨ X.env.scope.names.lookup z = some .local := by first | exact .inl rfl | exact .inr rfl)
    (hsf : ∀ x, foldedSetIterable (.Call (.Name "range" q1) [e] [] q2) X.env x = pure x := by intro _; rfl) : DG X S c l H00 δ N (.For (.Name z q3) (.Call (.Name "range" q1) [e] [] q2) t [] pos :: rest) nx fin := fun σ H D g kn kr => by
  obtain ⟨H0, s, st, off⟩ := g
  refine wb_of (pss_cons (ps_for hp hc (pi_range1 hg hm (pa_cons (pe_w (e := e)) pa_nil hs2) hs) (pg_name hN hi hx hf) pb_w hsf) pb_w) ?_
  refine he H0 σ H s _ fun v H1 e1 d1 => ?_
  cases d1
  have hb2 : (n : Int) < 2 ^ 62 := by
    have : (n : Int) < 2 ^ 40 := by exact_mod_cast hn
    exact Int.lt_trans this (by decide)
  refine ⟨(n : Int), rfl, by omega, hb2, ?_⟩
  have en : ((n : Int)).toNat = n := by omega
  rw [en]
  refine for_it walk_range (Pv := fun k σ' H' => ∃ δ1 N1, Iv k δ1 N1 ∧ Gd X.K S c l H00 δ1 N1 σ' H') ⟨δ, N, h0, H0, s.up e1, st, off⟩ (fun _ _ _ _ _ => trivial) (fun k x σ' H' H'' hk p y => ?_) (fun σ' H' ⟨δ1, N1, iv, g1⟩ => ?_)
  · obtain ⟨δ1, N1, iv, g1⟩ := p
    obtain ⟨rfl, rfl⟩ := y
    have ez : (0 : Int) + (k : Int) = k := Int.zero_add _
    dsimp only
    rw [ez]
    exact hb k δ1 N1 hk iv _ _ _ (g1.set (k : Int) i) (fun δ' N' σ3 H3 n3 g3 => ⟨δ', N', n3, g3⟩) kr
  · exact hd δ1 N1 iv σ' H' D g1 kn kr
end
end RS
set_option Elab.async false
set_option linter.all false
set_option maxRecDepth 100000
set_option maxHeartbeats 4000000
/-! part S3: rates that are drawn; the state is laid -/
namespace RS
open PySem PySem.Spec PyProof.Rows L2 RM
abbrev sLRates : Stmt := topS 75
abbrev sBegin : Stmt := topS 66
theorem scLRates : FnScope ["_law_state", "_law_most_so", "_law_many", "_law_found_so", "_law_k", "_law_up", "_law_down", "_law_stay", "_law_whole_so"] ["_law_state", "_law_most_so"] (defScope sLRates) := ⟨rfl, rfl, rfl, by decide +kernel, rfl, by decide +kernel, by decide +kernel⟩
theorem scBegin : FnScope ["_law_script", "_law_cells", "_law_cell"] ["_law_script"] (defScope sBegin) := ⟨rfl, rfl, rfl, by decide +kernel, rfl, by decide +kernel, by decide +kernel⟩
theorem db_retC {X : Cx} {E : XK} {H0 : Hp} {δ : DSl} {e : Expr} {d : PyData} {pos : Pos} {rest : List Stmt} {nx : DSl → Prop} {fin : VK} (h : DE X H0 δ e d) (hf : ∀ v H', Ex H0 H' → Dp X.K H' v d → fin v H') : DB X E H0 δ (.Return (some e) pos :: rest) nx (fun r => r = .cust fin) := fun σ H D S kn kr =>
  wb_of (pss_cons (ps_ret pe_w) pb_w) (h σ H S _ fun v H1 e1 h1 => kr _ rfl v H1 (hf v H1 (S.ex.trans e1) h1))
/-! rates of three whole numbers -/
theorem bd_rate {x w : Int} (h0 : 0 ≤ x) (h1 : x ≤ w) (h2 : 1 ≤ w) (h3 : w ≤ 8) : Bd 840 840 ((x : Rat) / (w : Rat)) := by
  obtain ⟨c, hc, hc2⟩ : ∃ c : Int, w * c = 840 ∧ 0 ≤ c := by
    have : w = 1 ∨ w = 2 ∨ w = 3 ∨ w = 4 ∨ w = 5 ∨ w = 6 ∨ w = 7 ∨ w = 8 := by omega
    rcases this with h | h | h | h | h | h | h | h <;> subst h
    · exact ⟨840, by decide, by decide⟩
    · exact ⟨420, by decide, by decide⟩
    · exact ⟨280, by decide, by decide⟩
    · exact ⟨210, by decide, by decide⟩
    · exact ⟨168, by decide, by decide⟩
    · exact ⟨140, by decide, by decide⟩
    · exact ⟨120, by decide, by decide⟩
    · exact ⟨105, by decide, by decide⟩
  have hw : (w : Rat) ≠ 0 := by
    intro z
    have : w = 0 := by exact_mod_cast z
    omega
  refine ⟨x * c, ?_, ?_⟩
  · have e : ((840 : Nat) : Rat) = (w : Rat) * (c : Rat) := by
      rw [← Rat.intCast_mul, hc]
      rfl
    rw [e, Rat.intCast_mul, Rat.div_def]
    have : (w : Rat)⁻¹ * (w : Rat) = 1 := Rat.inv_mul_cancel _ hw
    grind
  · have h4 : x * c ≤ w * c := Int.mul_le_mul_of_nonneg_right h1 hc2
    have h5 : 0 ≤ x * c := Int.mul_nonneg h0 hc2
    omega
theorem rat_nonneg {x w : Int} (h0 : 0 ≤ x) (h2 : 1 ≤ w) : 0 ≤ (x : Rat) / (w : Rat) := by
  rw [Rat.div_def]
  refine Rat.mul_nonneg (by exact_mod_cast h0) ?_
  have : (0 : Rat) < (w : Rat) := by exact_mod_cast (show (0 : Int) < w by omega)
  exact Rat.le_of_lt (Rat.inv_pos.mpr this)
theorem rat_pos {x w : Int} (h0 : 1 ≤ x) (h2 : 1 ≤ w) : 0 < (x : Rat) / (w : Rat) := by
  rw [Rat.div_def]
  refine Rat.mul_pos (by exact_mod_cast (show (0 : Int) < x by omega)) ?_
  have : (0 : Rat) < (w : Rat) := by exact_mod_cast (show (0 : Int) < w by omega)
  exact Rat.inv_pos.mpr this
theorem rat_one {x y z w : Int} (h2 : 1 ≤ w) (h : x + y + z = w) : (x : Rat) / (w : Rat) + (y : Rat) / (w : Rat) + (z : Rat) / (w : Rat) = 1 := by
  have hw : (w : Rat) ≠ 0 := by
    intro z
    have : w = 0 := by exact_mod_cast z
    omega
  have e : (x : Rat) + (y : Rat) + (z : Rat) = (w : Rat) := by
    rw [← Rat.intCast_add, ← Rat.intCast_add, h]
  have : (w : Rat) * (w : Rat)⁻¹ = 1 := Rat.mul_inv_cancel _ hw
  rw [Rat.div_def, Rat.div_def, Rat.div_def]
  grind
/-- the first k of many rungs stand -/
structure Par (many k : Nat) (u s d : Fn) : Prop where
  bu : ∀ i, Bd 840 840 (u i)
  bs : ∀ i, Bd 840 840 (s i)
  bd : ∀ i, Bd 840 840 (d i)
  u0 : ∀ i, 0 ≤ u i
  s0 : ∀ i, 0 ≤ s i
  d0 : ∀ i, 0 ≤ d i
  one : ∀ i, i < k → u i + s i + d i = 1
  dz : d 0 = 0
  dp : ∀ i, 0 < i → i < k → 0 < d i
  up : ∀ i, i < k → i + 1 < many → 0 < u i
def put (f : Fn) (k : Nat) (x : Rat) : Fn := fun i => if i = k then x else f i
theorem put_eq {f : Fn} {k : Nat} {x : Rat} : put f k x k = x := if_pos rfl
theorem put_ne {f : Fn} {k i : Nat} {x : Rat} (h : i ≠ k) : put f k x i = f i := if_neg h
theorem Par.zero {many : Nat} : Par many 0 (fun _ => 0) (fun _ => 0) (fun _ => 0) := ⟨fun _ => .zero, fun _ => .zero, fun _ => .zero, fun _ => Rat.le_refl, fun _ => Rat.le_refl, fun _ => Rat.le_refl, fun _ h => by omega, rfl, fun _ _ h => by omega, fun _ h => by omega⟩
theorem Par.succ {many k : Nat} {u s d : Fn} (p : Par many k u s d) {x y z w : Int} (hx : 0 ≤ x) (hy : 0 ≤ y) (hz : 0 ≤ z) (hw : 1 ≤ w) (hw8 : w ≤ 8) (e : x + y + z = w) (h0 : k = 0 → z = 0) (h1 : 0 < k → 1 ≤ z) (h2 : k + 1 < many → 1 ≤ x) :
    Par many (k + 1) (put u k (x / w)) (put s k (y / w)) (put d k (z / w)) := by
  have all : ∀ {f : Fn} {v : Rat} {G : Rat → Prop}, (∀ i, G (f i)) → G v → ∀ i, G (put f k v i) := fun {f v G} a1 a2 i => by
    by_cases hi : i = k
    · subst hi; rw [put_eq]; exact a2
    · rw [put_ne hi]; exact a1 i
  refine ⟨all (G := Bd 840 840) p.bu (bd_rate hx (by omega) hw hw8), all (G := Bd 840 840) p.bs (bd_rate hy (by omega) hw hw8), all (G := Bd 840 840) p.bd (bd_rate hz (by omega) hw hw8), all (G := fun q => 0 ≤ q) p.u0 (rat_nonneg hx hw), all (G := fun q => 0 ≤ q) p.s0 (rat_nonneg hy hw), all (G := fun q => 0 ≤ q) p.d0 (rat_nonneg hz hw), fun i hi => ?_, ?_, fun i hi hk => ?_, fun i hi hk => ?_⟩
  · by_cases h : i = k
    · subst h
      rw [put_eq, put_eq, put_eq]
      exact rat_one hw e
    · rw [put_ne h, put_ne h, put_ne h]
      exact p.one i (by omega)
  · by_cases h : (0 : Nat) = k
    · rw [← h, put_eq, h0 h.symm]
      rw [Rat.div_def]
      simp
    · rw [put_ne h]
      exact p.dz
  · by_cases h : i = k
    · subst h
      rw [put_eq]
      exact rat_pos (h1 hi) hw
    · rw [put_ne h]
      exact p.dp i hi (by omega)
  · by_cases h : i = k
    · subst h
      rw [put_eq]
      exact rat_pos (h2 hk) hw
    · rw [put_ne h]
      exact p.up i (by omega) hk
theorem Pn.tail {o : Option Sd} {t : DSl} (h : Pn (o :: t)) : Pn t := by
  rcases o with _ | (_ | _ | _)
  · exact h
  · exact h.2
  · exact h
  · exact h
def RL (u s d : Fn) (k : Nat) : List PyData := (List.range k).map fun i => RD (u i) (s i) (d i)
theorem rl_len {u s d : Fn} {k : Nat} : (RL u s d k).length = k := by simp [RL]
theorem rl_noL {u s d : Fn} {k : Nat} : noLs (RL u s d k) = true := noLs_all.mpr fun x hx => by
  obtain ⟨i, _, rfl⟩ := List.mem_map.mp hx
  exact noL_RD
theorem rl_snoc {u s d : Fn} {k : Nat} {x y z : Rat} : RL u s d k ++ [RD x y z] = RL (put u k x) (put s k y) (put d k z) (k + 1) := by
  unfold RL
  rw [List.range_succ, List.map_append]
  congr 1
  · apply List.map_congr_left
    intro i hi
    have := List.mem_range.mp hi
    have h : i ≠ k := by omega
    rw [put_ne h, put_ne h, put_ne h]
  · show _ = [RD _ _ _]
    rw [put_eq, put_eq, put_eq]
theorem lt3000' {i : Int} {a : Nat} (h : i.natAbs < 2 ^ a) (ha : a ≤ 6000) : i.natAbs < 2 ^ 6000 := Nat.lt_of_lt_of_le h (Nat.pow_le_pow_right (by decide) ha)
def spRates (K : PySem.W.Frag) : Sp := fun vs H Q _ => ∃ (S c l : Addr) (N m : Nat), vs = [.ref S, .int m] ∧ 0 < m ∧ m ≤ 4 ∧ StA H S c l N ∧ N ≤ 2 ^ 239 ∧ ∀ (v : V) (R : Rt) H', R.Good → R.n ≤ m → Dp K H' v (RTd R) → Off S c l H H' → StA H' S c l (N + 13) → Q v H'
theorem RD_mk {x y z w : Int} (hw : 0 < w) : PyData.tuple [FI (mkF x w).1 (mkF x w).2, FI (mkF y w).1 (mkF y w).2, FI (mkF z w).1 (mkF z w).2] = RD ((x : Rat) / w) ((y : Rat) / w) ((z : Rat) / w) := by
  rw [FI_mk (mk_q (t := x) hw), FI_mk (mk_q (t := y) hw), FI_mk (mk_q (t := z) hw)]
  rfl
section
variable {P : Program} {w : World} {K : PySem.W.Frag} {mg : Str → Option Value} {base : Heap}
theorem cn_lrates (h : Hd K mg "_law_rates" sLRates ["_law_state", "_law_most_so"]) (m_int : mg "int" = none) (m_range : mg "range" = none) (m_max : mg "max" = none) (m_tuple : mg "tuple" = none) (cd : CnG P w K mg base "_law_draw" 2 spDraw) (c__law_ratio : Cn P w K mg base "_law_ratio" 1 frMade) : CnG P w K mg base "_law_rates" 3 (spRates K) := by
  refine h.cnG scLRates (fun vs H Q E q => by obtain ⟨_, _, _, _, _, e, _⟩ := q; rw [e]; rfl) fun f cdv A outer s H vs Q E q hr hG hcd => ?_
  obtain ⟨S, c, l, N, m, rfl, m0, m4, st, hN, q⟩ := q
  have hNN : N + 13 ≤ 2 ^ 240 := by
    have e : (2 : Nat) ^ 239 + 13 ≤ 2 ^ 240 := by decide +kernel
    omega
  have s0 : Sl K H H (L2.start ["_law_state", "_law_most_so", "_law_many", "_law_found_so", "_law_k", "_law_up", "_law_down", "_law_stay", "_law_whole_so"] [.ref S, .int m]) [some (.rf S), some (.im (.int m)), none, none, none, none, none, none, none] := by
    have s1 := sl_start (K := K) (H := H) (N := ["_law_state", "_law_most_so", "_law_many", "_law_found_so", "_law_k", "_law_up", "_law_down", "_law_stay", "_law_whole_so"]) (vs := [.non, .int m]) (ds := [.none, .int m]) (.cons .non (.cons (.int m) .nil))
    exact s1.setNo (i := 0) (v := .ref S) (z := .rf S) rfl (fun _ z => by cases z)
  refine (show DG (fnX P w K mg base ["_law_state", "_law_most_so", "_law_many", "_law_found_so", "_law_k", "_law_up", "_law_down", "_law_stay", "_law_whole_so"] "_law_rates" sLRates f cdv A outer s H E) S c l H [some (.rf S), some (.im (.int m)), none, none, none, none, none, none, none] N (defBody sLRates) (fun _ _ => False)
    (fun v H' => ∃ R : Rt, R.Good ∧ R.n ≤ m ∧ Dp K H' v (RTd R) ∧ Off S c l H H' ∧ StA H' S c l (N + 13)) from ?_) _ H _ ⟨H, s0, st, Off.refl H⟩ (fun _ _ _ _ z => z.elim) (fun v H' ⟨R, g, rn, d, off, st'⟩ => q v R H' g rn d off st')
  refine dg_parL (i := 2) (j := 3) rfl scLRates.nd rfl rfl (by decide) rfl rfl (se_add1 (se_draw (i := 0) (m := m) cd hr (by decide) hG rfl rfl (.inl rfl) rfl ⟨rfl, trivial⟩ (fun H0 => (de_im (i := 1) rfl (.inl rfl) rfl)) m0 (by omega) (by omega))) (fun H0 => dl_lst da_nil (by decide)) (fun r hr0 => ?_)
  obtain ⟨_, ⟨r0, rfl, hr1⟩, rfl⟩ := hr0
  obtain ⟨many, hmany, hm1⟩ : ∃ many : Nat, (1 : Int) + r0 = many ∧ 1 ≤ many ∧ many ≤ m := ⟨1 + r0, by omega, by omega, by omega⟩
  rw [hmany]
  refine dg_range (i := 4) (n := many) fn_own rfl rfl m_range (fun H0 => (de_im (i := 2) rfl (.inl rfl) rfl)) (by omega) scLRates.nd rfl (.inl rfl)
    (fun k δ1 N1 => N1 = N + 1 + 3 * k ∧ ∃ u s d o4 o5 o6 o7 o8, Par many k u s d ∧ Pn [o5, o6, o7, o8] ∧ δ1 = [some (.rf S), some (.im (.int m)), some (.im (.int many)), some (.ow (RL u s d k)), o4, o5, o6, o7, o8]) ⟨rfl, _, _, _, none, none, none, none, none, Par.zero, trivial, rfl⟩ (fun k δ1 N1 hk ⟨eN, u, s, d, o4, o5, o6, o7, o8, par, pn, e⟩ => ?_) (fun δ1 N1 ⟨eN, u, s, d, o4, o5, o6, o7, o8, par, pn, e⟩ => ?_)
  · subst e eN
    have pn6 := pn.tail
    refine dg_set (i := 5) (V0 := fun r => 0 ≤ r ∧ r ≤ 3 ∧ (k + 1 < many → 1 ≤ r)) scLRates.nd rfl (.inl rfl) (se_if (k := decide ((k : Int) + 1 < many)) (fun H0 => (dt_cmp op_lt (de_bin op_add (de_im (i := 4) rfl (.inl rfl) rfl) de_int v2_add) (de_im (i := 2) rfl (.inl rfl) rfl) v2_lt (nomark _))) (fun hb => SE.mono (se_add1 (se_draw (i := 0) (m := 3) cd hr (by decide) hG rfl rfl (.inl rfl) rfl ⟨rfl, rfl, rfl, pn⟩ (fun H0 => de_int) (by decide) (by decide) (by omega))) ?_) (fun hb => SE.mono (se_draw (i := 0) (m := 3) cd hr (by decide) hG rfl rfl (.inl rfl) rfl ⟨rfl, rfl, rfl, pn⟩ (fun H0 => de_int) (by decide) (by decide) (by omega)) ?_)) (fun up hup => ?_)
    · rintro x ⟨y, ⟨r, rfl, hr'⟩, rfl⟩
      exact ⟨by omega, by omega, fun _ => by omega⟩
    · rintro x ⟨r, rfl, hr'⟩
      have := of_decide_eq_false hb
      exact ⟨by omega, by omega, fun z => by omega⟩
    obtain ⟨u0, u3, u1⟩ := hup
    refine dg_par (i := 6) (j := 7) (V0 := fun r => 0 ≤ r ∧ r ≤ 3 ∧ (k = 0 → r = 0) ∧ (0 < k → 1 ≤ r)) rfl scLRates.nd rfl rfl (by decide) rfl rfl (SE.mono (se_mul (y := if decide ((0 : Int) < k) then 1 else 0) (se_add1 (se_draw (i := 0) (m := 3) cd hr (by decide) hG rfl rfl (.inl rfl) rfl ⟨rfl, rfl, rfl, rfl, pn6⟩ (fun H0 => de_int) (by decide) (by decide) (by omega))) (fun H0 => (de_callTy call_int1 rfl m_int (by decide +kernel) (da_cons (de_cmp op_gt (de_im (i := 4) rfl (.inl rfl) rfl) de_int v2_gt (nomark _)) da_nil) c1_intb)) ?_) ?_) (se_draw (i := 0) (m := 3) cd hr (by decide) hG rfl rfl (.inl rfl) rfl ⟨rfl, rfl, rfl, rfl, pn6⟩ (fun H0 => de_int) (by decide) (by decide) (by omega)) (fun dn st hdn hst => ?_)
    · rintro x ⟨y, ⟨r, rfl, hr'⟩, rfl⟩
      exact sz_mul (lt3000 (a := 5) (by omega) (by decide)) (by split <;> decide +kernel)
    · rintro x ⟨v, ⟨y, ⟨r, rfl, hr'⟩, rfl⟩, rfl⟩
      by_cases hk0 : 0 < k
      · rw [decide_eq_true (show (0 : Int) < k by omega)]
        exact ⟨by simp; omega, by simp; omega, fun z => by omega, fun _ => by simp; omega⟩
      · rw [decide_eq_false (show ¬ (0 : Int) < k by omega)]
        exact ⟨by simp, by simp, fun z => by simp, fun z => by omega⟩
    obtain ⟨d0, d3, dk0, dk1⟩ := hdn
    obtain ⟨sr, rfl, hst⟩ := hst
    refine dg_db (E := E) fun H0 st0 off0 => ?_
    refine db_set (i := 8) (s := .im (.int (up + dn + sr))) scLRates.nd rfl (.inl rfl) ⟨(de_bin op_add (de_bin op_add (de_im (i := 5) rfl (.inl rfl) rfl) (de_im (i := 6) rfl (.inl rfl) rfl) v2_add) (de_im (i := 7) rfl (.inl rfl) rfl) v2_add), rfl⟩ ?_
    obtain ⟨sv, hsv, sv0⟩ : ∃ sv : Int, (sr : Int) + (if PyData.eqv (.int (up + dn + sr)) (.int 0) then 1 else 0) = sv ∧ 0 ≤ sv := ⟨_, rfl, by split <;> omega⟩
    refine db_set (i := 7) (s := .im (.int sv)) scLRates.nd rfl (.inl rfl) ⟨DE.is (de_bin op_add (de_im (i := 7) rfl (.inl rfl) rfl) (de_callTy call_int1 rfl m_int (by decide +kernel) (da_cons (de_cmp (op_eqD (by exact hr.units)) (de_im (i := 8) rfl (.inl rfl) rfl) de_int (v2_eq shp_int shp_int) (nomark _)) da_nil) c1_intb) v2_add) (by rw [hsv]), rfl⟩ ?_
    obtain ⟨wv, hwv, hw1, hw8, hsum⟩ : ∃ wv : Int, (if up + dn + sr > 1 then up + dn + sr else 1) = wv ∧ 1 ≤ wv ∧ wv ≤ 8 ∧ up + sv + dn = wv := by
      rw [eqv_int] at hsv
      by_cases hz : up + dn + (sr : Int) = 0
      · rw [hz] at hsv ⊢
        exact ⟨1, rfl, by decide, by decide, by simp at hsv; omega⟩
      · have hz' : ((up + dn + (sr : Int)) == 0) = false := beq_eq_false_iff_ne.mpr hz
        rw [hz'] at hsv
        have hsv' : (sr : Int) + 0 = sv := hsv
        refine ⟨up + dn + sr, ?_, by omega, by omega, by omega⟩
        split <;> omega
    refine db_set (i := 8) (s := .im (.int wv)) scLRates.nd rfl (.inl rfl) ⟨DE.is (de_callB (call_max2 rfl) rfl m_max (by decide +kernel) (da_cons de_int (da_cons (de_im (i := 8) rfl (.inl rfl) rfl) da_nil)) c1_max) (by rw [← hwv]), rfl⟩ ?_
    have hw0 : 0 < wv := by omega
    have hwn : wv.natAbs < 2 ^ 6000 := lt3000' (a := 10) (by omega) (by decide)
    refine db_app (i := 3) rfl (.inl rfl) rfl (DE.is (de_tup (da_cons (de_call c__law_ratio hr (by decide) rfl (da_cons (de_im (i := 5) rfl (.inl rfl) rfl) (da_cons (de_im (i := 8) rfl (.inl rfl) rfl) da_nil)) ⟨_, _, rfl, hw0, hwn, rfl⟩) (da_cons (de_call c__law_ratio hr (by decide) rfl (da_cons (de_im (i := 7) rfl (.inl rfl) rfl) (da_cons (de_im (i := 8) rfl (.inl rfl) rfl) da_nil)) ⟨_, _, rfl, hw0, hwn, rfl⟩) (da_cons (de_call c__law_ratio hr (by decide) rfl (da_cons (de_im (i := 6) rfl (.inl rfl) rfl) (da_cons (de_im (i := 8) rfl (.inl rfl) rfl) da_nil)) ⟨_, _, rfl, hw0, hwn, rfl⟩) da_nil))) (Nat.le_of_ble_eq_true rfl)) (RD_mk hw0)) noL_RD (by rw [rl_len]; omega) (db_nil ⟨by omega, put u k (up / wv), put s k (sv / wv), put d k (dn / wv), some (.im (.int (k : Int))), some (.im (.int up)), some (.im (.int dn)), some (.im (.int sv)), some (.im (.int wv)), par.succ u0 sv0 d0 hw1 hw8 hsum dk0 dk1 u1, ⟨rfl, rfl, rfl, rfl, trivial⟩, ?_⟩) (pe_bm F.plainAttrs_list F.slot_list_append F.type_list_append mt_append)
    rw [← rl_snoc]
    rfl
  · subst e eN
    refine dg_db (E := E) fun H0 st0 off0 => ?_
    refine db_retC (de_callTy call_tuple_of rfl m_tuple (by decide +kernel) (da_cons (de_ow (i := 3) rfl (.inl rfl) rfl) da_nil) c1_tuple) fun v H' e1 d1 => ⟨⟨many, u, s, d⟩, ⟨hm1.1, by show many ≤ 5; omega, par.bu, par.bs, par.bd, par.u0, par.s0, par.d0, par.one, par.dz, par.dp, fun i hi => par.up i (by show i < many; have : i + 1 < many := hi; omega) hi⟩, hm1.2, d1, off0.trans (.of e1), (st0.up e1).mono (by omega)⟩
end
end RS
set_option Elab.async false
set_option linter.all false
set_option maxRecDepth 100000
set_option maxHeartbeats 4000000
/-! part S4: the state is laid -/
namespace RS
open PySem PySem.Spec PyProof.Rows L2 RM
theorem dl_if {X : Cx} {H0 : Hp} {δ : DSl} {cn a b : Expr} {k : Bool} {ds : List PyData} {pos : Pos} (h : DT X H0 δ cn k) (h1 : k = true → DL X H0 δ a ds) (h2 : k = false → DL X H0 δ b ds) : DL X H0 δ (.IfExp cn a b pos) ds := fun σ H S Q q =>
  we_of (pe_ifExp pt_w pe_w pe_w) (h σ H S _ fun H1 e1 => by
    cases k with
    | true =>
      show WE X a σ H1 Q
      exact h1 rfl σ H1 (S.up e1) Q fun p H2 vs n2 e2 d1 d2 => q p H2 vs (Evl.fresh_back e1 n2) (e1.trans e2) d1 d2
    | false =>
      show WE X b σ H1 Q
      exact h2 rfl σ H1 (S.up e1) Q fun p H2 vs n2 e2 d1 d2 => q p H2 vs (Evl.fresh_back e1 n2) (e1.trans e2) d1 d2)
theorem dl_listOf {X : Cx} {H0 : Hp} {δ : DSl} {e : Expr} {ds : List PyData} {p pos : Pos} (hg : Gl X "list") (hm : X.mg "list" = none) (h : DE X H0 δ e (.list ds)) (he : starEach [e] X.env = (false, eval e X.env) :: starEach [] X.env := by rfl) (hpl : (backTo pos (starEach [] X.env)).any (·.1) = false := by rfl) :
    DL X H0 δ (.Call (.Name "list" p) [e] [] pos) ds := fun σ H S Q q =>
  we_of (pe_callTy call_list_of hg hm (by decide +kernel) (pa_cons pe_w pa_nil he) (by decide) (by decide) he hpl) (h σ H S _ fun v H1 e1 d1 => by
    obtain ⟨pp, vs, rfl, h3, h4⟩ := dp_lst d1
    refine ⟨pp, vs, rfl, .inl h3, fun l hl => ?_⟩
    have e2 : Ex H1 (upd H1 l (.lst vs)) := Evl.Ex.new hl
    exact q l _ vs (Evl.fresh_back e1 hl) (e1.trans e2) upd_same (h4.up e2))
def ID (ns : List Int) : List PyData := ns.map PyData.int
theorem id_noL (ns : List Int) : noLs (ID ns) = true := noLs_all.mpr fun d hd => by
  obtain ⟨i, _, rfl⟩ := List.mem_map.mp hd
  rfl
theorem id_lay : ∀ ns : List Int, PyData.canLayAll0 (ID ns) = true
  | [] => by simp [ID, PyData.canLayAll0]
  | n :: ns => by
    have ih := id_lay ns
    unfold ID at ih ⊢
    simp [PyData.canLayAll0, PyData.canLay0, ih]
theorem id_dep : ∀ ns : List Int, PyData.depthAll (ID ns) = 0
  | [] => by simp [ID, PyData.depthAll]
  | n :: ns => by
    have ih := id_dep ns
    unfold ID at ih ⊢
    simp [PyData.depthAll, PyData.depth, ih]
theorem shp_ID (ns : List Int) : SeqAt.shaped (.list (ID ns)) = true := by simp [SeqAt.shaped, PyData.canLay0, PyData.depth, id_lay, id_dep]
theorem v2_pow {K : PySem.W.Frag} {i j : Int} (h : CPow i j) : V2 K (rI CPow fun i j => .int (i ^ j.toNat)) (.int i) (.int j) (.int (i ^ j.toNat)) := fun v u H Q h1 h2 q => by
  cases h1; cases h2; exact ⟨i, j, rfl, rfl, h, q _ H .rfl (.int _)⟩
theorem merge_st {c l : Addr} : mergeK [] (stKv c l 0 0) = stKv c l 0 0 := by
  have h1 := kne (x := "cells") (y := "lefts") (by decide +kernel)
  have h2 := kne (x := "cells") (y := "at") (by decide +kernel)
  have h3 := kne (x := "lefts") (y := "at") (by decide +kernel)
  have h4 := kne (x := "cells") (y := "room") (by decide +kernel)
  have h5 := kne (x := "lefts") (y := "room") (by decide +kernel)
  have h6 := kne (x := "at") (y := "room") (by decide +kernel)
  simp [mergeK, stKv, putK, h1, h2, h3, h4, h5, h6]
theorem eqv_ID (ns : List Int) : PyData.eqv (.list (ID ns)) (.list []) = ns.isEmpty := by
  cases ns <;> simp [ID, PyData.eqv, PyData.eqvAll]
theorem dpa_ID {K : PySem.W.Frag} {H : Hp} : ∀ {ns : List Int} {vs : List V}, DpAll K H vs (ID ns) → vs = ns.map V.int
  | [], _, h => by cases h; rfl
  | n :: ns, _, h => by
    cases h with
    | cons h1 h2 =>
      cases h1
      rw [dpa_ID h2]
      rfl
def spBegin (K : PySem.W.Frag) : Sp := fun vs H Q _ => ∃ (a : Addr) (ns : List Int), vs = [.ref a] ∧ SqL K H a (ns.map V.int) ∧ ns.length ≤ 63 ∧ ∀ (S c l : Addr) H', Ex H H' → H S = none → H c = none → H l = none → StA H' S c l 0 → Q (.ref S) H'
def leftI (n : Int) : Int := if decide ((10 : Int) ^ 18 ≤ n) then n else 0
section
variable {P : Program} {w : World} {K : PySem.W.Frag} {mg : Str → Option Value} {base : Heap}
theorem cn_begin (h : Hd K mg "_law_begin" sBegin ["_law_script"]) (m_list : mg "list" = none) : CnG P w K mg base "_law_begin" 1 (spBegin K) := by
  refine h.cnG scBegin (fun vs H Q E q => by obtain ⟨_, _, e, _⟩ := q; rw [e]; rfl) fun f cdv A outer s H vs Q E q hr hG hcd => ?_
  obtain ⟨a, ns, rfl, hs, hl, q⟩ := q
  have S0 : Sl K H H (L2.start ["_law_script", "_law_cells", "_law_cell"] [.ref a]) [some (.im (.list (ID ns))), none, none] := sl_start (N := ["_law_script", "_law_cells", "_law_cell"]) (vs := [.ref a]) (ds := [.list (ID ns)]) (.cons (.lst hs (by exact dpa_ints)) .nil)
  obtain ⟨ms, hms, hm0, hm63⟩ : ∃ ms : List Int, ms = (if ns = [] then [0] else ns) ∧ 0 < ms.length ∧ ms.length ≤ 63 := by
    refine ⟨_, rfl, ?_, ?_⟩
    · split
      · decide
      · rename_i h0
        exact List.length_pos_iff.mpr h0
    · split
      · decide
      · exact hl
  refine wb_of (pss_cons (ps_set (X := fnX P w K mg base ["_law_script", "_law_cells", "_law_cell"] "_law_begin" sBegin f cdv A outer s H E) scBegin.nd (i := 1) rfl (.inl rfl) pe_w rfl) pb_w) ?_
  refine DV.run (H0 := H) (δ := [some (.im (.list (ID ns))), none, none]) (s := .ow (ID ms)) ⟨?_, id_noL _⟩ S0 fun v H1 e1 n1 => ?_
  · refine dl_if (dt_cmp (op_neD (by exact hr.units)) (de_im (i := 0) rfl (.inl rfl) rfl) (DL.de (dl_lst da_nil (Nat.le_of_ble_eq_true rfl))) (v2_ne (shp_ID ns) (shp_ID [])) (nomark _)) (fun hb => ?_) (fun hb => ?_)
    · rw [eqv_ID] at hb
      have h0 : ns ≠ [] := fun z => by rw [z] at hb; cases hb
      rw [hms, if_neg h0]
      exact dl_listOf rfl m_list (de_im (i := 0) rfl (.inl rfl) rfl)
    · rw [eqv_ID] at hb
      have h0 : ns = [] := by
        cases ns with
        | nil => rfl
        | cons _ _ => cases hb
      rw [hms, if_pos h0]
      exact dl_lst (da_cons de_int da_nil) (by decide)
  have S1 := S0.put (i := 1) e1 n1
  obtain ⟨c, vs, rfl, hcn, hc1, hcd1, _⟩ := n1
  have evs := dpa_ID hcd1
  subst evs
  refine wb_of (pss_cons (ps_ret (X := fnX P w K mg base ["_law_script", "_law_cells", "_law_cell"] "_law_begin" sBegin f cdv A outer s H E) (pe_disp (pps_cons pe_str (pe_var (i := 1) rfl (.inl rfl)) (pps_cons pe_str pe_w (pps_cons pe_str pe_int (pps_cons pe_str pe_int pps_nil)))) rfl rfl (by simp) (by decide))) pb_w) ?_
  intro p hp
  have ep : Ex H1 (upd H1 p (.dK [])) := Evl.Ex.new hp
  have S2 := S1.up ep
  generalize hH2 : upd H1 p (.dK []) = H2 at ep S2
  have hp2 : H2 p = some (.dK []) := by rw [← hH2, upd_same]
  refine ⟨_, rfl, ?_⟩
  refine (show DL (fnX P w K mg base ["_law_script", "_law_cells", "_law_cell"] "_law_begin" sBegin f cdv A outer s H E) H [some (.im (.list (ID ns))), some (.ow (ID ms)), none] _ (ID (ms.map leftI)) from ?_) _ H2 S2 _ fun l H3 us nl e3 hl3 hd3 => ?_
  · refine dl_lc rfl scBegin.nd (fs := ID (ms.map leftI)) (dwc_list (de_ow (i := 1) rfl (.inl rfl) rfl)) (blkOk_by (N := ["_law_script", "_law_cells", "_law_cell"]) (sc := defScope sBegin) (own := [("_law_cell", 2)]) (by decide +kernel)) (fun _ _ _ _ _ => pg_name (i := 2) scBegin.nd rfl (.inl rfl)) (by simp [ID]) (by simp [ID]; omega) (id_noL _) (fun i y fv hy hf => ?_)
    unfold ID at hy hf
    rw [List.getElem?_map] at hy hf
    rw [List.getElem?_map] at hf
    cases hm : ms[i]? with
    | none => rw [hm] at hy; cases hy
    | some n =>
      rw [hm] at hy hf
      cases hy
      cases hf
      refine ⟨_, gc_name rfl (by decide), fun _ _ _ _ _ => ?_⟩
      refine de_if (dt_cmp op_ge (de_im (i := 2) rfl (.inl rfl) rfl) (de_bin op_pow de_int de_int (v2_pow ⟨by decide, by decide, by decide⟩)) v2_ge (nomark _)) (fun hb => ?_) (fun hb => ?_)
      · have e : leftI n = n := if_pos hb
        rw [e]
        exact de_im (i := 2) rfl (.inl rfl) rfl
      · have e : leftI n = 0 := if_neg (by rw [show decide ((10 : Int) ^ 18 ≤ n) = false from hb]; decide)
        rw [e]
        exact de_int
  have eus := dpa_ID hd3
  subst eus
  have hp3 := e3 _ _ hp2
  have hc3 := e3 _ _ (ep _ _ hc1)
  refine ⟨hp3, stKv c l 0 0, rfl, (by show 4 ≤ 15; decide), ?_⟩
  rw [merge_st]
  have npl : l ≠ p := fun z => by rw [z, hp2] at nl; cases nl
  have npc : c ≠ p := fun z => by rw [z, hp] at hc1; cases hc1
  have ncl : c ≠ l := fun z => by rw [z] at hc1; rw [ep _ _ hc1] at nl; cases nl
  have hpH := Evl.fresh_back e1 hp
  refine q p c l _ (fun b o hb => ?_) hpH hcn (Evl.fresh_back (e1.trans ep) nl) ⟨ms, ms.map leftI, 0, 0, upd_same, ?_, ?_, ncl, by simp, hm0, by decide, by decide⟩
  · rw [upd_ne (ne_of_none hb hpH)]
    exact e3 _ _ (ep _ _ (e1 _ _ hb))
  · rw [upd_ne npc]; exact hc3
  · rw [upd_ne npl]; exact hl3
end
end RS
set_option Elab.async false
set_option linter.all false
set_option maxRecDepth 100000
set_option maxHeartbeats 4000000
/-! part S5: the weights are right -/
namespace RS
open PySem PySem.Spec PyProof.Rows L2 RM
abbrev sRight : Stmt := topS 79
abbrev nRight : List Str := ["_law_state", "_law_rates_so", "_law_due", "_law_one", "_law_far", "_law_near", "_law_many", "_law_there", "_law_back", "_law_top", "_law_k", "_law_row", "_law_firsts_so", "_law_ahead", "_law_mean", "_law_j"]
theorem scRight : FnScope nRight ["_law_state", "_law_rates_so"] (defScope sRight) := ⟨rfl, rfl, rfl, by decide +kernel, rfl, by decide +kernel, by decide +kernel⟩
/-! what is shown -/
theorem log_of {i : Int} {a : Nat} (h : i.natAbs < 2 ^ a) (h0 : 0 < a) (ha : a ≤ 1900) : i.natAbs.log2 < 1920 := Nat.lt_of_lt_of_le (PySem.Flt.log2_lt_of h0 h) (by omega)
theorem shw_FQ {q : Rat} (h : Szn 1900 q) : Shw (FQ q) := by
  refine ⟨?_, by simp [FQ, FI, PyData.hasDict, PyData.hasDictAll], by simp [FQ, FI, PyData.depth, PyData.depthAll], by simp [FQ, FI, wid, widA]⟩
  have h1 := log_of h.1 (by decide) (by decide)
  have h2 := log_of (i := (q.den : Int)) (by rw [den_na]; exact h.2) (by decide) (by decide)
  simp [FQ, FI, PyData.showable, PyData.showableAll, h1]
  simpa using h2
theorem shwA_FQ : ∀ {qs : List Rat}, (∀ q ∈ qs, Szn 1900 q) → PyData.showableAll (qs.map FQ) = true ∧ PyData.hasDictAll (qs.map FQ) = false ∧ PyData.depthAll (qs.map FQ) ≤ 1 ∧ widA (qs.map FQ) = 4010 * qs.length
  | [], _ => by simp [PyData.showableAll, PyData.hasDictAll, PyData.depthAll, widA]
  | q :: qs, h => by
    obtain ⟨a, b, c, d⟩ := shwA_FQ (qs := qs) fun x hx => h x (by simp [hx])
    have s := shw_FQ (h q (by simp))
    have e1 : (FQ q).depth = 1 := by simp [FQ, FI, PyData.depth, PyData.depthAll]
    have e2 : wid (FQ q) = 4008 := by simp [FQ, FI, wid, widA]
    refine ⟨?_, ?_, ?_, ?_⟩
    · simp [PyData.showableAll, s.s, a]
    · simp [PyData.hasDictAll, s.n, b]
    · simp only [List.map_cons, PyData.depthAll]; omega
    · rw [List.map_cons, widA_cons, e2, d, List.length_cons]; omega
theorem shwT_FQ {qs : List Rat} (h : ∀ q ∈ qs, Szn 1900 q) (hl : qs.length ≤ 1000) : Shw (.tuple (qs.map FQ)) := by
  obtain ⟨a, b, c, d⟩ := shwA_FQ h
  refine ⟨by simpa [PyData.showable] using a, by simpa [PyData.hasDict] using b, by simp only [PyData.depth]; omega, ?_⟩
  rw [wid_tuple, d]
  omega
theorem shw_none : Shw .none := ⟨by simp [PyData.showable], by simp [PyData.hasDict], by simp [PyData.depth], by simp [wid]⟩
theorem kd_T {ds : List PyData} : isT (.tuple ds) = true ∨ PyData.tuple ds = .none ∨ ∃ l, PyData.tuple ds = .list l := .inl rfl
theorem shw_wt {R : Rt} (g : R.Good) : Shw (.tuple (VF (wt R) R.n)) := by
  rw [vf_map]
  have n5 := g.hi
  refine shwT_FQ (fun q hq => ?_) (by simp; omega)
  obtain ⟨i, hi, rfl⟩ := List.mem_map.mp hq
  have := List.mem_range.mp hi
  exact (wt_szn g i this).mono (by omega)
theorem shw_fbl {R : Rt} (g : R.Good) {m : Nat} (hm : m ≤ 8) : Shw (.tuple ((fbl R m).map FQ)) := by
  refine shwT_FQ (fun q hq => ?_) (by rw [fbl_len]; omega)
  obtain ⟨i, hi⟩ := List.getElem?_of_mem hq
  have hl : i < m := by
    have := (List.getElem?_eq_some_iff.mp hi).1
    rwa [fbl_len] at this
  have e : (fbl R m).getD i 0 = q := by rw [List.getD_eq_getElem?_getD, hi]; rfl
  rw [← e]
  exact (fbl_sz g hm hl).mono (by decide)
def meanD (R : Rt) : PyData := if R.u (R.n - 1) = 0 then FQ (((List.range R.n).map (wt R)).foldl (· + ·) 0) else .none
theorem shw_mean {R : Rt} (g : R.Good) : Shw (meanD R) ∧ (isT (meanD R) = true ∨ meanD R = .none ∨ ∃ l, meanD R = .list l) := by
  unfold meanD
  split
  · refine ⟨shw_FQ ?_, .inl rfl⟩
    have n5 := g.hi
    have hb : ∀ q ∈ (List.range R.n).map (wt R), Szn 102 q := fun q hq => by
      obtain ⟨i, hi, rfl⟩ := List.mem_map.mp hq
      have := List.mem_range.mp hi
      exact (wt_szn g i this).mono (by omega)
    have s := sum_szn hb R.n
    rw [List.take_of_length_le (by simp)] at s
    refine s.mono ?_
    have : min R.n ((List.range R.n).map (wt R)).length ≤ 5 := by simp; omega
    have := Nat.mul_le_mul_right 103 this
    omega
  · exact ⟨shw_none, .inr (.inl rfl)⟩
theorem Pn.head {o : Option Sd} {t t' : DSl} (h : Pn (o :: t)) (h' : Pn t') : Pn (o :: t') := by
  rcases o with _ | (_ | _ | _)
  · exact h'
  · exact ⟨h.1, h'⟩
  · exact h'
  · exact h'
def spRight (K : PySem.W.Frag) : Sp := fun vs H Q _ => ∃ (S c l : Addr) (N : Nat) (v : V) (R : Rt), vs = [.ref S, v] ∧ R.Good ∧ Dp K H v (RTd R) ∧ StA H S c l N ∧ N ≤ 2 ^ 239 ∧ ∀ H', Off S c l H H' → StA H' S c l (N + 4) → Q (.bl true) H'
theorem noL_RTd {R : Rt} : noL (RTd R) = true := by
  show noL (.tuple (RTl R)) = true
  rw [noL_tuple]
  exact rtl_noL
section
variable {P : Program} {w : World} {K : PySem.W.Frag} {mg : Str → Option Value} {base : Heap} {CR CN : Addr}
theorem cn_right (h : Hd K mg "_law_are_weights_right" sRight ["_law_state", "_law_rates_so"]) (m_repr : mg "repr" = none) (m_zip : mg "zip" = none) (m_len : mg "len" = none) (m_range : mg "range" = none) (m_enumerate : mg "enumerate" = none) (m_tuple : mg "tuple" = none)
    (cd : CnG P w K mg base "_law_draw" 2 spDraw) (c__law_times : Cn P w K mg base "_law_times" 2 frMul) (c__law_over : Cn P w K mg base "_law_over" 2 frDiv) (c__law_less : Cn P w K mg base "_law_less" 2 frSub) (c__law_sum : Cn P w K mg base "_law_sum" 3 frSum) (c__law_chances : Cn P w K mg base "_law_chances" 4 frLCh)
    (c_rung_weights : Cn P w K mg base "rung_weights" 8 (FrRW CR fun R => .tuple (VF (wt R) R.n))) (c_first_backs : Cn P w K mg base "first_backs" 8 (FrBr CR CN fun R m => .tuple ((fbl R m).map FQ)))
    (c_mean_back : Cn P w K mg base "mean_back" 8 (FrRW CR fun R => if R.u (R.n - 1) = 0 then FQ (((List.range R.n).map (wt R)).foldl (· + ·) 0) else .none)) : CnG P w K mg base "_law_are_weights_right" 9 (spRight K) := by
  refine h.cnG scRight (fun vs H Q E q => by obtain ⟨_, _, _, _, _, _, e, _⟩ := q; rw [e]; rfl) fun f cdv A outer s H vs Q E q hr hG hcd => ?_
  obtain ⟨S, c, l, N, v, R, rfl, g, dR, st, hN, q⟩ := q
  have n1 := g.lo
  have n5 := g.hi
  have hNN : N + 4 ≤ 2 ^ 240 := by
    have e : (2 : Nat) ^ 239 + 4 ≤ 2 ^ 240 := by decide +kernel
    omega
  have s0 : Sl K H H (L2.start nRight [.ref S, v]) [some (.rf S), some (.im (RTd R)), none, none, none, none, none, none, none, none, none, none, none, none, none, none] := by
    have s1 := sl_start (K := K) (H := H) (N := nRight) (vs := [.non, v]) (ds := [.none, RTd R]) (.cons .non (.cons dR .nil))
    exact s1.setNo (i := 0) (v := .ref S) (z := .rf S) rfl (fun _ z => by cases z)
  refine (show DG (fnX P w K mg base nRight "_law_are_weights_right" sRight f cdv A outer s H E) S c l H [some (.rf S), some (.im (RTd R)), none, none, none, none, none, none, none, none, none, none, none, none, none, none] N (defBody sRight) (fun _ _ => False)
    (fun v H' => v = .bl true ∧ Off S c l H H' ∧ StA H' S c l (N + 4)) from ?_) _ H _ ⟨H, s0, st, Off.refl H⟩ (fun _ _ _ _ z => z.elim) (fun v H' ⟨e, off, st'⟩ => by rw [e]; exact q H' off st')
  have pl : (pairD (RTl R) ((RTl R).drop 1)).length = R.n - 1 := by
    unfold pairD
    rw [List.length_map, List.length_zip, List.length_drop, rtl_len]
    omega
  refine dg_db (E := E) fun H0 st0 off0 => ?_
  refine db_set (i := 2) (s := .ow (VF (wt R) 1)) scRight.nd rfl (.inl rfl) ⟨dl_lst (da_cons (DE.is (de_tup (da_cons de_int (da_cons de_int da_nil)) (Nat.le_of_ble_eq_true rfl)) FI_one) da_nil) (Nat.le_of_ble_eq_true rfl), vf_noL⟩ ?_
  refine db_for fn_own rfl (dwk_zip (ds := RTl R) (es := (RTl R).drop 1) rfl m_zip (da_cons (de_im (d := .tuple (RTl R)) (i := 1) rfl (.inr (.inl rfl)) rfl) (da_cons (DE.is (de_slT (l := some 1) (h := none) (de_im (d := .tuple (RTl R)) (i := 1) rfl (.inr (.inl rfl)) rfl) (.inr ⟨_, _, rfl, rfl, de_int⟩) (.inl ⟨rfl, rfl⟩)) (by rw [cutD_1])) da_nil)) rtl_noL (noLs_all.mpr fun d hd => noLs_all.mp rtl_noL d (List.mem_of_mem_drop hd))) (pg_tup (n := 2) rfl (pgs_cons (pg_name (i := 3) scRight.nd rfl (.inl rfl)) (pgs_cons (pg_name (i := 4) scRight.nd rfl (.inl rfl)) pgs_nil)))
    (fun k δ1 => ∃ o1 o2, Pn [o1, o2, none, none, none, none, none, none, none, none, none, none, none] ∧ δ1 = [some (.rf S), some (.im (RTd R)), some (.ow (VF (wt R) (k + 1))), o1, o2, none, none, none, none, none, none, none, none, none, none, none]) ⟨none, none, trivial, rfl⟩ (fun k y δ1 hy ⟨o1, o2, _, e⟩ => ?_) (fun δ1 ⟨o1, o2, pn, e⟩ => ?_)
  · subst e
    have hk : k + 1 < R.n := by
      have := (List.getElem?_eq_some_iff.mp hy).1
      rw [pl] at this
      omega
    obtain ⟨d1, d2, h1, h2, rfl⟩ := pairD_get _ _ _ hy
    rw [List.getElem?_drop, Nat.add_comm, rtl_get hk] at h2
    rw [rtl_get (by omega)] at h1
    cases h1
    cases h2
    have sw : Szn (2 + 20 * k) (wt R k) := wt_szn g k (by omega)
    have s1 := sw.mul (rate_szn (g.bu k))
    have lastw : atI (VF (wt R) (k + 1)) (-1) = some (FQ (wt R k)) := vf_last
    refine ⟨_, gb_tup2 (gb_name noL_RD) (gb_name noL_RD), ?_⟩
    refine db_app (i := 2) rfl (.inl rfl) rfl (de_call c__law_over hr (by decide) rfl (da_cons (de_call c__law_times hr (by decide) rfl (da_cons (de_ixL (de_ow (i := 2) rfl (.inl rfl) rfl) (de_neg de_int) lastw (fun _ _ => rfl)) (da_cons (de_ixT (de_im (i := 3) rfl (.inl rfl) rfl) de_int (atI_nat (j := 0) rfl) (fun _ _ => rfl)) da_nil)) ⟨_, _, rfl, sw.sz (by omega), (rate_szn (g.bu k)).sz (by decide), rfl⟩) (da_cons (de_ixT (de_im (i := 4) rfl (.inl rfl) rfl) de_int (atI_nat (j := 2) rfl) (fun _ _ => rfl)) da_nil)) ⟨_, _, rfl, s1.sz (by omega), (rate_szn (g.bd (k + 1))).sz (by decide), g.dp (k + 1) (by omega) hk, rfl⟩) noL_FQ (by rw [vf_len]; omega) (db_nil ⟨some (.im (RD (R.u k) (R.s k) (R.d k))), some (.im (RD (R.u (k + 1)) (R.s (k + 1)) (R.d (k + 1)))), ⟨noL_RD, noL_RD, trivial⟩, ?_⟩) (pe_bm F.plainAttrs_list F.slot_list_append F.type_list_append mt_append)
    rw [← vf_snoc (n := k + 1)]
    rfl
  subst e
  rw [pl, show R.n - 1 + 1 = R.n by omega]
  refine db_ifF (DT.is (dt_cmp op_ne (de_repr (by exact hG) (by exact hr.units) rfl m_repr (de_call c_rung_weights hr (by decide) rfl (da_cons (de_im (i := 1) rfl (.inr (.inl rfl)) rfl) da_nil) (.ok g)) (shw_wt g) kd_T) (de_repr (by exact hG) (by exact hr.units) rfl m_repr (de_callTy call_tuple_of rfl m_tuple (by decide +kernel) (da_cons (de_ow (i := 2) rfl (.inl rfl) rfl) da_nil) c1_tuple) (shw_wt g) kd_T) v2_neS (nomark _)) (by simp)) ?_
  refine db_dg st0 off0 ?_
  refine dg_par3 (i := 5) (j := 4) (i3 := 6) rfl scRight.nd rfl rfl rfl (by decide) (by decide) (by decide) rfl rfl rfl (se_draw (i := 0) (m := R.n) cd hr (by decide) hG rfl rfl (.inl rfl) rfl ⟨noL_RTd, pn⟩ (fun H0 => DE.is (de_callB call_len rfl m_len (by decide +kernel) (da_cons (de_ow (i := 2) rfl (.inl rfl) rfl) da_nil) c1_lenL) (by rw [vf_len])) (by omega) (by omega) (by omega)) (se_draw (i := 0) (m := R.n) cd hr (by decide) hG rfl rfl (.inl rfl) rfl ⟨noL_RTd, pn⟩ (fun H0 => DE.is (de_callB call_len rfl m_len (by decide +kernel) (da_cons (de_ow (i := 2) rfl (.inl rfl) rfl) da_nil) c1_lenL) (by rw [vf_len])) (by omega) (by omega) (by omega)) (se_draw (i := 0) (m := 5) cd hr (by decide) hG rfl rfl (.inl rfl) rfl ⟨noL_RTd, pn⟩ (fun H0 => de_int) (by omega) (by omega) (by omega)) (fun near far many h1 h2 h3 => ?_)
  obtain ⟨near, rfl, hnear⟩ := h1
  obtain ⟨far, rfl, hfar⟩ := h2
  obtain ⟨many, rfl, hmany⟩ := h3
  refine dg_db (E := E) fun H1 st1 off1 => ?_
  have szA : ∀ i j, Szn 200 (Am R many i j) := fun i j => Am_sz g i (by omega) j
  have szW : ∀ i, i < R.n → Szn 102 (wt R i) := fun i hi => (wt_szn g i hi).mono (by omega)
  refine db_par (i := 7) (j := 8) (s1 := .im (FQ (Am R many near far))) (s2 := .im (FQ (Am R many far near))) rfl scRight.nd rfl rfl (by decide) rfl rfl ⟨(de_ixT (de_call c__law_chances hr (by decide) rfl (da_cons (de_im (i := 1) rfl (.inr (.inl rfl)) rfl) (da_cons (de_im (i := 5) rfl (.inl rfl) rfl) (da_cons (de_im (i := 6) rfl (.inl rfl) rfl) da_nil))) ⟨R, near, many, rfl, g, hnear, by omega, rfl⟩) (de_im (i := 4) rfl (.inl rfl) rfl) (vf_at (by omega)) (fun _ _ => rfl)), noL_FQ⟩ ⟨(de_ixT (de_call c__law_chances hr (by decide) rfl (da_cons (de_im (i := 1) rfl (.inr (.inl rfl)) rfl) (da_cons (de_im (i := 4) rfl (.inl rfl) rfl) (da_cons (de_im (i := 6) rfl (.inl rfl) rfl) da_nil))) ⟨R, far, many, rfl, g, hfar, by omega, rfl⟩) (de_im (i := 5) rfl (.inl rfl) rfl) (vf_at (by omega)) (fun _ _ => rfl)), noL_FQ⟩ ?_
  refine db_ifF (DT.is (dt_cmp (op_neD (by exact hr.units)) (de_call c__law_times hr (by decide) rfl (da_cons (de_ixL (de_ow (i := 2) rfl (.inl rfl) rfl) (de_im (i := 5) rfl (.inl rfl) rfl) (vf_at (by omega)) (fun _ _ => rfl)) (da_cons (de_im (i := 7) rfl (.inl rfl) rfl) da_nil)) ⟨_, _, rfl, (szW near hnear).sz (by decide), (szA near far).sz (by decide), rfl⟩) (de_call c__law_times hr (by decide) rfl (da_cons (de_ixL (de_ow (i := 2) rfl (.inl rfl) rfl) (de_im (i := 4) rfl (.inl rfl) rfl) (vf_at (by omega)) (fun _ _ => rfl)) (da_cons (de_im (i := 8) rfl (.inl rfl) rfl) da_nil)) ⟨_, _, rfl, (szW far hfar).sz (by decide), (szA far near).sz (by decide), rfl⟩) (v2_ne shp_FQ shp_FQ) (nomark _)) (by rw [eqv_FQ, decide_eq_true (balance R g many near far hnear hfar)]; rfl)) ?_
  refine db_dg st1 off1 ?_
  refine dg_set (i := 9) scRight.nd rfl (.inl rfl) (se_draw (i := 0) (m := 7) cd hr (by decide) hG rfl rfl (.inl rfl) rfl ⟨noL_RTd, pn.head ⟨rfl, rfl, rfl, noL_FQ, noL_FQ, trivial⟩⟩ (fun H0 => de_int) (by decide) (by decide) (by omega)) (fun top0 h4 => ?_)
  obtain ⟨top, rfl, htop⟩ := h4
  refine dg_db (E := E) fun H2 st2 off2 => ?_
  have htb : (top : Int) + 1 < 2 ^ 40 := by
    have : (13 : Int) < 2 ^ 40 := by decide
    omega
  refine db_parT (i := 11) (j := 12) (s1 := .ow (VF (row R) (top + 1))) (s2 := .ow []) rfl scRight.nd rfl rfl (by decide) (.inr rfl) (.inl rfl) ⟨?_, vf_noL⟩ ⟨dl_lst da_nil (by decide), rfl⟩ ?_
  · refine dl_lc rfl scRight.nd (fs := VF (row R) (top + 1)) (ys := (List.range (top + 1)).map fun j : Nat => .int (j : Int)) (DWk.c (DWk.is (dwk_range1 (n := (top : Int) + 1) rfl m_range (da_cons (de_bin op_add (de_im (i := 9) rfl (.inl rfl) rfl) de_int v2_add) da_nil) (by omega) htb) rfl)) (blkOk_by (N := nRight) (sc := defScope sRight) (own := [("_law_k", 10)]) (by decide +kernel)) (fun _ _ _ _ _ => pg_name (i := 10) scRight.nd rfl (.inl rfl)) (by rw [vf_len]; simp) (by simp; omega) vf_noL (fun j y fv hy hf => ?_)
    have hj : j < top + 1 := by
      have := (List.getElem?_eq_some_iff.mp hy).1
      simpa using this
    rw [List.getElem?_map, List.getElem?_range hj] at hy
    cases hy
    rw [vf_get hj] at hf
    cases hf
    refine ⟨_, gc_name rfl (by decide), fun _ _ _ _ _ => ?_⟩
    exact de_ixT (i := 0) (de_call c__law_chances hr (by decide) rfl (da_cons (de_im (i := 1) rfl (.inr (.inl rfl)) rfl) (da_cons de_int (da_cons (de_im (i := 10) rfl (.inl rfl) rfl) da_nil))) ⟨R, 0, j, rfl, g, by omega, by omega, rfl⟩) de_int (vf_at (i := 0) (by omega)) (fun _ _ => rfl)
  refine db_for fn_own rfl (dwk_range2 (lo := 1) (n := (top : Int) + 1) rfl m_range (da_cons de_int (da_cons (de_bin op_add (de_im (i := 9) rfl (.inl rfl) rfl) de_int v2_add) da_nil)) (by decide) (by decide) (by omega) htb) (pg_name (i := 10) scRight.nd rfl (.inr rfl))
    (fun k δ1 => ∃ oa ob, δ1 = [some (.rf S), some (.im (RTd R)), some (.ow (VF (wt R) R.n)), o1, some (.im (.int far)), some (.im (.int near)), some (.im (.int many)), some (.im (FQ (Am R many near far))), some (.im (FQ (Am R many far near))), some (.im (.int top)), oa, some (.ow (VF (row R) (top + 1))), some (.ow ((fbl R k).map FQ)), ob, none, none]) ⟨none, none, rfl⟩ (fun k y δ1 hy ⟨oa, ob, e⟩ => ?_) (fun δ1 ⟨oa, ob, e⟩ => ?_)
  · subst e
    have hk : k < top := by
      have := (List.getElem?_eq_some_iff.mp hy).1
      simp at this
      omega
    rw [List.getElem?_map, List.getElem?_range (by omega)] at hy
    cases hy
    refine ⟨_, gb_name rfl, ?_⟩
    refine db_set (i := 13) (s := .im (FQ ((known R (fbl R k) k).foldl (· + ·) 0))) scRight.nd rfl (.inl rfl) ⟨de_call c__law_sum hr (by decide) rfl (da_cons (DL.de (ds := (known R (fbl R k) k).map FQ) ?_) da_nil) ⟨known R (fbl R k) k, .inl rfl, (known_sz g (by omega)).1, (known_sz g (by omega)).2, by rw [known_len]; omega, rfl⟩, noL_FQ⟩ ?_
    · refine dl_lc rfl scRight.nd (g := gTup K 2 (gCons (gName 15) (gCons (gName 3) gNil))) (fs := (known R (fbl R k) k).map FQ) (dwc_enumL (ds := (fbl R k).map FQ) rfl m_enumerate (da_cons (de_ow (i := 12) rfl (.inl rfl) rfl) da_nil)) (blkOk_by (N := nRight) (sc := defScope sRight) (own := [("_law_j", 15), ("_law_one", 3)]) (by decide +kernel))
        (fun _ _ _ _ _ => pg_tup (n := 2) rfl (pgs_cons (pg_name (i := 15) scRight.nd rfl (.inl rfl)) (pgs_cons (pg_name (i := 3) scRight.nd rfl (.inl rfl)) pgs_nil))) (by rw [List.length_map, enumD_length, List.length_map, known_len, fbl_len]) (by rw [enumD_length, List.length_map, fbl_len]; omega) (noLs_FQ _) (fun j y fv hy hf => ?_)
      rw [enumD_get, Nat.zero_add, List.getElem?_map] at hy
      have hj : j < k := by
        refine Decidable.byContradiction fun z => ?_
        rw [List.getElem?_eq_none (by rw [fbl_len]; omega)] at hy
        cases hy
      have e1 : (fbl R k)[j]? = some ((fbl R k).getD j 0) := by
        rw [List.getD_eq_getElem?_getD, List.getElem?_eq_getElem (by rw [fbl_len]; omega)]
        rfl
      rw [e1] at hy
      cases hy
      have e2 : (known R (fbl R k) k)[j]? = some ((fbl R k).getD j 0 * row R (k - j)) := by
        unfold known
        rw [List.getElem?_map, List.getElem?_range hj]
        rfl
      rw [List.getElem?_map, e2] at hf
      cases hf
      have ei : (1 : Int) + k - 1 - j = ((k - j : Nat) : Int) := by omega
      exact ⟨_, gc_tup2 (gc_name rfl (by decide)) (gc_name noL_FQ (by decide)), fun _ _ _ _ _ => (de_call c__law_times hr (by decide) rfl (da_cons (de_im (i := 3) rfl (.inl rfl) rfl) (da_cons (de_ixL (de_ow (i := 11) rfl (.inr (.inl rfl)) rfl) (de_bin op_sub (de_bin op_sub (de_im (i := 10) rfl (.inr (.inl rfl)) rfl) de_int v2_sub) (de_im (i := 15) rfl (.inl rfl) rfl) v2_sub) (by rw [ei]; exact vf_at (by omega)) (fun _ _ => rfl)) da_nil)) ⟨_, _, rfl, (fbl_sz g (by omega) hj).sz (by decide), (row_sz g (by omega)).sz (by decide), rfl⟩)⟩
    · have ei : (1 : Int) + k = ((k + 1 : Nat) : Int) := by omega
      refine db_app (i := 12) rfl (.inl rfl) rfl (de_call c__law_less hr (by decide) rfl (da_cons (de_ixL (de_ow (i := 11) rfl (.inr (.inl rfl)) rfl) (de_im (i := 10) rfl (.inr (.inl rfl)) rfl) (by rw [ei]; exact vf_at (by omega)) (fun _ _ => rfl)) (da_cons (de_im (i := 13) rfl (.inl rfl) rfl) da_nil)) ⟨_, _, rfl, (row_sz g (by omega)).sz (by decide), fsum_sz g (by omega), rfl⟩) noL_FQ (by rw [List.length_map, fbl_len]; omega) (db_nil ⟨some (.im (.int ((1 : Int) + k))), some (.im (FQ ((known R (fbl R k) k).foldl (· + ·) 0))), ?_⟩) (pe_bm F.plainAttrs_list F.slot_list_append F.type_list_append mt_append)
      have ek : (fbl R (k + 1)).map FQ = (fbl R k).map FQ ++ [FQ (row R (k + 1) - (known R (fbl R k) k).foldl (· + ·) 0)] := by rw [fbl, List.map_append]; rfl
      rw [ek]
      rfl
  subst e
  rw [List.length_map, List.length_range, show ((top : Int) + 1 - 1).toNat = top by omega]
  refine db_ifF (DT.is (dt_cmp op_ne (de_repr (by exact hG) (by exact hr.units) rfl m_repr (de_call c_first_backs hr (by decide) rfl (da_cons (de_im (i := 1) rfl (.inr (.inl rfl)) rfl) (da_cons (de_im (i := 9) rfl (.inl rfl) rfl) da_nil)) (.ok g (by omega))) (shw_fbl g (by omega)) kd_T) (de_repr (by exact hG) (by exact hr.units) rfl m_repr (de_callTy call_tuple_of rfl m_tuple (by decide +kernel) (da_cons (de_ow (i := 12) rfl (.inl rfl) rfl) da_nil) c1_tuple) (shw_fbl g (by omega)) kd_T) v2_neS (nomark _)) (by simp)) ?_
  have el : atI (RTl R) (-1) = some (RD (R.u (R.n - 1)) (R.s (R.n - 1)) (R.d (R.n - 1))) := by
    unfold atI
    have : R.n = R.n - 1 + 1 := by omega
    rw [rtl_len, this, ixN_last]
    exact rtl_get (by omega)
  have noLm : noL (meanD R) = true := by
    unfold meanD
    split
    · exact noL_FQ
    · rfl
  refine db_set (i := 14) (s := .im (meanD R)) scRight.nd rfl (.inl rfl) ⟨de_if (k := decide (R.u (R.n - 1) = 0)) (DT.is (dt_cmp (op_eqD (by exact hr.units)) (de_ixT (de_ixT (de_im (d := .tuple (RTl R)) (i := 1) rfl (.inr (.inl rfl)) rfl) (de_neg de_int) el (fun _ _ => rfl)) de_int (atI_nat (j := 0) rfl) (fun _ _ => rfl)) (DE.is (de_tup (da_cons de_int (da_cons de_int da_nil)) (Nat.le_of_ble_eq_true rfl)) FI_zero) (v2_eq shp_FQ shp_FQ) (nomark _)) (by rw [eqv_FQ])) (fun hb => ?_) (fun hb => ?_), noLm⟩ ?_
  · have hb := of_decide_eq_true hb
    unfold meanD
    rw [if_pos hb]
    exact de_call c__law_sum hr (by decide) rfl (da_cons (de_ow (i := 2) rfl (.inl rfl) rfl) da_nil) ⟨(List.range R.n).map (wt R), .inl (by rw [vf_map]), (wts_sz g).1, (wts_sz g).2, by simp; omega, rfl⟩
  · have hb := of_decide_eq_false hb
    unfold meanD
    rw [if_neg hb]
    exact de_non
  refine db_retC (d := .bool true) (DE.is (de_cmp op_eq (de_repr (by exact hG) (by exact hr.units) rfl m_repr (de_call c_mean_back hr (by decide) rfl (da_cons (de_im (i := 1) rfl (.inr (.inl rfl)) rfl) da_nil) (.ok g)) (shw_mean g).1 (shw_mean g).2) (de_repr (by exact hG) (by exact hr.units) rfl m_repr (de_im (i := 14) rfl (.inl rfl) rfl) (shw_mean g).1 (shw_mean g).2) v2_eqS (nomark _)) (by simp [meanD])) fun v H' e1 d1 => ?_
  cases d1
  exact ⟨rfl, off2.trans (.of e1), (st2.up e1).mono (by omega)⟩
end
end RS
set_option Elab.async false
set_option linter.all false
set_option maxRecDepth 100000
set_option maxHeartbeats 4000000
/-! part S6: the hand's own numbers -/
namespace RS
open PySem PySem.Spec PyProof.Rows L2 RM
abbrev sHand : Stmt := topS 82
abbrev nHand : List Str := ["_law_rates_so", "_law_closed_so", "_law_told", "_law_due"]
theorem scHand : FnScope nHand [] (defScope sHand) := ⟨rfl, rfl, rfl, by decide +kernel, rfl, by decide +kernel, by decide +kernel⟩
theorem se_tup {env : Env} {es l : List Expr} {k : Nat} {p : Pos} : starEach (.Tuple es k p :: l) env = (false, eval (.Tuple es k p) env) :: starEach l env := rfl
theorem DB.run {X : Cx} {E : XK} {H0 H : Hp} {δ : DSl} {ss : List Stmt} {nx : DSl → Prop} {rs : Res → Prop} {σ : L2.St} {D : Ends} (h : DB X E H0 δ ss nx rs) (S : Sl X.K H0 H σ δ) (kn : ∀ δ' σ' H', nx δ' → Sl X.K H0 H' σ' δ' → Tx H H' → D.nx σ' H') (kr : ∀ r, rs r → Sends X.K H0 D.rt E r) : WB X ss D σ H := h σ H D S kn kr
def f2 (a b : Rat) : Fn
  | 0 => a
  | 1 => b
  | _ => 0
theorem f2_all {a b : Rat} {G : Rat → Prop} (h1 : G a) (h2 : G b) (h3 : G 0) : ∀ i, G (f2 a b i)
  | 0 => h1
  | 1 => h2
  | _ + 2 => h3
def q12 : Rat := ⟨1, 2, by decide, by decide⟩
def q13 : Rat := ⟨1, 3, by decide, by decide⟩
def q32 : Rat := ⟨3, 2, by decide, by decide⟩
def q16 : Rat := ⟨1, 6, by decide, by decide⟩
def q118 : Rat := ⟨1, 18, by decide, by decide⟩
def Ra : Rt := ⟨2, f2 q12 q13, f2 q12 q13, f2 0 q13⟩
def Rb : Rt := ⟨2, f2 q12 0, f2 q12 0, f2 0 1⟩
theorem b12 : Bd 840 840 q12 := ⟨420, by decide +kernel, by decide⟩
theorem b13 : Bd 840 840 q13 := ⟨280, by decide +kernel, by decide⟩
theorem b1 : Bd 840 840 1 := ⟨840, by decide +kernel, by decide⟩
theorem ga : Ra.Good := by
  refine ⟨by decide, by decide, f2_all b12 b13 .zero, f2_all b12 b13 .zero, f2_all .zero b13 .zero, f2_all (G := fun q => 0 ≤ q) (by decide +kernel) (by decide +kernel) (by decide +kernel), f2_all (G := fun q => 0 ≤ q) (by decide +kernel) (by decide +kernel) (by decide +kernel), f2_all (G := fun q => 0 ≤ q) (by decide +kernel) (by decide +kernel) (by decide +kernel), fun i hi => ?_, rfl, fun i h0 hi => ?_, fun i hi => ?_⟩
  · have hi : i < 2 := hi
    match i, hi with
    | 0, _ => decide +kernel
    | 1, _ => decide +kernel
  · have hi : i < 2 := hi
    have : i = 1 := by omega
    subst this
    decide +kernel
  · have hi : i + 1 < 2 := hi
    have : i = 0 := by omega
    subst this
    decide +kernel
theorem gb : Rb.Good := by
  refine ⟨by decide, by decide, f2_all b12 .zero .zero, f2_all b12 .zero .zero, f2_all .zero b1 .zero, f2_all (G := fun q => 0 ≤ q) (by decide +kernel) (by decide +kernel) (by decide +kernel), f2_all (G := fun q => 0 ≤ q) (by decide +kernel) (by decide +kernel) (by decide +kernel), f2_all (G := fun q => 0 ≤ q) (by decide +kernel) (by decide +kernel) (by decide +kernel), fun i hi => ?_, rfl, fun i h0 hi => ?_, fun i hi => ?_⟩
  · have hi : i < 2 := hi
    match i, hi with
    | 0, _ => decide +kernel
    | 1, _ => decide +kernel
  · have hi : i < 2 := hi
    have : i = 1 := by omega
    subst this
    decide +kernel
  · have hi : i + 1 < 2 := hi
    have : i = 0 := by omega
    subst this
    decide +kernel
def q512 : Rat := ⟨5, 12, by decide, by decide⟩
def q2572 : Rat := ⟨25, 72, by decide, by decide⟩
def q1136 : Rat := ⟨11, 36, by decide, by decide⟩
def q34 : Rat := ⟨3, 4, by decide, by decide⟩
def q14 : Rat := ⟨1, 4, by decide, by decide⟩
def q58 : Rat := ⟨5, 8, by decide, by decide⟩
def q38 : Rat := ⟨3, 8, by decide, by decide⟩
def f3 (a b c : Rat) : Fn
  | 0 => a
  | 1 => b
  | 2 => c
  | _ => 0
theorem e1_f3 : e1 0 = f3 1 0 0 := by
  funext j
  match j with
  | 0 => rfl
  | 1 => rfl
  | 2 => rfl
  | _ + 3 => rfl
theorem stp_f3 {R : Rt} (hn : R.n = 2) {a b c x y z : Rat} (h0 : a * R.s 0 + b * R.d 1 = x) (h1 : b * R.s 1 + a * R.u 0 = y) (h2 : b * R.u 1 + c = z) : stp R (f3 a b c) = f3 x y z := by
  subst h0 h1 h2
  funext j
  unfold stp RM.part
  rw [hn]
  match j with
  | 0 => simp [f3] <;> grind
  | 1 => simp [f3] <;> grind
  | 2 => simp [f3] <;> grind
  | j + 3 =>
    have a1 : ¬ j + 3 < 2 := by omega
    have a2 : ¬ (1 ≤ j + 3 ∧ j + 3 ≤ 2) := by omega
    have a3 : ¬ j + 3 + 1 < 2 := by omega
    have a4 : ¬ j + 3 = 2 := by omega
    rw [if_neg a1, if_neg a2, if_neg a3, if_neg a4]
    show (0 : Rat) + 0 + 0 + 0 = 0
    decide +kernel
theorem a0 {R : Rt} : Am R 0 0 = f3 1 0 0 := e1_f3
theorem aS {R : Rt} {m : Nat} {q q' : Fn} (h : Am R m 0 = q) (h2 : stp R q = q') : Am R (m + 1) 0 = q' := by
  rw [← h2, ← h]
  rfl
theorem aa1 : Am Ra 1 0 = f3 q12 q12 0 := aS a0 (stp_f3 rfl (by decide +kernel) (by decide +kernel) (by decide +kernel))
theorem aa2 : Am Ra 2 0 = f3 q512 q512 q16 := aS aa1 (stp_f3 rfl (by decide +kernel) (by decide +kernel) (by decide +kernel))
theorem aa3 : Am Ra 3 0 = f3 q2572 q2572 q1136 := aS aa2 (stp_f3 rfl (by decide +kernel) (by decide +kernel) (by decide +kernel))
theorem ab1 : Am Rb 1 0 = f3 q12 q12 0 := aS a0 (stp_f3 rfl (by decide +kernel) (by decide +kernel) (by decide +kernel))
theorem ab2 : Am Rb 2 0 = f3 q34 q14 0 := aS ab1 (stp_f3 rfl (by decide +kernel) (by decide +kernel) (by decide +kernel))
theorem ab3 : Am Rb 3 0 = f3 q58 q38 0 := aS ab2 (stp_f3 rfl (by decide +kernel) (by decide +kernel) (by decide +kernel))
theorem fbl_S {R : Rt} {k : Nat} {l : List Rat} {x : Rat} (h : fbl R k = l) (h2 : row R (k + 1) - (known R l k).foldl (· + ·) 0 = x) : fbl R (k + 1) = l ++ [x] := by
  rw [fbl, h, h2]
theorem kn0 {R : Rt} {l : List Rat} : known R l 0 = [] := rfl
theorem kn1 {R : Rt} {a r1 : Rat} (h1 : row R 1 = r1) : known R [a] 1 = [a * r1] := by
  rw [← h1]
  rfl
theorem kn2 {R : Rt} {a b r1 r2 : Rat} (h1 : row R 1 = r1) (h2 : row R 2 = r2) : known R [a, b] 2 = [a * r2, b * r1] := by
  rw [← h1, ← h2]
  rfl
theorem ra1 : row Ra 1 = q12 := by unfold row; rw [aa1]; rfl
theorem ra2 : row Ra 2 = q512 := by unfold row; rw [aa2]; rfl
theorem ra3 : row Ra 3 = q2572 := by unfold row; rw [aa3]; rfl
theorem rb1 : row Rb 1 = q12 := by unfold row; rw [ab1]; rfl
theorem rb2 : row Rb 2 = q34 := by unfold row; rw [ab2]; rfl
theorem rb3 : row Rb 3 = q58 := by unfold row; rw [ab3]; rfl
theorem fa1 : fbl Ra 1 = [] ++ [q12] := fbl_S rfl (by rw [kn0, ra1]; decide +kernel)
theorem fa2 : fbl Ra 2 = [q12] ++ [q16] := fbl_S fa1 (by rw [kn1 ra1, ra2]; decide +kernel)
theorem fa_eq : fbl Ra 3 = [q12, q16] ++ [q118] := fbl_S fa2 (by rw [kn2 ra1 ra2, ra3]; decide +kernel)
theorem fb1 : fbl Rb 1 = [] ++ [q12] := fbl_S rfl (by rw [kn0, rb1]; decide +kernel)
theorem fb2 : fbl Rb 2 = [q12] ++ [q12] := fbl_S fb1 (by rw [kn1 rb1, rb2]; decide +kernel)
theorem fb_eq : fbl Rb 3 = [q12, q12] ++ [0] := fbl_S fb2 (by rw [kn2 rb1 rb2, rb3]; decide +kernel)
theorem wa1 : wt Ra 1 = q32 := by
  show 1 * q12 / q13 = q32
  decide +kernel
theorem wb1 : wt Rb 1 = q12 := by
  show 1 * q12 / 1 = q12
  decide +kernel
theorem wa_eq : (List.range 2).map (wt Ra) = [1, q32] := by
  show [wt Ra 0, wt Ra 1] = _
  rw [wa1]
  rfl
theorem wb_eq : (List.range 2).map (wt Rb) = [1, q12] := by
  show [wt Rb 0, wt Rb 1] = _
  rw [wb1]
  rfl
theorem ma_eq : meanD Ra = .none := by
  unfold meanD
  rw [if_neg (show ¬ Ra.u (Ra.n - 1) = 0 from show ¬ (q13 : Rat) = 0 by decide +kernel)]
theorem mb_eq : meanD Rb = FQ q32 := by
  unfold meanD
  rw [if_pos (show Rb.u (Rb.n - 1) = 0 from rfl), show Rb.n = 2 from rfl, wb_eq, show ([1, q12] : List Rat).foldl (· + ·) 0 = q32 by decide +kernel]
def dueD : List PyData := [.tuple [FI 1 1, FI 3 2], .tuple [FI 1 2, FI 1 6, FI 1 18], .none, FI 3 2, .tuple [FI 1 1, FI 1 2], .tuple [FI 1 2, FI 1 2, FI 0 1], .tuple []]
theorem told_eq : [.tuple (VF (wt Ra) Ra.n), .tuple ((fbl Ra 3).map FQ), meanD Ra, meanD Rb] ++ [.tuple (VF (wt Rb) Rb.n), .tuple ((fbl Rb 3).map FQ), .tuple ((fbl Rb 0).map FQ)] = dueD := by
  rw [vf_map, vf_map, show Ra.n = 2 from rfl, show Rb.n = 2 from rfl, wa_eq, wb_eq, fa_eq, fb_eq, ma_eq, mb_eq]
  rfl
theorem shw_due : Shw (.list dueD) := by
  refine ⟨?_, ?_, ?_, ?_⟩
  · simp [dueD, FI, PyData.showable, PyData.showableAll]
    decide +kernel
  · simp [dueD, FI, PyData.hasDict, PyData.hasDictAll]
  · simp [dueD, FI, PyData.depth, PyData.depthAll]
  · simp [dueD, FI, wid, widA]
def spHand : Sp := fun vs H Q _ => vs = [] ∧ ∀ H', Ex H H' → Q (.bl true) H'
section
variable {P : Program} {w : World} {K : PySem.W.Frag} {mg : Str → Option Value} {base : Heap} {CR CN : Addr}
theorem cn_hand (h : Hd K mg "_law_hand_right" sHand []) (m_repr : mg "repr" = none) (c_rung_weights : Cn P w K mg base "rung_weights" 8 (FrRW CR fun R => .tuple (VF (wt R) R.n))) (c_first_backs : Cn P w K mg base "first_backs" 8 (FrBr CR CN fun R m => .tuple ((fbl R m).map FQ)))
    (c_mean_back : Cn P w K mg base "mean_back" 8 (FrRW CR fun R => if R.u (R.n - 1) = 0 then FQ (((List.range R.n).map (wt R)).foldl (· + ·) 0) else .none)) : CnG P w K mg base "_law_hand_right" 9 spHand := by
  refine h.cnG scHand (fun vs H Q E q => by rw [q.1]; rfl) fun f cdv A outer s H vs Q E q hr hG hcd => ?_
  obtain ⟨rfl, q⟩ := q
  have s0 : Sl K H H (L2.start nHand []) [none, none, none, none] := sl_start (K := K) (H := H) (N := nHand) (vs := []) (ds := []) .nil
  refine DB.run (X := fnX P w K mg base nHand "_law_hand_right" sHand f cdv A outer s H E) (E := E) (nx := fun _ => False) (rs := fun r => r = .ok (.bool true)) ?_ s0 (fun _ _ _ z => z.elim) (fun r e => ?_)
  rotate_left 1
  · have e : r = .ok (.bool true) := e
    subst e
    intro v H' e1 d1
    have ev : v = .bl true := by cases d1; rfl
    rw [ev]
    exact q H' e1
  refine db_set (i := 0) (s := .im (RTd Ra)) scHand.nd rfl (.inl rfl) ⟨DE.is (de_tup (da_cons (de_tup (da_cons (de_tup (da_cons de_int (da_cons de_int da_nil)) (Nat.le_of_ble_eq_true rfl)) (da_cons (de_tup (da_cons de_int (da_cons de_int da_nil)) (Nat.le_of_ble_eq_true rfl)) (da_cons (de_tup (da_cons de_int (da_cons de_int da_nil)) (Nat.le_of_ble_eq_true rfl)) da_nil))) (Nat.le_of_ble_eq_true rfl)) (da_cons (de_tup (da_cons (de_tup (da_cons de_int (da_cons de_int da_nil)) (Nat.le_of_ble_eq_true rfl)) (da_cons (de_tup (da_cons de_int (da_cons de_int da_nil)) (Nat.le_of_ble_eq_true rfl)) (da_cons (de_tup (da_cons de_int (da_cons de_int da_nil)) (Nat.le_of_ble_eq_true rfl)) da_nil))) (Nat.le_of_ble_eq_true rfl)) da_nil se_tup) se_tup) (Nat.le_of_ble_eq_true rfl)) rfl, noL_RTd⟩ ?_
  refine db_set (i := 1) (s := .im (RTd Rb)) scHand.nd rfl (.inl rfl) ⟨DE.is (de_tup (da_cons (de_tup (da_cons (de_tup (da_cons de_int (da_cons de_int da_nil)) (Nat.le_of_ble_eq_true rfl)) (da_cons (de_tup (da_cons de_int (da_cons de_int da_nil)) (Nat.le_of_ble_eq_true rfl)) (da_cons (de_tup (da_cons de_int (da_cons de_int da_nil)) (Nat.le_of_ble_eq_true rfl)) da_nil))) (Nat.le_of_ble_eq_true rfl)) (da_cons (de_tup (da_cons (de_tup (da_cons de_int (da_cons de_int da_nil)) (Nat.le_of_ble_eq_true rfl)) (da_cons (de_tup (da_cons de_int (da_cons de_int da_nil)) (Nat.le_of_ble_eq_true rfl)) (da_cons (de_tup (da_cons de_int (da_cons de_int da_nil)) (Nat.le_of_ble_eq_true rfl)) da_nil))) (Nat.le_of_ble_eq_true rfl)) da_nil se_tup) se_tup) (Nat.le_of_ble_eq_true rfl)) rfl, noL_RTd⟩ ?_
  refine db_set (i := 2) (s := .ow [.tuple (VF (wt Ra) Ra.n), .tuple ((fbl Ra 3).map FQ), meanD Ra, meanD Rb]) scHand.nd rfl (.inl rfl) ⟨dl_lst (da_cons (de_call c_rung_weights hr (by decide) rfl (da_cons (de_im (i := 0) rfl (.inl rfl) rfl) da_nil) (.ok ga)) (da_cons (de_call c_first_backs hr (by decide) rfl (da_cons (de_im (i := 0) rfl (.inl rfl) rfl) (da_cons de_int da_nil)) (.ok ga (m := 3) (by decide))) (da_cons (de_call c_mean_back hr (by decide) rfl (da_cons (de_im (i := 0) rfl (.inl rfl) rfl) da_nil) (.ok ga)) (da_cons (de_call c_mean_back hr (by decide) rfl (da_cons (de_im (i := 1) rfl (.inl rfl) rfl) da_nil) (.ok gb)) da_nil)))) (by decide), ?_⟩ ?_
  · rw [vf_map, show Ra.n = 2 from rfl, wa_eq, fa_eq, ma_eq, mb_eq]
    rfl
  refine db_set (i := 2) (s := .ow dueD) scHand.nd rfl (.inl rfl) ⟨DL.is (dl_cat (do_ow (i := 2) rfl (.inl rfl) rfl) (DL.o (dl_lst (da_cons (de_call c_rung_weights hr (by decide) rfl (da_cons (de_im (i := 1) rfl (.inl rfl) rfl) da_nil) (.ok gb)) (da_cons (de_call c_first_backs hr (by decide) rfl (da_cons (de_im (i := 1) rfl (.inl rfl) rfl) (da_cons de_int da_nil)) (.ok gb (m := 3) (by decide))) (da_cons (de_call c_first_backs hr (by decide) rfl (da_cons (de_im (i := 1) rfl (.inl rfl) rfl) (da_cons de_int da_nil)) (.ok gb (m := 0) (by decide))) da_nil))) (by decide))) (by decide)) told_eq, by rfl⟩ ?_
  refine db_set (i := 3) (s := .ow dueD) scHand.nd rfl (.inl rfl) ⟨DL.is (dl_lst (da_cons (de_tup (da_cons (de_tup (da_cons de_int (da_cons de_int da_nil)) (Nat.le_of_ble_eq_true rfl)) (da_cons (de_tup (da_cons de_int (da_cons de_int da_nil)) (Nat.le_of_ble_eq_true rfl)) da_nil)) (Nat.le_of_ble_eq_true rfl)) (da_cons (de_tup (da_cons (de_tup (da_cons de_int (da_cons de_int da_nil)) (Nat.le_of_ble_eq_true rfl)) (da_cons (de_tup (da_cons de_int (da_cons de_int da_nil)) (Nat.le_of_ble_eq_true rfl)) (da_cons (de_tup (da_cons de_int (da_cons de_int da_nil)) (Nat.le_of_ble_eq_true rfl)) da_nil))) (Nat.le_of_ble_eq_true rfl)) (da_cons de_non (da_cons (de_tup (da_cons de_int (da_cons de_int da_nil)) (Nat.le_of_ble_eq_true rfl)) (da_cons (de_tup (da_cons (de_tup (da_cons de_int (da_cons de_int da_nil)) (Nat.le_of_ble_eq_true rfl)) (da_cons (de_tup (da_cons de_int (da_cons de_int da_nil)) (Nat.le_of_ble_eq_true rfl)) da_nil)) (Nat.le_of_ble_eq_true rfl)) (da_cons (de_tup (da_cons (de_tup (da_cons de_int (da_cons de_int da_nil)) (Nat.le_of_ble_eq_true rfl)) (da_cons (de_tup (da_cons de_int (da_cons de_int da_nil)) (Nat.le_of_ble_eq_true rfl)) (da_cons (de_tup (da_cons de_int (da_cons de_int da_nil)) (Nat.le_of_ble_eq_true rfl)) da_nil))) (Nat.le_of_ble_eq_true rfl)) (da_cons (de_tup da_nil (Nat.le_of_ble_eq_true rfl)) da_nil))))))) (by decide)) rfl, by rfl⟩ ?_
  exact db_ret (DE.is (de_cmp op_eq (de_repr (by exact hG) (by exact hr.units) rfl m_repr (de_ow (i := 2) rfl (.inl rfl) rfl) (shw_due) (.inr (.inr ⟨_, rfl⟩))) (de_repr (by exact hG) (by exact hr.units) rfl m_repr (de_ow (i := 3) rfl (.inl rfl) rfl) (shw_due) (.inr (.inr ⟨_, rfl⟩))) v2_eqS (nomark _)) (by simp)) rfl
end
end RS
set_option Elab.async false
set_option linter.all false
set_option maxRecDepth 100000
set_option maxHeartbeats 4000000
/-! part T1: lambdas, with a default or without -/
namespace RS
open PySem PySem.Spec PyProof.Rows L2 RM LamX
abbrev fdD (q : Str) (ar : Arguments) (bo : Expr) (sc : Scope) (cl : List (Str × Addr)) (pm cdv ct dV : Value) : FuncData := { PySem.W.kla_fn "<lambda>" q ar bo sc cl pm cdv ct with defaults := dV }
abbrev obD (q : Str) (ar : Arguments) (bo : Expr) (sc : Scope) (cl : List (Str × Addr)) (pm cdv ct dV : Value) : Obj := { cls := .type "function", data := .func (fdD q ar bo sc cl pm cdv ct dV) }
section
variable {M : Model} {A : Around} {E : Value → Shared → Prop} {s : Shared} {q : Str} {ar : Arguments} {bo : Expr} {sc : Scope} {en : Env} {c P : Addr} {ps : Array Value} {at_ : Pos} {fl : Nat} {mg : Str → Option Value} {cl : List (Str × Addr)} {Q : Value → Shared → Prop} {dV : Value}
theorem tail_miss (k1 : closureFor sc en = pure cl) (k2 : en.globals = mainGlobals) (k3 : s.heap.Ns mainGlobals mg) (k4 : en.code = .ref c) (C : PySem.W.CodeHd s.heap c P) (tb : s.heap.get? P = some { cls := .none, data := .fields ps }) (tr : TriplesOk ps.toList)
    (nf : codeAmong at_ ps.toList = none) (gP : mainGlobals ≠ P) (bm : s.heap.BuiltinsAt mg P)
    (h : ∀ c' ct h2 tk, Heap.ExtBut P s.heap h2 → s.heap.objs.size ≤ c' → c' < h2.objs.size → h2.CodeRec (.ref c') q → h2.get? P = some { cls := .none, data := .fields (ps ++ #[rawInt at_.line, rawInt at_.col, .ref c']) } →
      Q (.ref h2.objs.size) { s with heap := h2.push (obD q ar bo sc cl ((mg "__name__").getD .none) (.ref c') ct dV), toks := tk }) :
    wpAny M A (makeTail "<lambda>" q ar (.expr bo) sc en dV .none none at_ fl) Q E s := by
  obtain ⟨b1, b2, b3, b4, _, b5, b6, b7, b8, b9⟩ := bm
  unfold makeTail
  rw [k1, k2]
  refine wpAny_bind (wpAny_pure ?_)
  rcases cl with _ | ⟨y, r⟩
  · simp only [List.isEmpty_nil, if_true]
    refine wpAny_bind (wpAny_pure (wpAny_bind ?_))
    refine wpAny_functionCodeX k4 (C.code tb tr) (C.tab tb) nf fun c' h2 tk e1 e2 e3 _ e4 e5 _ => ?_
    have n2 := k3.extBut e1 gP
    refine wpAny_bind (wpAny_builtinsFor n2 b3 b4 (e1 _ _ b5 b6) b7 b8 b9 (wpAny_bind (wpAny_nsGet n2 (wpAny_bind (wpAny_pure ?_)))))
    exact wpAny_newObj_type (h c' .none h2 tk e1 e2 e3 e4 e5.2) (by size_fits)
  · simp only [List.isEmpty_cons, Bool.false_eq_true, if_false]
    refine wpAny_bind (wpAny_newTextTuple (wpAny_bind ?_))
    have C2 := C.keeps fun b o e => Heap.get?_push_of_some { cls := .type "tuple", data := .seq ((((y :: r).mergeSort fun a b => a.1.cps.toList ≤ b.1.cps.toList).map fun z => Value.ref z.2)).toArray } e
    refine wpAny_functionCodeX k4 (C2.code (Heap.get?_push_of_some _ tb) tr) (C2.tab (Heap.get?_push_of_some _ tb)) nf fun c' h2 tk e1 e2 e3 _ e4 e5 _ => ?_
    have n2 := (k3.push _).extBut e1 gP
    have x1 : Heap.ExtBut P s.heap h2 := fun b o hb e => e1 b o hb (Heap.get?_push_of_some _ e)
    refine wpAny_bind (wpAny_builtinsFor n2 b3 b4 (x1 _ _ b5 b6) b7 b8 b9 (wpAny_bind (wpAny_nsGet n2 (wpAny_bind (wpAny_pure ?_)))))
    exact wpAny_newObj_type (h c' _ h2 tk x1 (Nat.le_trans (by rw [Heap.size_push]; exact Nat.le_succ _) e2) e3 e4 e5.2) (by size_fits)
theorem tail_hit {cv : Value} (k1 : closureFor sc en = pure cl) (k2 : en.globals = mainGlobals) (k3 : s.heap.Ns mainGlobals mg) (k4 : en.code = .ref c) (C : PySem.W.CodeHd s.heap c P) (tb : s.heap.get? P = some { cls := .none, data := .fields ps }) (tr : TriplesOk ps.toList)
    (ff : codeAmong at_ ps.toList = some cv) (bm : s.heap.BuiltinsAt mg P)
    (h : ∀ (ct : Value) (h2 : Heap) (tk : Tok), (∀ b o, s.heap.get? b = some o → h2.get? b = some o) → s.heap.objs.size ≤ h2.objs.size → Q (.ref h2.objs.size) { s with heap := h2.push (obD q ar bo sc cl ((mg "__name__").getD .none) cv ct dV), toks := tk }) :
    wpAny M A (makeTail "<lambda>" q ar (.expr bo) sc en dV .none none at_ fl) Q E s := by
  obtain ⟨b1, b2, b3, b4, _, b5, b6, b7, b8, b9⟩ := bm
  unfold makeTail
  rw [k1, k2]
  refine wpAny_bind (wpAny_pure ?_)
  rcases cl with _ | ⟨y, r⟩
  · simp only [List.isEmpty_nil, if_true]
    refine wpAny_bind (wpAny_pure (wpAny_bind (wpAny_functionCode_hit k4 (C.code tb tr) ff ?_)))
    refine wpAny_bind (wpAny_builtinsFor k3 b3 b4 b6 b7 b8 b9 (wpAny_bind (wpAny_nsGet k3 (wpAny_bind (wpAny_pure ?_)))))
    exact wpAny_newObj_type (h .none s.heap s.toks (fun _ _ e => e) (Nat.le_refl _)) (by size_fits)
  · simp only [List.isEmpty_cons, Bool.false_eq_true, if_false]
    refine wpAny_bind (wpAny_newTextTuple (wpAny_bind ?_))
    have C2 := C.keeps fun b o e => Heap.get?_push_of_some { cls := .type "tuple", data := .seq ((((y :: r).mergeSort fun a b => a.1.cps.toList ≤ b.1.cps.toList).map fun z => Value.ref z.2)).toArray } e
    refine wpAny_functionCode_hit k4 (C2.code (Heap.get?_push_of_some _ tb) tr) ff ?_
    refine wpAny_bind (wpAny_builtinsFor (k3.push _) b3 b4 (Heap.get?_push_of_some _ b6) b7 b8 b9 (wpAny_bind (wpAny_nsGet (k3.push _) (wpAny_bind (wpAny_pure ?_)))))
    exact wpAny_newObj_type (h _ _ s.toks (fun b o e => Heap.get?_push_of_some _ e) (by rw [Heap.size_push]; exact Nat.le_succ _)) (by size_fits)
end
end RS
set_option Elab.async false
set_option linter.all false
set_option maxRecDepth 100000
set_option maxHeartbeats 4000000
/-! part T2: a lambda is made, in a def -/
namespace RS
open PySem PySem.Spec PyProof.Rows L2 RM LamX
section
variable {X : Cx} {pins : List (Addr × Obj)} {σ : L2.St} {H : Hp} {s : Shared}
/-- what is known of a lambda that was made -/
def Made (X : Cx) (T : List (Addr × Str)) (ar : Arguments) (bo : Expr) (sc : Scope) (dV : Value) (pins : List (Addr × Obj)) (σ : L2.St) (H : Hp) (Q : Value → Shared → Prop) : Prop :=
  ∀ (f c' : Addr) (pm ct : Value) (H1 : Hp) (s' : Shared), Inv X pins σ H1 s' → ExtN H H1 → Tabs T H1 →
    s'.heap.get? f = some (obD (X.env.qual ++ "<lambda>") ar bo sc (cloFrom X.env.cells sc.names []) pm (.ref c') ct dV) → H1 f = none → f ∉ frs X.stack → H1 c' = some (CodeO c' (X.env.qual ++ "<lambda>")) → Q (.ref f) s'
theorem lam_tail {T : List (Addr × Str)} {c P : Addr} {ar : Arguments} {bo : Expr} {sc : Scope} {at_ : Pos} {dV : Value} {fl : Nat} {E : Value → Shared → Prop} {Q : Value → Shared → Prop} (I : Inv X pins σ H s) (TB : TabB X.base X.mg c P) (hc : X.env.code = .ref c)
    (hm : (P, X.env.qual ++ "<lambda>") ∈ T) (hu : ∀ p ∈ T, p.1 = P → p.2 = X.env.qual ++ "<lambda>") (hT : Tabs T H) (hfree : ∀ y ∈ sc.names, y.2 = .free → ∃ c, X.env.cells.lookup y.1 = some c) (h : Made X T ar bo sc dV pins σ H Q) :
    wpAny (model X.prog X.w) X.A (makeTail "<lambda>" (X.env.qual ++ "<lambda>") ar (.expr bo) sc X.env dV .none none at_ fl) Q E s := by
  obtain ⟨ps, hP, tr, known⟩ := hT _ hm
  have bm := TB.bm.keeps I.bk
  have tb : s.heap.get? P = some { cls := .none, data := .fields ps } := I.hok P _ hP
  have off : ∀ f, s.heap.objs.size ≤ f → f ∉ frs X.stack := fun f hf z => by
    rcases List.mem_cons.mp (I.stkSub _ z) with e | e
    · have lt := I.lt
      rw [← e] at lt
      exact absurd (Nat.lt_of_lt_of_le lt hf) (Nat.lt_irrefl _)
    · exact I.nofs hf e
  cases hk : codeAmong at_ ps.toList with
  | some cv =>
    obtain ⟨c', rfl, hco⟩ := known at_ cv hk
    refine tail_hit (mg := X.mg) (closure_ok hfree) I.ok.glob (I.mod.glob.keeps I.bk) hc (TB.code.keeps I.bk) tb tr hk bm fun ct h2 tk keeps hsz => ?_
    exact h h2.objs.size c' _ ct H _ (I.kept (t' := tk) fun b o e => Heap.get?_push_of_some _ (keeps b o e)) (ExtN.refl H) hT (Heap.get?_push_size _ rfl) (I.hok.fresh hsz) (off _ hsz) hco
  | none =>
    refine tail_miss (mg := X.mg) (closure_ok hfree) I.ok.glob (I.mod.glob.keeps I.bk) hc (TB.code.keeps I.bk) tb tr hk TB.gP bm fun c' ct h2 tk keeps hge hlt rec_ new => ?_
    obtain ⟨c2, oc, us, t, ec, r1, r2, r3⟩ := rec_
    cases ec
    have hsz : s.heap.objs.size ≤ h2.objs.size := Nat.le_trans hge (Nat.le_of_lt hlt)
    have fresh : H c' = none := I.hok.fresh hge
    have J := inv_table (t' := tk) (more := #[rawInt at_.line, rawInt at_.col, .ref c']) (h' := h2.push (obD (X.env.qual ++ "<lambda>") ar bo sc (cloFrom X.env.cells sc.names []) ((X.mg "__name__").getD .none) (.ref c') ct dV)) I hP
      (fun b o hb e => Heap.get?_push_of_some _ (keeps b o hb e)) (Heap.get?_push_of_some _ new) hge ⟨oc, us, t, Heap.get?_push_of_some _ r1, r2, r3⟩
    generalize hH1 : upd (upd H P (.tbl (ps ++ #[rawInt at_.line, rawInt at_.col, .ref c']))) c' (CodeO c' (X.env.qual ++ "<lambda>")) = H1 at J
    have atC : H1 c' = some (CodeO c' (X.env.qual ++ "<lambda>")) := by rw [← hH1, upd_same]
    have grow : ExtN H H1 := fun b o e n => by
      rw [← hH1, upd_ne (ne_of_none e fresh), upd_ne (fun z => n ps (Option.some.inj (e.symm.trans (by rw [z]; exact hP))))]
      exact e
    refine h h2.objs.size c' _ ct H1 _ J grow (fun p hp => ?_) (Heap.get?_push_size _ rfl) ?_ (off _ hsz) atC
    · by_cases hb : p.1 = P
      · rw [hu p hp hb, hb]
        have eL : (ps ++ #[rawInt at_.line, rawInt at_.col, .ref c']).toList = ps.toList ++ [rawInt at_.line, rawInt at_.col, .ref c'] := by simp
        refine ⟨ps ++ #[rawInt at_.line, rawInt at_.col, .ref c'], by rw [← hH1, upd_ne (ne_of_none hP fresh), upd_same], by rw [eL]; exact PySem.TriplesOk_snoc _ _ _ _ tr, fun p' cv hcv => ?_⟩
        rw [eL] at hcv
        rcases among_app _ tr hcv with z | z
        · obtain ⟨c0, z1, z2⟩ := known p' cv z
          exact ⟨c0, z1, grow _ _ z2 codeO_ne⟩
        · exact ⟨c', z, atC⟩
      · obtain ⟨pq, y1, y2, y3⟩ := hT p hp
        refine ⟨pq, by rw [← hH1, upd_ne (ne_of_none y1 fresh), upd_ne hb]; exact y1, y2, fun p' cv hcv => ?_⟩
        obtain ⟨c0, z1, z2⟩ := y3 p' cv hcv
        exact ⟨c0, z1, grow _ _ z2 codeO_ne⟩
    · have n1 : h2.objs.size ≠ c' := Nat.ne_of_gt hlt
      have n2 : h2.objs.size ≠ P := Nat.ne_of_gt (Nat.lt_of_lt_of_le (Heap.lt_size tb) hsz)
      rw [← hH1, upd_ne n1, upd_ne n2]
      exact I.hok.fresh hsz
/-- lambda: body -/
theorem lam_eval0 {T : List (Addr × Str)} {c P : Addr} {ar : Arguments} {bo : Expr} {sc : Scope} {at_ : Pos} {E : Value → Shared → Prop} {Q : Value → Shared → Prop} (I : Inv X pins σ H s) (TB : TabB X.base X.mg c P) (hc : X.env.code = .ref c)
    (hm : (P, X.env.qual ++ "<lambda>") ∈ T) (hu : ∀ p ∈ T, p.1 = P → p.2 = X.env.qual ++ "<lambda>") (hT : Tabs T H) (hfree : ∀ y ∈ sc.names, y.2 = .free → ∃ c, X.env.cells.lookup y.1 = some c) (hd : defaultsOf ar X.env = ([], [])) (h : Made X T ar bo sc .none pins σ H Q) :
    wpAny (model X.prog X.w) X.A (eval (.Lambda ar bo sc at_) X.env) Q E s := by
  refine PySem.W.kla_eval hd ?_
  rw [makeFunction_eq]
  simp only [List.zip_nil_right, List.filterMap_nil, List.isEmpty_nil, if_true, pure_bind]
  exact lam_tail I TB hc hm hu hT hfree h
/-- lambda x=n: body -/
theorem lam_eval1 {T : List (Addr × Str)} {c P : Addr} {ar : Arguments} {bo : Expr} {sc : Scope} {at_ : Pos} {n : Int} {j : Nat} {pc : Pos} {Q : Value → Shared → Prop} (I : Inv X pins σ H s) (TB : TabB X.base X.mg c P) (hc : X.env.code = .ref c)
    (hm : (P, X.env.qual ++ "<lambda>") ∈ T) (hu : ∀ p ∈ T, p.1 = P → p.2 = X.env.qual ++ "<lambda>") (hT : Tabs T H) (hfree : ∀ y ∈ sc.names, y.2 = .free → ∃ c, X.env.cells.lookup y.1 = some c) (hd : defaultsOf ar X.env = ([eval (.Constant (.int n) j pc) X.env], []))
    (h : ∀ (D : Addr) (s1 : Shared), H D = none → Inv X pins σ (upd H D (.tup [.int n])) s1 → Made X T ar bo sc (.ref D) pins σ (upd H D (.tup [.int n])) Q) :
    wpAny (model X.prog X.w) X.A (eval (.Lambda ar bo sc at_) X.env) Q X.xe s := by
  rw [arm_eval_Lambda, hd]
  show wpAny _ _ (do let dv ← evalAll [eval (.Constant (.int n) j pc) X.env]; let kdv ← holding dv (evalAllOpt []); makeFunction "<lambda>" (X.env.qual ++ "<lambda>") ar (.expr bo) sc X.env dv kdv [] at_ at_.line) Q X.xe s
  refine wpAny_bind ?_
  show wpAny _ _ (do let v ← eval (.Constant (.int n) j pc) X.env; return v :: (← holding [v] (evalAll []))) _ _ _
  refine wpAny_bind (thn (pe_int.run pins s σ H (fun v H' => v = .int n ∧ H' = H) I ⟨rfl, rfl⟩) fun u s1 ⟨v, H', I1, rv, ev, eH⟩ => ?_)
  subst ev
  rw [eH] at I1
  refine wpAny_bind (wpAny_holding (wpAny_pure (wpAny_pure (wpAny_bind (wpAny_holding (wpAny_pure ?_))))))
  rw [makeFunction_eq]
  simp only [List.zip_nil_right, List.filterMap_nil, List.isEmpty_nil, List.isEmpty_cons, Bool.false_eq_true, if_true, if_false, pure_bind]
  refine wpAny_bind (wpAny_newTextTuple ?_)
  have fr := I1.hok.fresh (Nat.le_refl s1.heap.objs.size)
  have ok : ObjOk X.prog X.w (upd H s1.heap.objs.size (.tup [.int n])) (s1.heap.push { cls := .type "tuple", data := .seq [u].toArray }) s1.heap.objs.size (.tup [.int n]) := ⟨by show 1 ≤ sizeLine; decide, [u], .cons rv .nil, ⟨_, Heap.get?_push_size _ rfl, rfl, _, rfl⟩⟩
  have I2 := I1.laid (a := s1.heap.objs.size) (o := .tup [.int n]) (t' := s1.toks) (fun b o e => Heap.get?_push_of_some _ e) (Nat.le_refl _) ok
  have hT2 : Tabs T (upd H s1.heap.objs.size (.tup [.int n])) := hT.ext fun b o e => by rw [upd_ne (ne_of_none e fr)]; exact e
  exact lam_tail I2 TB hc hm hu hT2 hfree (h _ _ fr I2)
end
end RS
set_option Elab.async false
set_option linter.all false
set_option maxRecDepth 100000
set_option maxHeartbeats 4000000
/-! part T3: a lambda is called, in the def that got it -/
namespace RS
open PySem PySem.Spec PyProof.Rows L2 RM LamX
/-- captured names, globals, and parameters that are none of the slots' names -/
structure LamP (N : List Str) (mk sc : Scope) : Prop where
  kind : sc.kind = .function
  co : sc.isCoroutine = false
  gen : sc.isGenerator = false
  nocell : ∀ y ∈ sc.names, y.2 ≠ .cell
  far : ∀ y ∈ sc.names, y.2 = .local → y.1 ∉ N
  free : ∀ y ∈ sc.names, y.2 = .free → mk.names.lookup y.1 = some .cell ∨ mk.names.lookup y.1 = some .free
def lamPB (N : List Str) (mk sc : Scope) : Bool :=
  decide (sc.kind = .function) && !sc.isCoroutine && !sc.isGenerator && sc.names.all fun y => !decide (y.2 = .cell) && (!decide (y.2 = .local) || !N.contains y.1) && (!decide (y.2 = .free) || (decide (mk.names.lookup y.1 = some .cell) || decide (mk.names.lookup y.1 = some .free)))
theorem lamP_by {N : List Str} {mk sc : Scope} (h : lamPB N mk sc = true) : LamP N mk sc := by
  unfold lamPB at h
  simp only [Bool.and_eq_true, Bool.or_eq_true, Bool.not_eq_true', decide_eq_true_eq, decide_eq_false_iff_not, List.all_eq_true] at h
  obtain ⟨⟨⟨a, b⟩, c⟩, d⟩ := h
  refine ⟨a, b, c, fun y hy => (d y hy).1.1, fun y hy e hN => ?_, fun y hy e => ?_⟩
  · rcases (d y hy).1.2 with z | z
    · exact z e
    · rw [List.contains_eq_mem, decide_eq_false_iff_not] at z
      exact z hN
  · rcases (d y hy).2 with z | z
    · exact absurd e z
    · exact z
theorem LamP.has {X : Cx} {sc : Scope} (L : LamP X.N X.env.scope sc) (ok : X.Ok) : ∀ y ∈ sc.names, y.2 = .free → ∃ c, X.env.cells.lookup y.1 = some c := fun y hy e => ok.has _ (L.free y hy e)
section
variable {X : Cx} {pins : List (Addr × Obj)} {σ : L2.St} {H HZ : Hp} {s s1 : Shared}
theorem lam_in {A : Around} {outer : List Env} {E : XK} {sc : Scope} {f c' : Addr} {h1 : Heap} {tk : Nat} {bs : List (Str × Value)} (I : Inv X pins σ H s) (L : LamP X.N X.env.scope sc) (e0 : Env0 X.prog X.w X.K X.mg X.base A outer s1 HZ) (hd : A.handled = none)
    (un : Un (frs X.stack) [] H HZ s.heap s1.heap) (ns : h1.Ns s1.heap.objs.size fun y => bs.reverse.lookup y) (kp : ∀ b o, s1.heap.get? b = some o → h1.get? b = some o) : Inv (lamCx X A outer s1 HZ E sc f c') [] σ HZ { s1 with heap := h1, toks := tk } := by
  have free := L.has I.ok
  have from_ : ∀ {y c}, (cloFrom X.env.cells sc.names []).lookup y = some c → X.env.cells.lookup y = some c := fun {y c} e => by
    rcases cloFrom_mem (PySem.mem_of_lookup e) with z | ⟨m, z⟩
    · cases z
    · obtain ⟨c1, e1⟩ := free _ m rfl
      have e1 : X.env.cells.lookup y = some c1 := e1
      have ec : c = c1 := by rw [z, e1] <;> rfl
      rw [ec]
      exact e1
  have into : ∀ {y}, sc.names.lookup y = some .free → ∃ c, (cloFrom X.env.cells sc.names []).lookup y = some c := fun {y} hl => mem_lookup (cloFrom_has (cells := X.env.cells) (acc := []) (show (y, NameKind.free) ∈ sc.names from PySem.mem_of_lookup hl))
  have cellUp : ∀ {c : Addr} {v : Option Value}, H c = none → s.heap.IsCell c v → h1.IsCell c v := fun {c v} n ⟨o, ho, od⟩ => by
    obtain ⟨sl, z⟩ := un.any ho n (by simp)
    exact ⟨_, kp _ _ z, od⟩
  have none_ : ∀ b : Addr, b ∉ (lamCx X A outer s1 HZ E sc f c').ex := fun b z => absurd (show b ∈ ([] : List Addr) from z) (by simp)
  have ok : (lamCx X A outer s1 HZ E sc f c').Ok := by
    refine ⟨e0.mod, L.kind, rfl, rfl, Nat.le_refl _, fun y z c e1 e2 => I.ok.inj y z c (from_ e1) (from_ e2), fun y hy => ?_, fun y c z _ => ?_, fun _ => hd, Around.frames_deeper e0.frames, .inr ⟨rfl, rfl⟩,
      fun b z => absurd z (none_ b), e0.bs, e0.bsz, fun b _ _ => none_ b, fun b z => absurd z (none_ b), e0.funs, e0.frf⟩
    · rcases (show sc.names.lookup y = some .cell ∨ sc.names.lookup y = some .free from hy) with k | k
      · exact absurd rfl (L.nocell _ (PySem.mem_of_lookup k))
      · exact into k
    · cases (show false = true from z)
  refine ⟨ok, rfl, e0.bare, Un.kept kp, ⟨_, ns, fun i y v e1 e2 e3 => ?_⟩, fun y c e => ?_, e0.hok.fresh (Nat.le_refl _), fun y c e => ?_, fun q hq => absurd (show q ∈ ([] : List (Addr × Obj)) ++ [] from hq) (by simp), e0.hok.kept kp, I.len⟩
  · have e1 : X.N[i]? = some y := e1
    rcases (show Vis sc y from e3) with k | k | k
    · exact absurd (List.mem_of_getElem? e1) (L.far _ (PySem.mem_of_lookup k) rfl)
    · exact absurd rfl (L.nocell _ (PySem.mem_of_lookup k))
    · obtain ⟨m, hn, hl⟩ := I.loc
      have outer_ := L.free _ (PySem.mem_of_lookup k) rfl
      have vis : Vis X.env.scope y := outer_.elim (fun z => .inr (.inl z)) fun z => .inr (.inr z)
      obtain ⟨u, ru, how⟩ := hl i y v e1 e2 vis
      obtain ⟨c2, h2⟩ := into k
      refine ⟨u, ru, .inr ⟨.inr k, c2, h2, ?_⟩⟩
      rcases how with ⟨k', _⟩ | ⟨_, c3, e', z⟩
      · have k' : X.env.scope.names.lookup y = some .local := k'
        rcases outer_ with k2 | k2 <;> rw [show X.env.scope.names.lookup y = _ from k2] at k' <;> cases k'
      · have c1 := from_ h2
        rw [c1] at e'
        cases e'
        exact cellUp (I.freeC y _ c1) z
  · obtain ⟨u, z⟩ := I.cell y c (from_ e)
    exact ⟨u, cellUp (I.freeC y c (from_ e)) z⟩
  · obtain ⟨v, o, ho, od⟩ := I.cell y c (from_ e)
    exact un.free c o ho (I.freeC y c (from_ e)) (by simp)
/-- a(), where a holds the lambda; binding its parameters needs the default's tuple -/
theorem act {CXg : CXT} {Eg : XK} {Ng : List Str} {qg : Str} {sg : Scope} {g f c' : Addr} {cdg pm ct dV : Value} {ar : Arguments} {bo : Expr} {sc : Scope} {k i : Nat} {a : Str} {pn : List (Addr × Obj)} {xe : Value → Shared → Prop} {W : WX} {E : XK} {p1 p2 : Pos} {R : Hp → VK → Prop}
    (I : Inv X pins σ H s) (L : LamP X.N X.env.scope sc) (hf : s.heap.get? f = some (obD (X.env.qual ++ "<lambda>") ar bo sc (cloFrom X.env.cells sc.names []) pm (.ref c') ct dV)) (hfn : H f = none) (hfr : f ∉ frs X.stack)
    (tk : Takes ((cxOf CXg X.prog X.w X.K X.mg X.base Ng qg sg g cdg X.A X.stack s H Eg).tr pn xe) W) (hW : ∀ cls d σ' H', E cls d H' → W cls d σ' H') (hr : Room (k + 1) (X.A.deeper (envOfC qg sg s.heap.objs.size g cdg)))
    (hbind : ∀ (HZ : Hp) (sZ : Shared), HOk X.prog X.w HZ sZ.heap → (∀ D, dV = .ref D → ∃ n : Int, HZ D = some (.tup [.int n])) → ∃ bs : List (Str × Value), (∀ y ∈ bs, sc.names.lookup y.1 = some .local) ∧ BindsTo sZ (fdD (X.env.qual ++ "<lambda>") ar bo sc (cloFrom X.env.cells sc.names []) pm (.ref c') ct dV) ⟨[], []⟩ bs)
    (hbody : ∀ (A : Around) (outer : List Env) (s2 : Shared) (H2 : Hp) (Q : VK), Room k (A.deeper (lamEnv X sc s2.heap.objs.size f c')) → R H2 Q → WE (lamCx X A outer s2 H2 E sc f c') bo σ H2 Q)
    (hN : Ng[i]? = some a) (hv : Vis sg a) (hd : (a == ("__debug__" : Str)) = false := by decide) (hcd : (a == ("__classdict__" : Str)) = false := by decide) :
    PE ((cxOf CXg X.prog X.w X.K X.mg X.base Ng qg sg g cdg X.A X.stack s H Eg).tr pn xe) (.Call (.Name a p1) [] [] p2)
      (fun σZ HZ Q => σZ[i]? = some (some (.ref f)) ∧ HZ c' = some (CodeO c' (X.env.qual ++ "<lambda>")) ∧ (∀ D, dV = .ref D → ∃ n : Int, HZ D = some (.tup [.int n])) ∧ R HZ Q) := by
  refine ⟨fun pinsZ sZ σZ HZ Q IZ ⟨hs, hc, hD, ht⟩ => ?_⟩
  refine wpAny_Call_Name_kw (thn ((pe_var (pos := p1) (i := i) hN hv hd hcd).run pinsZ sZ σZ HZ (fun v H1 => v = .ref f ∧ H1 = HZ) IZ ⟨.ref f, hs, rfl, rfl⟩) fun u s1 ⟨v, H1, I1, r1, ev, eH⟩ => ?_)
  subst ev
  rw [eH] at I1
  obtain rfl : u = Value.ref f := r1
  have un : Un (frs X.stack) [] H HZ s.heap s1.heap := I1.base
  have of1 := un.keep f _ hf hfn hfr (fun z => nomatch (show f ∈ ([] : List Addr) from z))
  refine PySem.W.callWith_F0 ⟨_, _, _, _, of1⟩ ?_
  obtain ⟨⟨oc, us, t, hoc, hdc, hvc⟩, _, _⟩ := I1.hok c' _ hc
  obtain ⟨bs, hbl, hbt⟩ := hbind HZ s1 I1.hok hD
  have ran : codeAny (model X.prog X.w) (X.A.deeper (envOfC qg sg s.heap.objs.size g cdg)) (.call (.ref f) ⟨[], []⟩) (CR (L2.CX X.prog X.w) (envOfC qg sg s.heap.objs.size g cdg :: X.stack) X.prog X.w HZ s1 Q E) s1 := by
    refine PySem.W.kla_callFunE hr.depth of1 rfl L.co L.gen rfl ⟨c', oc, us, t, rfl, hoc, hdc, hvc⟩ (hbt _ _ _ _ ?_)
    refine wpAny_newFunctionEnv (fun y hy => L.nocell y hy) hbl (fun h1 ns sb => ⟨I1.nolimit.fresh _ sb, ?_⟩) L.kind
    show codeAny _ _ (.expr bo (lamEnv X sc s1.heap.objs.size f c')) _ _
    have kp : ∀ b o, s1.heap.get? b = some o → h1.get? b = some o := fun b o e => sb.extBut b o (Nat.ne_of_lt (Heap.lt_size e)) (Heap.get?_push_of_some _ e)
    have J : Inv (lamCx X (X.A.deeper (envOfC qg sg s.heap.objs.size g cdg)) (envOfC qg sg s.heap.objs.size g cdg :: X.stack) s1 HZ E sc f c') [] σ HZ { s1 with heap := h1, toks := s1.toks + bs.length } := lam_in I L I1.env0 hr.hd un ns kp
    refine PySem.W.kla_codeExpr (wpAny_mono ((hbody _ _ s1 HZ Q (hr.deeper _) ht).run [] _ J) (fun v s' hq => ?_) fun e s' hq => hq)
    obtain ⟨w', H', J', rv, q⟩ := hq
    exact ⟨w', H', J'.os, J'.bare, J'.base, J'.hok, rv, q⟩
  have hx : Passes (L2.CX X.prog X.w) ((cxOf CXg X.prog X.w X.K X.mg X.base Ng qg sg g cdg X.A X.stack s H Eg).tr pn xe) E := passes_call tk hW
  refine wpAny_call (codeAny_mono ran fun r s' hq => ?_)
  rcases r with e | fl
  · exact hx pinsZ σZ HZ s1 e s' I1 hq
  · cases fl with
    | ret u => exact I1.after hq
    | _ => exact False.elim hq
end
end RS
set_option Elab.async false
set_option linter.all false
set_option maxRecDepth 100000
set_option maxHeartbeats 4000000
/-! part T4: try, with clauses that each name the exception -/
namespace RS
open PySem PySem.Spec PyProof.Rows L2 RM LamX
abbrev Suit := Addr → Value → Option Addr → TS
/-- the slot i forgets the exception behind a suite -/
def lessI (i : Nat) (D : Ends) : Ends := { nx := fun a b => D.nx (a.set i none) b, rt := D.rt, bk := fun a b => D.bk (a.set i none) b, ct := fun a b => D.ct (a.set i none) b }
/-- what the clauses wish of an exception, one after the other -/
def wAll (K : PySem.W.Frag) (i : Nat) (out : WX) (D : Ends) : List (Value × Suit) → WX
  | [] => out
  | (c, ts) :: r => fun cls d σ H => ∃ b, PySem.W.exmOne K cls c = some b ∧ (b = true → ∀ a, H a = none → ts a cls d (lessI i D) (σ.set i (some (.ref a))) H) ∧ (b = false → wAll K i out D r cls d σ H)
inductive Clauses (X : Cx) (n : Str) : List ExceptHandler → List (Value × Suit) → Prop
  | nil : Clauses X n [] []
  | cons {x : Str} {c : Value} {ts : Suit} {b0 : Stmt} {su : List Stmt} {np p : Pos} {hs : List ExceptHandler} {l : List (Value × Suit)} (hc : Names X x c)
      (hsu : ∀ (a : Addr) (oe : Obj) (cls : Value) (d : Option Addr) (pn : List (Addr × Obj)), Zc cls d oe → (∃ us, oe.data = .fields us) → PSs (X.suite a ((a, oe) :: pn)) (b0 :: su) (ts a cls d)) (r : Clauses X n hs l) :
      Clauses X n (.ExceptHandler (some (.Name x np)) (some n) (b0 :: su) p :: hs) ((c, ts) :: l)
section
variable {X : Cx} {bd : List Stmt} {h0 : ExceptHandler} {hs : List ExceptHandler} {l : List (Value × Suit)} {pos : Pos} {tb : WX → TS} {out : WX} {n : Str} {i : Nat}
theorem ps_try_all (st : X.stack = X.env :: X.outer) (fr : X.env.frame = some X.env.locals) (nd : X.N.Nodup) (hi : X.N[i]? = some n) (hln : X.env.kindOf n = some .local) (tk : Takes X out)
    (hb : ∀ (W : WX) (pn : List (Addr × Obj)) (xe : Value → Shared → Prop), Takes (X.tr pn xe) W → PassesOwn (model X.prog X.w) X.A X.env xe → PSs (X.tr pn xe) bd (tb W)) (hh : Clauses X n (h0 :: hs) l) :
    PS X (.Try bd (h0 :: hs) [] [] pos) (fun D σ H => tb (wAll X.K i out D l) D σ H) := by
  refine ⟨fun pins s σ H D I h => ?_⟩
  have ok := I.ok
  have afr : X.A.frames = some (X.env :: X.outer) := by rw [ok.frames, st]
  have loc : Loc X.env.scope n := .inl hln
  refine wpAny_Try_except ?_
  refine wpAny_mono ((hb (wAll X.K i out D l) (X.pn ++ pins) (fun e z1 => wpAny (model X.prog X.w) X.A (noteFrame e X.env)
      (fun _ z2 => wpAny (model X.prog X.w) X.A (setFlight e none) (fun _ z3 => wpAny (model X.prog X.w) X.A (handleBy e X.env (h0 :: hs)) (SP X pins D) X.xe z3) X.xe z2) X.xe z1)
      (fun u s' xx => ?_) PassesOwn.looking).run [] s σ H D (I.toTry _) h) (fun f s1 sp => ?_) (fun e s1 he => he)
  · obtain ⟨a, B, sI, pins2, σ2, H2, cls, d, rfl, J2, nb, up, sky, na, os, ag, wish⟩ := xx
    have J : Inv X pins σ2 H2 sI := J2.ofTry ok
    have sk : Sky B (X.env :: X.outer) a (Zc cls d) X.env.locals s'.heap := by rw [← st]; exact sky
    show wpAny (model X.prog X.w) X.A (noteFrame (.ref a) X.env) _ _ _
    refine Sky.land Zc.steady afr fr sk fun g3 fl3 up3 => ?_
    have J3 : Inv X pins σ2 H2 { s' with heap := g3 } := J.landed nb fl3.1 (up.trans up3) os ag
    obtain ⟨o3, us3, he3, hz3, hd3⟩ := fl3.there
    have notF : a ∉ frs (X.env :: X.outer) := fun hm => by
      obtain ⟨_, o', e', hnf⟩ := fl3.2.2.1.mem hm
      rw [he3] at e'
      cases e'
      exact hnf _ hd3
    have nL : a ≠ X.env.locals := fun z => notF (List.mem_filterMap.mpr ⟨X.env, List.mem_cons_self, by rw [fr, z]⟩)
    have nF : a ∉ X.fs := fun hm => by
      obtain ⟨e, he, q⟩ := List.mem_filterMap.mp hm
      exact notF (List.mem_filterMap.mpr ⟨e, List.mem_cons_of_mem _ he, q⟩)
    have S3 := J3.suite he3 hd3 na nL nF
    have walk : ∀ {hs' : List ExceptHandler} {l' : List (Value × Suit)}, Clauses X n hs' l' → wAll X.K i out D l' cls d σ2 H2 → wpAny (model X.prog X.w) X.A (handleBy (.ref a) X.env hs') (SP X pins D) X.xe { s' with heap := g3 } := by
      intro hs' l' ck
      induction ck with
      | nil =>
        intro wsh
        refine wpAny_handleBy_nil ?_
        obtain ⟨_, _, _, oe, us, T, oT, ts', he, hz, hd, h1, _⟩ := id fl3
        unfold PySem.passOn
        refine wpAny_bind (wpAny_field he hd h1 ?_)
        rw [if_neg (show ¬ ((Value.ref T == Value.none) = true) by simp)]
        have fin : wpAny (model X.prog X.w) X.A (setFlight (.ref a) X.env.frame) (fun _ s4 => wpAny (model X.prog X.w) X.A (throw (.ref a) : Sem Flow) (SP X pins D) X.xe s4) X.xe { s' with heap := g3 } := by
          rw [fr]
          refine HandSPX.setFlight_upZ fl3 fun g4 fl4 up4 => wpAny_throw (tk _ _ ?_)
          exact ⟨a, B, sI, pins, σ2, H2, cls, d, rfl, J, nb, (up.trans up3).trans up4, .inr (.inr (by rw [st]; exact fl4)), na, os, ag, wsh⟩
        first
          | exact wpAny_bind (wpAny_pure (wpAny_bind fin))
          | exact wpAny_bind fin
      | @cons x c ts b0 su np p hs2 l2 hc hsu r ih =>
        intro wsh
        obtain ⟨b, hb1, yes, no⟩ := wsh
        refine wpAny_handleBy_cons (codeAny_handlers_test ?_) (by intro q; cases q)
        have LT : PySem.W.Looks (model X.prog X.w) g3 (typeOf (.ref a)) cls := fun A Q E s k q => wpAny_typeOf_ref (k _ _ he3) (by rw [hz3.1]; exact q)
        have LM := PySem.W.exm_one (M := model X.prog X.w) (J3.kIn) LT hb1
        have looked : ∀ {Q E : Value → Shared → Prop}, Q c { s' with heap := g3 } → wpAny (model X.prog X.w) (X.A.mark (some (.ref a))) (eval (.Name x np) X.env) Q E { s' with heap := g3 } := fun {Q E} q => by
          obtain ⟨hg, hdb, hm | ⟨hm, hv, hnn⟩⟩ := hc
          · exact ld_glob (X := X.suite a ((a, o3) :: (X.pn ++ pins))) S3 hg hm q hdb
          · exact ld_blt (X := X.suite a ((a, o3) :: (X.pn ++ pins))) S3 hg hm hv q hnn hdb
        refine looked (LM.here ?_)
        cases b with
        | false =>
          show wpAny _ X.A (handleBy (.ref a) X.env hs2) _ _ _
          exact ih (no rfl)
        | true =>
          refine codeAny_handlers_suite_as ?_
          refine HandSPX.lands_againZ fl3 fun g4 fl4 up4 => ?_
          have J4 : Inv X pins σ2 H2 { s' with heap := g4 } := J.landed nb fl4.1 ((up.trans up3).trans up4) os ag
          obtain ⟨o4, us4, he4, hz4, hd4⟩ := fl4.there
          refine store_ok (X := X.suite a ((a, o4) :: (X.pn ++ pins))) (v := .ref a) (J4.suite he4 hd4 na nL nF) nd hi loc rfl (fun s5 S5 => ?_) (.inr hln)
          refine wpAny_mono ((hsu a o4 cls d (X.pn ++ pins) hz4 ⟨_, hd4⟩).run [] s5 _ H2 _ S5 (yes rfl a na)) (fun f s6 sp => ?_) (fun _ _ z => False.elim z)
          have wiped : ∀ {σ6 : L2.St} {H6 : Hp} {Q : Shared → Prop}, Inv (X.suite a ((a, o4) :: (X.pn ++ pins))) [] σ6 H6 s6 → (∀ s7, Inv X pins (σ6.set i none) H6 s7 → Q s7) →
              wpAny (model X.prog X.w) X.A (do bindName X.env n .none; unbindBehindTheSuite X.env n p) (fun _ s7 => Q s7) X.xe s6 := fun {σ6 H6 Q} S6 hq => gone_ok (S6.unsuite ok) nd hi hln hq
          cases f with
          | ret u =>
            obtain ⟨v6, σ6, H6, S6, r6, q6⟩ := sp
            exact wiped S6 fun s7 J7 => ⟨_, _, _, J7, r6, q6⟩
          | next =>
            obtain ⟨σ6, H6, S6, q6⟩ := sp
            exact wiped S6 fun s7 J7 => ⟨_, _, J7, q6⟩
          | brk =>
            obtain ⟨σ6, H6, S6, q6⟩ := sp
            exact wiped S6 fun s7 J7 => ⟨_, _, J7, q6⟩
          | cont =>
            obtain ⟨σ6, H6, S6, q6⟩ := sp
            exact wiped S6 fun s7 J7 => ⟨_, _, J7, q6⟩
    exact walk hh wish
  · cases f with
    | ret u =>
      obtain ⟨v, σ2, H2, J2, r, q⟩ := sp
      exact ⟨v, σ2, H2, J2.ofTry ok, r, q⟩
    | next =>
      obtain ⟨σ2, H2, J2, q⟩ := sp
      exact wpAny_execs_nil ⟨σ2, H2, J2.ofTry ok, q⟩
    | brk =>
      obtain ⟨σ2, H2, J2, q⟩ := sp
      exact ⟨σ2, H2, J2.ofTry ok, q⟩
    | cont =>
      obtain ⟨σ2, H2, J2, q⟩ := sp
      exact ⟨σ2, H2, J2.ofTry ok, q⟩
end
end RS
set_option Elab.async false
set_option linter.all false
set_option maxRecDepth 100000
set_option maxHeartbeats 4000000
/-! part T5: what is said of a call that raises -/
namespace RS
open PySem PySem.Spec PyProof.Rows L2 RM LamX
abbrev sSaid : Stmt := topS 78
abbrev nSaid : List Str := ["_law_call", "_law_found_so", "e"]
theorem scSaid : FnScope nSaid ["_law_call"] (defScope sSaid) := ⟨rfl, rfl, rfl, by decide +kernel, rfl, by decide +kernel, by decide +kernel⟩
theorem wAll_pick {K : PySem.W.Frag} {i : Nat} {out : WX} {D : Ends} {cls : Value} {d : Option Addr} {σ : L2.St} {H : Hp} : ∀ {l : List (Value × Suit)} (k : Nat) {c : Value} {ts : Suit}, (∀ j p, j < k → l[j]? = some p → PySem.W.exmOne K cls p.1 = some false) → l[k]? = some (c, ts) → PySem.W.exmOne K cls c = some true →
    (∀ a, H a = none → ts a cls d (lessI i D) (σ.set i (some (.ref a))) H) → wAll K i out D l cls d σ H
  | [], k, _, _, _, e, _, _ => by simp at e
  | p :: l, 0, c, ts, _, e, hx, h => by
    simp at e
    subst e
    exact ⟨true, hx, (fun _ => h), fun z => Bool.noConfusion z⟩
  | p :: l, k + 1, c, ts, pre, e, hx, h => ⟨false, pre 0 p (Nat.succ_pos k) rfl, (fun z => Bool.noConfusion z), fun _ => wAll_pick (l := l) k (fun j q hj hq => pre (j + 1) q (by omega) (by simpa using hq)) (by simpa using e) hx h⟩
/-- a clause's suite: the pair of the word and the field -/
def tCl (w : Str) (C : Addr) (f : Str) : Suit := fun a cls d D σ H => σ.length = 3 → ∃ dd v, cls = .ref C ∧ d = some dd ∧ H dd = some (.xd [(f, v)]) ∧ σ[2]? = some (some (.ref a)) ∧ ∀ T, H T = none → D.nx (σ.set 1 (some (.ref T))) (upd H T (.tup [.str w, v]))
section
variable {X : Cx} {a C : Addr} {oe : Obj} {cls : Value} {d : Option Addr} {pn : List (Addr × Obj)} {w f : Str} {j : Nat} {p1 p2 p3 p4 p5 p6 : Pos} {k : Nat}
theorem clause_ok (T : XfC X.K C) (no : PySem.W.findIn X.K (.ref C) f = some none) (hN : X.N = nSaid) (hsc : X.env.scope = defScope sSaid) (hfn : ∀ z, X.fn z = true) (hz : Zc cls d oe) (hf : ∃ us, oe.data = .fields us) (hb : attributeBase (.Name "e" p3) f X.env (eval (.Name "e" p3) X.env) = eval (.Name "e" p3) X.env) :
    PSs (X.suite a ((a, oe) :: pn)) [.Assign [.Name "_law_found_so" p1] (.Tuple [.Constant (.str w) j p2, .Attribute (.Name "e" p3) f p4] k p5) p6] (tCl w C f a cls d) := by
  have hv1 : Loc X.env.scope "_law_found_so" := by rw [hsc]; exact .inl rfl
  have hv2 : Vis X.env.scope "e" := by rw [hsc]; exact .inl rfl
  have nd : X.N.Nodup := by rw [hN]; exact scSaid.nd
  have h1 : X.N[1]? = some ("_law_found_so" : Str) := by rw [hN]; rfl
  have h2 : X.N[2]? = some ("e" : Str) := by rw [hN]; rfl
  refine ⟨fun pins s σ H D I hq => ?_⟩
  obtain ⟨dd, v, ec, ed, hd, hs, q⟩ := hq (by rw [I.len]; show X.N.length = 3; rw [hN]; rfl)
  refine (pss_one (ps_set (X := X.suite a ((a, oe) :: pn)) nd h1 hv1 (pe_tup (pa_cons pe_str (pa_cons (pe_xf T no hz hf (pe_var (i := 2) h2 hv2) hb) pa_nil))) rfl (.inl (hfn _)))).run pins s σ H D I ?_
  exact ⟨_, hs, rfl, ec, dd, _, v, ed, hd, by simp, by show 2 ≤ sizeLine; decide, fun T hT => q T hT⟩
end
def wordOf : Nat → Str
  | 0 => "rates"
  | 1 => "rung"
  | 2 => "number"
  | 3 => "ladder"
  | 4 => "fraction"
  | _ => "paper"
def fldOf : Nat → Str
  | 5 => "part"
  | _ => "given"
/-- the program's six errors -/
structure Six (P : Program) (w : World) (K : PySem.W.Frag) (mg : Str → Option Value) (base : Heap) (S : Nat → Addr) : Prop where
  e0 : Er P w K mg base "BadRates" (S 0) "given"
  e1 : Er P w K mg base "BadRung" (S 1) "given"
  e2 : Er P w K mg base "BadNumber" (S 2) "given"
  e3 : Er P w K mg base "BadLadder" (S 3) "given"
  e4 : Er P w K mg base "BadFraction" (S 4) "given"
  e5 : Er P w K mg base "BadPaper" (S 5) "part"
  ex : ∀ i j, i < 6 → j < 6 → PySem.W.exmOne K (.ref (S i)) (.ref (S j)) = some (decide (i = j))
abbrev clL (S : Nat → Addr) : List (Value × Suit) := [(.ref (S 0), tCl "rates" (S 0) "given"), (.ref (S 1), tCl "rung" (S 1) "given"), (.ref (S 2), tCl "number" (S 2) "given"), (.ref (S 3), tCl "ladder" (S 3) "given"), (.ref (S 4), tCl "fraction" (S 4) "given"), (.ref (S 5), tCl "paper" (S 5) "part")]
theorem clL_at (S : Nat → Addr) : ∀ {i : Nat}, i < 6 → (clL S)[i]? = some (.ref (S i), tCl (wordOf i) (S i) (fldOf i))
  | 0, _ => rfl
  | 1, _ => rfl
  | 2, _ => rfl
  | 3, _ => rfl
  | 4, _ => rfl
  | 5, _ => rfl
  | n + 6, h => by omega
/-- an error of the class S i, with the data d in its field -/
def EX (K : PySem.W.Frag) (S : Nat → Addr) (i : Nat) (d : PyData) (H0 : Hp) : XK := fun cls dd H' => ∃ da v, cls = .ref (S i) ∧ dd = some da ∧ Ex H0 H' ∧ H' da = some (.xd [(fldOf i, v)]) ∧ Dp K H' v d
section
variable {X : Cx} {pins : List (Addr × Obj)} {σ : L2.St} {H : Hp} {s : Shared} {S : Nat → Addr} {i k : Nat} {d : PyData}
abbrev zCx (X : Cx) (g : Addr) (cdg : Value) (s : Shared) (H : Hp) : Cx := cxOf (L2.CX X.prog X.w) X.prog X.w X.K X.mg X.base nSaid "_law_said" (defScope sSaid) g cdg X.A X.stack s H E0
theorem said_wb {g f c' : Addr} {cdg pm ct dV : Value} {ar : Arguments} {bo : Expr} {sc : Scope} {Q : VK} (I : Inv X pins σ H s) (L : LamP X.N X.env.scope sc) (hf : s.heap.get? f = some (obD (X.env.qual ++ "<lambda>") ar bo sc (cloFrom X.env.cells sc.names []) pm (.ref c') ct dV)) (hfn : H f = none) (hfr : f ∉ frs X.stack)
    (hr : Room (k + 1) (X.A.deeper (envOfC "_law_said" (defScope sSaid) s.heap.objs.size g cdg))) (six : Six X.prog X.w X.K X.mg X.base S) (hi : i < 6) (hco : H c' = some (CodeO c' (X.env.qual ++ "<lambda>"))) (hD : ∀ D, dV = .ref D → ∃ n : Int, H D = some (.tup [.int n]))
    (hbind : ∀ (HZ : Hp) (sZ : Shared), HOk X.prog X.w HZ sZ.heap → (∀ D, dV = .ref D → ∃ n : Int, HZ D = some (.tup [.int n])) → ∃ bs : List (Str × Value), (∀ y ∈ bs, sc.names.lookup y.1 = some .local) ∧ BindsTo sZ (fdD (X.env.qual ++ "<lambda>") ar bo sc (cloFrom X.env.cells sc.names []) pm (.ref c') ct dV) ⟨[], []⟩ bs)
    (run : ∀ (A : Around) (outer : List Env) (s2 : Shared) (H2 : Hp) (Q : VK), Ex H H2 → Room k (A.deeper (lamEnv X sc s2.heap.objs.size f c')) → WE (lamCx X A outer s2 H2 (EX X.K S i d H2) sc f c') bo σ H2 Q)
    (q : ∀ T H', Ex H H' → Dp X.K H' (.ref T) (.tuple [.str (wordOf i), d]) → Q (.ref T) H') : WB (zCx X g cdg s H) (defBody sSaid) { nx := fun _ H' => Q .non H', rt := Q } (L2.start nSaid [.ref f]) H := by
  refine wb_of (pss_cons (ps_set (X := zCx X g cdg s H) scSaid.nd (i := 1) rfl (.inl rfl) (pe_lst pa_nil) rfl) (pss_cons (ps_try_all (X := zCx X g cdg s H) (i := 2) (n := "e") (out := fun _ _ _ _ => False) (l := clL S)
    (tb := fun W D σZ HZ => ∃ Ech : XK, (∀ cls d σ' H', Ech cls d H' → W cls d σ' H') ∧ σZ[0]? = some (some (.ref f)) ∧ HZ c' = some (CodeO c' (X.env.qual ++ "<lambda>")) ∧ (∀ D, dV = .ref D → ∃ n : Int, HZ D = some (.tup [.int n])) ∧ ∀ (A : Around) (outer : List Env) (s2 : Shared) (Q : VK), Room k (A.deeper (lamEnv X sc s2.heap.objs.size f c')) → WE (lamCx X A outer s2 HZ Ech sc f c') bo σ HZ Q)
    rfl rfl scSaid.nd rfl rfl L2.takes0 (fun W pn xe tk _ => ?_) ?_) pb_w)) ?_
  · refine ⟨fun pinsZ sZ σZ HZ D IZ h => ?_⟩
    obtain ⟨Ech, hW, h1, h2, h3, h4⟩ := h
    have hp := fun p1 p2 => act (X := X) (CXg := L2.CX X.prog X.w) (Eg := E0) (Ng := nSaid) (qg := "_law_said") (sg := defScope sSaid) (g := g) (cdg := cdg) (k := k) (i := 0) (a := "_law_call") (pn := pn) (xe := xe) (W := W) (E := Ech) (p1 := p1) (p2 := p2)
      (R := fun H2 _ => ∀ (A : Around) (outer : List Env) (s2 : Shared) (Q : VK), Room k (A.deeper (lamEnv X sc s2.heap.objs.size f c')) → WE (lamCx X A outer s2 H2 Ech sc f c') bo σ H2 Q) I L hf hfn hfr tk hW hr hbind (fun A outer s2 H2 Q hr2 r => r A outer s2 Q hr2) rfl (.inl rfl)
    exact (pss_one (ps_set (X := (zCx X g cdg s H).tr pn xe) scSaid.nd (i := 1) rfl (.inl rfl) (pe_lst (pa_cons (hp _ _) pa_nil)) rfl)).run pinsZ sZ σZ HZ D IZ ⟨h1, h2, h3, h4⟩
  · exact .cons ⟨rfl, by decide, .inl six.e0.gC⟩ (fun a oe cls d pn hz hf => clause_ok six.e0.xf six.e0.no rfl rfl (fun _ => rfl) hz hf rfl) (.cons ⟨rfl, by decide, .inl six.e1.gC⟩ (fun a oe cls d pn hz hf => clause_ok six.e1.xf six.e1.no rfl rfl (fun _ => rfl) hz hf rfl)
      (.cons ⟨rfl, by decide, .inl six.e2.gC⟩ (fun a oe cls d pn hz hf => clause_ok six.e2.xf six.e2.no rfl rfl (fun _ => rfl) hz hf rfl) (.cons ⟨rfl, by decide, .inl six.e3.gC⟩ (fun a oe cls d pn hz hf => clause_ok six.e3.xf six.e3.no rfl rfl (fun _ => rfl) hz hf rfl)
      (.cons ⟨rfl, by decide, .inl six.e4.gC⟩ (fun a oe cls d pn hz hf => clause_ok six.e4.xf six.e4.no rfl rfl (fun _ => rfl) hz hf rfl) (.cons ⟨rfl, by decide, .inl six.e5.gC⟩ (fun a oe cls d pn hz hf => clause_ok six.e5.xf six.e5.no rfl rfl (fun _ => rfl) hz hf rfl) .nil)))))
  · refine ⟨by show 0 ≤ sizeLine; decide, fun p hp => ?_⟩
    have ex1 : Ex H (upd H p (.lst [])) := Evl.Ex.new hp
    generalize upd H p (.lst []) = H1 at ex1
    refine ⟨EX X.K S i d H1, fun cls dd σ' H' hE => ?_, rfl, ex1 _ _ hco, fun D e => ?_, fun A outer s2 Q hr2 => run A outer s2 H1 Q ex1 hr2⟩
    · obtain ⟨da, v, rfl, rfl, ex2, hda, hv⟩ := hE
      refine wAll_pick i (fun j p hj hp => ?_) (clL_at S hi) (by show PySem.W.exmOne X.K (.ref (S i)) (.ref (S i)) = _; rw [six.ex i i hi hi, decide_eq_true rfl]) (fun a ha hlen => ?_)
      · rw [clL_at S (show j < 6 by omega)] at hp
        cases hp
        show PySem.W.exmOne X.K (.ref (S i)) (.ref (S j)) = _
        rw [six.ex i j hi (by omega), decide_eq_false (by omega)]
      · have h3 : σ'.length = 3 := by simpa using hlen
        refine ⟨da, v, rfl, rfl, hda, by rw [List.getElem?_set_self (by omega)], fun T hT => ?_⟩
        have ex3 : Ex H' (upd H' T (.tup [.str (wordOf i), v])) := Evl.Ex.new hT
        refine wb_of (pss_one (ps_ret (X := zCx X g cdg s H) (pe_var (i := 1) rfl (.inl rfl)))) ⟨.ref T, ?_, ?_⟩
        · rw [List.getElem?_set_ne (by decide), List.getElem?_set_self (by simp; omega)]
        · exact q T _ ((ex1.trans ex2).trans ex3) (.tup (SqT.of upd_same) (.cons (.str _) (.cons (hv.up ex3) .nil)))
    · obtain ⟨n, hn⟩ := hD D e
      exact ⟨n, ex1 _ _ hn⟩
end
end RS
set_option Elab.async false
set_option linter.all false
set_option maxRecDepth 100000
set_option maxHeartbeats 4000000
/-! part T6: _law_said(lambda ..) as an expression; data while tables grow -/
namespace RS
open PySem PySem.Spec PyProof.Rows L2 RM LamX
section
variable {K : PySem.W.Frag} {H H' : Hp} {σ : L2.St}
theorem ext_t {a : Addr} {xs : List V} (e : ExtN H H') (h : SqT K H a xs) : SqT K H' a xs := by
  rcases h with (h | ⟨o, h⟩) | h
  · exact .inl (.inl (e _ _ h (fun _ z => by cases z)))
  · exact .inl (.inr ⟨o, e _ _ h (fun _ z => by cases z)⟩)
  · exact .inr h
theorem ext_l {a : Addr} {xs : List V} (e : ExtN H H') (h : SqL K H a xs) : SqL K H' a xs := by
  rcases h with (h | ⟨o, h⟩) | h
  · exact .inl (.inl (e _ _ h (fun _ z => by cases z)))
  · exact .inl (.inr ⟨o, e _ _ h (fun _ z => by cases z)⟩)
  · exact .inr h
mutual
theorem dp_ext (e : ExtN H H') : ∀ (d : PyData) (v : V), Dp K H v d → Dp K H' v d
  | .none, _, h => by cases h; exact .non
  | .bool b, _, h => by cases h; exact .bl b
  | .int i, _, h => by cases h; exact .int i
  | .str x, _, h => by cases h; exact .str x
  | .list ds, _, h => by
    cases h with
    | lst hs ha => exact .lst (ext_l e hs) (dpa_ext e ds _ ha)
  | .tuple ds, _, h => by
    cases h with
    | tup hs ha => exact .tup (ext_t e hs) (dpa_ext e ds _ ha)
  | .dict _, _, h => by cases h
theorem dpa_ext (e : ExtN H H') : ∀ (ds : List PyData) (vs : List V), DpAll K H vs ds → DpAll K H' vs ds
  | [], _, h => by cases h; exact .nil
  | d :: ds, _, h => by
    cases h with
    | cons h1 h2 => exact .cons (dp_ext e d _ h1) (dpa_ext e ds _ h2)
end
/-- slots that hold data, no more -/
def Im : DSl → Prop
  | [] => True
  | none :: t => Im t
  | some (.im _) :: t => Im t
  | some (.ow _) :: _ => False
  | some (.rf _) :: _ => False
theorem Im.get : ∀ {δ : DSl} {i : Nat} {z : Sd}, Im δ → δ[i]? = some (some z) → ∃ d, z = .im d
  | [], _, _, _, e => by simp at e
  | none :: t, 0, z, h, e => by simp at e
  | some (.im d) :: t, 0, z, h, e => ⟨d, by simp at e; exact e.symm⟩
  | some (.ow _) :: t, _, z, h, e => h.elim
  | some (.rf _) :: t, _, z, h, e => h.elim
  | none :: t, i + 1, z, h, e => Im.get (δ := t) (i := i) h (by simpa using e)
  | some (.im _) :: t, i + 1, z, h, e => Im.get (δ := t) (i := i) h (by simpa using e)
/-- the slots' data, of this very heap -/
abbrev Sw (K : PySem.W.Frag) (H : Hp) (σ : L2.St) (δ : DSl) : Prop := Sl K H H σ δ
theorem sw_ext {δ : DSl} (S : Sw K H σ δ) (im : Im δ) (e : ExtN H H') : Sw K H' σ δ := by
  refine ⟨.rfl, S.len, fun i z h => ?_, fun i j v ds ds' _ h1 _ _ => ?_⟩
  · obtain ⟨d, rfl⟩ := im.get h
    obtain ⟨v, h1, h2⟩ := S.getIm h
    exact ⟨v, h1, .inl (dp_ext e d v h2)⟩
  · obtain ⟨d, z⟩ := im.get h1
    cases z
end
/-- how the lambda's parameters are bound, when it is called without arguments -/
inductive LBind (X : Cx) (ar : Arguments) (bo : Expr) (sc : Scope) : Prop
  | bare (hd : defaultsOf ar X.env = ([], [])) (hb : ∀ (q : Str) (cl : List (Str × Addr)) (pm cv ct : Value), bindArgs (fdD q ar bo sc cl pm cv ct .none) ⟨[], []⟩ = pure [])
  | one {n : Int} {j : Nat} {pc : Pos} {y : Str} (hd : defaultsOf ar X.env = ([eval (.Constant (.int n) j pc) X.env], [])) (hy : sc.names.lookup y = some .local)
      (hb : ∀ (q : Str) (cl : List (Str × Addr)) (pm cv ct : Value) (D : Addr), ∃ kk, bindArgs (fdD q ar bo sc cl pm cv ct (.ref D)) ⟨[], []⟩ = seqItems? (.ref D) >>= kk ∧ ∀ u, kk (some #[u]) = pure [(y, u)])
section
variable {X : Cx} {σ : L2.St} {H : Hp} {S : Nat → Addr} {i k j : Nat} {d : PyData} {ar : Arguments} {bo : Expr} {sc : Scope} {lp p pos : Pos} {Q : VK}
theorem we_said {c P : Addr} {T : List (Addr × Str)} (hs : Hd X.K X.mg "_law_said" sSaid ["_law_call"]) (six : Six X.prog X.w X.K X.mg X.base S) (hi : i < 6) (TB : TabB X.base X.mg c P) (hcode : X.env.code = .ref c) (hm : (P, X.env.qual ++ "<lambda>") ∈ T) (hu : ∀ p ∈ T, p.1 = P → p.2 = X.env.qual ++ "<lambda>")
    (hr : Room j X.A) (hk : k + 2 ≤ j) (hg : Gl X "_law_said") (L : LamP X.N X.env.scope sc) (lb : LBind X ar bo sc) (hT : Tabs T H)
    (run : ∀ (H1 : Hp), ExtN H H1 → ∀ (A : Around) (outer : List Env) (s2 : Shared) (f c' : Addr) (Q : VK), Room k (A.deeper (lamEnv X sc s2.heap.objs.size f c')) → WE (lamCx X A outer s2 H1 (EX X.K S i d H1) sc f c') bo σ H1 Q)
    (q : ∀ v H', ExtN H H' → Tabs T H' → Dp X.K H' v (.tuple [.str (wordOf i), d]) → Q v H') (hst : starEach [.Lambda ar bo sc lp] X.env = (false, eval (.Lambda ar bo sc lp) X.env) :: starEach [] X.env := by rfl) : WE X (.Call (.Name "_law_said" p) [.Lambda ar bo sc lp] [] pos) σ H Q := by
  refine ⟨fun pins s I => ?_⟩
  obtain ⟨g, fd, F, hmg, hb⟩ := hs.ex
  have kp := F.kp
  obtain ⟨oc, od, kV, doc, pm0, an, cdv, ct0, osl, e, lk, hcd⟩ := F.ex
  subst e
  refine wpAny_Call_Name_kw (ld_glob I hg hmg ?_ (by decide))
  refine PySem.W.callWith_K (h₀ := X.base) I.ok.mod.kin kp ?_ hst (by rfl)
  rw [hst]
  show wpAny _ _ (spliced ((false, eval (.Lambda ar bo sc lp) X.env) :: backTo pos (starEach [] X.env))) _ _ s
  have fin : ∀ {dV : Value} {f c' : Addr} {pm ct : Value} {H1 : Hp} {s' : Shared}, Inv X pins σ H1 s' → ExtN H H1 → Tabs T H1 → s'.heap.get? f = some (obD (X.env.qual ++ "<lambda>") ar bo sc (cloFrom X.env.cells sc.names []) pm (.ref c') ct dV) → H1 f = none → f ∉ frs X.stack → H1 c' = some (CodeO c' (X.env.qual ++ "<lambda>")) →
      (∀ D, dV = .ref D → ∃ n : Int, H1 D = some (.tup [.int n])) →
      (∀ (HZ : Hp) (sZ : Shared), HOk X.prog X.w HZ sZ.heap → (∀ D, dV = .ref D → ∃ n : Int, HZ D = some (.tup [.int n])) → ∃ bs : List (Str × Value), (∀ y ∈ bs, sc.names.lookup y.1 = some .local) ∧ BindsTo sZ (fdD (X.env.qual ++ "<lambda>") ar bo sc (cloFrom X.env.cells sc.names []) pm (.ref c') ct dV) ⟨[], []⟩ bs) →
      wpAny (model X.prog X.w) X.A (call (.ref g) [.ref f]) (EP X pins σ Q) X.xe s' := fun {dV f c' pm ct H1 s'} I1 eN T1 hf hfn hfr hco hD hbind => by
    have hb2 := hb s' [.ref f] I1.kIn rfl
    have rc : codeAny (model X.prog X.w) X.A (.call (.ref g) ⟨[.ref f], []⟩) (CR (L2.CX X.prog X.w) X.stack X.prog X.w H1 s' Q E0) s' := by
      refine LamX.run_ofS (N := nSaid) (ps := ["_law_call"]) (us := [.ref f]) (vs := [.ref f]) lk hcd scSaid (hr.mono hk) I1.env0 (by simpa using hb2) (.cons rfl .nil) rfl fun hr' => ⟨_, pb_w, ?_⟩
      refine said_wb (k := k) (d := d) I1 L hf hfn hfr hr' six hi hco hD hbind (fun A outer s2 H2 Q ex hr2 => run H2 (eN.trans (.of ex)) A outer s2 f c' Q hr2) fun T' H' ex hd => q _ H' (eN.trans (.of ex)) (T1.ext ex) hd
    refine wpAny_call (codeAny_mono rc fun r s2 hq => ?_)
    rcases r with e | fl
    · exact passL pins σ H1 s' e s2 I1 hq
    · cases fl with
      | ret u => exact I1.after hq
      | _ => exact False.elim hq
  rcases lb with ⟨hd, hbb⟩ | @⟨n0, j0, pc0, y0, hd, hy, hbb⟩
  · refine Calls.spliced_cons (lam_eval0 I TB hcode hm hu hT (L.has I.ok) hd fun f c' pm ct H1 s' I1 eN T1 hf hfn hfr hco => Calls.spliced_nil ⟨I1.kIn, ?_⟩)
    exact fin I1 eN T1 hf hfn hfr hco (fun D z => by cases z) fun HZ sZ _ _ => ⟨[], (fun y hy => absurd hy (by simp)), BindsTo.of_eq (hbb _ _ _ _ _)⟩
  · refine Calls.spliced_cons (lam_eval1 I TB hcode hm hu hT (L.has I.ok) hd fun D s1 nD _ => fun f c' pm ct H1 s' I1 eN T1 hf hfn hfr hco => Calls.spliced_nil ⟨I1.kIn, ?_⟩)
    have new : ∀ n : Int, ExtN H (upd H D (.tup [.int n])) := fun n => .of fun b o e => by rw [upd_ne (ne_of_none e nD)]; exact e
    refine fin I1 ((new _).trans eN) T1 hf hfn hfr hco (fun D' z => by cases z; exact ⟨_, eN _ _ upd_same (fun _ z => by cases z)⟩) fun HZ sZ hok hZ => ?_
    obtain ⟨n', hn'⟩ := hZ D rfl
    obtain ⟨hz, its, rv, o, ho, _, m, hseq⟩ := hok D _ hn'
    obtain ⟨u, rfl, ru⟩ := vals1 rv
    obtain ⟨kk, e1, e2⟩ := hbb (X.env.qual ++ "<lambda>") (cloFrom X.env.cells sc.names []) pm (.ref c') ct D
    refine ⟨[(y0, u)], (fun y' hy' => ?_), fun M A Q E q => ?_⟩
    · rw [List.mem_singleton.mp hy']
      exact hy
    · rw [e1]
      refine wpAny_bind (wpAny_seqItems ho hseq ?_)
      rw [show [u].toArray = #[u] from rfl, e2]
      exact wpAny_pure q
end
end RS
set_option Elab.async false
set_option linter.all false
set_option maxRecDepth 100000
set_option maxHeartbeats 4000000
/-! part W1: data while code tables grow: rules -/
namespace RS
open PySem PySem.Spec PyProof.Rows L2 RM LamX
inductive Wd where
  | im (d : PyData)
  /-- a plain list -/
  | pl (ds : List PyData)
  /-- the law's state -/
  | st (S c l : Addr) (N : Nat)
abbrev WSl := List (Option Wd)
def WdOk (K : PySem.W.Frag) (H : Hp) (v : V) : Wd → Prop
  | .im d => Dp K H v d
  | .pl ds => ∃ p vs, v = .ref p ∧ H p = some (.lst vs) ∧ DpAll K H vs ds
  | .st S c l N => v = .ref S ∧ StA H S c l N
structure Ws (K : PySem.W.Frag) (H : Hp) (σ : L2.St) (δ : WSl) : Prop where
  len : σ.length = δ.length
  at_ : ∀ (i : Nat) (z : Wd), δ[i]? = some (some z) → ∃ v, σ[i]? = some (some v) ∧ WdOk K H v z
def Wd.sd : Wd → Sd
  | .im d => .im d
  | .pl ds => .im (.list ds)
  | .st S _ _ _ => .rf S
theorem StA.extN {H H' : Hp} {S c l : Addr} {N : Nat} (h : StA H S c l N) (e : ExtN H H') : StA H' S c l N := by
  obtain ⟨ms, ns, a, r, h1, h2, h3, h4⟩ := h
  exact ⟨ms, ns, a, r, e _ _ h1 (fun _ z => by cases z), e _ _ h2 (fun _ z => by cases z), e _ _ h3 (fun _ z => by cases z), h4⟩
/-- as the slots of part A -/
def toD (δ : WSl) : DSl := δ.map fun o => o.map Wd.sd
section
variable {K : PySem.W.Frag} {H H' : Hp} {σ : L2.St} {δ : WSl}
theorem WdOk.ext {v : V} {z : Wd} (h : WdOk K H v z) (e : ExtN H H') : WdOk K H' v z := by
  cases z with
  | im d => exact dp_ext e d v h
  | pl ds =>
    obtain ⟨p, vs, h1, h2, h3⟩ := h
    exact ⟨p, vs, h1, e _ _ h2 (fun _ z => by cases z), dpa_ext e ds vs h3⟩
  | st S c l N => exact ⟨h.1, h.2.extN e⟩
theorem Ws.ext (S : Ws K H σ δ) (e : ExtN H H') : Ws K H' σ δ := ⟨S.len, fun i z h => let ⟨v, h1, h2⟩ := S.at_ i z h; ⟨v, h1, h2.ext e⟩⟩
theorem Ws.sl (S : Ws K H σ δ) : Sl K H H σ (toD δ) := by
  have key : ∀ {i : Nat} {s : Sd}, (toD δ)[i]? = some (some s) → ∃ z, δ[i]? = some (some z) ∧ s = z.sd := fun {i s} h => by
    unfold toD at h
    rw [List.getElem?_map] at h
    cases hz : δ[i]? with
    | none => rw [hz] at h; cases h
    | some o =>
      rw [hz] at h
      cases o with
      | none => cases h
      | some z => cases h; exact ⟨z, rfl, rfl⟩
  refine ⟨.rfl, by rw [S.len]; simp [toD], fun i s h => ?_, fun i j v ds ds' _ h1 _ _ => ?_⟩
  · obtain ⟨z, hz, rfl⟩ := key h
    obtain ⟨v, h1, h2⟩ := S.at_ i z hz
    refine ⟨v, h1, ?_⟩
    cases z with
    | im d => exact .inl h2
    | pl ds =>
      obtain ⟨p, vs, rfl, h3, h4⟩ := h2
      exact .inl (.lst (SqL.of h3) h4)
    | st S c l N => exact h2.1
  · obtain ⟨z, _, e⟩ := key h1
    cases z <;> cases e
theorem Ws.set (S : Ws K H σ δ) {i : Nat} {v : V} {z : Wd} (h : WdOk K H v z) : Ws K H (σ.set i (some v)) (δ.set i (some z)) := by
  refine ⟨by simp [S.len], fun j s e => ?_⟩
  by_cases hj : j = i
  · subst hj
    have hlt : j < δ.length := by
      have := (List.getElem?_eq_some_iff.mp e).1
      simpa using this
    rw [List.getElem?_set_self hlt] at e
    cases e
    exact ⟨v, by rw [List.getElem?_set_self (by rw [S.len]; exact hlt)], h⟩
  · rw [List.getElem?_set_ne (Ne.symm hj)] at e
    obtain ⟨u, h1, h2⟩ := S.at_ j s e
    exact ⟨u, by rw [List.getElem?_set_ne (Ne.symm hj)]; exact h1, h2⟩
end
section
variable (X : Cx) (T : List (Addr × Str)) (δ : WSl)
def WDE (e : Expr) (d : PyData) : Prop := ∀ σ H, Tabs T H → Ws X.K H σ δ → ∀ Q : VK, (∀ v H', ExtN H H' → Tabs T H' → Dp X.K H' v d → Q v H') → WE X e σ H Q
def WDO (e : Expr) (ds : List PyData) : Prop := ∀ σ H, Tabs T H → Ws X.K H σ δ → ∀ Q : VK, (∀ p H' vs, ExtN H H' → Tabs T H' → H' p = some (.lst vs) → DpAll X.K H' vs ds → Q (.ref p) H') → WE X e σ H Q
def WDA (es : List Expr) (ds : List PyData) : Prop := ∀ σ H, Tabs T H → Ws X.K H σ δ → ∀ Q : List V → Hp → Prop, (∀ vs H', ExtN H H' → Tabs T H' → DpAll X.K H' vs ds → Q vs H') → WA X es σ H Q
def WDT (e : Expr) (b : Bool) : Prop := ∀ σ H, Tabs T H → Ws X.K H σ δ → ∀ Q : Bool → Hp → Prop, (∀ H', ExtN H H' → Tabs T H' → Q b H') → WT X e σ H Q
def WDB (ss : List Stmt) (nx : WSl → Prop) (rs : PyData → Prop) : Prop := ∀ σ H D, Tabs T H → Ws X.K H σ δ → (∀ δ' σ' H', nx δ' → Tabs T H' → Ws X.K H' σ' δ' → ExtN H H' → D.nx σ' H') → (∀ d v H', rs d → ExtN H H' → Tabs T H' → Dp X.K H' v d → D.rt v H') → WB X ss D σ H
end
section
variable {X : Cx} {T : List (Addr × Str)} {δ : WSl} {e a b c it : Expr} {d x y : PyData} {ds es : List PyData} {pos p q1 : Pos} {rest t f : List Stmt} {nx : WSl → Prop} {rs : PyData → Prop} {z : Str} {i : Nat}
theorem wde_of (h : ∀ H0, DE X H0 (toD δ) e d) : WDE X T δ e d := fun σ H hT S Q q => h H σ H S.sl Q fun v H' e1 d1 => q v H' (.of e1) (hT.ext e1) d1
theorem wdo_of (h : ∀ H0, DL X H0 (toD δ) e ds) : WDO X T δ e ds := fun σ H hT S Q q => h H σ H S.sl Q fun p H' vs _ e1 d1 d2 => q p H' vs (.of e1) (hT.ext e1) d1 d2
theorem wdt_of {k : Bool} (h : ∀ H0, DT X H0 (toD δ) e k) : WDT X T δ e k := fun σ H hT S Q q => h H σ H S.sl Q fun H' e1 => q H' (.of e1) (hT.ext e1)
theorem WDO.de (h : WDO X T δ e ds) : WDE X T δ e (.list ds) := fun σ H hT S Q q => h σ H hT S Q fun p H' vs e1 t1 d1 d2 => q _ H' e1 t1 (.lst (SqL.of d1) d2)
theorem WDO.is (h : WDO X T δ e ds) (g : ds = es) : WDO X T δ e es := by rw [← g]; exact h
theorem wdo_name (hN : X.N[i]? = some z) (hv : Vis X.env.scope z) (h : δ[i]? = some (some (.pl ds))) (hd : (z == ("__debug__" : Str)) = false := by decide) (hcd : (z == ("__classdict__" : Str)) = false := by decide) : WDO X T δ (.Name z pos) ds := fun σ H hT S Q q => by
  obtain ⟨v, h1, p, vs, rfl, h3, h4⟩ := S.at_ i _ h
  exact we_of (pe_var hN hv hd hcd) ⟨_, h1, q p H vs (ExtN.refl H) hT h3 h4⟩
theorem wda_nil : WDA X T δ [] [] := fun σ H hT S Q q => wa_of pa_nil (q [] H (ExtN.refl H) hT .nil)
theorem wda_cons {l : List Expr} (h : WDE X T δ e d) (hr : WDA X T δ l ds) (hs : starEach (e :: l) X.env = (false, eval e X.env) :: starEach l X.env := by rfl) : WDA X T δ (e :: l) (d :: ds) := fun σ H hT S Q q =>
  wa_of (pa_cons pe_w pa_w hs) (h σ H hT S _ fun v H1 e1 t1 d1 => hr σ H1 t1 (S.ext e1) _ fun vs H2 e2 t2 d2 => q (v :: vs) H2 (e1.trans e2) t2 (.cons (dp_ext e2 _ _ d1) d2))
theorem wdo_lst {l : List Expr} (h : WDA X T δ l ds) (hl : ds.length ≤ 1000) : WDO X T δ (.List l pos) ds := fun σ H hT S Q q =>
  we_of (pe_lst pa_w) (h σ H hT S _ fun vs H1 e1 t1 d1 => ⟨by rw [dpa_len d1]; exact Evl.sz_of (by omega), fun p hp => by
    have e2 : Ex H1 (upd H1 p (.lst vs)) := Evl.Ex.new hp
    exact q p _ vs (e1.trans (.of e2)) (t1.ext e2) upd_same (d1.up e2)⟩)
theorem wdo_cat (ha : WDO X T δ a ds) (hb : WDO X T δ b es) (hz : ds.length + es.length ≤ 1000) : WDO X T δ (.BinOp a .Add b pos) (ds ++ es) := fun σ H hT S Q q =>
  we_of (pe_op op_cat pe_w pe_w) (ha σ H hT S _ fun pp H1 vs e1 t1 h1 h2 => hb σ H1 t1 (S.ext e1) _ fun pq H2 ws e2 t2 k1 k2 => by
    refine ⟨pp, pq, vs, ws, rfl, rfl, e2 _ _ h1 (fun _ z => by cases z), k1, ?_, fun pn hp => ?_⟩
    · rw [dpa_len h2, dpa_len k2]
      exact Evl.sz_of (by omega)
    · have e3 : Ex H2 (upd H2 pn (.lst (vs ++ ws))) := Evl.Ex.new hp
      exact q pn _ _ ((e1.trans e2).trans (.of e3)) (t2.ext e3) upd_same (dpa_app ((dpa_ext e2 _ _ h2).up e3) (k2.up e3)))
theorem wde_repr (hG : X.A.guards = some []) (hu : X.A.units + 64 < cLine) (hg : Gl X "repr") (hm : X.mg "repr" = none) (ha : WDE X T δ e d) (sw : Shw d) (kd : isT d = true ∨ d = .none ∨ ∃ l, d = .list l)
    (he : starEach [e] X.env = (false, eval e X.env) :: starEach [] X.env := by rfl) (hpl : (backTo pos (starEach [] X.env)).any (·.1) = false := by rfl) : WDE X T δ (.Call (.Name "repr" p) [e] [] pos) (.str d.shown) := fun σ H hT S Q q =>
  we_of (pe_callB (call_reprD hG hu) hg hm (by decide +kernel) (pa_cons pe_w pa_nil he) (by decide) (by decide) he hpl) (ha σ H hT S _ fun v H1 e1 t1 d1 => ⟨v, d, rfl, d1, sw, kd, q _ H1 e1 t1 (.str _)⟩)
theorem wdt_ne {s1 s2 : Str} (ha : WDE X T δ a (.str s1)) (hb : WDE X T δ b (.str s2)) : WDT X T δ (.Compare a [.NotEq] [b] pos) (!decide (s1 = s2)) := fun σ H hT S Q q =>
  wt_of (pt_cmpR op_ne pe_w pe_w (nomark _)) (ha σ H hT S _ fun v H1 e1 t1 d1 => hb σ H1 t1 (S.ext e1) _ fun u H2 e2 t2 d2 => by
    cases d1; cases d2
    have e : decide (V.str s1 = V.str s2) = decide (s1 = s2) := decide_eq_decide.mpr ⟨fun z => by injection z, fun z => by rw [z]⟩
    refine ⟨rfl, !decide (s1 = s2), by rw [e], q H2 (e1.trans e2) t2⟩)
theorem WDT.is {k l : Bool} (h : WDT X T δ e k) (g : k = l) : WDT X T δ e l := by rw [← g]; exact h
/-! statements -/
theorem wdb_nil (h : nx δ) : WDB X T δ [] nx rs := fun σ H D hT S kn kr => wb_of pss_nil (kn δ σ H h hT S (ExtN.refl H))
theorem wdb_ret (h : WDE X T δ e d) (hr : rs d) : WDB X T δ (.Return (some e) pos :: rest) nx rs := fun σ H D hT S kn kr => wb_of (pss_cons (ps_ret pe_w) pb_w) (h σ H hT S _ fun v H1 e1 t1 d1 => kr d v H1 hr e1 t1 d1)
theorem wdb_set (hN : X.N.Nodup) (hi : X.N[i]? = some z) (hx : Loc X.env.scope z) (h : WDE X T δ e d) (k : WDB X T (δ.set i (some (.im d))) rest nx rs) (hs : swapsWith e (some (.Name z p)) pos.line X.env = pure false := by rfl)
    (hf : X.fn z = true ∨ X.env.scope.names.lookup z = some .local := by first | exact .inl rfl | exact .inr rfl) : WDB X T δ (.Assign [.Name z p] e pos :: rest) nx rs := fun σ H D hT S kn kr =>
  wb_of (pss_cons (ps_set hN hi hx pe_w hs hf) pb_w) (h σ H hT S _ fun v H1 e1 t1 d1 => k _ H1 D t1 ((S.ext e1).set (z := .im d) d1) (fun δ' σ' H' a b s' e2 => kn δ' σ' H' a b s' (e1.trans e2)) (fun d' v' H' a e2 => kr d' v' H' a (e1.trans e2)))
theorem wdb_setP (hN : X.N.Nodup) (hi : X.N[i]? = some z) (hx : Loc X.env.scope z) (h : WDO X T δ e ds) (k : WDB X T (δ.set i (some (.pl ds))) rest nx rs) (hs : swapsWith e (some (.Name z p)) pos.line X.env = pure false := by rfl)
    (hf : X.fn z = true ∨ X.env.scope.names.lookup z = some .local := by first | exact .inl rfl | exact .inr rfl) : WDB X T δ (.Assign [.Name z p] e pos :: rest) nx rs := fun σ H D hT S kn kr =>
  wb_of (pss_cons (ps_set hN hi hx pe_w hs hf) pb_w) (h σ H hT S _ fun q H1 vs e1 t1 d1 d2 => k _ H1 D t1 ((S.ext e1).set (z := .pl ds) ⟨q, vs, rfl, d1, d2⟩) (fun δ' σ' H' a b s' e2 => kn δ' σ' H' a b s' (e1.trans e2)) (fun d' v' H' a e2 => kr d' v' H' a (e1.trans e2)))
theorem wdb_ifF (h : WDT X T δ c false) (k : WDB X T δ rest nx rs) : WDB X T δ (.If c t [] pos :: rest) nx rs := fun σ H D hT S kn kr => by
  refine wb_of (pss_cons (ps_if pt_w pb_w pb_w) pb_w) (h σ H hT S _ fun H1 e1 t1 => ?_)
  show WB X [] { D with nx := WB X rest D } σ H1
  exact wb_of pss_nil (k σ H1 D t1 (S.ext e1) (fun δ' σ' H' a b s' e2 => kn δ' σ' H' a b s' (e1.trans e2)) (fun d' v' H' a e2 => kr d' v' H' a (e1.trans e2)))
/-- for z in a list or tuple of data -/
theorem wdb_for {J : TI} (hp : PassesOwn (model X.prog X.w) X.A X.env X.xe) (hc : X.calm = true) (hi : PI X (.Name z q1) it J) (hN : X.N.Nodup) (hz : X.N[i]? = some z) (hx : Loc X.env.scope z)
    (hJ : ∀ σ H, Tabs T H → Ws X.K H σ δ → ∀ R : It → Hp → Prop, (∀ I2 H2 (Gd : Hp → Prop), ExtN H H2 → Tabs T H2 → Walk I2 ds.length Gd (fun k H v H' => H' = H ∧ ∀ d, ds[k]? = some d → Dp X.K H v d) → Gd H2 → (∀ H', ExtN H2 H' → Gd H') → R I2 H2) → J σ H R)
    (Iv : Nat → WSl → Prop) (h0 : Iv 0 δ) (hb : ∀ k d δ1, ds[k]? = some d → Iv k δ1 → WDB X T (δ1.set i (some (.im d))) t (Iv (k + 1)) rs) (hd : ∀ δ1, Iv ds.length δ1 → WDB X T δ1 rest nx rs)
    (hf : X.fn z = true ∨ X.env.scope.names.lookup z = some .local := by first | exact .inl rfl | exact .inr rfl) (hsf : ∀ x, foldedSetIterable it X.env x = pure x := by intro _; rfl) : WDB X T δ (.For (.Name z q1) it t [] pos :: rest) nx rs := fun σ H D hT S kn kr => by
  refine wb_of (pss_cons (ps_for hp hc hi (pg_name hN hz hx hf) pb_w hsf) pb_w) ?_
  refine hJ σ H hT S _ fun I2 H2 Gd e2 t2 wk g2 stay => ?_
  refine for_it wk (Pv := fun k σ' H' => ∃ δ1, Iv k δ1 ∧ Tabs T H' ∧ Ws X.K H' σ' δ1 ∧ ExtN H2 H') ⟨δ, h0, t2, S.ext e2, ExtN.refl _⟩ (fun k σ' H' _ ⟨δ1, _, _, _, ex⟩ => stay H' ex) (fun k x σ' H' H'' hk pv y => ?_) (fun σ' H' ⟨δ1, iv, t1, s1, ex⟩ => ?_)
  · obtain ⟨δ1, iv, t1, s1, ex⟩ := pv
    obtain ⟨rfl, y2⟩ := y
    have hy : ds[k]? = some ds[k] := by simp [hk]
    exact hb k _ δ1 hy iv _ _ _ t1 (s1.set (z := .im ds[k]) (y2 _ hy)) (fun δ' σ3 H3 n3 t3 s3 e3 => ⟨δ', n3, t3, s3, ex.trans e3⟩) (fun d v H3 r e3 => kr d v H3 r ((e2.trans ex).trans e3))
  · exact hd δ1 iv σ' H' D t1 s1 (fun δ' σ2 H3 a b s3 e3 => kn δ' σ2 H3 a b s3 ((e2.trans ex).trans e3)) (fun d v H3 r e3 => kr d v H3 r ((e2.trans ex).trans e3))
end
end RS
set_option Elab.async false
set_option linter.all false
set_option maxRecDepth 100000
set_option maxHeartbeats 4000000
/-! part W2: loops over data; what is said of data -/
namespace RS
open PySem PySem.Spec PyProof.Rows L2 RM LamX
section
variable {X : Cx} {T : List (Addr × Str)} {δ : WSl} {it : Expr} {d : PyData} {ds : List PyData} {pos p q1 : Pos} {rest t : List Stmt} {nx : WSl → Prop} {rs : PyData → Prop} {z : Str} {i : Nat}
theorem wk_tup0 {K : PySem.W.Frag} {a : Addr} {vs : List V} (hl : vs.length = ds.length) : Walk (Itt K a) ds.length (fun H => SqT K H a vs ∧ DpAll K H vs ds) (fun k H v H' => H' = H ∧ ∀ d, ds[k]? = some d → Dp K H v d) := by
  have w := walk_tup (K := K) (a := a) (xs := vs)
  rw [hl] at w
  refine w.mono (fun H h => h.1) fun i H x H' hi h y => ?_
  obtain ⟨e, hx⟩ := y
  subst e
  refine ⟨rfl, fun d hd => ?_⟩
  obtain ⟨v, h1, h2⟩ := dpa_get h.2 hd
  rw [hx] at h1
  cases h1
  exact h2
theorem wk_list0 {K : PySem.W.Frag} {a : Addr} {vs : List V} (hl : vs.length = ds.length) : Walk (Itl K a) ds.length (fun H => SqL K H a vs ∧ DpAll K H vs ds) (fun k H v H' => H' = H ∧ ∀ d, ds[k]? = some d → Dp K H v d) := by
  have w := walk_list (K := K) (a := a) (xs := vs)
  rw [hl] at w
  refine w.mono (fun H h => h.1) fun i H x H' hi h y => ?_
  obtain ⟨e, hx⟩ := y
  subst e
  refine ⟨rfl, fun d hd => ?_⟩
  obtain ⟨v, h1, h2⟩ := dpa_get h.2 hd
  rw [hx] at h1
  cases h1
  exact h2
theorem wdb_forT (hp : PassesOwn (model X.prog X.w) X.A X.env X.xe) (hc : X.calm = true) (h : WDE X T δ it (.tuple ds)) (hN : X.N.Nodup) (hz : X.N[i]? = some z) (hx : Loc X.env.scope z)
    (Iv : Nat → WSl → Prop) (h0 : Iv 0 δ) (hb : ∀ k d δ1, ds[k]? = some d → Iv k δ1 → WDB X T (δ1.set i (some (.im d))) t (Iv (k + 1)) rs) (hd : ∀ δ1, Iv ds.length δ1 → WDB X T δ1 rest nx rs)
    (hf : X.fn z = true ∨ X.env.scope.names.lookup z = some .local := by first | exact .inl rfl | exact .inr rfl) (hsf : ∀ x, foldedSetIterable it X.env x = pure x := by intro _; rfl) : WDB X T δ (.For (.Name z q1) it t [] pos :: rest) nx rs :=
  wdb_for hp hc (pi_tup pe_w) hN hz hx (fun σ H hT S R q => h σ H hT S _ fun v H1 e1 t1 d1 => by
    obtain ⟨pp, vs, rfl, h3, h4⟩ := dp_tup d1
    exact ⟨pp, rfl, ⟨vs, h3⟩, q _ H1 _ e1 t1 (wk_tup0 (dpa_len h4)) ⟨h3, h4⟩ fun H' ex => ⟨ext_t ex h3, dpa_ext ex _ _ h4⟩⟩) Iv h0 hb hd hf hsf
theorem wdb_forL (hp : PassesOwn (model X.prog X.w) X.A X.env X.xe) (hc : X.calm = true) (h : WDE X T δ it (.list ds)) (hN : X.N.Nodup) (hz : X.N[i]? = some z) (hx : Loc X.env.scope z)
    (Iv : Nat → WSl → Prop) (h0 : Iv 0 δ) (hb : ∀ k d δ1, ds[k]? = some d → Iv k δ1 → WDB X T (δ1.set i (some (.im d))) t (Iv (k + 1)) rs) (hd : ∀ δ1, Iv ds.length δ1 → WDB X T δ1 rest nx rs)
    (hf : X.fn z = true ∨ X.env.scope.names.lookup z = some .local := by first | exact .inl rfl | exact .inr rfl) (hsf : ∀ x, foldedSetIterable it X.env x = pure x := by intro _; rfl) : WDB X T δ (.For (.Name z q1) it t [] pos :: rest) nx rs :=
  wdb_for hp hc (pi_list pe_w) hN hz hx (fun σ H hT S R q => h σ H hT S _ fun v H1 e1 t1 d1 => by
    obtain ⟨pp, vs, rfl, h3, h4⟩ := dp_lst d1
    exact ⟨pp, rfl, ⟨vs, h3⟩, q _ H1 _ e1 t1 (wk_list0 (dpa_len h4)) ⟨h3, h4⟩ fun H' ex => ⟨ext_l ex h3, dpa_ext ex _ _ h4⟩⟩) Iv h0 hb hd hf hsf
/-- _law_said(lambda: body), where the body raises -/
theorem wde_said {S : Nat → Addr} {j k n : Nat} {ar : Arguments} {bo : Expr} {sc : Scope} {lp : Pos} {c P : Addr} (hs : Hd X.K X.mg "_law_said" sSaid ["_law_call"]) (six : Six X.prog X.w X.K X.mg X.base S) (hi : n < 6) (TB : TabB X.base X.mg c P) (hcode : X.env.code = .ref c) (hm : (P, X.env.qual ++ "<lambda>") ∈ T) (hu : ∀ p ∈ T, p.1 = P → p.2 = X.env.qual ++ "<lambda>")
    (hr : Room j X.A) (hk : k + 2 ≤ j) (hg : Gl X "_law_said") (L : LamP X.N X.env.scope sc) (lb : LBind X ar bo sc)
    (run : ∀ (A : Around) (outer : List Env) (s2 : Shared) (f c' : Addr) (H1 : Hp) (E : XK), Room k (A.deeper (lamEnv X sc s2.heap.objs.size f c')) → DX (lamCx X A outer s2 H1 E sc f c') E H1 (toD δ) bo (S n) (fldOf n) d)
    (hst : starEach [.Lambda ar bo sc lp] X.env = (false, eval (.Lambda ar bo sc lp) X.env) :: starEach [] X.env := by rfl) : WDE X T δ (.Call (.Name "_law_said" p) [.Lambda ar bo sc lp] [] pos) (.tuple [.str (wordOf n), d]) := fun σ H hT S1 Q q =>
  we_said hs six hi TB hcode hm hu hr hk hg L lb hT (fun H1 eN A outer s2 f c' Q hr2 => run A outer s2 f c' H1 _ hr2 σ H1 (S1.ext eN).sl (fun dd v H' _ ex h1 h2 => ⟨dd, v, rfl, rfl, ex, h1, h2⟩) Q) q hst
/-- what a lambda's body lets out goes to where the lambda is called -/
theorem lam_pass {A : Around} {outer : List Env} {s : Shared} {H : Hp} {E : XK} {sc : Scope} {f c' : Addr} : L2.Passes (L2.CX X.prog X.w) (lamCx X A outer s H E sc f c') E :=
  passes_call (X := lamCx X A outer s H E sc f c') (takes_of rfl rfl rfl rfl) fun _ _ _ _ h => h
theorem lam_passZ {A : Around} {outer : List Env} {s : Shared} {H : Hp} {E : XK} {sc : Scope} {f c' : Addr} : L2.Passes (L2.CX (lamCx X A outer s H E sc f c').prog (lamCx X A outer s H E sc f c').w) (lamCx X A outer s H E sc f c') E := lam_pass (X := X)
end
end RS
set_option Elab.async false
set_option linter.all false
set_option maxRecDepth 100000
set_option maxHeartbeats 4000000
/-! part X0: data that is shown, of known width -/
namespace RS
open PySem PySem.Spec PyProof.Rows L2 RM LamX
/-- d can be shown; it is n deep at most, and w signs wide at most -/
structure Sm (d : PyData) (n w : Nat) : Prop where
  s : d.showable = true
  nd : d.hasDict = false
  dp : d.depth ≤ n
  w : wid d ≤ w
structure SmA (ds : List PyData) (n w : Nat) : Prop where
  s : PyData.showableAll ds = true
  nd : PyData.hasDictAll ds = false
  dp : PyData.depthAll ds ≤ n
  w : widA ds ≤ w
theorem Sm.shw {d : PyData} {n w : Nat} (h : Sm d n w) (hn : n ≤ 60 := by decide) (hw : w ≤ 16777216 := by decide) : Shw d := ⟨h.s, h.nd, Nat.le_trans h.dp hn, Nat.le_trans h.w hw⟩
theorem sm_none : Sm .none 0 5 := ⟨by simp [PyData.showable], by simp [PyData.hasDict], by simp [PyData.depth], by simp [wid]⟩
theorem sm_bool {b : Bool} : Sm (.bool b) 0 5 := ⟨by simp [PyData.showable], by simp [PyData.hasDict], by simp [PyData.depth], by simp [wid]⟩
theorem sm_int {i : Int} (h : i.natAbs < 2 ^ 200) : Sm (.int i) 0 2000 := by
  refine ⟨?_, by simp [PyData.hasDict], by simp [PyData.depth], by simp [wid]⟩
  have := log_of h (by decide) (by decide)
  simp [PyData.showable, this]
theorem sm_str {x : Str} (h : (PyData.shown (.str x)).length ≤ 100) : Sm (.str x) 0 100 := ⟨by simp [PyData.showable], by simp [PyData.hasDict], by simp [PyData.depth], by simpa only [wid] using h⟩
theorem sma_nil {n : Nat} : SmA [] n 0 := ⟨by simp [PyData.showableAll], by simp [PyData.hasDictAll], by simp [PyData.depthAll], by simp [widA]⟩
theorem sma_cons {d : PyData} {ds : List PyData} {a b n v : Nat} (h : Sm d a v) (t : SmA ds b n) : SmA (d :: ds) (max a b) (v + 2 + n) := by
  have := h.dp
  have := t.dp
  have := h.w
  have := t.w
  exact ⟨by simp [PyData.showableAll, h.s, t.s], by simp [PyData.hasDictAll, h.nd, t.nd], by simp only [PyData.depthAll]; omega, by rw [widA_cons]; omega⟩
theorem sm_tup {ds : List PyData} {n v : Nat} (h : SmA ds n v) : Sm (.tuple ds) (n + 1) (4 + v) := by
  have := h.dp
  have := h.w
  exact ⟨by simpa [PyData.showable] using h.s, by simpa [PyData.hasDict] using h.nd, by simp only [PyData.depth]; omega, by rw [wid_tuple]; omega⟩
theorem sm_lst {ds : List PyData} {n v : Nat} (h : SmA ds n v) : Sm (.list ds) (n + 1) (4 + v) := by
  have := h.dp
  have := h.w
  exact ⟨by simpa [PyData.showable] using h.s, by simpa [PyData.hasDict] using h.nd, by simp only [PyData.depth]; omega, by simp only [wid]; omega⟩
end RS
set_option Elab.async false
set_option linter.all false
set_option maxRecDepth 100000
set_option maxHeartbeats 4000000
/-! part W3: data over a write at a list -/
namespace RS
open PySem PySem.Spec PyProof.Rows L2 RM LamX
mutual
/-- no list of n items within -/
def nol (n : Nat) : PyData → Bool
  | .none | .bool _ | .int _ | .str _ => true
  | .list xs => decide (xs.length ≠ n) && nols n xs
  | .tuple xs => nols n xs
  | .dict _ => false
def nols (n : Nat) : List PyData → Bool
  | [] => true
  | x :: xs => nol n x && nols n xs
end
section
variable {K : PySem.W.Frag} {H : Hp} {p : Addr} {vs ws : List V}
mutual
theorem dp_keep (hp : H p = some (.lst vs)) : ∀ (d : PyData) (v : V), nol vs.length d = true → Dp K H v d → Dp K (upd H p (.lst ws)) v d
  | .none, _, _, h => by cases h; exact .non
  | .bool b, _, _, h => by cases h; exact .bl b
  | .int i, _, _, h => by cases h; exact .int i
  | .str x, _, _, h => by cases h; exact .str x
  | .list ds, _, n, h => by
    have n' : ds.length ≠ vs.length ∧ nols vs.length ds = true := by simpa [nol] using n
    cases h with
    | @lst a xs _ hs ha =>
      refine .lst (xs := xs) ?_ (dpa_keep hp ds _ n'.2 ha)
      rcases hs with (hs | ⟨o, hs⟩) | hs
      · have hne : a ≠ p := fun z => by
          subst z
          rw [hp] at hs
          cases hs
          exact n'.1 (dpa_len ha).symm
        exact .inl (.inl (by rw [upd_ne hne]; exact hs))
      · have hne : a ≠ p := fun z => by
          subst z
          rw [hp] at hs
          cases hs
        exact .inl (.inr ⟨o, by rw [upd_ne hne]; exact hs⟩)
      · exact .inr hs
  | .tuple ds, _, n, h => by
    have n' : nols vs.length ds = true := by simpa [nol] using n
    cases h with
    | tup hs ha => exact .tup (rd_seqT (Tx.write hp) hs) (dpa_keep hp ds _ n' ha)
  | .dict _, _, _, h => by cases h
theorem dpa_keep (hp : H p = some (.lst vs)) : ∀ (ds : List PyData) (us : List V), nols vs.length ds = true → DpAll K H us ds → DpAll K (upd H p (.lst ws)) us ds
  | [], _, _, h => by cases h; exact .nil
  | d :: ds, _, n, h => by
    have n' : nol vs.length d = true ∧ nols vs.length ds = true := by simpa [nols] using n
    cases h with
    | cons h1 h2 => exact .cons (dp_keep hp d _ n'.1 h1) (dpa_keep hp ds _ n'.2 h2)
end
end
end RS
set_option Elab.async false
set_option linter.all false
set_option maxRecDepth 100000
set_option maxHeartbeats 4000000
/-! part W4: a list of two, and a third appended -/
namespace RS
open PySem PySem.Spec PyProof.Rows L2 RM LamX
theorem Ws.drop {K : PySem.W.Frag} {H : Hp} {σ : L2.St} {δ : WSl} {i : Nat} {v : V} (S : Ws K H σ δ) : Ws K H (σ.set i (some v)) (δ.set i none) := by
  refine ⟨by simp [S.len], fun j s e => ?_⟩
  by_cases hj : j = i
  · subst hj
    have hlt : j < δ.length := by
      have := (List.getElem?_eq_some_iff.mp e).1
      simpa using this
    rw [List.getElem?_set_self hlt] at e
    cases e
  · rw [List.getElem?_set_ne (Ne.symm hj)] at e
    obtain ⟨u, h1, h2⟩ := S.at_ j s e
    exact ⟨u, by rw [List.getElem?_set_ne (Ne.symm hj)]; exact h1, h2⟩
section
variable {X : Cx} {T : List (Addr × Str)} {δ : WSl} {a b c : Expr} {d1 d2 d3 : PyData} {pos pos1 p p0 pl q1 q2 : Pos} {rest : List Stmt} {nx : WSl → Prop} {rs : PyData → Prop} {z : Str} {i : Nat}
theorem wdb_app2 (hN : X.N.Nodup) (hi : X.N[i]? = some z) (hx : Loc X.env.scope z) (hv : Vis X.env.scope z) (hlt : i < δ.length) (ha : WDE X T δ a d1) (hb : WDE X T δ b d2) (hc : WDE X T (δ.set i none) c d3) (hn : nol 2 d3 = true) (k : WDB X T (δ.set i (some (.pl [d1, d2, d3]))) rest nx rs)
    (hp : ∀ {to : TE} {t : TA}, PE X (.Name z q1) to → PA X [c] t → PE X (.Call (.Attribute (.Name z q1) "append" q2) [c] [] p) (tBM X.K "list" rAppend to t))
    (he1 : starEach [a, b] X.env = (false, eval a X.env) :: starEach [b] X.env := by rfl) (he2 : starEach [b] X.env = (false, eval b X.env) :: starEach [] X.env := by rfl) (he : starEach [c] X.env = (false, eval c X.env) :: starEach [] X.env := by rfl)
    (hs1 : swapsWith (.List [a, b] pl) (some (.Name z p0)) pos1.line X.env = pure false := by rfl) (hf : X.fn z = true ∨ X.env.scope.names.lookup z = some .local := by first | exact .inl rfl | exact .inr rfl)
    (hs : swapsWith (.Call (.Attribute (.Name z q1) "append" q2) [c] [] p) none pos.line X.env = pure false := by rfl) (hd : (z == ("__debug__" : Str)) = false := by decide) (hcd : (z == ("__classdict__" : Str)) = false := by decide) :
    WDB X T δ (.Assign [.Name z p0] (.List [a, b] pl) pos1 :: .Expr (.Call (.Attribute (.Name z q1) "append" q2) [c] [] p) pos :: rest) nx rs := fun σ H D hT S kn kr => by
  refine wb_of (pss_cons (ps_set hN hi hx (pe_lst pa_w) hs1 hf) pb_w) ((wda_cons ha (wda_cons hb wda_nil he2) he1) σ H hT S _ fun vs H1 e1 t1 d12 => ⟨by rw [dpa_len d12]; exact Evl.sz_of (by show 2 ≤ 100000; decide), fun pp hpp => ?_⟩)
  have e2 : Ex H1 (upd H1 pp (.lst vs)) := Evl.Ex.new hpp
  have at2 : (upd H1 pp (.lst vs)) pp = some (.lst vs) := upd_same
  generalize upd H1 pp (.lst vs) = H2 at e2 at2
  have hl := dpa_len d12
  have sl : (σ.set i (some (V.ref pp)))[i]? = some (some (.ref pp)) := List.getElem?_set_self (by rw [S.len]; exact hlt)
  refine wb_of (pss_cons (ps_expr (hp (pe_var hi hv hd hcd) (pa_cons pe_w pa_nil he)) hs) pb_w) ⟨_, sl, .inl ⟨rfl, _, SqL.of at2⟩, hc _ H2 (t1.ext e2) ((S.ext e1).ext (.of e2)).drop _ fun w H3 e3 t3 d3' => ?_⟩
  have at3 : H3 pp = some (.lst vs) := e3 _ _ at2 (fun _ z => by cases z)
  refine ⟨pp, vs, w, rfl, rfl, at3, by rw [hl]; exact Evl.sz_lt (by show 2 < 100000; decide), ?_⟩
  have e13 : ExtN H1 (upd H3 pp (.lst (vs ++ [w]))) := fun x o h n => by
    rw [upd_ne (ne_of_none h hpp)]
    exact e3 _ _ (e2 _ _ h) n
  have e4 : ExtN H (upd H3 pp (.lst (vs ++ [w]))) := e1.trans e13
  have t4 : Tabs T (upd H3 pp (.lst (vs ++ [w]))) := fun q hq => by
    obtain ⟨ps, h1, h2, h3⟩ := t3 q hq
    refine ⟨ps, by rw [upd_ne (fun z => by rw [z, at3] at h1; cases h1)]; exact h1, h2, fun po cv hcv => ?_⟩
    obtain ⟨c0, z1, z2⟩ := h3 po cv hcv
    exact ⟨c0, z1, by rw [upd_ne (fun z => by rw [z, at3] at z2; unfold CodeO at z2; cases z2)]; exact z2⟩
  have dd : DpAll X.K (upd H3 pp (.lst (vs ++ [w]))) (vs ++ [w]) ([d1, d2] ++ [d3]) := dpa_app (dpa_ext e13 _ _ d12) (.cons (dp_keep at3 _ _ (by rw [hl]; exact hn) d3') .nil)
  exact k _ _ D t4 ((S.ext e4).set (z := .pl [d1, d2, d3]) ⟨pp, _, rfl, upd_same, dd⟩) (fun δ' σ' H' a b s' e5 => kn δ' σ' H' a b s' (e4.trans e5)) (fun d v H' a e5 => kr d v H' a (e4.trans e5))
end
end RS
set_option Elab.async false
set_option linter.all false
set_option maxRecDepth 100000
set_option maxHeartbeats 400000
namespace RS
open PySem PySem.Spec PyProof.Rows L2 RM LamX
theorem szs {q : Rat} (h1 : q.num.natAbs < 100) (h2 : q.den < 100) : Szn 250 q := by
  have e : (100 : Nat) < 2 ^ 250 := by decide +kernel
  exact ⟨by omega, by omega⟩
theorem lg_a : LGood 1 [1] [] := ⟨szs (by decide) (by decide), by simp; exact szs (by decide) (by decide), by simp, by decide +kernel, by decide, by decide⟩
theorem lg_b : LGood 1 [] [] := ⟨szs (by decide) (by decide), by simp, by simp, by decide +kernel, by decide, by decide⟩
theorem lg_c : LGood 1 [1] [q12] := ⟨szs (by decide) (by decide), by simp; exact szs (by decide) (by decide), by simp; exact szs (by decide) (by decide), by decide +kernel, by decide, by decide⟩
theorem lg_d : LGood 2 [1] [0] := ⟨szs (by decide) (by decide), by simp; exact szs (by decide) (by decide), by simp; exact szs (by decide) (by decide), by decide +kernel, by decide, by decide⟩
theorem nb_a : (ladB [1] [] && (endB [] && zer ((1 : Rat) - 1))) = false := by simp [endB]
theorem nb_b : (ladB [] [] && (endB [] && zer ((1 : Rat) - 1))) = false := by simp [endB]
theorem nb_c : (ladB [1] [q12] && (endB [q12] && zer ((1 : Rat) - 1))) = false := by
  have : endB [q12] = false := by show zer q12 = false; decide +kernel
  simp [this]
theorem nb_d : (ladB [1] [0] && (endB [0] && zer ((2 : Rat) - 1))) = false := by
  have : zer ((2 : Rat) - 1) = false := by decide +kernel
  simp [this]
end RS
set_option Elab.async false
set_option linter.all false
set_option maxRecDepth 100000
set_option maxHeartbeats 4000000
/-! part X1: others are refused -/
namespace RS
open PySem PySem.Spec PyProof.Rows L2 RM LamX
abbrev sOthers : Stmt := topS 81
abbrev nOthers : List Str := ["_law_rates_so", "_law_told", "_law_one", "_law_some", "_law_fine", "_law_low", "_law_odd"]
theorem scOthers : FnScope nOthers ["_law_rates_so"] (defScope sOthers) := ⟨rfl, rfl, rfl, by decide +kernel, rfl, by decide +kernel, by decide +kernel⟩
def qOthers : Str := "_law_others_refused.<locals>.<lambda>"
def spOthers (K : PySem.W.Frag) (T : List (Addr × Str)) : Sp := fun vs H Q _ => ∃ (v : V) (R : Rt), vs = [v] ∧ R.Good ∧ Dp K H v (RTd R) ∧ Tabs T H ∧ ∀ H', ExtN H H' → Q (.bl true) H'
theorem str_w {x : Str} (h : (PyData.shown (.str x)).length ≤ 100 := by simp only [PyData.shown]; decide +kernel) : Sm (.str x) 0 100 := sm_str h
def oneD : PyData := .tuple [FI 1 1]
def someD : List PyData := [.none, .tuple [], .tuple [FI 1 1, oneD, .tuple []], .tuple [FI 2 1, oneD, .tuple [FI 0 1]], .tuple [FI 1 1, .tuple [], .tuple []], .list [FI 1 1, oneD, .tuple []]]
theorem tpl_not {d : PyData} (h : isT d = false) : Tpl d := fun l e => by rw [e] at h; cases h
theorem odd_lx {d : PyData} (hm : d ∈ someD ++ [.tuple [FI 1 1, oneD, .tuple [FI 1 2]]]) (CL CP : Addr) : FrLX CL [d] (.err CL "given" d) ∧ FrCW CL CP [d, .none] (.err CL "given" d) := by
  simp only [someD, List.cons_append, List.nil_append, List.mem_cons, List.not_mem_nil, or_false] at hm
  rcases hm with rfl | rfl | rfl | rfl | rfl | rfl | rfl
  · exact ⟨.no (tpl_not rfl) rfl, .no (tpl_not rfl) rfl⟩
  · exact ⟨.no (Tpl.of (by simp [okD, okDs])) rfl, .no (Tpl.of (by simp [okD, okDs])) rfl⟩
  · exact ⟨.bad lg_a nb_a, .bad lg_a nb_a⟩
  · exact ⟨.bad lg_d nb_d, .bad lg_d nb_d⟩
  · exact ⟨.bad lg_b nb_b, .bad lg_b nb_b⟩
  · exact ⟨.no (tpl_not rfl) rfl, .no (tpl_not rfl) rfl⟩
  · exact ⟨.bad lg_c nb_c, .bad lg_c nb_c⟩
theorem smF {a b : Int} (ha : a.natAbs < 2 ^ 200 := by decide +kernel) (hb : b.natAbs < 2 ^ 200 := by decide +kernel) : Sm (FI a b) 1 4008 := by
  have h := sm_tup (sma_cons (sm_int ha) (sma_cons (sm_int hb) (sma_nil (n := 0))))
  exact ⟨h.s, h.nd, h.dp, h.w⟩
theorem smOne : Sm oneD 2 4014 := by
  have h := sm_tup (sma_cons smF (sma_nil (n := 0))) (ds := [FI 1 1])
  exact ⟨h.s, h.nd, h.dp, h.w⟩
theorem Sm.le {d : PyData} {n w n' w' : Nat} (h : Sm d n w) (h1 : n ≤ n') (h2 : w ≤ w') : Sm d n' w' := ⟨h.s, h.nd, Nat.le_trans h.dp h1, Nat.le_trans h.w h2⟩
theorem odd_sm {d : PyData} (hm : d ∈ someD ++ [.tuple [FI 1 1, oneD, .tuple [FI 1 2]]]) : Sm d 20 100000 ∧ nol 2 (.tuple [.str (wordOf 3), d]) = true := by
  simp only [someD, List.cons_append, List.nil_append, List.mem_cons, List.not_mem_nil, or_false] at hm
  have t0 : Sm (.tuple []) 1 4 := sm_tup (sma_nil (n := 0))
  rcases hm with rfl | rfl | rfl | rfl | rfl | rfl | rfl
  · exact ⟨sm_none.le (by decide) (by decide), by simp [nol, nols]⟩
  · exact ⟨t0.le (by decide) (by decide), by simp [nol, nols]⟩
  · exact ⟨(sm_tup (sma_cons smF (sma_cons smOne (sma_cons t0 (sma_nil (n := 0)))))).le (by decide) (by decide), by simp [nol, nols, FI, oneD]⟩
  · exact ⟨(sm_tup (sma_cons smF (sma_cons smOne (sma_cons (sm_tup (sma_cons smF (sma_nil (n := 0)))) (sma_nil (n := 0)))))).le (by decide) (by decide), by simp [nol, nols, FI, oneD]⟩
  · exact ⟨(sm_tup (sma_cons smF (sma_cons t0 (sma_cons t0 (sma_nil (n := 0)))))).le (by decide) (by decide), by simp [nol, nols, FI]⟩
  · exact ⟨(sm_lst (sma_cons smF (sma_cons smOne (sma_cons t0 (sma_nil (n := 0)))))).le (by decide) (by decide), by simp [nol, nols, FI, oneD]⟩
  · exact ⟨(sm_tup (sma_cons smF (sma_cons smOne (sma_cons (sm_tup (sma_cons smF (sma_nil (n := 0)))) (sma_nil (n := 0)))))).le (by decide) (by decide), by simp [nol, nols, FI, oneD]⟩
def mhalf : Rat := ⟨-1, 2, by decide, by decide⟩
theorem lg_e : LGood 1 [1] [0] := ⟨szs (by decide) (by decide), by simp; exact szs (by decide) (by decide), by simp; exact szs (by decide) (by decide), by decide +kernel, by decide, by decide⟩
theorem lg_f : LGood 1 [mhalf] [0] := ⟨szs (by decide) (by decide), by simp; exact szs (by decide) (by decide), by simp; exact szs (by decide) (by decide), by decide +kernel, by decide, by decide⟩
theorem yb_e : (ladB [1] [0] && (endB [0] && zer ((1 : Rat) - 1))) = true := by decide +kernel
theorem yb_f : (ladB [mhalf] [0] && (endB [0] && zer ((1 : Rat) - 1))) = true := by decide +kernel
def papD : List PyData := [.none, .tuple [], .tuple [.str "walk"], .tuple [.str "walk", .int 0, .int 0], .list [.str "stay", .int 0], .tuple [.str "Walk", .int 0], .tuple [.int 5, .int 0], .str "walk"]
theorem pap_form {y : PyData} (hm : y ∈ papD) : formP y = false := by
  simp only [papD, List.mem_cons, List.not_mem_nil, or_false] at hm
  rcases hm with rfl | rfl | rfl | rfl | rfl | rfl | rfl | rfl
  · rfl
  · rfl
  · rfl
  · rfl
  · rfl
  · show inV (.str "Walk") (wordsD.map dV) = false
    decide +kernel
  · rfl
  · rfl
theorem shwP {x y : Str} (h1 : (PyData.shown (.str x)).length ≤ 100 := by simp only [PyData.shown]; decide +kernel) (h2 : (PyData.shown (.str y)).length ≤ 100 := by simp only [PyData.shown]; decide +kernel) : Shw (.tuple [.str x, .str y]) := (sm_tup (sma_cons (str_w h1) (sma_cons (str_w h2) (sma_nil (n := 0))))).shw
section
variable {P : Program} {w : World} {K : PySem.W.Frag} {mg : Str → Option Value} {base : Heap} {S : Nat → Addr} {cA pA : Addr} {T : List (Addr × Str)}
theorem cn_others (h : Hd K mg "_law_others_refused" sOthers ["_law_rates_so"]) (hs : Hd K mg "_law_said" sSaid ["_law_call"]) (six : Six P w K mg base S) (m_repr : mg "repr" = none) (m_len : mg "len" = none)
    (TB : TabB base mg cA pA) (hcA : ∀ cdv, CodeAt K mg "_law_others_refused" cdv → cdv = .ref cA) (hm : (pA, qOthers) ∈ T) (hu : ∀ p ∈ T, p.1 = pA → p.2 = qOthers)
    (c_chances : Cn P w K mg base "chances" 8 (FrCh (S 0) (S 1) (S 2))) (c_back_row : Cn P w K mg base "back_row" 8 (FrBr (S 0) (S 2) fun R m => .tuple (VF (row R) (m + 1)))) (c_first_backs : Cn P w K mg base "first_backs" 8 (FrBr (S 0) (S 2) fun R m => .tuple ((fbl R m).map FQ)))
    (c_rates_of : Cn P w K mg base "rates_of" 7 (FrLX (S 3))) (c_walk_paper : Cn P w K mg base "walk_paper" 7 (FrLX (S 3))) (c_check_walk : Cn P w K mg base "check_walk" 7 (FrCW (S 3) (S 5))) : CnG P w K mg base "_law_others_refused" 11 (spOthers K T) := by
  refine h.cnG scOthers (fun vs H Q E q => by obtain ⟨_, _, e, _⟩ := q; rw [e]; rfl) fun f cdv A outer s H vs Q E q hr hG hcd => ?_
  obtain ⟨v, R, rfl, g, dR, hT, q⟩ := q
  have S0 : Ws K H (L2.start nOthers [v]) [some (.im (RTd R)), none, none, none, none, none, none] := by
    refine ⟨rfl, fun i z e => ?_⟩
    match i with
    | 0 =>
      cases e
      exact ⟨v, rfl, dR⟩
    | 1 | 2 | 3 | 4 | 5 | 6 => cases e
    | n + 7 => simp at e
  refine (show WDB (fnX P w K mg base nOthers "_law_others_refused" sOthers f cdv A outer s H E) T [some (.im (RTd R)), none, none, none, none, none, none] (defBody sOthers) (fun _ => False) (fun d => d = .bool true) from ?_) _ H _ hT S0 (fun _ _ _ z => z.elim) (fun d v H' e eN tT dv => by
    subst e
    cases dv
    exact q H' eN)
  have hcode : (fnX P w K mg base nOthers "_law_others_refused" sOthers f cdv A outer s H E).env.code = .ref cA := hcA cdv hcd
  -- the rung
  refine wdb_forT (i := 6) (ds := [.none, .int (-1), .int R.n, .bool true, .str "0", .tuple [.int 0]]) fn_own rfl (wde_of fun H0 => DE.is (de_tup (da_cons de_non (da_cons (de_neg de_int) (da_cons (de_callB call_len rfl m_len (by decide +kernel) (da_cons (de_im (i := 0) rfl (.inr (.inl rfl)) rfl) da_nil) c1_lenT) (da_cons de_bl (da_cons de_str (da_cons (de_tup (da_cons de_int da_nil) (Nat.le_of_ble_eq_true rfl)) da_nil)))))) (Nat.le_of_ble_eq_true rfl)) ?_) scOthers.nd rfl (.inr rfl)
    (fun _ δ1 => ∃ o, δ1 = [some (.im (RTd R)), none, none, none, none, none, o]) ⟨none, rfl⟩ (fun k d δ1 hd ⟨o, e⟩ => ?_) (fun δ1 ⟨o, e⟩ => ?_)
  · show PyData.tuple [.none, .int (-1), .int ((RTl R).length : Nat), .bool true, .str "0", .tuple [.int 0]] = _
    rw [rtl_len]
  · subst e
    have hdd : inR R.n d = false ∧ Shw (.tuple [.str "rung", d]) := by
      have hw : Sm (.str "rung") 0 100 := str_w
      have hm := List.mem_of_getElem? hd
      simp only [List.mem_cons, List.not_mem_nil, or_false] at hm
      rcases hm with rfl | rfl | rfl | rfl | rfl | rfl
      · exact ⟨rfl, (sm_tup (sma_cons hw (sma_cons sm_none (sma_nil (n := 0))))).shw⟩
      · exact ⟨rfl, (sm_tup (sma_cons hw (sma_cons (sm_int (by decide +kernel)) (sma_nil (n := 0))))).shw⟩
      · refine ⟨by simp [inR], (sm_tup (sma_cons hw (sma_cons (sm_int ?_) (sma_nil (n := 0))))).shw⟩
        have e : (100 : Nat) < 2 ^ 200 := by decide +kernel
        have := g.hi
        omega
      · exact ⟨rfl, (sm_tup (sma_cons hw (sma_cons sm_bool (sma_nil (n := 0))))).shw⟩
      · exact ⟨rfl, (sm_tup (sma_cons hw (sma_cons str_w (sma_nil (n := 0))))).shw⟩
      · exact ⟨rfl, (sm_tup (sma_cons hw (sma_cons (sm_tup (sma_cons (sm_int (by decide +kernel)) (sma_nil (n := 0)))) (sma_nil (n := 0))))).shw⟩
    refine wdb_ifF (WDT.is (wdt_ne (wde_repr (by exact hG) (by exact hr.units) rfl m_repr (wde_said hs six (n := 1) (k := 8) (by decide) TB hcode hm hu hr (by decide) rfl (lamP_by (by show lamPB nOthers (defScope sOthers) _ = true; decide +kernel)) (.bare rfl (fun _ _ _ _ _ => rfl)) (fun A outer s2 f c' H1 E2 hr2 => dx_call lam_passZ c_chances hr2 (by decide) rfl (da_cons (de_im (i := 0) rfl (.inr (.inr rfl)) rfl) (da_cons (de_im (i := 6) rfl (.inr (.inr rfl)) rfl) (da_cons de_non da_nil))) (.rung g hdd.1))) hdd.2 (.inl rfl))
      (wde_repr (by exact hG) (by exact hr.units) rfl m_repr (wde_of fun H0 => (de_tup (da_cons de_str (da_cons (de_im (i := 6) rfl (.inr (.inl rfl)) rfl) da_nil)) (Nat.le_of_ble_eq_true rfl))) hdd.2 (.inl rfl))) (by simp [wordOf])) (wdb_nil ⟨_, rfl⟩)
  subst e
  -- the number
  refine wdb_forT (i := 6) (ds := [.none, .int (-1), .int 13, .bool true, .str "1", .tuple [.int 1], .int (10 ^ (30 : Int).toNat)]) fn_own rfl (wde_of fun H0 => (de_tup (da_cons de_non (da_cons (de_neg de_int) (da_cons de_int (da_cons de_bl (da_cons de_str (da_cons (de_tup (da_cons de_int da_nil) (Nat.le_of_ble_eq_true rfl)) (da_cons (de_bin op_pow de_int de_int (v2_pow ⟨by decide, by decide, by decide⟩)) da_nil))))))) (Nat.le_of_ble_eq_true rfl))) scOthers.nd rfl (.inr rfl)
    (fun _ δ1 => ∃ o, δ1 = [some (.im (RTd R)), none, none, none, none, none, o]) ⟨o, rfl⟩ (fun k d δ1 hd ⟨o, e⟩ => ?_) (fun δ1 ⟨o, e⟩ => ?_)
  · subst e
    have hdd : le12 d = false ∧ Shw (.tuple [.str "number", d]) := by
      have hw : Sm (.str "number") 0 100 := str_w
      have hm := List.mem_of_getElem? hd
      simp only [List.mem_cons, List.not_mem_nil, or_false] at hm
      rcases hm with rfl | rfl | rfl | rfl | rfl | rfl | rfl
      · exact ⟨rfl, (sm_tup (sma_cons hw (sma_cons sm_none (sma_nil (n := 0))))).shw⟩
      · exact ⟨rfl, (sm_tup (sma_cons hw (sma_cons (sm_int (by decide +kernel)) (sma_nil (n := 0))))).shw⟩
      · exact ⟨rfl, (sm_tup (sma_cons hw (sma_cons (sm_int (by decide +kernel)) (sma_nil (n := 0))))).shw⟩
      · exact ⟨rfl, (sm_tup (sma_cons hw (sma_cons sm_bool (sma_nil (n := 0))))).shw⟩
      · exact ⟨rfl, (sm_tup (sma_cons hw (sma_cons str_w (sma_nil (n := 0))))).shw⟩
      · exact ⟨rfl, (sm_tup (sma_cons hw (sma_cons (sm_tup (sma_cons (sm_int (by decide +kernel)) (sma_nil (n := 0)))) (sma_nil (n := 0))))).shw⟩
      · exact ⟨by decide +kernel, (sm_tup (sma_cons hw (sma_cons (sm_int (by decide +kernel)) (sma_nil (n := 0))))).shw⟩
    refine wdb_ifF (WDT.is (wdt_ne (wde_repr (by exact hG) (by exact hr.units) rfl m_repr (wde_said hs six (n := 2) (k := 8) (by decide) TB hcode hm hu hr (by decide) rfl (lamP_by (by show lamPB nOthers (defScope sOthers) _ = true; decide +kernel)) (.bare rfl (fun _ _ _ _ _ => rfl)) (fun A outer s2 f c' H1 E2 hr2 => dx_call lam_passZ c_chances hr2 (by decide) rfl (da_cons (de_im (i := 0) rfl (.inr (.inr rfl)) rfl) (da_cons de_int (da_cons (de_im (i := 6) rfl (.inr (.inr rfl)) rfl) da_nil))) (FrCh.num (i := 0) g (by have := g.lo; omega) hdd.1))) hdd.2 (.inl rfl))
      (wde_repr (by exact hG) (by exact hr.units) rfl m_repr (wde_of fun H0 => (de_tup (da_cons de_str (da_cons (de_im (i := 6) rfl (.inr (.inl rfl)) rfl) da_nil)) (Nat.le_of_ble_eq_true rfl))) hdd.2 (.inl rfl))) (by simp [wordOf])) (wdb_nil ⟨_, rfl⟩)
  subst e
  -- the top
  refine wdb_forT (i := 6) (ds := [.none, .int (-1), .int 9, .bool true, .str "1", .tuple [.int 1]]) fn_own rfl (wde_of fun H0 => (de_tup (da_cons de_non (da_cons (de_neg de_int) (da_cons de_int (da_cons de_bl (da_cons de_str (da_cons (de_tup (da_cons de_int da_nil) (Nat.le_of_ble_eq_true rfl)) da_nil)))))) (Nat.le_of_ble_eq_true rfl))) scOthers.nd rfl (.inr rfl)
    (fun _ δ1 => ∃ o o', δ1 = [some (.im (RTd R)), o', none, none, none, none, o]) ⟨o, none, rfl⟩ (fun k d δ1 hd ⟨o, o', e⟩ => ?_) (fun δ1 ⟨o, o', e⟩ => ?_)
  · subst e
    obtain ⟨h1, n1, w1, hsm, hn, hw1⟩ : topOk d = false ∧ ∃ n w, Sm d n w ∧ n ≤ 20 ∧ w ≤ 100000 := by
      have hm := List.mem_of_getElem? hd
      simp only [List.mem_cons, List.not_mem_nil, or_false] at hm
      rcases hm with rfl | rfl | rfl | rfl | rfl | rfl
      · exact ⟨rfl, _, _, sm_none, by decide, by decide⟩
      · exact ⟨rfl, _, _, sm_int (by decide +kernel), by decide, by decide⟩
      · exact ⟨rfl, _, _, sm_int (by decide +kernel), by decide, by decide⟩
      · exact ⟨rfl, _, _, sm_bool, by decide, by decide⟩
      · exact ⟨rfl, _, _, str_w, by decide, by decide⟩
      · exact ⟨rfl, _, _, sm_tup (sma_cons (sm_int (by decide +kernel)) (sma_nil (n := 0))), by decide, by decide⟩
    have hw : Sm (.str "number") 0 100 := str_w
    have hp := sm_tup (sma_cons hw (sma_cons hsm (sma_nil (n := 0))))
    have h2 := sm_lst (sma_cons hp (sma_cons hp (sma_nil (n := 0))))
    have shw2 : Shw (.list [.tuple [.str "number", d], .tuple [.str "number", d]]) := h2.shw (by omega) (by omega)
    refine wdb_setP (i := 1) (ds := [.tuple [.str "number", d], .tuple [.str "number", d]]) scOthers.nd rfl (.inl rfl) (wdo_lst (wda_cons (wde_said hs six (n := 2) (k := 8) (by decide) TB hcode hm hu hr (by decide) rfl (lamP_by (by show lamPB nOthers (defScope sOthers) _ = true; decide +kernel)) (.bare rfl (fun _ _ _ _ _ => rfl)) (fun A outer s2 f c' H1 E2 hr2 => dx_call lam_passZ c_back_row hr2 (by decide) rfl (da_cons (de_im (i := 0) rfl (.inr (.inr rfl)) rfl) (da_cons (de_im (i := 6) rfl (.inr (.inr rfl)) rfl) da_nil)) (.num g h1)))
      (wda_cons (wde_said hs six (n := 2) (k := 8) (by decide) TB hcode hm hu hr (by decide) rfl (lamP_by (by show lamPB nOthers (defScope sOthers) _ = true; decide +kernel)) (.one rfl (y := "_law_y") rfl (fun _ _ _ _ _ _ => ⟨_, rfl, fun _ => rfl⟩)) (fun A outer s2 f c' H1 E2 hr2 => dx_call lam_passZ c_first_backs hr2 (by decide) rfl (da_cons (de_im (i := 0) rfl (.inr (.inr rfl)) rfl) (da_cons (de_im (i := 6) rfl (.inr (.inr rfl)) rfl) da_nil)) (.num g h1))) wda_nil)) (Nat.le_of_ble_eq_true rfl)) ?_
    refine wdb_ifF (WDT.is (wdt_ne (wde_repr (by exact hG) (by exact hr.units) rfl m_repr (WDO.de (wdo_name (i := 1) rfl (.inl rfl) rfl)) shw2 (.inr (.inr ⟨_, rfl⟩))) (wde_repr (by exact hG) (by exact hr.units) rfl m_repr (wde_of fun H0 => DL.de (dl_rep (n := 2) (DL.o (dl_lst (da_cons (de_tup (da_cons de_str (da_cons (de_im (i := 6) rfl (.inr (.inl rfl)) rfl) da_nil)) (Nat.le_of_ble_eq_true rfl)) da_nil) (Nat.le_of_ble_eq_true rfl))) de_int rfl (Nat.le_of_ble_eq_true rfl) (Nat.le_of_ble_eq_true rfl))) shw2 (.inr (.inr ⟨_, rfl⟩)))) (by simp)) (wdb_nil ⟨_, _, rfl⟩)
  subst e
  refine wdb_set (i := 2) (d := oneD) scOthers.nd rfl (.inl rfl) (wde_of fun H0 => (de_tup (da_cons (de_tup (da_cons de_int (da_cons de_int da_nil)) (Nat.le_of_ble_eq_true rfl)) da_nil) (Nat.le_of_ble_eq_true rfl))) ?_
  refine wdb_setP (i := 3) (ds := someD) scOthers.nd rfl (.inl rfl) (wdo_of fun H0 => dl_lst (da_cons de_non (da_cons (de_tup da_nil (Nat.le_of_ble_eq_true rfl)) (da_cons (de_tup (da_cons (de_tup (da_cons de_int (da_cons de_int da_nil)) (Nat.le_of_ble_eq_true rfl)) (da_cons (de_im (i := 2) rfl (.inl rfl) rfl) (da_cons (de_tup da_nil (Nat.le_of_ble_eq_true rfl)) da_nil))) (Nat.le_of_ble_eq_true rfl)) (da_cons (de_tup (da_cons (de_tup (da_cons de_int (da_cons de_int da_nil)) (Nat.le_of_ble_eq_true rfl)) (da_cons (de_im (i := 2) rfl (.inl rfl) rfl) (da_cons (de_tup (da_cons (de_tup (da_cons de_int (da_cons de_int da_nil)) (Nat.le_of_ble_eq_true rfl)) da_nil) (Nat.le_of_ble_eq_true rfl)) da_nil se_tup))) (Nat.le_of_ble_eq_true rfl)) (da_cons (de_tup (da_cons (de_tup (da_cons de_int (da_cons de_int da_nil)) (Nat.le_of_ble_eq_true rfl)) (da_cons (de_tup da_nil (Nat.le_of_ble_eq_true rfl)) (da_cons (de_tup da_nil (Nat.le_of_ble_eq_true rfl)) da_nil))) (Nat.le_of_ble_eq_true rfl)) (da_cons (DL.de (dl_lst (da_cons (de_tup (da_cons de_int (da_cons de_int da_nil)) (Nat.le_of_ble_eq_true rfl)) (da_cons (de_im (i := 2) rfl (.inl rfl) rfl) (da_cons (de_tup da_nil (Nat.le_of_ble_eq_true rfl)) da_nil))) (Nat.le_of_ble_eq_true rfl))) da_nil)))))) (Nat.le_of_ble_eq_true rfl)) ?_
  refine wdb_forL (i := 6) (ds := someD ++ [.tuple [FI 1 1, oneD, .tuple [FI 1 2]]]) fn_own rfl (WDO.de (wdo_cat (wdo_name (i := 3) rfl (.inl rfl) rfl) (wdo_of fun H0 => dl_lst (da_cons (de_tup (da_cons (de_tup (da_cons de_int (da_cons de_int da_nil)) (Nat.le_of_ble_eq_true rfl)) (da_cons (de_im (i := 2) rfl (.inl rfl) rfl) (da_cons (de_tup (da_cons (de_tup (da_cons de_int (da_cons de_int da_nil)) (Nat.le_of_ble_eq_true rfl)) da_nil) (Nat.le_of_ble_eq_true rfl)) da_nil se_tup))) (Nat.le_of_ble_eq_true rfl)) da_nil) (Nat.le_of_ble_eq_true rfl)) (Nat.le_of_ble_eq_true rfl))) scOthers.nd rfl (.inr rfl)
    (fun _ δ1 => ∃ a c d, δ1 = [some (.im (RTd R)), a, some (.im oneD), c, none, none, d]) ⟨o', _, o, rfl⟩ (fun k d δ1 hd ⟨a, c, e0, e⟩ => ?_) (fun δ1 ⟨a, c, e0, e⟩ => ?_)
  · subst e
    have hdm := List.mem_of_getElem? hd
    obtain ⟨hsm, hnol⟩ := odd_sm hdm
    have hp := sm_tup (sma_cons (str_w (x := "ladder")) (sma_cons hsm (sma_nil (n := 0))))
    have shw3 : Shw (.list [.tuple [.str "ladder", d], .tuple [.str "ladder", d], .tuple [.str "ladder", d]]) := (sm_lst (sma_cons hp (sma_cons hp (sma_cons hp (sma_nil (n := 0)))))).shw
    refine wdb_app2 (i := 1) (d1 := .tuple [.str (wordOf 3), d]) (d2 := .tuple [.str (wordOf 3), d]) (d3 := .tuple [.str (wordOf 3), d]) scOthers.nd rfl (.inl rfl) (.inl rfl) (by show 1 < 7; decide) (wde_said hs six (n := 3) (k := 8) (by decide) TB hcode hm hu hr (by decide) rfl (lamP_by (by show lamPB nOthers (defScope sOthers) _ = true; decide +kernel)) (.bare rfl (fun _ _ _ _ _ => rfl)) (fun A outer s2 f c' H1 E2 hr2 => dx_call lam_passZ c_rates_of hr2 (by decide) rfl (da_cons (de_im (i := 6) rfl (.inr (.inr rfl)) rfl) da_nil) (odd_lx hdm _ 0).1)) (wde_said hs six (n := 3) (k := 8) (by decide) TB hcode hm hu hr (by decide) rfl (lamP_by (by show lamPB nOthers (defScope sOthers) _ = true; decide +kernel)) (.one rfl (y := "_law_y") rfl (fun _ _ _ _ _ _ => ⟨_, rfl, fun _ => rfl⟩)) (fun A outer s2 f c' H1 E2 hr2 => dx_call lam_passZ c_walk_paper hr2 (by decide) rfl (da_cons (de_im (i := 6) rfl (.inr (.inr rfl)) rfl) da_nil) (odd_lx hdm _ 0).1)) (wde_said hs six (n := 3) (k := 8) (by decide) TB hcode hm hu hr (by decide) rfl (lamP_by (by show lamPB nOthers (defScope sOthers) _ = true; decide +kernel)) (.bare rfl (fun _ _ _ _ _ => rfl)) (fun A outer s2 f c' H1 E2 hr2 => dx_call lam_passZ c_check_walk hr2 (by decide) rfl (da_cons (de_im (i := 6) rfl (.inr (.inr rfl)) rfl) (da_cons de_non da_nil)) (odd_lx hdm _ _).2)) hnol ?_ (pe_bm F.plainAttrs_list F.slot_list_append F.type_list_append mt_append)
    refine wdb_ifF (WDT.is (wdt_ne (wde_repr (by exact hG) (by exact hr.units) rfl m_repr (WDO.de (wdo_name (i := 1) rfl (.inl rfl) rfl)) shw3 (.inr (.inr ⟨_, rfl⟩))) (wde_repr (by exact hG) (by exact hr.units) rfl m_repr (wde_of fun H0 => DL.de (dl_rep (n := 3) (DL.o (dl_lst (da_cons (de_tup (da_cons de_str (da_cons (de_im (i := 6) rfl (.inr (.inl rfl)) rfl) da_nil)) (Nat.le_of_ble_eq_true rfl)) da_nil) (Nat.le_of_ble_eq_true rfl))) de_int rfl (Nat.le_of_ble_eq_true rfl) (Nat.le_of_ble_eq_true rfl))) shw3 (.inr (.inr ⟨_, rfl⟩)))) (by simp [wordOf])) (wdb_nil ⟨_, _, _, rfl⟩)
  subst e
  -- papers
  refine wdb_set (i := 4) (d := .tuple [FI 1 1, oneD, .tuple [FI 0 1]]) scOthers.nd rfl (.inr rfl) (wde_of fun H0 => (de_tup (da_cons (de_tup (da_cons de_int (da_cons de_int da_nil)) (Nat.le_of_ble_eq_true rfl)) (da_cons (de_im (i := 2) rfl (.inl rfl) rfl) (da_cons (de_tup (da_cons (de_tup (da_cons de_int (da_cons de_int da_nil)) (Nat.le_of_ble_eq_true rfl)) da_nil) (Nat.le_of_ble_eq_true rfl)) da_nil se_tup))) (Nat.le_of_ble_eq_true rfl))) ?_
  refine wdb_forT (i := 6) (ds := papD) fn_own rfl (wde_of fun H0 => (de_tup (da_cons de_non (da_cons (de_tup da_nil (Nat.le_of_ble_eq_true rfl)) (da_cons (de_tup (da_cons de_str da_nil) (Nat.le_of_ble_eq_true rfl)) (da_cons (de_tup (da_cons de_str (da_cons de_int (da_cons de_int da_nil))) (Nat.le_of_ble_eq_true rfl)) (da_cons (DL.de (dl_lst (da_cons de_str (da_cons de_int da_nil)) (Nat.le_of_ble_eq_true rfl))) (da_cons (de_tup (da_cons de_str (da_cons de_int da_nil)) (Nat.le_of_ble_eq_true rfl)) (da_cons (de_tup (da_cons de_int (da_cons de_int da_nil)) (Nat.le_of_ble_eq_true rfl)) (da_cons de_str da_nil)))))))) (Nat.le_of_ble_eq_true rfl))) scOthers.nd rfl (.inr rfl)
    (fun _ δ1 => ∃ a c d, δ1 = [some (.im (RTd R)), a, some (.im oneD), c, some (.im (.tuple [FI 1 1, oneD, .tuple [FI 0 1]])), none, d]) ⟨_, _, _, rfl⟩ (fun k d δ1 hd ⟨a, c, e0, e⟩ => ?_) (fun δ1 ⟨a, c, e0, e⟩ => ?_)
  · subst e
    have hdm := List.mem_of_getElem? hd
    refine wdb_ifF (WDT.is (wdt_ne (wde_repr (by exact hG) (by exact hr.units) rfl m_repr (wde_said hs six (n := 5) (d := .str "form") (k := 8) (by decide) TB hcode hm hu hr (by decide) rfl (lamP_by (by show lamPB nOthers (defScope sOthers) _ = true; decide +kernel)) (.bare rfl (fun _ _ _ _ _ => rfl)) (fun A outer s2 f c' H1 E2 hr2 => dx_call lam_passZ c_check_walk hr2 (by decide) rfl (da_cons (de_im (i := 4) rfl (.inr (.inr rfl)) rfl) (da_cons (de_im (i := 6) rfl (.inr (.inr rfl)) rfl) da_nil)) (.form lg_e yb_e (pap_form hdm)))) shwP (.inl rfl))
      (wde_repr (by exact hG) (by exact hr.units) rfl m_repr (wde_of fun H0 => (de_tup (da_cons de_str (da_cons de_str da_nil)) (Nat.le_of_ble_eq_true rfl))) shwP (.inl rfl))) (by simp [wordOf])) (wdb_nil ⟨_, _, _, rfl⟩)
  subst e
  -- a paper that does not hold
  refine wdb_set (i := 5) (d := .tuple [FI 1 1, .tuple [FI (-1) 2], .tuple [FI 0 1]]) scOthers.nd rfl (.inr rfl) (wde_of fun H0 => (de_tup (da_cons (de_tup (da_cons de_int (da_cons de_int da_nil)) (Nat.le_of_ble_eq_true rfl)) (da_cons (de_tup (da_cons (de_tup (da_cons (de_neg de_int) (da_cons de_int da_nil)) (Nat.le_of_ble_eq_true rfl)) da_nil) (Nat.le_of_ble_eq_true rfl)) (da_cons (de_tup (da_cons (de_tup (da_cons de_int (da_cons de_int da_nil)) (Nat.le_of_ble_eq_true rfl)) da_nil) (Nat.le_of_ble_eq_true rfl)) da_nil se_tup) se_tup)) (Nat.le_of_ble_eq_true rfl))) ?_
  refine wdb_ifF (WDT.is (wdt_ne (wde_repr (by exact hG) (by exact hr.units) rfl m_repr (wde_said hs six (n := 5) (d := .str "stay") (k := 8) (by decide) TB hcode hm hu hr (by decide) rfl (lamP_by (by show lamPB nOthers (defScope sOthers) _ = true; decide +kernel)) (.bare rfl (fun _ _ _ _ _ => rfl)) (fun A outer s2 f c' H1 E2 hr2 => dx_call lam_passZ c_check_walk hr2 (by decide) rfl (da_cons (de_im (i := 5) rfl (.inr (.inr rfl)) rfl) (da_cons (de_tup (da_cons de_str (da_cons de_bl da_nil)) (Nat.le_of_ble_eq_true rfl)) da_nil)) (.stay lg_f yb_f))) shwP (.inl rfl))
      (wde_repr (by exact hG) (by exact hr.units) rfl m_repr (wde_of fun H0 => (de_tup (da_cons de_str (da_cons de_str da_nil)) (Nat.le_of_ble_eq_true rfl))) shwP (.inl rfl))) (by simp [wordOf])) ?_
  refine wdb_ret (wde_of fun H0 => DE.is (de_and (de_cmp (op_eqD (by exact hr.units)) (de_callB call_len rfl m_len (by decide +kernel) (da_cons (de_call c_chances hr (by decide) rfl (da_cons (de_im (i := 0) rfl (.inr (.inl rfl)) rfl) (da_cons de_int (da_cons de_int da_nil))) (FrCh.ok (i := 0) (m := 12) g (by have := g.lo; omega) (by decide))) da_nil) c1_lenT) (de_bin op_add (de_callB call_len rfl m_len (by decide +kernel) (da_cons (de_im (i := 0) rfl (.inr (.inl rfl)) rfl) da_nil) c1_lenT) de_int v2_add) (v2_eq shp_int shp_int) (nomark _)) (fun g1 => (de_one (de_cmp (op_eqD (by exact hr.units)) (de_callB call_len rfl m_len (by decide +kernel) (da_cons (de_call c_back_row hr (by decide) rfl (da_cons (de_im (i := 0) rfl (.inr (.inl rfl)) rfl) (da_cons de_int da_nil)) (FrBr.ok (m := 8) g (by decide))) da_nil) c1_lenT) de_int (v2_eq shp_int shp_int) (nomark _))))) ?_) rfl
  show PyData.bool (PyData.eqv (.int ((VF (Am R 12 0) (R.n + 1)).length : Int)) (.int (((RTl R).length : Int) + 1)) && PyData.eqv (.int ((VF (row R) 9).length : Int)) (.int 9)) = .bool true
  rw [eqv_int, eqv_int, vf_len, vf_len, rtl_len]
  simp
end
end RS
set_option Elab.async false
set_option linter.all false
set_option maxRecDepth 100000
set_option maxHeartbeats 4000000
/-! part X2: a slice with a step, a tuple repeated, data over a draw -/
namespace RS
open PySem PySem.Spec PyProof.Rows L2 RM LamX
/-! a slice with a step -/
def pickL {α : Type} (xs : List α) (lo st : Option Int) : List α := (sliceRange (sliceBounds lo none st xs.length).1 (sliceBounds lo none st xs.length).2.1 (sliceBounds lo none st xs.length).2.2).filterMap (xs[·]?)
theorem vals_picked {xs : List V} {us : List Value} (r : Vals xs us) : ∀ l : List Nat, Vals (l.filterMap (xs[·]?)) (l.filterMap (us[·]?))
  | [] => .nil
  | i :: l => by
    have ih := vals_picked r l
    cases e : xs[i]? with
    | none =>
      have e2 := Vals.none_of r e
      simp only [List.filterMap_cons, e, e2]
      exact ih
    | some x =>
      obtain ⟨u, e2, ru⟩ := Vals.get r e
      simp only [List.filterMap_cons, e, e2]
      exact .cons ru ih
theorem dpa_picked {K : PySem.W.Frag} {H : Hp} {vs : List V} {ds : List PyData} (h : DpAll K H vs ds) : ∀ l : List Nat, DpAll K H (l.filterMap (vs[·]?)) (l.filterMap (ds[·]?))
  | [] => .nil
  | i :: l => by
    have ih := dpa_picked h l
    cases e : ds[i]? with
    | none =>
      have e2 : vs[i]? = none := by
        rw [List.getElem?_eq_none_iff] at e ⊢
        rw [dpa_len h]
        exact e
      simp only [List.filterMap_cons, e, e2]
      exact ih
    | some x =>
      obtain ⟨u, e2, ru⟩ := dpa_get h e
      simp only [List.filterMap_cons, e, e2]
      exact .cons ru ih
theorem dpa_pickL {K : PySem.W.Frag} {H : Hp} {vs : List V} {ds : List PyData} (h : DpAll K H vs ds) (lo st : Option Int) : DpAll K H (pickL vs lo st) (pickL ds lo st) := by
  unfold pickL
  rw [dpa_len h]
  exact dpa_picked h _
theorem mem_pickL {α : Type} {xs : List α} {lo st : Option Int} {x : α} (h : x ∈ pickL xs lo st) : x ∈ xs := by
  obtain ⟨i, _, e⟩ := List.mem_filterMap.mp h
  exact List.mem_of_getElem? e
def tSlSt (K : PySem.W.Frag) (k : Int) (te : TE) (tl : TO) : TE := fun σ H Q => te σ H fun x H1 => tl σ H1 fun l H2 => ∃ a xs, x = .ref a ∧ SqL K H2 a xs ∧ ∀ p, H2 p = none → Q (.ref p) (upd H2 p (.lst (pickL xs l (some k))))
section
variable {X : Cx}
theorem pe_slSt {e lo : Expr} {te : TE} {tl : TO} {k : Int} {j : Nat} {pk p2 pos : Pos} (he : PE X e te) (hl : PO X (some lo) tl) (hk : k ≠ 0) : PE X (.Subscript e (.Slice (some lo) none (some (.Constant (.int k) j pk)) p2) pos) (tSlSt X.K k te tl) := by
  refine ⟨fun pins s σ H Q I h => ?_⟩
  refine Subscript_ (thn (he.run pins s σ H _ I h) fun v sa ⟨x, Ha, Ia, ra, qa⟩ => ?_)
  refine wpAny_Slice (thn (hl.run pins sa σ Ha _ Ia qa) fun vl sb ⟨l, Hb, Ib, pl, qb⟩ => ?_)
  refine thn (po_none.run pins sb σ Hb (fun o Hn => o = none ∧ Hn = Hb) Ib ⟨rfl, rfl⟩) fun vu sc ⟨u, Hc, Ic, pu, eu, ec⟩ => ?_
  subst eu
  subst ec
  refine thn ((po_some (X := X) (e := .Constant (.int k) j pk) pe_int).run pins sc σ Hc (fun o Hn => o = some k ∧ Hn = Hc) Ic ⟨k, rfl, rfl, rfl⟩) fun vk sd ⟨o, Hd, Id, ps, eo, ed⟩ => ?_
  subst eo
  subst ed
  obtain ⟨a, xs, ex, hx, q⟩ := qb
  subst ex
  cases ra
  have Ie : Inv X pins σ Hd { sd with heap := sd.heap.push { cls := .type "slice", data := .fields #[vl, vu, vk] } } := Id.kept (t' := sd.toks) fun b ob hb => Heap.get?_push_of_some _ hb
  obtain ⟨its, r, ht, hz⟩ := Ie.list hx
  have hlen := r.length
  show wpAny (model X.prog X.w) X.A (subscriptTail e (.Slice (some lo) none (some (.Constant (.int k) j pk)) p2) (.ref a) (.ref sd.heap.objs.size)) (EP X pins σ Q) X.xe { sd with heap := sd.heap.push { cls := .type "slice", data := .fields #[vl, vu, vk] } }
  refine tail_any (ops := [.ref a, .ref sd.heap.objs.size]) ht.isList.typeIs (PySem.slot_list_getitem.lookup) ?_ (by with_unfolding_all rfl)
  refine wpAny_getItem_list_slice (st := some k) ht.isList (Heap.IsSliceOf.new _ vl vu vk) pl pu ps (fun z => hk (Option.some.inj z)) ?_ (by rw [List.size_toArray]; omega)
  have le := slicePick_size_le its.toArray l none (some k)
  have rp : Vals (pickL xs l (some k)) (slicePick its.toArray l none (some k)).toList := by
    have e1 : (slicePick its.toArray l none (some k)).toList = (sliceRange (sliceBounds l none (some k) xs.length).1 (sliceBounds l none (some k) xs.length).2.1 (sliceBounds l none (some k) xs.length).2.2).filterMap (its[·]?) := by
      simp [slicePick, hlen]
    rw [e1]
    exact vals_picked r _
  have rl := rp.length
  refine ⟨.ref _, _, Ie.laid (t' := sd.toks) (o := .lst (pickL xs l (some k))) (fun b ob hb => Heap.get?_push_of_some _ hb) (Nat.le_refl _) ?_, rfl, q _ (Ie.hok.fresh (Nat.le_refl _))⟩
  have e2 : its.toArray.size = its.length := by simp
  have e3 : (slicePick its.toArray l none (some k)).toList.length = (slicePick its.toArray l none (some k)).size := Array.length_toList
  refine ⟨by omega, _, 0, rp, ?_⟩
  rw [Array.toArray_toList]
  exact Heap.get?_push_size _ rfl
/-! a tuple repeated -/
variable {H0 : Hp} {δ : DSl} {a b : Expr} {ds : List PyData} {pos : Pos}
theorem de_repT {k : Int} {n : Nat} (ha : DE X H0 δ a (.tuple ds)) (hb : DE X H0 δ b (.int k)) (hk : k = n) (h2 : 2 ≤ n) (hn : n ≤ 1000) (hne : ds ≠ []) (hz : ds.length ≤ 1000) : DE X H0 δ (.BinOp a .Mult b pos) (.tuple (List.replicate n ds).flatten) := fun σ H S Q q =>
  we_of (pe_op op_repT pe_w pe_w) (ha σ H S _ fun v H1 e1 h1 => hb σ H1 (S.up e1) _ fun u H2 e2 d2 => by
    cases d2
    obtain ⟨pp, vs, rfl, h3, h4⟩ := dp_tup (Dp.up h1 e2)
    have hl := dpa_len h4
    refine ⟨pp, k, vs, rfl, rfl, h3, fun z => hne ?_, by omega, by omega, by omega, fun pn hp => ?_⟩
    · rw [z] at hl
      exact List.eq_nil_of_length_eq_zero hl.symm
    · have ek : k.toNat = n := by omega
      rw [ek]
      have e3 : Ex H2 (upd H2 pn (.tup (List.replicate n vs).flatten)) := Evl.Ex.new hp
      have aux : ∀ m : Nat, DpAll X.K H2 (List.replicate m vs).flatten (List.replicate m ds).flatten := fun m => by
        induction m with
        | zero => exact .nil
        | succ m ih =>
          rw [List.replicate_succ, List.replicate_succ, List.flatten_cons, List.flatten_cons]
          exact dpa_app h4 ih
      exact q _ _ ((e1.trans e2).trans e3) (.tup (SqT.of upd_same) ((aux n).up e3)))
end
/-! data over a draw: no list begins with an int -/
def headI : List PyData → Bool
  | .int _ :: _ => true
  | _ => false
mutual
def noI : PyData → Bool
  | .none | .bool _ | .int _ | .str _ => true
  | .list xs => !headI xs && noIs xs
  | .tuple xs => noIs xs
  | .dict _ => false
def noIs : List PyData → Bool
  | [] => true
  | x :: xs => noI x && noIs xs
end
section
variable {K : PySem.W.Frag} {H H' : Hp} {S c l : Addr} {N M : Nat}
theorem head_int {ms : List Int} {ds : List PyData} (h : DpAll K H (ms.map V.int) ds) (h0 : 0 < ms.length) : headI ds = true := by
  cases ms with
  | nil => cases h0
  | cons m ms =>
    cases h with
    | cons h1 _ =>
      cases h1
      rfl
theorem off_lst (st : StA H S c l N) {a : Addr} {xs : List V} {ds : List PyData} (ha : H a = some (.lst xs)) (hd : DpAll K H xs ds) (hn : headI ds = false) : a ≠ S ∧ a ≠ c ∧ a ≠ l := by
  obtain ⟨ms, ns, x, y, h1, h2, h3, _, h5, h6, _⟩ := st
  refine ⟨fun z => ?_, fun z => ?_, fun z => ?_⟩
  · rw [z, h1] at ha
    cases ha
  · rw [z, h2] at ha
    cases ha
    rw [head_int hd h6] at hn
    cases hn
  · rw [z, h3] at ha
    cases ha
    rw [head_int hd (by omega)] at hn
    cases hn
theorem off_oth (st : StA H S c l N) {a : Addr} {o : HO} (ha : H a = some o) (n1 : ∀ kv, o ≠ .dK kv) (n2 : ∀ xs, o ≠ .lst xs) : a ≠ S ∧ a ≠ c ∧ a ≠ l := by
  obtain ⟨ms, ns, x, y, h1, h2, h3, _⟩ := st
  refine ⟨fun z => ?_, fun z => ?_, fun z => ?_⟩
  · rw [z, h1] at ha
    exact n1 _ (Option.some.inj ha).symm
  · rw [z, h2] at ha
    exact n2 _ (Option.some.inj ha).symm
  · rw [z, h3] at ha
    exact n2 _ (Option.some.inj ha).symm
mutual
theorem dp_off (st : StA H S c l N) (off : Off S c l H H') : ∀ (d : PyData) (v : V), noI d = true → Dp K H v d → Dp K H' v d
  | .none, _, _, h => by cases h; exact .non
  | .bool b, _, _, h => by cases h; exact .bl b
  | .int i, _, _, h => by cases h; exact .int i
  | .str x, _, _, h => by cases h; exact .str x
  | .list ds, _, n, h => by
    have n' : headI ds = false ∧ noIs ds = true := by simpa [noI] using n
    cases h with
    | @lst a xs _ hs ha =>
      refine .lst (xs := xs) ?_ (dpa_off st off ds _ n'.2 ha)
      rcases hs with (hs | ⟨o, hs⟩) | hs
      · obtain ⟨a1, a2, a3⟩ := off_lst st hs ha n'.1
        exact .inl (.inl (off _ _ a1 a2 a3 hs))
      · obtain ⟨a1, a2, a3⟩ := off_oth st hs (fun _ z => by cases z) (fun _ z => by cases z)
        exact .inl (.inr ⟨o, off _ _ a1 a2 a3 hs⟩)
      · exact .inr hs
  | .tuple ds, _, n, h => by
    have n' : noIs ds = true := by simpa [noI] using n
    cases h with
    | tup hs ha => exact .tup (rd_seqT (off.tx st) hs) (dpa_off st off ds _ n' ha)
  | .dict _, _, _, h => by cases h
theorem dpa_off (st : StA H S c l N) (off : Off S c l H H') : ∀ (ds : List PyData) (vs : List V), noIs ds = true → DpAll K H vs ds → DpAll K H' vs ds
  | [], _, _, h => by cases h; exact .nil
  | d :: ds, _, n, h => by
    have n' : noI d = true ∧ noIs ds = true := by simpa [noIs] using n
    cases h with
    | cons h1 h2 => exact .cons (dp_off st off d _ n'.1 h1) (dpa_off st off ds _ n'.2 h2)
end
theorem tabs_off {T : List (Addr × Str)} (st : StA H S c l N) (off : Off S c l H H') (hT : Tabs T H) : Tabs T H' := fun p hp => by
  obtain ⟨ps, h1, h2, h3⟩ := hT p hp
  obtain ⟨a1, a2, a3⟩ := off_oth st h1 (fun _ z => by cases z) (fun _ z => by cases z)
  refine ⟨ps, off _ _ a1 a2 a3 h1, h2, fun po cv hcv => ?_⟩
  obtain ⟨c0, z1, z2⟩ := h3 po cv hcv
  obtain ⟨b1, b2, b3⟩ := off_oth st z2 (fun _ z => by unfold CodeO at z; cases z) (fun _ z => by unfold CodeO at z; cases z)
  exact ⟨c0, z1, off _ _ b1 b2 b3 z2⟩
theorem tabs_extA {T : List (Addr × Str)} {H1 : Hp} (e : Ex H H1) (hT : Tabs T H) : Tabs T H1 := hT.ext e
end
/-! statements that hand back at the end -/
def WDC (X : Cx) (T : List (Addr × Str)) (δ : WSl) (ss : List Stmt) (fin : VK) : Prop := ∀ σ H D, Tabs T H → Ws X.K H σ δ → (∀ v H', fin v H' → D.rt v H') → WB X ss D σ H
section
variable {X : Cx} {T : List (Addr × Str)} {δ : WSl} {e a b c : Expr} {x y u : PyData} {ds : List PyData} {pos p : Pos} {rest : List Stmt} {fin : VK} {z : Str} {i j l : Nat}
theorem wdc_setP (hN : X.N.Nodup) (hi : X.N[i]? = some z) (hx : Loc X.env.scope z) (h : WDO X T δ e ds) (k : WDC X T (δ.set i (some (.pl ds))) rest fin) (hs : swapsWith e (some (.Name z p)) pos.line X.env = pure false := by rfl)
    (hf : X.fn z = true ∨ X.env.scope.names.lookup z = some .local := by first | exact .inl rfl | exact .inr rfl) : WDC X T δ (.Assign [.Name z p] e pos :: rest) fin := fun σ H D hT S kr =>
  wb_of (pss_cons (ps_set hN hi hx pe_w hs hf) pb_w) (h σ H hT S _ fun q H1 vs e1 t1 d1 d2 => k _ H1 D t1 ((S.ext e1).set (z := .pl ds) ⟨q, vs, rfl, d1, d2⟩) kr)
theorem dpa_c {K : PySem.W.Frag} {H : Hp} {vs : List V} {d : PyData} {ds : List PyData} (h : DpAll K H vs (d :: ds)) : ∃ v ws, vs = v :: ws ∧ Dp K H v d ∧ DpAll K H ws ds := by
  cases h with
  | cons h1 h2 => exact ⟨_, _, rfl, h1, h2⟩
theorem wdc_asg3 {x1 y1 u1 : Str} {px py pu pt : Pos} {kt : Nat} (hc : X.calm = true) (hN : X.N.Nodup) (hi : X.N[i]? = some x1) (hj : X.N[j]? = some y1) (hl : X.N[l]? = some u1) (hx : Loc X.env.scope x1) (hy : Loc X.env.scope y1) (hu : Loc X.env.scope u1) (h : WDE X T δ e (.tuple [x, y, u]))
    (k : WDC X T (((δ.set i (some (.im x))).set j (some (.im y))).set l (some (.im u))) rest fin)
    (hfx : X.fn x1 = true ∨ X.env.scope.names.lookup x1 = some .local := by first | exact .inl rfl | exact .inr rfl) (hfy : X.fn y1 = true ∨ X.env.scope.names.lookup y1 = some .local := by first | exact .inl rfl | exact .inr rfl) (hfu : X.fn u1 = true ∨ X.env.scope.names.lookup u1 = some .local := by first | exact .inl rfl | exact .inr rfl)
    (hs : swapsWithSole [.Tuple [.Name x1 px, .Name y1 py, .Name u1 pu] kt pt] e pos.line X.env = pure false := by rfl) (hw : swappedStores [.Tuple [.Name x1 px, .Name y1 py, .Name u1 pu] kt pt] e X.env = pure none := by rfl) :
    WDC X T δ (.Assign [.Tuple [.Name x1 px, .Name y1 py, .Name u1 pu] kt pt] e pos :: rest) fin := fun σ H D hT S kr => by
  refine wb_of (pss_cons (ps_asg pe_w (pg_tup (n := 3) hc (pgs_cons (pg_name hN hi hx hfx) (pgs_cons (pg_name hN hj hy hfy) (pgs_cons (pg_name hN hl hu hfu) pgs_nil)))) hs hw) pb_w) ?_
  show WE X e σ H (fun v H1 => gTup X.K 3 (gCons (gName i) (gCons (gName j) (gCons (gName l) gNil))) v σ H1 (fun σ' H' => WB X rest D σ' H'))
  refine h σ H hT S _ fun v H1 e1 t1 d1 => ?_
  obtain ⟨q, vs, rfl, h3, h4⟩ := dp_tup d1
  obtain ⟨v1, vs1, rfl, a1, b1⟩ := dpa_c h4
  obtain ⟨v2, vs2, rfl, a2, b2⟩ := dpa_c b1
  obtain ⟨v3, vs3, rfl, a3, b3⟩ := dpa_c b2
  have en : vs3 = [] := by cases b3; rfl
  subst en
  have S3 := (((S.ext e1).set (i := i) (z := .im x) a1).set (i := j) (z := .im y) a2).set (i := l) (z := .im u) a3
  have fin := k _ H1 D t1 S3 kr
  exact ⟨q, [v1, v2, v3], rfl, h3, rfl, v1, [v2, v3], rfl, v2, [v3], rfl, v3, [], rfl, rfl, fin⟩
theorem wdc_ret (h : WDE X T δ e x) (hr : ∀ σ v H', Tabs T H' → Ws X.K H' σ δ → Dp X.K H' v x → fin v H') : WDC X T δ (.Return (some e) pos :: rest) fin := fun σ H D hT S kr => wb_of (pss_cons (ps_ret pe_w) pb_w) (h σ H hT S _ fun v H1 e1 t1 d1 => kr v H1 (hr σ v H1 t1 (S.ext e1) d1))
end
end RS
set_option Elab.async false
set_option linter.all false
set_option maxRecDepth 100000
set_option maxHeartbeats 4000000
/-! part X3: what are no rates is refused -/
namespace RS
open PySem PySem.Spec PyProof.Rows L2 RM LamX
abbrev sRef : Stmt := topS 80
abbrev nRef : List Str := ["_law_state", "_law_half", "_law_nought", "_law_sure", "_law_odds", "_law_told", "_law_odd"]
theorem scRef : FnScope nRef ["_law_state"] (defScope sRef) := ⟨rfl, rfl, rfl, by decide +kernel, rfl, by decide +kernel, by decide +kernel⟩
def qRef : Str := "_law_rates_refused.<locals>.<lambda>"
def spRef (T : List (Addr × Str)) : Sp := fun vs H Q _ => ∃ (S c l : Addr) (N : Nat), vs = [.ref S] ∧ StA H S c l N ∧ N ≤ 2 ^ 239 ∧ Tabs T H ∧ ∀ H', Tabs T H' → StA H' S c l (N + 1) → Q (.bl true) H'
abbrev hf : PyData := FI 1 2
abbrev nt : PyData := FI 0 1
abbrev sr : PyData := FI 1 1
abbrev hhn : PyData := .tuple [hf, hf, nt]
def odd1 : List PyData := [.none, .tuple [], .tuple [hhn, hhn, hhn, hhn, hhn, hhn], .tuple [.tuple [hf, hf, hf]], .tuple [.tuple [hf, nt, hf]]]
def odd2 : List PyData := [.tuple [.tuple [nt, sr, nt], .tuple [nt, sr, nt]], .list [hhn], .tuple [.tuple [hf, hf]]]
def odd3 : List PyData := [.tuple [.tuple [hf, FI 1 3, nt]], .tuple [.tuple [FI 2 4, hf, nt]]]
def odd4 : List PyData := [.tuple [hhn, hhn], .tuple [.tuple [FI 3 2, FI (-1) 2, nt]], .tuple [.tuple [.int 1, .int 0, .int 0]], .tuple [.none]]
def oddsD : List PyData := odd1 ++ odd2 ++ odd3 ++ odd4
/-- what each of them keeps -/
structure Odd (d : PyData) : Prop where
  t : Tpl d
  n : areRates d = false
  s : Sm d 20 100000
theorem odd_t {d : PyData} (h : okD d = true) (n : areRates d = false) (s : Sm d 20 100000) : Odd d := ⟨Tpl.of h, n, s⟩
theorem smT {ds : List PyData} {n w : Nat} (h : SmA ds n w) : Sm (.tuple ds) (n + 1) (4 + w) := sm_tup h
theorem sm3 {a b c : PyData} (ha : Sm a 1 4008) (hb : Sm b 1 4008) (hc : Sm c 1 4008) : Sm (.tuple [a, b, c]) 2 12100 := (sm_tup (sma_cons ha (sma_cons hb (sma_cons hc (sma_nil (n := 0)))))).le (by decide) (by decide)
theorem smH : Sm hhn 2 12100 := sm3 smF smF smF
theorem sm1 {a : PyData} {w : Nat} (h : Sm a 2 w) (hw : w ≤ 20000 := by decide) : Sm (.tuple [a]) 20 100000 := (sm_tup (sma_cons h (sma_nil (n := 0)))).le (by decide) (by omega)
theorem odds_all {d : PyData} (h : d ∈ oddsD) : Odd d := by
  simp only [oddsD, odd1, odd2, odd3, odd4, List.cons_append, List.nil_append, List.mem_cons, List.not_mem_nil, or_false] at h
  rcases h with rfl | rfl | rfl | rfl | rfl | rfl | rfl | rfl | rfl | rfl | rfl | rfl | rfl | rfl
  · exact ⟨tpl_not rfl, rfl, sm_none.le (by decide) (by decide)⟩
  · exact odd_t (by decide +kernel) (by decide +kernel) ((sm_tup (sma_nil (n := 0))).le (by decide) (by decide))
  · exact odd_t (by decide +kernel) (by decide +kernel) ((sm_tup (sma_cons smH (sma_cons smH (sma_cons smH (sma_cons smH (sma_cons smH (sma_cons smH (sma_nil (n := 0))))))))).le (by decide) (by decide))
  · exact odd_t (by decide +kernel) (by decide +kernel) (sm1 (sm3 smF smF smF))
  · exact odd_t (by decide +kernel) (by decide +kernel) (sm1 (sm3 smF smF smF))
  · exact odd_t (by decide +kernel) (by decide +kernel) ((sm_tup (sma_cons (sm3 smF smF smF) (sma_cons (sm3 smF smF smF) (sma_nil (n := 0))))).le (by decide) (by decide))
  · exact ⟨tpl_not rfl, rfl, (sm_lst (sma_cons smH (sma_nil (n := 0)))).le (by decide) (by decide)⟩
  · exact odd_t (by decide +kernel) (by decide +kernel) ((sm_tup (sma_cons (sm_tup (sma_cons smF (sma_cons smF (sma_nil (n := 0))))) (sma_nil (n := 0)))).le (by decide) (by decide))
  · exact odd_t (by decide +kernel) (by decide +kernel) (sm1 (sm3 smF smF smF))
  · exact odd_t (by decide +kernel) (by decide +kernel) (sm1 (sm3 smF smF smF))
  · exact odd_t (by decide +kernel) (by decide +kernel) ((sm_tup (sma_cons smH (sma_cons smH (sma_nil (n := 0))))).le (by decide) (by decide))
  · exact odd_t (by decide +kernel) (by decide +kernel) (sm1 (sm3 smF smF smF))
  · exact odd_t (by decide +kernel) (by decide +kernel) ((sm_tup (sma_cons (sm_tup (sma_cons (sm_int (by decide +kernel)) (sma_cons (sm_int (by decide +kernel)) (sma_cons (sm_int (by decide +kernel)) (sma_nil (n := 0)))))) (sma_nil (n := 0)))).le (by decide) (by decide))
  · exact odd_t (by decide +kernel) (by decide +kernel) ((sm_tup (sma_cons sm_none (sma_nil (n := 0)))).le (by decide) (by decide))
theorem odds_noI : noIs oddsD = true := by decide +kernel
theorem odds_len : oddsD.length = 14 := rfl
section
variable {P : Program} {w : World} {K : PySem.W.Frag} {mg : Str → Option Value} {base : Heap} {S : Nat → Addr} {cA pA : Addr} {T : List (Addr × Str)}
theorem cn_ref {GW : Rt → PyData} {GR GF : Rt → Nat → PyData} {GM : Rt → PyData} (h : Hd K mg "_law_rates_refused" sRef ["_law_state"]) (hs : Hd K mg "_law_said" sSaid ["_law_call"]) (six : Six P w K mg base S) (m_repr : mg "repr" = none)
    (TB : TabB base mg cA pA) (hcA : ∀ cdv, CodeAt K mg "_law_rates_refused" cdv → cdv = .ref cA) (hm : (pA, qRef) ∈ T) (hu : ∀ p ∈ T, p.1 = pA → p.2 = qRef) (cd : CnG P w K mg base "_law_draw" 2 spDraw)
    (c_need_rates : Cn P w K mg base "need_rates" 7 (frNeed (S 0))) (c_is_closed : Cn P w K mg base "is_closed" 8 (frBad (S 0))) (c_chances : Cn P w K mg base "chances" 8 (FrCh (S 0) (S 1) (S 2))) (c_back_row : Cn P w K mg base "back_row" 8 (FrBr (S 0) (S 2) GR)) (c_walk_ladder : Cn P w K mg base "walk_ladder" 8 (frBad (S 0)))
    (c_rung_weights : Cn P w K mg base "rung_weights" 8 (FrRW (S 0) GW)) (c_first_backs : Cn P w K mg base "first_backs" 8 (FrBr (S 0) (S 2) GF)) (c_mean_back : Cn P w K mg base "mean_back" 8 (FrRW (S 0) GM)) : CnG P w K mg base "_law_rates_refused" 11 (spRef T) := by
  refine h.cnG scRef (fun vs H Q E q => by obtain ⟨_, _, _, _, e, _⟩ := q; rw [e]; rfl) fun f cdv A outer s H vs Q E q hr hG hcd => ?_
  obtain ⟨S1, c, l, N, rfl, st, hN, hT, q⟩ := q
  have hNN : N ≤ 2 ^ 240 := by
    have e : (2 : Nat) ^ 239 ≤ 2 ^ 240 := by decide +kernel
    omega
  have S0 : Ws K H (L2.start nRef [.ref S1]) [some (.st S1 c l N), none, none, none, none, none, none] := by
    refine ⟨rfl, fun i z e => ?_⟩
    match i with
    | 0 =>
      cases e
      exact ⟨.ref S1, rfl, rfl, st⟩
    | 1 | 2 | 3 | 4 | 5 | 6 => cases e
    | n + 7 => simp at e
  have hcode : (fnX P w K mg base nRef "_law_rates_refused" sRef f cdv A outer s H E).env.code = .ref cA := hcA cdv hcd
  refine (show WDC (fnX P w K mg base nRef "_law_rates_refused" sRef f cdv A outer s H E) T [some (.st S1 c l N), none, none, none, none, none, none] (defBody sRef) (fun v H' => v = .bl true ∧ Tabs T H' ∧ StA H' S1 c l (N + 1)) from ?_) _ H _ hT S0 (fun v H' ⟨e, t, s'⟩ => by rw [e]; exact q H' t s')
  refine wdc_asg3 (i := 1) (j := 2) (l := 3) (x := hf) (y := nt) (u := sr) rfl scRef.nd rfl rfl rfl (.inl rfl) (.inl rfl) (.inl rfl) (wde_of fun H0 => (de_tup (da_cons (de_tup (da_cons de_int (da_cons de_int da_nil)) (Nat.le_of_ble_eq_true rfl)) (da_cons (de_tup (da_cons de_int (da_cons de_int da_nil)) (Nat.le_of_ble_eq_true rfl)) (da_cons (de_tup (da_cons de_int (da_cons de_int da_nil)) (Nat.le_of_ble_eq_true rfl)) da_nil))) (Nat.le_of_ble_eq_true rfl))) ?_
  refine wdc_setP (i := 4) (ds := odd1) scRef.nd rfl (.inl rfl) (wdo_of fun H0 => dl_lst (da_cons de_non (da_cons (de_tup da_nil (Nat.le_of_ble_eq_true rfl)) (da_cons (DE.is (de_repT (n := 6) (de_tup (da_cons (de_tup (da_cons (de_im (i := 1) rfl (.inl rfl) rfl) (da_cons (de_im (i := 1) rfl (.inl rfl) rfl) (da_cons (de_im (i := 2) rfl (.inl rfl) rfl) da_nil))) (Nat.le_of_ble_eq_true rfl)) da_nil) (Nat.le_of_ble_eq_true rfl)) de_int rfl (by decide) (by decide) (by simp) (by decide)) rfl) (da_cons (de_tup (da_cons (de_tup (da_cons (de_im (i := 1) rfl (.inl rfl) rfl) (da_cons (de_im (i := 1) rfl (.inl rfl) rfl) (da_cons (de_im (i := 1) rfl (.inl rfl) rfl) da_nil))) (Nat.le_of_ble_eq_true rfl)) da_nil) (Nat.le_of_ble_eq_true rfl)) (da_cons (de_tup (da_cons (de_tup (da_cons (de_im (i := 1) rfl (.inl rfl) rfl) (da_cons (de_im (i := 2) rfl (.inl rfl) rfl) (da_cons (de_im (i := 1) rfl (.inl rfl) rfl) da_nil))) (Nat.le_of_ble_eq_true rfl)) da_nil) (Nat.le_of_ble_eq_true rfl)) da_nil))))) (Nat.le_of_ble_eq_true rfl)) ?_
  refine wdc_setP (i := 4) (ds := odd1 ++ odd2) scRef.nd rfl (.inl rfl) (wdo_cat (wdo_name (i := 4) rfl (.inl rfl) rfl) (wdo_of fun H0 => dl_lst (da_cons (DE.is (de_repT (n := 2) (de_tup (da_cons (de_tup (da_cons (de_im (i := 2) rfl (.inl rfl) rfl) (da_cons (de_im (i := 3) rfl (.inl rfl) rfl) (da_cons (de_im (i := 2) rfl (.inl rfl) rfl) da_nil))) (Nat.le_of_ble_eq_true rfl)) da_nil) (Nat.le_of_ble_eq_true rfl)) de_int rfl (by decide) (by decide) (by simp) (by decide)) rfl) (da_cons (DL.de (dl_lst (da_cons (de_tup (da_cons (de_im (i := 1) rfl (.inl rfl) rfl) (da_cons (de_im (i := 1) rfl (.inl rfl) rfl) (da_cons (de_im (i := 2) rfl (.inl rfl) rfl) da_nil))) (Nat.le_of_ble_eq_true rfl)) da_nil) (Nat.le_of_ble_eq_true rfl))) (da_cons (de_tup (da_cons (de_tup (da_cons (de_im (i := 1) rfl (.inl rfl) rfl) (da_cons (de_im (i := 1) rfl (.inl rfl) rfl) da_nil)) (Nat.le_of_ble_eq_true rfl)) da_nil) (Nat.le_of_ble_eq_true rfl)) da_nil))) (Nat.le_of_ble_eq_true rfl)) (Nat.le_of_ble_eq_true rfl)) ?_
  refine wdc_setP (i := 4) (ds := odd1 ++ odd2 ++ odd3) scRef.nd rfl (.inl rfl) (wdo_cat (wdo_name (i := 4) rfl (.inl rfl) rfl) (wdo_of fun H0 => dl_lst (da_cons (de_tup (da_cons (de_tup (da_cons (de_im (i := 1) rfl (.inl rfl) rfl) (da_cons (de_tup (da_cons de_int (da_cons de_int da_nil)) (Nat.le_of_ble_eq_true rfl)) (da_cons (de_im (i := 2) rfl (.inl rfl) rfl) da_nil))) (Nat.le_of_ble_eq_true rfl)) da_nil se_tup) (Nat.le_of_ble_eq_true rfl)) (da_cons (de_tup (da_cons (de_tup (da_cons (de_tup (da_cons de_int (da_cons de_int da_nil)) (Nat.le_of_ble_eq_true rfl)) (da_cons (de_im (i := 1) rfl (.inl rfl) rfl) (da_cons (de_im (i := 2) rfl (.inl rfl) rfl) da_nil))) (Nat.le_of_ble_eq_true rfl)) da_nil se_tup) (Nat.le_of_ble_eq_true rfl)) da_nil)) (Nat.le_of_ble_eq_true rfl)) (Nat.le_of_ble_eq_true rfl)) ?_
  refine wdc_setP (i := 4) (ds := oddsD) scRef.nd rfl (.inl rfl) (wdo_cat (wdo_name (i := 4) rfl (.inl rfl) rfl) (wdo_of fun H0 => dl_lst (da_cons (de_tup (da_cons (de_tup (da_cons (de_im (i := 1) rfl (.inl rfl) rfl) (da_cons (de_im (i := 1) rfl (.inl rfl) rfl) (da_cons (de_im (i := 2) rfl (.inl rfl) rfl) da_nil))) (Nat.le_of_ble_eq_true rfl)) (da_cons (de_tup (da_cons (de_im (i := 1) rfl (.inl rfl) rfl) (da_cons (de_im (i := 1) rfl (.inl rfl) rfl) (da_cons (de_im (i := 2) rfl (.inl rfl) rfl) da_nil))) (Nat.le_of_ble_eq_true rfl)) da_nil)) (Nat.le_of_ble_eq_true rfl)) (da_cons (de_tup (da_cons (de_tup (da_cons (de_tup (da_cons de_int (da_cons de_int da_nil)) (Nat.le_of_ble_eq_true rfl)) (da_cons (de_tup (da_cons (de_neg de_int) (da_cons de_int da_nil)) (Nat.le_of_ble_eq_true rfl)) (da_cons (de_im (i := 2) rfl (.inl rfl) rfl) da_nil))) (Nat.le_of_ble_eq_true rfl)) da_nil se_tup) (Nat.le_of_ble_eq_true rfl)) (da_cons (de_tup (da_cons (de_tup (da_cons de_int (da_cons de_int (da_cons de_int da_nil))) (Nat.le_of_ble_eq_true rfl)) da_nil) (Nat.le_of_ble_eq_true rfl)) (da_cons (de_tup (da_cons de_non da_nil) (Nat.le_of_ble_eq_true rfl)) da_nil)))) (Nat.le_of_ble_eq_true rfl)) (Nat.le_of_ble_eq_true rfl)) ?_
  -- the loop's head draws
  intro σ1 H1 D T1 W1 kr
  have s0 := W1.at_ 0 _ rfl
  have s4 := W1.at_ 4 _ rfl
  obtain ⟨v0, σ0, e0, st1⟩ := s0
  subst e0
  obtain ⟨v4, σ4, p4, vs4, e4, hp4, dp4⟩ := s4
  subst e4
  refine wb_of (pss_cons (ps_for fn_own rfl (pi_list (pe_op op_cat (pe_slSt (pe_var (i := 4) rfl (.inl rfl)) (po_some pe_w) (by decide)) (pe_lst (pa_cons (pe_ix ix_list (pe_var (i := 4) rfl (.inl rfl)) pe_int (fun _ _ => rfl)) pa_nil)))) (pg_name (i := 6) scRef.nd rfl (.inr rfl)) pb_w (by intro _; rfl)) pb_w) ?_
  refine ⟨_, σ4, we_callG cd hr (by decide) hG rfl (wa_of (pa_cons (pe_var (i := 0) rfl (.inl rfl)) (pa_cons pe_int pa_nil)) ⟨_, σ0, S1, c, l, N, 3, rfl, by decide, by decide, st1, hNN, fun r H2 hr2 off st2 => ⟨r, rfl, p4, vs4, rfl, ?_⟩⟩)⟩
  have hx0 : headI oddsD = false := rfl
  obtain ⟨n1, n2, n3⟩ := off_lst st1 hp4 dp4 hx0
  have hp2 : H2 p4 = some (.lst vs4) := off _ _ n1 n2 n3 hp4
  have dp2 : DpAll K H2 vs4 oddsD := dpa_off st1 off _ _ odds_noI dp4
  have T2 : Tabs T H2 := tabs_off st1 off T1
  have W2 : Ws K H2 σ1 [some (.st S1 c l (N + 1)), some (.im hf), some (.im nt), some (.im sr), some (.pl oddsD), none, none] := by
    have W1' := W1
    refine ⟨W1'.len, fun i z e => ?_⟩
    have im : ∀ {d : PyData} {i : Nat}, noI d = true → [some (Wd.st S1 c l N), some (.im hf), some (.im nt), some (.im sr), some (.pl oddsD), none, none][i]? = some (some (.im d)) → ∃ v, σ1[i]? = some (some v) ∧ WdOk K H2 v (.im d) := fun {d i} hn hi => by
      obtain ⟨v, z1, z2⟩ := W1'.at_ i _ hi
      exact ⟨v, z1, dp_off st1 off _ _ hn z2⟩
    match i with
    | 0 => cases e; exact ⟨_, σ0, rfl, st2⟩
    | 1 => cases e; exact im rfl rfl
    | 2 => cases e; exact im rfl rfl
    | 3 => cases e; exact im rfl rfl
    | 4 => cases e; exact ⟨_, σ4, p4, vs4, rfl, hp2, dp2⟩
    | 5 => cases e
    | 6 => cases e
    | n + 7 => simp at e
  refine ⟨SqL.of hp2, fun ps hps => ?_⟩
  have e3 : Ex H2 (upd H2 ps (.lst (pickL vs4 (some (r : Int)) (some 3)))) := Evl.Ex.new hps
  have at3 : (upd H2 ps (.lst (pickL vs4 (some (r : Int)) (some 3)))) ps = some (.lst (pickL vs4 (some (r : Int)) (some 3))) := upd_same
  generalize upd H2 ps (.lst (pickL vs4 (some (r : Int)) (some 3))) = H3 at e3 at3
  obtain ⟨w3, hw3, dw3⟩ := dpa_at dp2 (i := 3) (d := .tuple [.tuple [hf, hf, hf]]) rfl
  refine ⟨_, σ4, p4, vs4, 3, w3, rfl, rfl, SqL.of (e3 _ _ hp2), hw3, by show 1 ≤ sizeLine; decide, fun pl hpl => ?_⟩
  have e4 : Ex H3 (upd H3 pl (.lst [w3])) := Evl.Ex.new hpl
  have at4 : (upd H3 pl (.lst [w3])) pl = some (.lst [w3]) := upd_same
  generalize upd H3 pl (.lst [w3]) = H4 at e4 at4
  have lenP : (pickL vs4 (some (r : Int)) (some 3)).length ≤ 14 := by
    have lv := dpa_len dp2
    rw [odds_len] at lv
    unfold pickL
    rw [lv]
    match r, hr2 with
    | 0, _ => exact Nat.le_trans (List.length_filterMap_le _ _) (by decide +kernel)
    | 1, _ => exact Nat.le_trans (List.length_filterMap_le _ _) (by decide +kernel)
    | 2, _ => exact Nat.le_trans (List.length_filterMap_le _ _) (by decide +kernel)
  refine ⟨ps, pl, _, _, rfl, rfl, e4 _ _ at3, at4, Evl.sz_of (by simp; omega), fun pn hpn => ?_⟩
  have e5 : Ex H4 (upd H4 pn (.lst (pickL vs4 (some (r : Int)) (some 3) ++ [w3]))) := Evl.Ex.new hpn
  have at5 : (upd H4 pn (.lst (pickL vs4 (some (r : Int)) (some 3) ++ [w3]))) pn = some (.lst (pickL vs4 (some (r : Int)) (some 3) ++ [w3])) := upd_same
  generalize upd H4 pn (.lst (pickL vs4 (some (r : Int)) (some 3) ++ [w3])) = H5 at e5 at5
  have e25 : Ex H2 H5 := (e3.trans e4).trans e5
  obtain ⟨itD, hitD⟩ : ∃ itD : List PyData, itD = pickL oddsD (some (r : Int)) (some 3) ++ [.tuple [.tuple [hf, hf, hf]]] := ⟨_, rfl⟩
  have dp5 : DpAll K H5 (pickL vs4 (some (r : Int)) (some 3) ++ [w3]) itD := by
    rw [hitD]
    exact (dpa_app (dpa_pickL dp2 _ _) (.cons dw3 .nil)).up e25
  have hin : ∀ d ∈ itD, Odd d := fun d hd => by
    rw [hitD] at hd
    rcases List.mem_append.mp hd with z | z
    · exact odds_all (mem_pickL z)
    · rw [List.mem_singleton] at z
      subst z
      exact odds_all (List.mem_of_getElem? (i := 3) rfl)
  generalize pickL vs4 (some (r : Int)) (some 3) ++ [w3] = vs5 at at5 dp5
  refine ⟨pn, rfl, ⟨_, SqL.of at5⟩, ?_⟩
  refine for_it (wk_list0 (a := pn) (vs := vs5) (ds := itD) (dpa_len dp5)) (Pv := fun k σ' H' => ∃ a b, Tabs T H' ∧ Ws K H' σ' [some (.st S1 c l (N + 1)), some (.im hf), some (.im nt), some (.im sr), some (.pl oddsD), a, b] ∧ ExtN H5 H') ⟨none, none, T2.ext e25, W2.ext (.of e25), ExtN.refl _⟩ (fun k σ' H' _ ⟨a, b, _, _, ex⟩ => ⟨ext_l ex (SqL.of at5), dpa_ext ex _ _ dp5⟩) (fun k x σ' H' H'' hk pv y => ?_) (fun σ' H' ⟨a, b, t1, s1, ex⟩ => ?_)
  · obtain ⟨a, b, t1, s1, ex⟩ := pv
    obtain ⟨rfl, y2⟩ := y
    have hy : itD[k]? = some itD[k] := by simp [hk]
    have od := hin _ (List.mem_of_getElem? hy)
    have dx := y2 _ hy
    generalize itD[k] = d at od dx
    have s2 := s1.set (i := 6) (z := .im d) dx
    refine (show WDB (fnX P w K mg base nRef "_law_rates_refused" sRef f cdv A outer s H E) T [some (.st S1 c l (N + 1)), some (.im hf), some (.im nt), some (.im sr), some (.pl oddsD), a, some (.im d)] _ (fun δ' => ∃ a b, δ' = [some (.st S1 c l (N + 1)), some (.im hf), some (.im nt), some (.im sr), some (.pl oddsD), a, b]) (fun _ => False) from ?_) _ _ _ t1 s2 (fun δ' σ3 H3 n3 t3 s3 e3 => ?_) (fun _ _ _ z => z.elim)
    · have hp0 := sm_tup (sma_cons (str_w (x := "rates")) (sma_cons od.s (sma_nil (n := 0))))
      have shw8 : Shw (.list [.tuple [.str "rates", d], .tuple [.str "rates", d], .tuple [.str "rates", d], .tuple [.str "rates", d], .tuple [.str "rates", d], .tuple [.str "rates", d], .tuple [.str "rates", d], .tuple [.str "rates", d]]) := (sm_lst (sma_cons hp0 (sma_cons hp0 (sma_cons hp0 (sma_cons hp0 (sma_cons hp0 (sma_cons hp0 (sma_cons hp0 (sma_cons hp0 (sma_nil (n := 0))))))))))).shw
      refine wdb_setP (i := 5) (ds := List.replicate 2 (.tuple [.str (wordOf 0), d])) scRef.nd rfl (.inl rfl) (wdo_lst (wda_cons (wde_said hs six (n := 0) (d := d) (k := 8) (by decide) TB hcode hm hu hr (by decide) rfl (lamP_by (by show lamPB nRef (defScope sRef) _ = true; decide +kernel)) (.bare rfl (fun _ _ _ _ _ => rfl)) (fun A outer s2 f c' H1 E2 hr2 => dx_call lam_passZ c_need_rates hr2 (by decide) rfl (da_cons (de_im (i := 6) rfl (.inr (.inr rfl)) rfl) da_nil) (need_bad od.t od.n)))
        (wda_cons (wde_said hs six (n := 0) (d := d) (k := 8) (by decide) TB hcode hm hu hr (by decide) rfl (lamP_by (by show lamPB nRef (defScope sRef) _ = true; decide +kernel)) (.one rfl (y := "_law_y") rfl (fun _ _ _ _ _ _ => ⟨_, rfl, fun _ => rfl⟩)) (fun A outer s2 f c' H1 E2 hr2 => dx_call lam_passZ c_is_closed hr2 (by decide) rfl (da_cons (de_im (i := 6) rfl (.inr (.inr rfl)) rfl) da_nil) ⟨d, rfl, od.t, od.n, rfl⟩)) wda_nil)) (Nat.le_of_ble_eq_true rfl)) ?_
      refine wdb_setP (i := 5) (ds := List.replicate 4 (.tuple [.str (wordOf 0), d])) scRef.nd rfl (.inl rfl) (WDO.is (wdo_cat (ds := List.replicate 2 (.tuple [.str (wordOf 0), d])) (es := List.replicate 2 (.tuple [.str (wordOf 0), d])) (wdo_name (i := 5) rfl (.inl rfl) rfl) (wdo_lst (wda_cons (wde_said hs six (n := 0) (d := d) (k := 8) (by decide) TB hcode hm hu hr (by decide) rfl (lamP_by (by show lamPB nRef (defScope sRef) _ = true; decide +kernel)) (.bare rfl (fun _ _ _ _ _ => rfl)) (fun A outer s2 f c' H1 E2 hr2 => dx_call lam_passZ c_chances hr2 (by decide) rfl (da_cons (de_im (i := 6) rfl (.inr (.inr rfl)) rfl) (da_cons de_non (da_cons de_non da_nil))) (.bad od.t od.n)))
        (wda_cons (wde_said hs six (n := 0) (d := d) (k := 8) (by decide) TB hcode hm hu hr (by decide) rfl (lamP_by (by show lamPB nRef (defScope sRef) _ = true; decide +kernel)) (.one rfl (y := "_law_y") rfl (fun _ _ _ _ _ _ => ⟨_, rfl, fun _ => rfl⟩)) (fun A outer s2 f c' H1 E2 hr2 => dx_call lam_passZ c_back_row hr2 (by decide) rfl (da_cons (de_im (i := 6) rfl (.inr (.inr rfl)) rfl) (da_cons de_non da_nil)) (.bad od.t od.n))) wda_nil)) (Nat.le_of_ble_eq_true rfl)) (Nat.le_of_ble_eq_true rfl)) rfl) ?_
      refine wdb_setP (i := 5) (ds := List.replicate 6 (.tuple [.str (wordOf 0), d])) scRef.nd rfl (.inl rfl) (WDO.is (wdo_cat (ds := List.replicate 4 (.tuple [.str (wordOf 0), d])) (es := List.replicate 2 (.tuple [.str (wordOf 0), d])) (wdo_name (i := 5) rfl (.inl rfl) rfl) (wdo_lst (wda_cons (wde_said hs six (n := 0) (d := d) (k := 8) (by decide) TB hcode hm hu hr (by decide) rfl (lamP_by (by show lamPB nRef (defScope sRef) _ = true; decide +kernel)) (.bare rfl (fun _ _ _ _ _ => rfl)) (fun A outer s2 f c' H1 E2 hr2 => dx_call lam_passZ c_walk_ladder hr2 (by decide) rfl (da_cons (de_im (i := 6) rfl (.inr (.inr rfl)) rfl) da_nil) ⟨d, rfl, od.t, od.n, rfl⟩))
        (wda_cons (wde_said hs six (n := 0) (d := d) (k := 8) (by decide) TB hcode hm hu hr (by decide) rfl (lamP_by (by show lamPB nRef (defScope sRef) _ = true; decide +kernel)) (.one rfl (y := "_law_y") rfl (fun _ _ _ _ _ _ => ⟨_, rfl, fun _ => rfl⟩)) (fun A outer s2 f c' H1 E2 hr2 => dx_call lam_passZ c_rung_weights hr2 (by decide) rfl (da_cons (de_im (i := 6) rfl (.inr (.inr rfl)) rfl) da_nil) (.bad od.t od.n))) wda_nil)) (Nat.le_of_ble_eq_true rfl)) (Nat.le_of_ble_eq_true rfl)) rfl) ?_
      refine wdb_setP (i := 5) (ds := List.replicate 8 (.tuple [.str (wordOf 0), d])) scRef.nd rfl (.inl rfl) (WDO.is (wdo_cat (ds := List.replicate 6 (.tuple [.str (wordOf 0), d])) (es := List.replicate 2 (.tuple [.str (wordOf 0), d])) (wdo_name (i := 5) rfl (.inl rfl) rfl) (wdo_lst (wda_cons (wde_said hs six (n := 0) (d := d) (k := 8) (by decide) TB hcode hm hu hr (by decide) rfl (lamP_by (by show lamPB nRef (defScope sRef) _ = true; decide +kernel)) (.bare rfl (fun _ _ _ _ _ => rfl)) (fun A outer s2 f c' H1 E2 hr2 => dx_call lam_passZ c_first_backs hr2 (by decide) rfl (da_cons (de_im (i := 6) rfl (.inr (.inr rfl)) rfl) (da_cons de_non da_nil)) (.bad od.t od.n)))
        (wda_cons (wde_said hs six (n := 0) (d := d) (k := 8) (by decide) TB hcode hm hu hr (by decide) rfl (lamP_by (by show lamPB nRef (defScope sRef) _ = true; decide +kernel)) (.one rfl (y := "_law_y") rfl (fun _ _ _ _ _ _ => ⟨_, rfl, fun _ => rfl⟩)) (fun A outer s2 f c' H1 E2 hr2 => dx_call lam_passZ c_mean_back hr2 (by decide) rfl (da_cons (de_im (i := 6) rfl (.inr (.inr rfl)) rfl) da_nil) (.bad od.t od.n))) wda_nil)) (Nat.le_of_ble_eq_true rfl)) (Nat.le_of_ble_eq_true rfl)) rfl) ?_
      exact wdb_ifF (WDT.is (wdt_ne (wde_repr (by exact hG) (by exact hr.units) rfl m_repr (WDO.de (wdo_name (i := 5) rfl (.inl rfl) rfl)) shw8 (.inr (.inr ⟨_, rfl⟩))) (wde_repr (by exact hG) (by exact hr.units) rfl m_repr (wde_of fun H0 => DL.de (dl_rep (n := 8) (DL.o (dl_lst (da_cons (de_tup (da_cons de_str (da_cons (de_im (i := 6) rfl (.inr (.inl rfl)) rfl) da_nil)) (Nat.le_of_ble_eq_true rfl)) da_nil) (Nat.le_of_ble_eq_true rfl))) de_int rfl (Nat.le_of_ble_eq_true rfl) (Nat.le_of_ble_eq_true rfl))) shw8 (.inr (.inr ⟨_, rfl⟩)))) (by simp [wordOf])) (wdb_nil ⟨_, _, rfl⟩)
    · obtain ⟨a', b', rfl⟩ := n3
      exact ⟨a', b', t3, s3, ex.trans e3⟩
  · obtain ⟨v0', σ0', e0', st3⟩ := s1.at_ 0 _ rfl
    exact wb_of (pss_one (ps_ret pe_bl)) (kr _ _ ⟨rfl, t1, st3⟩)
end
end RS
set_option Elab.async false
set_option linter.all false
set_option maxRecDepth 100000
set_option maxHeartbeats 4000000
/-! part X4: the law itself -/
namespace RS
open PySem PySem.Spec PyProof.Rows L2 RM LamX
abbrev sLaw : Stmt := topS 83
abbrev nLaw : List Str := ["_law_script", "_law_state", "_law_turn"]
theorem scLaw : FnScope nLaw ["_law_script"] (defScope sLaw) := ⟨rfl, rfl, rfl, by decide +kernel, rfl, by decide +kernel, by decide +kernel⟩
def spLaw (K : PySem.W.Frag) (T : List (Addr × Str)) : Sp := fun vs H Q _ => ∃ (a : Addr) (ns : List Int), vs = [.ref a] ∧ SqL K H a (ns.map V.int) ∧ ns.length ≤ 63 ∧ Tabs T H ∧ ∀ H', Q (.bl true) H'
section
variable {P : Program} {w : World} {K : PySem.W.Frag} {mg : Str → Option Value} {base : Heap} {T : List (Addr × Str)}
abbrev XL (P : Program) (w : World) (K : PySem.W.Frag) (mg : Str → Option Value) (base : Heap) (f : Addr) (cdv : Value) (A : Around) (outer : List Env) (s : Shared) (H : Hp) (E : XK) : Cx := fnX P w K mg base nLaw "law" sLaw f cdv A outer s H E
theorem cn_law (h : Hd K mg "law" sLaw ["_law_script"]) (m_len : mg "len" = none) (m_range : mg "range" = none) (cb : CnG P w K mg base "_law_begin" 1 (spBegin K)) (cr : CnG P w K mg base "_law_rates" 3 (spRates K)) (cw : CnG P w K mg base "_law_are_weights_right" 9 (spRight K))
    (cf : CnG P w K mg base "_law_rates_refused" 11 (spRef T)) (co : CnG P w K mg base "_law_others_refused" 11 (spOthers K T)) (ch : CnG P w K mg base "_law_hand_right" 9 spHand) : CnG P w K mg base "law" 12 (spLaw K T) := by
  refine h.cnG scLaw (fun vs H Q E q => by obtain ⟨_, _, e, _⟩ := q; rw [e]; rfl) fun f cdv A outer s H vs Q E q hr hG hcd => ?_
  obtain ⟨a, ns, rfl, hs, hl, hT, q⟩ := q
  have go : ∀ {st : Stmt} {rest : List Stmt} {t : TS} {D : Ends} {σ : L2.St} {H2 : Hp}, PS (XL P w K mg base f cdv A outer s H E) st t → t { D with nx := WB (XL P w K mg base f cdv A outer s H E) rest D } σ H2 → WB (XL P w K mg base f cdv A outer s H E) (st :: rest) D σ H2 := fun h q => wb_of (pss_cons h pb_w) q
  show WB (XL P w K mg base f cdv A outer s H E) (defBody sLaw) _ _ _
  have b239 : ∀ n : Nat, n ≤ 1000 → n ≤ 2 ^ 239 := fun n hn => by
    have e : (1000 : Nat) ≤ 2 ^ 239 := by decide +kernel
    omega
  -- _law_state = _law_begin(_law_script)
  refine go (ps_set scLaw.nd (i := 1) rfl (.inl rfl) pe_w rfl) ?_
  refine we_callG cb hr (by decide) hG rfl (wa_of (pa_cons (pe_var (i := 0) rfl (.inl rfl)) pa_nil) ⟨_, rfl, a, ns, rfl, hs, hl, fun S c l H1 e1 _ _ _ st => ?_⟩)
  have T1 : Tabs T H1 := hT.ext e1
  have hs1 : SqL K H1 a (ns.map V.int) := by
    rcases hs with (z | ⟨o, z⟩) | z
    · exact .inl (.inl (e1 _ _ z))
    · exact .inl (.inr ⟨o, e1 _ _ z⟩)
    · exact .inr z
  -- the turns
  refine go (ps_for fn_own rfl (pi_range1 rfl m_range (pa_cons (pe_op op_add pe_int (pe_op op_fdivW (pe_callB call_len rfl m_len (by decide +kernel) (pa_cons (pe_var (i := 0) rfl (.inl rfl)) pa_nil)) pe_int)) pa_nil) rfl) (pg_name (i := 2) scLaw.nd rfl (.inl rfl)) pb_w (by intro _; rfl)) ?_
  refine ⟨_, rfl, .ref a, ns.length, rfl, .inl ⟨_, hs1, by simp⟩, (ns.length : Int), 40, rfl, rfl, wide_div (by decide) (b := 10) (by decide) (by decide) (by decide), 2, (ns.length : Int) / 40, rfl, rfl, ?_⟩
  obtain ⟨n, hn, hn4⟩ : ∃ n : Nat, (2 : Int) + (ns.length : Int) / 40 = n ∧ n ≤ 4 := ⟨2 + ns.length / 40, by omega, by omega⟩
  refine ⟨(n : Int), by show [V.int (2 + (ns.length : Int) / 40)] = [V.int (n : Int)]; rw [hn], by omega, by
    have : (4 : Int) < 2 ^ 62 := by decide
    omega, ?_⟩
  have en : ((n : Int)).toNat = n := by omega
  rw [en]
  refine for_it walk_range (Pv := fun k σ' H' => σ'[0]? = some (some (.ref a)) ∧ σ'[1]? = some (some (.ref S)) ∧ σ'.length = 3 ∧ StA H' S c l (17 * k) ∧ Tabs T H') ⟨rfl, rfl, rfl, st, T1⟩ (fun _ _ _ _ _ => trivial) (fun k x σ' H' H'' hk p y => ?_) (fun σ' H' ⟨g0, g1, g3, st', T'⟩ => ?_)
  · obtain ⟨g0, g1, g3, st', T'⟩ := p
    obtain ⟨rfl, rfl⟩ := y
    have f0 : (σ'.set 2 (some (V.int (0 + (k : Int)))))[0]? = some (some (.ref a)) := by rw [List.getElem?_set_ne (by decide)]; exact g0
    have f1 : (σ'.set 2 (some (V.int (0 + (k : Int)))))[1]? = some (some (.ref S)) := by rw [List.getElem?_set_ne (by decide)]; exact g1
    have f3 : (σ'.set 2 (some (V.int (0 + (k : Int))))).length = 3 := by rw [List.length_set]; exact g3
    generalize hσ : σ'.set 2 (some (V.int (0 + (k : Int)))) = σ2 at f0 f1 f3
    show WB (XL P w K mg base f cdv A outer s H E) _ _ (σ'.set 2 (some (V.int (0 + (k : Int))))) H''
    rw [hσ]
    refine go (ps_if (pt_not (pt_val pe_w)) pb_w pb_w) ?_
    refine we_callG cw hr (by decide) hG rfl (wa_of (pa_cons (pe_var (i := 1) rfl (.inl rfl)) (pa_cons pe_w pa_nil)) ⟨_, f1, ?_⟩)
    refine we_callG cr hr (by decide) hG rfl (wa_of (pa_cons (pe_var (i := 1) rfl (.inl rfl)) (pa_cons pe_int pa_nil)) ⟨_, f1, S, c, l, 17 * k, 4, rfl, by decide, by decide, st', b239 _ (by omega), fun v R H2 g rn dR off st2 => ?_⟩)
    refine ⟨S, c, l, 17 * k + 13, v, R, rfl, g, dR, st2, b239 _ (by omega), fun H3 off3 st3 => ⟨true, rfl, ?_⟩⟩
    have T3 : Tabs T H3 := tabs_off st2 off3 (tabs_off st' off T')
    show WB (XL P w K mg base f cdv A outer s H E) [] _ σ2 H3
    refine wb_of pss_nil ?_
    refine wb_of pss_nil ⟨f0, f1, f3, ?_, T3⟩
    have e17 : 17 * (k + 1) = 17 * k + 13 + 4 := by omega
    rw [e17]
    exact st3
  · -- the refusals
    refine go (ps_if pt_w pb_w pb_w) ?_
    refine ⟨fun pins sx I => WW.run ?_ _ pins sx I⟩
    refine ww_of (pw_or (pt_not (pt_val pe_w)) pw_w) ?_
    refine we_callG cf hr (by decide) hG rfl (wa_of (pa_cons (pe_var (i := 1) rfl (.inl rfl)) pa_nil) ⟨_, g1, S, c, l, 17 * n, rfl, st', b239 _ (by omega), T', fun H2 T2 st2 => ⟨true, rfl, ?_⟩⟩)
    show WW (XL P w K mg base f cdv A outer s H E) _ σ' H2 _
    refine ww_of (pw_or1 (pt_not (pt_val pe_w))) ?_
    refine we_callG co hr (by decide) hG rfl (wa_of (pa_cons pe_w pa_nil) ?_)
    refine we_callG cr hr (by decide) hG rfl (wa_of (pa_cons (pe_var (i := 1) rfl (.inl rfl)) (pa_cons pe_int pa_nil)) ⟨_, g1, S, c, l, 17 * n + 1, 3, rfl, by decide, by decide, st2, b239 _ (by omega), fun v R H3 g rn dR off st3 => ?_⟩)
    refine ⟨v, R, rfl, g, dR, tabs_off st2 off T2, fun H4 _ => ⟨true, rfl, ?_⟩⟩
    show WB (XL P w K mg base f cdv A outer s H E) [] _ σ' H4
    refine wb_of pss_nil ?_
    exact go (ps_ret pe_w) (we_callG0 ch hr (by decide) hG rfl ⟨rfl, fun H5 _ => q H5⟩)
end
end RS
set_option Elab.async false
set_option linter.all false
set_option maxRecDepth 100000
set_option maxHeartbeats 4000000
/-! part Y1: the law is called from outside -/
namespace RS
open PySem PySem.Spec PyProof.Rows L2 RM LamX
/-- what is tracked when the law begins: empty tables, and the script where the fragment does not hold it -/
def entryH (K : PySem.W.Frag) (ts : List Addr) (a : Addr) (scr : Obj) (xs : List V) : Hp := fun b =>
  if ts.contains b then some (.tbl #[]) else if b = a then (if (K.lookup a).isSome then none else some (.frz scr (.lst xs))) else none
section
variable {K : PySem.W.Frag} {ts : List Addr} {a b : Addr} {scr : Obj} {xs : List V}
theorem entry_tab (h : b ∈ ts) : entryH K ts a scr xs b = some (.tbl #[]) := by
  have e : ts.contains b = true := by rw [List.contains_eq_mem]; exact decide_eq_true h
  unfold entryH
  rw [if_pos e]
theorem entry_cases {u : HO} (h : entryH K ts a scr xs b = some u) : (b ∈ ts ∧ u = .tbl #[]) ∨ (b ∉ ts ∧ b = a ∧ K.lookup a = none ∧ u = .frz scr (.lst xs)) := by
  unfold entryH at h
  by_cases e : ts.contains b = true
  · rw [if_pos e] at h
    cases h
    rw [List.contains_eq_mem] at e
    exact .inl ⟨of_decide_eq_true e, rfl⟩
  · rw [if_neg e] at h
    by_cases e2 : b = a
    · rw [if_pos e2] at h
      cases e3 : K.lookup a with
      | some o =>
        rw [e3] at h
        cases h
      | none =>
        rw [e3] at h
        cases h
        exact .inr ⟨fun z => e (by rw [List.contains_eq_mem]; exact decide_eq_true z), e2, rfl, rfl⟩
    · rw [if_neg e2] at h
      cases h
theorem entry_scr (h : a ∉ ts) (hk : K.lookup a = none) : entryH K ts a scr xs a = some (.frz scr (.lst xs)) := by
  have e : ¬ ts.contains a = true := by
    rw [List.contains_eq_mem]
    simpa using h
  unfold entryH
  rw [if_neg e, if_pos rfl, hk]
  rfl
end
abbrev emT : Obj := { cls := .none, data := .fields #[] }
abbrev scO (us : List Value) : Obj := { cls := .type "list", data := .seq us.toArray }
/-- the head's end: what stands when the law is called -/
structure Stand (K : PySem.W.Frag) (mg mb : Str → Option Value) (ts : List Addr) (a : Addr) (us : List Value) (is : List Int) (s : Shared) : Prop where
  kin : K.In s.heap
  glob : s.heap.Ns mainGlobals mg
  blt : s.heap.Ns builtinsNs mb
  boot : ∀ x : Str, x ≠ "__name__" → mb x = bootBuiltins x
  lim : s.heap.NoLimit
  gens : s.gens = #[]
  tab : ∀ t ∈ ts, s.heap.get? t = some emT
  noK : ∀ t ∈ ts, K.lookup t = none
  scr : s.heap.get? a = some (scO us)
  itx : IntsAre us is
  size : is.length ≤ sizeLine
section
variable {P : Program} {w : World} {K : PySem.W.Frag} {mg mb : Str → Option Value} {ts : List Addr} {a : Addr} {us : List Value} {is : List Int} {s : Shared}
abbrev enH (K : PySem.W.Frag) (ts : List Addr) (a : Addr) (us : List Value) (is : List Int) : Hp := entryH K ts a (scO us) (is.map V.int)
theorem Stand.apart (S : Stand K mg mb ts a us is s) : a ∉ ts := fun z => by
  have q := S.tab a z
  rw [S.scr] at q
  have q2 : (scO us).data = emT.data := congrArg Obj.data (Option.some.inj q)
  cases q2
/-- what is neither a table nor a list is not tracked -/
theorem Stand.other (S : Stand K mg mb ts a us is s) {b : Addr} {o : Obj} (hb : s.heap.get? b = some o) (n1 : o.data ≠ .fields #[]) (n2 : ∀ its n, o.data ≠ .seq its n) : enH K ts a us is b = none := by
  cases q : enH K ts a us is b with
  | none => rfl
  | some u =>
    rcases entry_cases q with ⟨m, _⟩ | ⟨_, e, _, _⟩
    · rw [S.tab b m] at hb
      cases hb
      exact absurd rfl n1
    · rw [e, S.scr] at hb
      cases hb
      exact absurd rfl (n2 _ _)
theorem Stand.ns (S : Stand K mg mb ts a us is s) {b : Addr} {m : Str → Option Value} (h : s.heap.Ns b m) : (hidT s.heap (enH K ts a us is)).Ns b m := by
  obtain ⟨o, es, ep, h1, h2, h3⟩ := h
  exact ⟨o, es, ep, hidT_get h1 (S.other h1 (by rw [h2]; intro z; cases z) (by rw [h2]; intro _ _ z; cases z)), h2, h3⟩
theorem Stand.kinB (S : Stand K mg mb ts a us is s) : K.In (hidT s.heap (enH K ts a us is)) := fun b o hb => by
  refine hidT_get (S.kin b o hb) ?_
  cases q : enH K ts a us is b with
  | none => rfl
  | some u =>
    rcases entry_cases q with ⟨m, _⟩ | ⟨_, e, e2, _⟩
    · rw [S.noK b m] at hb
      cases hb
    · rw [e, e2] at hb
      cases hb
theorem Stand.mod (S : Stand K mg mb ts a us is s) : L2.Mod K mg (hidT s.heap (enH K ts a us is)) := by
  obtain ⟨mc, l1, l2⟩ := S.lim
  exact ⟨S.kinB, S.ns S.glob, ⟨mb, S.ns S.blt, S.boot⟩, mc, S.ns l1, l2⟩
theorem Stand.hok (S : Stand K mg mb ts a us is s) : HOk P w (enH K ts a us is) s.heap := fun b u q => by
  rcases entry_cases q with ⟨m, e⟩ | ⟨_, e, _, e2⟩
  · rw [e]
    exact S.tab b m
  · rw [e, e2]
    exact ⟨S.scr, by rw [List.length_map]; exact S.size, us, 0, vals_ints S.itx, S.scr⟩
theorem Stand.seq (S : Stand K mg mb ts a us is s) : SqL K (enH K ts a us is) a (is.map V.int) := by
  cases e : K.lookup a with
  | none => exact .inl (.inr ⟨scO us, entry_scr S.apart e⟩)
  | some o =>
    have z := S.kin a o e
    rw [S.scr] at z
    cases z
    have hv := vals_ints S.itx
    have hl := S.itx.length
    exact .inr ⟨scO us, us.toArray, 0, e, rfl, rfl, rfl, by rw [List.size_toArray, hl]; exact S.size, by simpa using hv⟩
theorem Stand.env0 (S : Stand K mg mb ts a us is s) : Env0 P w K mg (hidT s.heap (enH K ts a us is)) callerA [] s (enH K ts a us is) where
  frames := rfl
  mod := S.mod
  bs := fun _ _ hb => of_hidT hb
  bsz := Nat.le_of_eq (hidT_size _ _)
  funs := trivial
  frf := fun b hb => by cases (show b ∈ ([] : List Addr) from hb)
  hok := S.hok
  bare := .of_eq S.gens
/-- a def's maker of lambdas, seen from the base -/
theorem Stand.tabB (S : Stand K mg mb ts a us is s) {c t : Addr} (hc : PySem.W.CodeHd s.heap c t) (ht : t ∈ ts)
    (hm : ∃ (m : Addr) (o : Obj), mg "__builtins__" = some (.ref m) ∧ m ≠ builtinsNs ∧ s.heap.get? m = some o ∧ o.cls = .type "module" ∧ o.dict = some builtinsNs ∧ o.data = .plain) : TabB (hidT s.heap (enH K ts a us is)) mg c t := by
  obtain ⟨m, o, m1, m2, m3, m4, m5, m6⟩ := hm
  obtain ⟨og, eg, pg, g1, g2, _⟩ := S.glob
  have mG : m ≠ mainGlobals := fun z => by
    rw [z, g1] at m3
    cases m3
    rw [g2] at m6
    cases m6
  have mT : m ≠ t := fun z => by
    rw [z, S.tab t ht] at m3
    cases m3
    cases m6
  refine ⟨?_, ⟨m, o, m1, m2, mG, mT, hidT_get m3 (S.other m3 (by rw [m6]; intro z; cases z) (by rw [m6]; intro _ _ z; cases z)), m4, m5, m6⟩, fun z => ?_⟩
  · obtain ⟨oc, vs, file, tf, flags, tg, inF, text, tt, c1, c2, c3, c4, c5⟩ := hc
    refine ⟨oc, vs, file, tf, flags, tg, inF, text, tt, hidT_get c1 (S.other c1 (fun z => ?_) (fun _ _ z => ?_)), c2, c3, c4, c5⟩
    · rw [c3] at z
      cases z
      cases c4
    · rw [c3] at z
      cases z
  · rw [z, S.tab t ht] at g1
    cases g1
    cases g2
/-- the call of a def that keeps a promise like the law's -/
theorem Stand.call {k : Nat} {x : Str} {fa : Addr} {sp : Sp} (S : Stand K mg mb ts a us is s) (hct : ∀ t ∈ ts, isCodeTable s.heap t) (hr : Room k callerA) (c : CnG P w K mg (hidT s.heap (enH K ts a us is)) x k sp) (hx : mg x = some (.ref fa))
    (hsp : sp [.ref a] (enH K ts a us is) (fun v _ => v = .bl true) E0) : codeAny (model P w) callerA (.call (.ref fa) ⟨[.ref a], []⟩) (fun r s' => r = .ok (.ret (.bool true)) ∧ OldK s.heap s'.heap ∧ s'.os = s.os ∧ AllBare s'.gens) s := by
  obtain ⟨f, fd, ps, F, f1, _, f3⟩ := c.ex
  rw [hx] at f1
  cases f1
  have hl : ([Value.ref a] : List Value).length = ps.length := F.len _ _ _ _ hsp
  have hb := f3 s [.ref a] S.kin (by rw [List.append_nil]; exact hl)
  rw [List.append_nil] at hb
  refine codeAny_mono (F.run callerA [] s (enH K ts a us is) ⟨[.ref a], []⟩ [.ref a] [.ref a] _ E0 hr rfl S.env0 hb (.cons rfl .nil) hsp) fun r s' hq => ?_
  rcases r with e | fl
  · obtain ⟨_, _, _, _, _, _, _, _, _, _, _, _, no⟩ := (show L2.CX P w [] (enH K ts a us is) s E0 e s' from hq)
    exact no.elim
  · cases fl with
    | ret u =>
      obtain ⟨v, H', os, bare, un, hok, rv, ev⟩ := hq
      have ev : v = .bl true := ev
      subst ev
      obtain rfl : u = Value.bool true := rv
      have stays : ∀ b o, b ∉ ts → s.heap.get? b = some o → s'.heap.get? b = some o := fun b o nb hb => by
        cases q : enH K ts a us is b with
        | none => exact un.keep b o hb q (by intro z; cases (show b ∈ ([] : List Addr) from z)) (by intro z; cases z)
        | some u =>
          rcases entry_cases q with ⟨m, _⟩ | ⟨_, e, _, e2⟩
          · exact absurd m nb
          · rw [e2] at q
            have o1 := hok b _ (un.frzs b _ _ q)
            rw [e, S.scr] at hb
            cases hb
            exact o1.1
      have grows : ∀ t ∈ ts, ∃ more : Array Value, s'.heap.get? t = some { cls := .none, data := .fields (#[] ++ more) } := fun t ht => by
        obtain ⟨more, z⟩ := un.tbls t #[] (entry_tab ht)
        exact ⟨more, hok t _ z⟩
      refine ⟨rfl, ⟨fun b o hb => ?_, fun b o hb => ?_⟩, os, bare⟩
      · by_cases m : b ∈ ts
        · obtain ⟨more, z⟩ := grows b m
          rw [S.tab b m] at hb
          cases hb
          exact .inr (.inl ⟨hct b m, rfl, #[], more, rfl, z⟩)
        · exact .inl (stays b o m hb)
      · by_cases m : b ∈ ts
        · obtain ⟨more, z⟩ := grows b m
          exact ⟨_, z⟩
        · exact ⟨o, stays b o m hb⟩
    | _ => exact False.elim hq
end
end RS
set_option Elab.async false
set_option linter.all false
set_option maxRecDepth 100000
set_option maxHeartbeats 4000000
/-! part Y2: what the top leaves -/
namespace RS
open PySem PySem.Spec PyProof.Rows L2 RM LamX
section
variable {K : PySem.W.Frag} {h : Heap} {mg : Str → Option Value}
/-- a def of the top -/
theorem hd_mk {x : Str} {st : Stmt} {ps : List Str} {f : Addr} {oc : Value} {od an : Option Addr} {osl : Array (Option Value)} {kV doc pm cdv ct : Value} (X : K.In h) (G : h.Ns mainGlobals mg)
    (hb : ∀ (kV doc pm : Value) (an : Option Addr) (cdv ct : Value) (us : List Value), us.length = ps.length → bindArgs (PySem.W.fnOf x x (defArgs st) (defBody st) (defScope st) .none kV doc pm an cdv ct) ⟨us, []⟩ = pure (ps.zip us))
    (a : PySem.W.nsIn K mainGlobals x = some (some (.ref f))) (l : K.lookup f = some ⟨oc, od, .func (PySem.W.fnOf x x (defArgs st) (defBody st) (defScope st) .none kV doc pm an cdv ct), osl⟩)
    (c : PySem.W.codeIn K cdv x = true) (k : PySem.W.keepIn K (.ref f) = true) : Hd K mg x st ps := by
  have F := fun_mk (st := st) l c k
  exact ⟨f, _, F, PySem.W.mg_of X G a, F.binds hb⟩
/-- the __init__ in a class statement -/
def initOf (s : Stmt) : Stmt := match s with
  | .ClassDef _ _ _ b _ _ _ _ _ _ _ => b.getD 0 (.Pass ⟨0, 0, 0, 0⟩)
  | _ => .Pass ⟨0, 0, 0, 0⟩
/-- a class of errors, no matter where its maker is called -/
structure ErF (K : PySem.W.Frag) (mg : Str → Option Value) (z q : Str) (st : Stmt) (C : Addr) (f : Str) : Prop where
  oex : OexC K C
  ini : ∃ fI fd, PySem.W.findIn K (.ref C) "__init__" = some (some (.ref fI)) ∧ PySem.W.typeIn K (.ref fI) = some (.type "function") ∧ L2.Fun K "__init__" q st fI fd ∧ L2.Binds K fd ["self", f] []
  gC : mg z = some (.ref C)
  xf : XfC K C
  no : PySem.W.findIn K (.ref C) f = some none
theorem erf_mk {z q f : Str} {st : Stmt} {C N fI R : Addr} {nm qn : Str} {bs : List Value} {sn : List Str} {sub : List Value} {ab : Bool} {col : Option Bool} {dd : Option Addr} {m0 m1 m2 m3 m5 : Option Value}
    {oc : Value} {od an : Option Addr} {osl : Array (Option Value)} {kV doc pm cdv ct : Value} (X : K.In h) (G : h.Ns mainGlobals mg)
    (hb : ∀ (kV doc pm : Value) (an : Option Addr) (cdv ct : Value) (us : List Value), us.length = (["self", f] : List Str).length → bindArgs (PySem.W.fnOf "__init__" q (defArgs st) (defBody st) (defScope st) .none kV doc pm an cdv ct) ⟨us, []⟩ = pure ((["self", f] : List Str).zip us))
    (aC : PySem.W.nsIn K mainGlobals z = some (some (.ref C)))
    (xL : K.lookup C = some (excClassObj nm qn C N bs [.ref R, .type "ValueError", .type "Exception", .type "BaseException", .type "object"] true sn sub ab col dd m0 m1 m2 m3 m5 "ValueError.__new__"))
    (sa : PySem.W.findIn K (.ref C) "__setattr__" = some (some (.builtin "object.__setattr__"))) (ga : PySem.W.findIn K (.ref C) "__getattribute__" = some (some (.builtin "BaseException.__getattribute__"))) (gg : PySem.W.findIn K (.ref C) "__getattr__" = some none) (nb : PySem.W.findIn K (.ref C) f = some none)
    (a1 : PySem.W.findIn K (.ref C) "__init__" = some (some (.ref fI))) (t1 : PySem.W.typeIn K (.ref fI) = some (.type "function"))
    (l1 : K.lookup fI = some ⟨oc, od, .func (PySem.W.fnOf "__init__" q (defArgs st) (defBody st) (defScope st) .none kV doc pm an cdv ct), osl⟩) (c1 : PySem.W.codeIn K cdv q = true) (k1 : PySem.W.keepIn K (.ref fI) = true)
    (kC : PySem.W.keepIn K (.ref C) = true) (eC : PySem.W.subIn K (.ref C) (.type "BaseException") = some true) (tC : PySem.W.typeIn K (.ref C) = some (.type "type")) (hC : PySem.W.hasDictIn K C = true) : ErF K mg z q st C f := by
  have F := fun_mk (st := st) l1 c1 k1
  exact ⟨⟨⟨nm, qn, N, bs, _, sn, sub, ab, col, dd, m0, m1, m2, m3, m5, xL, (by decide +kernel : (PySem.HandSPX.refsVE [.type "ValueError", .type "Exception", .type "BaseException", .type "object"]) = true)⟩, sa, eC, tC, kC⟩, ⟨fI, _, a1, t1, F, F.binds hb⟩, PySem.W.mg_of X G aC, ⟨ga, gg, eC, hC⟩, nb⟩
theorem ErF.er {z q f : Str} {st : Stmt} {C : Addr} (e : ErF K mg z q st C f) (S : FnScope ["self", f] ["self", f] (defScope st)) (P : Program) (w : World) (base : Heap)
    (hb : ∀ (fI : Addr) (cdv : Value) (A : Around) (outer : List Env) (s : Shared) (H : Hp) (E : XK), PSs (cxOf (L2.CX P w) P w K mg base ["self", f] q (defScope st) fI cdv A outer s H E) (defBody st) (tOst K f (tVar 0) (tVar 1))) : Er P w K mg base z C f := by
  obtain ⟨fI, fd, i1, i2, i3, i4⟩ := e.ini
  exact ⟨e.oex, ⟨fI, fd, i1, i2, ok_init i3 S (hb fI), i4⟩, e.gC, e.xf, e.no⟩
/-! names that hold data -/
theorem kd_int {z : Str} {i : Int} {t : Tok} (X : K.In h) (G : h.Ns mainGlobals mg) (a : PySem.W.nsIn K mainGlobals z = some (some (.int i t))) : Kd K mg z (.int i) :=
  ⟨_, .int i, PySem.W.mg_of X G a, ⟨t, rfl⟩, fun _ => .int i⟩
theorem kd_str {z x : Str} {t : Tok} (X : K.In h) (G : h.Ns mainGlobals mg) (a : PySem.W.nsIn K mainGlobals z = some (some (.str x t))) : Kd K mg z (.str x) :=
  ⟨_, .str x, PySem.W.mg_of X G a, ⟨t, rfl⟩, fun _ => .str x⟩
theorem kd_pair {z : Str} {i j : Int} {p : Addr} {t u : Tok} {o : Obj} {n : Nat} (X : K.In h) (G : h.Ns mainGlobals mg) (a : PySem.W.nsIn K mainGlobals z = some (some (.ref p))) (l : K.lookup p = some o) (hc : o.cls = .type "tuple") (hd : o.data = .seq #[.int i t, .int j u] n) : Kd K mg z (FI i j) :=
  ⟨_, .ref p, PySem.W.mg_of X G a, rfl, fun H => .tup (xs := [.int i, .int j]) (.inr ⟨o, _, n, l, hc, hd, (by show 2 ≤ sizeLine; decide), .cons ⟨t, rfl⟩ (.cons ⟨u, rfl⟩ .nil)⟩) (.cons (.int i) (.cons (.int j) .nil))⟩
theorem kd_words {z x y v : Str} {p : Addr} {t u r : Tok} {o : Obj} {n : Nat} (X : K.In h) (G : h.Ns mainGlobals mg) (a : PySem.W.nsIn K mainGlobals z = some (some (.ref p))) (l : K.lookup p = some o) (hc : o.cls = .type "tuple") (hd : o.data = .seq #[.str x t, .str y u, .str v r] n) : Kd K mg z (.tuple [.str x, .str y, .str v]) :=
  ⟨_, .ref p, PySem.W.mg_of X G a, rfl, fun H => .tup (xs := [.str x, .str y, .str v]) (.inr ⟨o, _, n, l, hc, hd, (by show 3 ≤ sizeLine; decide), .cons ⟨t, rfl⟩ (.cons ⟨u, rfl⟩ (.cons ⟨r, rfl⟩ .nil))⟩) (.cons (.str x) (.cons (.str y) (.cons (.str v) .nil)))⟩
/-! the six classes beside each other -/
def sixA (c0 c1 c2 c3 c4 c5 : Addr) : Nat → Addr
  | 0 => c0
  | 1 => c1
  | 2 => c2
  | 3 => c3
  | 4 => c4
  | _ => c5
theorem exm_of {C D : Addr} {b : Bool} (h1 : PySem.W.subIn K (.ref D) (.type "BaseException") = some true) (h2 : PySem.W.isClsIn K D = true) (h3 : PySem.W.typeIn K (.ref D) = some (.type "type")) (h4 : PySem.W.subIn K (.ref C) (.ref D) = some b) : PySem.W.exmOne K (.ref C) (.ref D) = some b := by
  have h2' : (PySem.W.clsIn K D).isSome = true := h2
  unfold PySem.W.exmOne PySem.W.kitCls
  dsimp only
  rw [h1, h3, h2']
  simpa using h4
end
end RS
set_option Elab.async false
set_option linter.all false
set_option maxRecDepth 100000
set_option maxHeartbeats 4000000
/-! part Y3: all that the top leaves, and the law's promise (by gen_y.py) -/
namespace RS
open PySem PySem.Spec PyProof.Rows L2 RM LamX
abbrev sIBadRates : Stmt := initOf (topS 6)
theorem scIBadRates : FnScope ["self", "given"] ["self", "given"] (defScope sIBadRates) := ⟨rfl, rfl, rfl, by decide +kernel, rfl, by decide +kernel, by decide +kernel⟩
abbrev sIBadRung : Stmt := initOf (topS 7)
theorem scIBadRung : FnScope ["self", "given"] ["self", "given"] (defScope sIBadRung) := ⟨rfl, rfl, rfl, by decide +kernel, rfl, by decide +kernel, by decide +kernel⟩
abbrev sIBadNumber : Stmt := initOf (topS 5)
theorem scIBadNumber : FnScope ["self", "given"] ["self", "given"] (defScope sIBadNumber) := ⟨rfl, rfl, rfl, by decide +kernel, rfl, by decide +kernel, by decide +kernel⟩
abbrev sIBadLadder : Stmt := initOf (topS 3)
theorem scIBadLadder : FnScope ["self", "given"] ["self", "given"] (defScope sIBadLadder) := ⟨rfl, rfl, rfl, by decide +kernel, rfl, by decide +kernel, by decide +kernel⟩
abbrev sIBadFraction : Stmt := initOf (topS 4)
theorem scIBadFraction : FnScope ["self", "given"] ["self", "given"] (defScope sIBadFraction) := ⟨rfl, rfl, rfl, by decide +kernel, rfl, by decide +kernel, by decide +kernel⟩
abbrev sIBadPaper : Stmt := initOf (topS 2)
theorem scIBadPaper : FnScope ["self", "part"] ["self", "part"] (defScope sIBadPaper) := ⟨rfl, rfl, rfl, by decide +kernel, rfl, by decide +kernel, by decide +kernel⟩
theorem b_is_integer : ∀ (kV doc pm : Value) (an : Option Addr) (cdv ct : Value) (us : List Value), us.length = (["thing"] : List Str).length → bindArgs (PySem.W.fnOf "is_integer" "is_integer" (defArgs sIsInt) (defBody sIsInt) (defScope sIsInt) .none kV doc pm an cdv ct) ⟨us, []⟩ = pure ((["thing"] : List Str).zip us) := fun _ _ _ _ _ _ us hl => match us, hl with | [_], _ => rfl
theorem b_common : ∀ (kV doc pm : Value) (an : Option Addr) (cdv ct : Value) (us : List Value), us.length = (["one", "other"] : List Str).length → bindArgs (PySem.W.fnOf "common" "common" (defArgs sCommon) (defBody sCommon) (defScope sCommon) .none kV doc pm an cdv ct) ⟨us, []⟩ = pure ((["one", "other"] : List Str).zip us) := fun _ _ _ _ _ _ us hl => match us, hl with | [_, _], _ => rfl
theorem b_made : ∀ (kV doc pm : Value) (an : Option Addr) (cdv ct : Value) (us : List Value), us.length = (["top", "bottom"] : List Str).length → bindArgs (PySem.W.fnOf "made" "made" (defArgs sMade) (defBody sMade) (defScope sMade) .none kV doc pm an cdv ct) ⟨us, []⟩ = pure ((["top", "bottom"] : List Str).zip us) := fun _ _ _ _ _ _ us hl => match us, hl with | [_, _], _ => rfl
theorem b_is_fraction : ∀ (kV doc pm : Value) (an : Option Addr) (cdv ct : Value) (us : List Value), us.length = (["thing"] : List Str).length → bindArgs (PySem.W.fnOf "is_fraction" "is_fraction" (defArgs sIsFr) (defBody sIsFr) (defScope sIsFr) .none kV doc pm an cdv ct) ⟨us, []⟩ = pure ((["thing"] : List Str).zip us) := fun _ _ _ _ _ _ us hl => match us, hl with | [_], _ => rfl
theorem b_whole : ∀ (kV doc pm : Value) (an : Option Addr) (cdv ct : Value) (us : List Value), us.length = (["number"] : List Str).length → bindArgs (PySem.W.fnOf "whole" "whole" (defArgs sWhole) (defBody sWhole) (defScope sWhole) .none kV doc pm an cdv ct) ⟨us, []⟩ = pure ((["number"] : List Str).zip us) := fun _ _ _ _ _ _ us hl => match us, hl with | [_], _ => rfl
theorem b_add : ∀ (kV doc pm : Value) (an : Option Addr) (cdv ct : Value) (us : List Value), us.length = (["one", "other"] : List Str).length → bindArgs (PySem.W.fnOf "add" "add" (defArgs sAdd) (defBody sAdd) (defScope sAdd) .none kV doc pm an cdv ct) ⟨us, []⟩ = pure ((["one", "other"] : List Str).zip us) := fun _ _ _ _ _ _ us hl => match us, hl with | [_, _], _ => rfl
theorem b_sub : ∀ (kV doc pm : Value) (an : Option Addr) (cdv ct : Value) (us : List Value), us.length = (["one", "other"] : List Str).length → bindArgs (PySem.W.fnOf "sub" "sub" (defArgs sSub) (defBody sSub) (defScope sSub) .none kV doc pm an cdv ct) ⟨us, []⟩ = pure ((["one", "other"] : List Str).zip us) := fun _ _ _ _ _ _ us hl => match us, hl with | [_, _], _ => rfl
theorem b_mul : ∀ (kV doc pm : Value) (an : Option Addr) (cdv ct : Value) (us : List Value), us.length = (["one", "other"] : List Str).length → bindArgs (PySem.W.fnOf "mul" "mul" (defArgs sMul) (defBody sMul) (defScope sMul) .none kV doc pm an cdv ct) ⟨us, []⟩ = pure ((["one", "other"] : List Str).zip us) := fun _ _ _ _ _ _ us hl => match us, hl with | [_, _], _ => rfl
theorem b_div : ∀ (kV doc pm : Value) (an : Option Addr) (cdv ct : Value) (us : List Value), us.length = (["one", "other"] : List Str).length → bindArgs (PySem.W.fnOf "div" "div" (defArgs sDiv) (defBody sDiv) (defScope sDiv) .none kV doc pm an cdv ct) ⟨us, []⟩ = pure ((["one", "other"] : List Str).zip us) := fun _ _ _ _ _ _ us hl => match us, hl with | [_, _], _ => rfl
theorem b_is_under : ∀ (kV doc pm : Value) (an : Option Addr) (cdv ct : Value) (us : List Value), us.length = (["one", "other"] : List Str).length → bindArgs (PySem.W.fnOf "is_under" "is_under" (defArgs sUnder) (defBody sUnder) (defScope sUnder) .none kV doc pm an cdv ct) ⟨us, []⟩ = pure ((["one", "other"] : List Str).zip us) := fun _ _ _ _ _ _ us hl => match us, hl with | [_, _], _ => rfl
theorem b_sum_in : ∀ (kV doc pm : Value) (an : Option Addr) (cdv ct : Value) (us : List Value), us.length = (["some"] : List Str).length → bindArgs (PySem.W.fnOf "sum_in" "sum_in" (defArgs sSumIn) (defBody sSumIn) (defScope sSumIn) .none kV doc pm an cdv ct) ⟨us, []⟩ = pure ((["some"] : List Str).zip us) := fun _ _ _ _ _ _ us hl => match us, hl with | [_], _ => rfl
theorem b_are_fractions : ∀ (kV doc pm : Value) (an : Option Addr) (cdv ct : Value) (us : List Value), us.length = (["thing", "most"] : List Str).length → bindArgs (PySem.W.fnOf "are_fractions" "are_fractions" (defArgs sAreFr) (defBody sAreFr) (defScope sAreFr) .none kV doc pm an cdv ct) ⟨us, []⟩ = pure ((["thing", "most"] : List Str).zip us) := fun _ _ _ _ _ _ us hl => match us, hl with | [_, _], _ => rfl
theorem b_need_top : ∀ (kV doc pm : Value) (an : Option Addr) (cdv ct : Value) (us : List Value), us.length = (["top"] : List Str).length → bindArgs (PySem.W.fnOf "need_top" "need_top" (defArgs sNeedTop) (defBody sNeedTop) (defScope sNeedTop) .none kV doc pm an cdv ct) ⟨us, []⟩ = pure ((["top"] : List Str).zip us) := fun _ _ _ _ _ _ us hl => match us, hl with | [_], _ => rfl
theorem b_is_rung : ∀ (kV doc pm : Value) (an : Option Addr) (cdv ct : Value) (us : List Value), us.length = (["thing"] : List Str).length → bindArgs (PySem.W.fnOf "is_rung" "is_rung" (defArgs sIsRung) (defBody sIsRung) (defScope sIsRung) .none kV doc pm an cdv ct) ⟨us, []⟩ = pure ((["thing"] : List Str).zip us) := fun _ _ _ _ _ _ us hl => match us, hl with | [_], _ => rfl
theorem b_are_rates : ∀ (kV doc pm : Value) (an : Option Addr) (cdv ct : Value) (us : List Value), us.length = (["thing"] : List Str).length → bindArgs (PySem.W.fnOf "are_rates" "are_rates" (defArgs sAreRates) (defBody sAreRates) (defScope sAreRates) .none kV doc pm an cdv ct) ⟨us, []⟩ = pure ((["thing"] : List Str).zip us) := fun _ _ _ _ _ _ us hl => match us, hl with | [_], _ => rfl
theorem b_need_rates : ∀ (kV doc pm : Value) (an : Option Addr) (cdv ct : Value) (us : List Value), us.length = (["thing"] : List Str).length → bindArgs (PySem.W.fnOf "need_rates" "need_rates" (defArgs sNeedRates) (defBody sNeedRates) (defScope sNeedRates) .none kV doc pm an cdv ct) ⟨us, []⟩ = pure ((["thing"] : List Str).zip us) := fun _ _ _ _ _ _ us hl => match us, hl with | [_], _ => rfl
theorem b_is_closed : ∀ (kV doc pm : Value) (an : Option Addr) (cdv ct : Value) (us : List Value), us.length = (["rates"] : List Str).length → bindArgs (PySem.W.fnOf "is_closed" "is_closed" (defArgs sIsClosed) (defBody sIsClosed) (defScope sIsClosed) .none kV doc pm an cdv ct) ⟨us, []⟩ = pure ((["rates"] : List Str).zip us) := fun _ _ _ _ _ _ us hl => match us, hl with | [_], _ => rfl
theorem b_gone_on : ∀ (kV doc pm : Value) (an : Option Addr) (cdv ct : Value) (us : List Value), us.length = (["rates", "some"] : List Str).length → bindArgs (PySem.W.fnOf "gone_on" "gone_on" (defArgs sGoneOn) (defBody sGoneOn) (defScope sGoneOn) .none kV doc pm an cdv ct) ⟨us, []⟩ = pure ((["rates", "some"] : List Str).zip us) := fun _ _ _ _ _ _ us hl => match us, hl with | [_, _], _ => rfl
theorem b_begun_at : ∀ (kV doc pm : Value) (an : Option Addr) (cdv ct : Value) (us : List Value), us.length = (["rates", "rung"] : List Str).length → bindArgs (PySem.W.fnOf "begun_at" "begun_at" (defArgs sBegunAt) (defBody sBegunAt) (defScope sBegunAt) .none kV doc pm an cdv ct) ⟨us, []⟩ = pure ((["rates", "rung"] : List Str).zip us) := fun _ _ _ _ _ _ us hl => match us, hl with | [_, _], _ => rfl
theorem b_chances : ∀ (kV doc pm : Value) (an : Option Addr) (cdv ct : Value) (us : List Value), us.length = (["rates", "rung", "steps"] : List Str).length → bindArgs (PySem.W.fnOf "chances" "chances" (defArgs sChances) (defBody sChances) (defScope sChances) .none kV doc pm an cdv ct) ⟨us, []⟩ = pure ((["rates", "rung", "steps"] : List Str).zip us) := fun _ _ _ _ _ _ us hl => match us, hl with | [_, _, _], _ => rfl
theorem b_back_in : ∀ (kV doc pm : Value) (an : Option Addr) (cdv ct : Value) (us : List Value), us.length = (["rates", "top"] : List Str).length → bindArgs (PySem.W.fnOf "back_in" "back_in" (defArgs sBackIn) (defBody sBackIn) (defScope sBackIn) .none kV doc pm an cdv ct) ⟨us, []⟩ = pure ((["rates", "top"] : List Str).zip us) := fun _ _ _ _ _ _ us hl => match us, hl with | [_, _], _ => rfl
theorem b_back_row : ∀ (kV doc pm : Value) (an : Option Addr) (cdv ct : Value) (us : List Value), us.length = (["rates", "top"] : List Str).length → bindArgs (PySem.W.fnOf "back_row" "back_row" (defArgs sBackRow) (defBody sBackRow) (defScope sBackRow) .none kV doc pm an cdv ct) ⟨us, []⟩ = pure ((["rates", "top"] : List Str).zip us) := fun _ _ _ _ _ _ us hl => match us, hl with | [_, _], _ => rfl
theorem b_weights_in : ∀ (kV doc pm : Value) (an : Option Addr) (cdv ct : Value) (us : List Value), us.length = (["rates"] : List Str).length → bindArgs (PySem.W.fnOf "weights_in" "weights_in" (defArgs sWIn) (defBody sWIn) (defScope sWIn) .none kV doc pm an cdv ct) ⟨us, []⟩ = pure ((["rates"] : List Str).zip us) := fun _ _ _ _ _ _ us hl => match us, hl with | [_], _ => rfl
theorem b_rung_weights : ∀ (kV doc pm : Value) (an : Option Addr) (cdv ct : Value) (us : List Value), us.length = (["rates"] : List Str).length → bindArgs (PySem.W.fnOf "rung_weights" "rung_weights" (defArgs sRW) (defBody sRW) (defScope sRW) .none kV doc pm an cdv ct) ⟨us, []⟩ = pure ((["rates"] : List Str).zip us) := fun _ _ _ _ _ _ us hl => match us, hl with | [_], _ => rfl
theorem b_first_backs : ∀ (kV doc pm : Value) (an : Option Addr) (cdv ct : Value) (us : List Value), us.length = (["rates", "top"] : List Str).length → bindArgs (PySem.W.fnOf "first_backs" "first_backs" (defArgs sFB) (defBody sFB) (defScope sFB) .none kV doc pm an cdv ct) ⟨us, []⟩ = pure ((["rates", "top"] : List Str).zip us) := fun _ _ _ _ _ _ us hl => match us, hl with | [_, _], _ => rfl
theorem b_mean_back : ∀ (kV doc pm : Value) (an : Option Addr) (cdv ct : Value) (us : List Value), us.length = (["rates"] : List Str).length → bindArgs (PySem.W.fnOf "mean_back" "mean_back" (defArgs sMB) (defBody sMB) (defScope sMB) .none kV doc pm an cdv ct) ⟨us, []⟩ = pure ((["rates"] : List Str).zip us) := fun _ _ _ _ _ _ us hl => match us, hl with | [_], _ => rfl
theorem b_is_form : ∀ (kV doc pm : Value) (an : Option Addr) (cdv ct : Value) (us : List Value), us.length = (["thing"] : List Str).length → bindArgs (PySem.W.fnOf "is_form" "is_form" (defArgs sForm) (defBody sForm) (defScope sForm) .none kV doc pm an cdv ct) ⟨us, []⟩ = pure ((["thing"] : List Str).zip us) := fun _ _ _ _ _ _ us hl => match us, hl with | [_], _ => rfl
theorem b_is_ended_in : ∀ (kV doc pm : Value) (an : Option Addr) (cdv ct : Value) (us : List Value), us.length = (["ladder"] : List Str).length → bindArgs (PySem.W.fnOf "is_ended_in" "is_ended_in" (defArgs sEndI) (defBody sEndI) (defScope sEndI) .none kV doc pm an cdv ct) ⟨us, []⟩ = pure ((["ladder"] : List Str).zip us) := fun _ _ _ _ _ _ us hl => match us, hl with | [_], _ => rfl
theorem b_is_ladder : ∀ (kV doc pm : Value) (an : Option Addr) (cdv ct : Value) (us : List Value), us.length = (["thing"] : List Str).length → bindArgs (PySem.W.fnOf "is_ladder" "is_ladder" (defArgs sIsLad) (defBody sIsLad) (defScope sIsLad) .none kV doc pm an cdv ct) ⟨us, []⟩ = pure ((["thing"] : List Str).zip us) := fun _ _ _ _ _ _ us hl => match us, hl with | [_], _ => rfl
theorem b_ladder_from : ∀ (kV doc pm : Value) (an : Option Addr) (cdv ct : Value) (us : List Value), us.length = (["rates"] : List Str).length → bindArgs (PySem.W.fnOf "ladder_from" "ladder_from" (defArgs (topS 54)) (defBody (topS 54)) (defScope (topS 54)) .none kV doc pm an cdv ct) ⟨us, []⟩ = pure ((["rates"] : List Str).zip us) := fun _ _ _ _ _ _ us hl => match us, hl with | [_], _ => rfl
theorem b_walk_ladder : ∀ (kV doc pm : Value) (an : Option Addr) (cdv ct : Value) (us : List Value), us.length = (["rates"] : List Str).length → bindArgs (PySem.W.fnOf "walk_ladder" "walk_ladder" (defArgs sWalkL) (defBody sWalkL) (defScope sWalkL) .none kV doc pm an cdv ct) ⟨us, []⟩ = pure ((["rates"] : List Str).zip us) := fun _ _ _ _ _ _ us hl => match us, hl with | [_], _ => rfl
theorem b_need_walkable : ∀ (kV doc pm : Value) (an : Option Addr) (cdv ct : Value) (us : List Value), us.length = (["ladder"] : List Str).length → bindArgs (PySem.W.fnOf "need_walkable" "need_walkable" (defArgs sNeedW) (defBody sNeedW) (defScope sNeedW) .none kV doc pm an cdv ct) ⟨us, []⟩ = pure ((["ladder"] : List Str).zip us) := fun _ _ _ _ _ _ us hl => match us, hl with | [_], _ => rfl
theorem b_rates_of : ∀ (kV doc pm : Value) (an : Option Addr) (cdv ct : Value) (us : List Value), us.length = (["ladder"] : List Str).length → bindArgs (PySem.W.fnOf "rates_of" "rates_of" (defArgs sRatesOf) (defBody sRatesOf) (defScope sRatesOf) .none kV doc pm an cdv ct) ⟨us, []⟩ = pure ((["ladder"] : List Str).zip us) := fun _ _ _ _ _ _ us hl => match us, hl with | [_], _ => rfl
theorem b_walk_paper : ∀ (kV doc pm : Value) (an : Option Addr) (cdv ct : Value) (us : List Value), us.length = (["ladder"] : List Str).length → bindArgs (PySem.W.fnOf "walk_paper" "walk_paper" (defArgs sWalkP) (defBody sWalkP) (defScope sWalkP) .none kV doc pm an cdv ct) ⟨us, []⟩ = pure ((["ladder"] : List Str).zip us) := fun _ _ _ _ _ _ us hl => match us, hl with | [_], _ => rfl
theorem b_does_show : ∀ (kV doc pm : Value) (an : Option Addr) (cdv ct : Value) (us : List Value), us.length = (["ladder", "paper"] : List Str).length → bindArgs (PySem.W.fnOf "does_show" "does_show" (defArgs sShow) (defBody sShow) (defScope sShow) .none kV doc pm an cdv ct) ⟨us, []⟩ = pure ((["ladder", "paper"] : List Str).zip us) := fun _ _ _ _ _ _ us hl => match us, hl with | [_, _], _ => rfl
theorem b_check_walk : ∀ (kV doc pm : Value) (an : Option Addr) (cdv ct : Value) (us : List Value), us.length = (["ladder", "paper"] : List Str).length → bindArgs (PySem.W.fnOf "check_walk" "check_walk" (defArgs sCheck) (defBody sCheck) (defScope sCheck) .none kV doc pm an cdv ct) ⟨us, []⟩ = pure ((["ladder", "paper"] : List Str).zip us) := fun _ _ _ _ _ _ us hl => match us, hl with | [_, _], _ => rfl
theorem b__law_mixed : ∀ (kV doc pm : Value) (an : Option Addr) (cdv ct : Value) (us : List Value), us.length = (["_law_cell", "_law_k"] : List Str).length → bindArgs (PySem.W.fnOf "_law_mixed" "_law_mixed" (defArgs sMixed) (defBody sMixed) (defScope sMixed) .none kV doc pm an cdv ct) ⟨us, []⟩ = pure ((["_law_cell", "_law_k"] : List Str).zip us) := fun _ _ _ _ _ _ us hl => match us, hl with | [_, _], _ => rfl
theorem b__law_begin : ∀ (kV doc pm : Value) (an : Option Addr) (cdv ct : Value) (us : List Value), us.length = (["_law_script"] : List Str).length → bindArgs (PySem.W.fnOf "_law_begin" "_law_begin" (defArgs sBegin) (defBody sBegin) (defScope sBegin) .none kV doc pm an cdv ct) ⟨us, []⟩ = pure ((["_law_script"] : List Str).zip us) := fun _ _ _ _ _ _ us hl => match us, hl with | [_], _ => rfl
theorem b__law_draw : ∀ (kV doc pm : Value) (an : Option Addr) (cdv ct : Value) (us : List Value), us.length = (["_law_state", "_law_many"] : List Str).length → bindArgs (PySem.W.fnOf "_law_draw" "_law_draw" (defArgs sDraw) (defBody sDraw) (defScope sDraw) .none kV doc pm an cdv ct) ⟨us, []⟩ = pure ((["_law_state", "_law_many"] : List Str).zip us) := fun _ _ _ _ _ _ us hl => match us, hl with | [_, _], _ => rfl
theorem b__law_ratio : ∀ (kV doc pm : Value) (an : Option Addr) (cdv ct : Value) (us : List Value), us.length = (["_law_top", "_law_bottom"] : List Str).length → bindArgs (PySem.W.fnOf "_law_ratio" "_law_ratio" (defArgs sRatio) (defBody sRatio) (defScope sRatio) .none kV doc pm an cdv ct) ⟨us, []⟩ = pure ((["_law_top", "_law_bottom"] : List Str).zip us) := fun _ _ _ _ _ _ us hl => match us, hl with | [_, _], _ => rfl
theorem b__law_plus : ∀ (kV doc pm : Value) (an : Option Addr) (cdv ct : Value) (us : List Value), us.length = (["_law_one", "_law_other"] : List Str).length → bindArgs (PySem.W.fnOf "_law_plus" "_law_plus" (defArgs sPlus) (defBody sPlus) (defScope sPlus) .none kV doc pm an cdv ct) ⟨us, []⟩ = pure ((["_law_one", "_law_other"] : List Str).zip us) := fun _ _ _ _ _ _ us hl => match us, hl with | [_, _], _ => rfl
theorem b__law_less : ∀ (kV doc pm : Value) (an : Option Addr) (cdv ct : Value) (us : List Value), us.length = (["_law_one", "_law_other"] : List Str).length → bindArgs (PySem.W.fnOf "_law_less" "_law_less" (defArgs sLess) (defBody sLess) (defScope sLess) .none kV doc pm an cdv ct) ⟨us, []⟩ = pure ((["_law_one", "_law_other"] : List Str).zip us) := fun _ _ _ _ _ _ us hl => match us, hl with | [_, _], _ => rfl
theorem b__law_times : ∀ (kV doc pm : Value) (an : Option Addr) (cdv ct : Value) (us : List Value), us.length = (["_law_one", "_law_other"] : List Str).length → bindArgs (PySem.W.fnOf "_law_times" "_law_times" (defArgs sTimes) (defBody sTimes) (defScope sTimes) .none kV doc pm an cdv ct) ⟨us, []⟩ = pure ((["_law_one", "_law_other"] : List Str).zip us) := fun _ _ _ _ _ _ us hl => match us, hl with | [_, _], _ => rfl
theorem b__law_over : ∀ (kV doc pm : Value) (an : Option Addr) (cdv ct : Value) (us : List Value), us.length = (["_law_one", "_law_other"] : List Str).length → bindArgs (PySem.W.fnOf "_law_over" "_law_over" (defArgs sOver) (defBody sOver) (defScope sOver) .none kV doc pm an cdv ct) ⟨us, []⟩ = pure ((["_law_one", "_law_other"] : List Str).zip us) := fun _ _ _ _ _ _ us hl => match us, hl with | [_, _], _ => rfl
theorem b__law_sum : ∀ (kV doc pm : Value) (an : Option Addr) (cdv ct : Value) (us : List Value), us.length = (["_law_some"] : List Str).length → bindArgs (PySem.W.fnOf "_law_sum" "_law_sum" (defArgs sLSum) (defBody sLSum) (defScope sLSum) .none kV doc pm an cdv ct) ⟨us, []⟩ = pure ((["_law_some"] : List Str).zip us) := fun _ _ _ _ _ _ us hl => match us, hl with | [_], _ => rfl
theorem b__law_rates : ∀ (kV doc pm : Value) (an : Option Addr) (cdv ct : Value) (us : List Value), us.length = (["_law_state", "_law_most_so"] : List Str).length → bindArgs (PySem.W.fnOf "_law_rates" "_law_rates" (defArgs sLRates) (defBody sLRates) (defScope sLRates) .none kV doc pm an cdv ct) ⟨us, []⟩ = pure ((["_law_state", "_law_most_so"] : List Str).zip us) := fun _ _ _ _ _ _ us hl => match us, hl with | [_, _], _ => rfl
theorem b__law_step : ∀ (kV doc pm : Value) (an : Option Addr) (cdv ct : Value) (us : List Value), us.length = (["_law_rates_so", "_law_some"] : List Str).length → bindArgs (PySem.W.fnOf "_law_step" "_law_step" (defArgs sStep) (defBody sStep) (defScope sStep) .none kV doc pm an cdv ct) ⟨us, []⟩ = pure ((["_law_rates_so", "_law_some"] : List Str).zip us) := fun _ _ _ _ _ _ us hl => match us, hl with | [_, _], _ => rfl
theorem b__law_chances : ∀ (kV doc pm : Value) (an : Option Addr) (cdv ct : Value) (us : List Value), us.length = (["_law_rates_so", "_law_rung", "_law_many"] : List Str).length → bindArgs (PySem.W.fnOf "_law_chances" "_law_chances" (defArgs sLCh) (defBody sLCh) (defScope sLCh) .none kV doc pm an cdv ct) ⟨us, []⟩ = pure ((["_law_rates_so", "_law_rung", "_law_many"] : List Str).zip us) := fun _ _ _ _ _ _ us hl => match us, hl with | [_, _, _], _ => rfl
theorem b__law_said : ∀ (kV doc pm : Value) (an : Option Addr) (cdv ct : Value) (us : List Value), us.length = (["_law_call"] : List Str).length → bindArgs (PySem.W.fnOf "_law_said" "_law_said" (defArgs sSaid) (defBody sSaid) (defScope sSaid) .none kV doc pm an cdv ct) ⟨us, []⟩ = pure ((["_law_call"] : List Str).zip us) := fun _ _ _ _ _ _ us hl => match us, hl with | [_], _ => rfl
theorem b__law_are_weights_right : ∀ (kV doc pm : Value) (an : Option Addr) (cdv ct : Value) (us : List Value), us.length = (["_law_state", "_law_rates_so"] : List Str).length → bindArgs (PySem.W.fnOf "_law_are_weights_right" "_law_are_weights_right" (defArgs sRight) (defBody sRight) (defScope sRight) .none kV doc pm an cdv ct) ⟨us, []⟩ = pure ((["_law_state", "_law_rates_so"] : List Str).zip us) := fun _ _ _ _ _ _ us hl => match us, hl with | [_, _], _ => rfl
theorem b__law_rates_refused : ∀ (kV doc pm : Value) (an : Option Addr) (cdv ct : Value) (us : List Value), us.length = (["_law_state"] : List Str).length → bindArgs (PySem.W.fnOf "_law_rates_refused" "_law_rates_refused" (defArgs sRef) (defBody sRef) (defScope sRef) .none kV doc pm an cdv ct) ⟨us, []⟩ = pure ((["_law_state"] : List Str).zip us) := fun _ _ _ _ _ _ us hl => match us, hl with | [_], _ => rfl
theorem b__law_others_refused : ∀ (kV doc pm : Value) (an : Option Addr) (cdv ct : Value) (us : List Value), us.length = (["_law_rates_so"] : List Str).length → bindArgs (PySem.W.fnOf "_law_others_refused" "_law_others_refused" (defArgs sOthers) (defBody sOthers) (defScope sOthers) .none kV doc pm an cdv ct) ⟨us, []⟩ = pure ((["_law_rates_so"] : List Str).zip us) := fun _ _ _ _ _ _ us hl => match us, hl with | [_], _ => rfl
theorem b__law_hand_right : ∀ (kV doc pm : Value) (an : Option Addr) (cdv ct : Value) (us : List Value), us.length = ([] : List Str).length → bindArgs (PySem.W.fnOf "_law_hand_right" "_law_hand_right" (defArgs sHand) (defBody sHand) (defScope sHand) .none kV doc pm an cdv ct) ⟨us, []⟩ = pure (([] : List Str).zip us) := fun _ _ _ _ _ _ us hl => match us, hl with | [], _ => rfl
theorem b_law : ∀ (kV doc pm : Value) (an : Option Addr) (cdv ct : Value) (us : List Value), us.length = (["_law_script"] : List Str).length → bindArgs (PySem.W.fnOf "law" "law" (defArgs sLaw) (defBody sLaw) (defScope sLaw) .none kV doc pm an cdv ct) ⟨us, []⟩ = pure ((["_law_script"] : List Str).zip us) := fun _ _ _ _ _ _ us hl => match us, hl with | [_], _ => rfl
theorem b_BadRates : ∀ (kV doc pm : Value) (an : Option Addr) (cdv ct : Value) (us : List Value), us.length = (["self", "given"] : List Str).length → bindArgs (PySem.W.fnOf "__init__" "BadRates.__init__" (defArgs sIBadRates) (defBody sIBadRates) (defScope sIBadRates) .none kV doc pm an cdv ct) ⟨us, []⟩ = pure ((["self", "given"] : List Str).zip us) := fun _ _ _ _ _ _ us hl => match us, hl with | [_, _], _ => rfl
theorem b_BadRung : ∀ (kV doc pm : Value) (an : Option Addr) (cdv ct : Value) (us : List Value), us.length = (["self", "given"] : List Str).length → bindArgs (PySem.W.fnOf "__init__" "BadRung.__init__" (defArgs sIBadRung) (defBody sIBadRung) (defScope sIBadRung) .none kV doc pm an cdv ct) ⟨us, []⟩ = pure ((["self", "given"] : List Str).zip us) := fun _ _ _ _ _ _ us hl => match us, hl with | [_, _], _ => rfl
theorem b_BadNumber : ∀ (kV doc pm : Value) (an : Option Addr) (cdv ct : Value) (us : List Value), us.length = (["self", "given"] : List Str).length → bindArgs (PySem.W.fnOf "__init__" "BadNumber.__init__" (defArgs sIBadNumber) (defBody sIBadNumber) (defScope sIBadNumber) .none kV doc pm an cdv ct) ⟨us, []⟩ = pure ((["self", "given"] : List Str).zip us) := fun _ _ _ _ _ _ us hl => match us, hl with | [_, _], _ => rfl
theorem b_BadLadder : ∀ (kV doc pm : Value) (an : Option Addr) (cdv ct : Value) (us : List Value), us.length = (["self", "given"] : List Str).length → bindArgs (PySem.W.fnOf "__init__" "BadLadder.__init__" (defArgs sIBadLadder) (defBody sIBadLadder) (defScope sIBadLadder) .none kV doc pm an cdv ct) ⟨us, []⟩ = pure ((["self", "given"] : List Str).zip us) := fun _ _ _ _ _ _ us hl => match us, hl with | [_, _], _ => rfl
theorem b_BadFraction : ∀ (kV doc pm : Value) (an : Option Addr) (cdv ct : Value) (us : List Value), us.length = (["self", "given"] : List Str).length → bindArgs (PySem.W.fnOf "__init__" "BadFraction.__init__" (defArgs sIBadFraction) (defBody sIBadFraction) (defScope sIBadFraction) .none kV doc pm an cdv ct) ⟨us, []⟩ = pure ((["self", "given"] : List Str).zip us) := fun _ _ _ _ _ _ us hl => match us, hl with | [_, _], _ => rfl
theorem b_BadPaper : ∀ (kV doc pm : Value) (an : Option Addr) (cdv ct : Value) (us : List Value), us.length = (["self", "part"] : List Str).length → bindArgs (PySem.W.fnOf "__init__" "BadPaper.__init__" (defArgs sIBadPaper) (defBody sIBadPaper) (defScope sIBadPaper) .none kV doc pm an cdv ct) ⟨us, []⟩ = pure ((["self", "part"] : List Str).zip us) := fun _ _ _ _ _ _ us hl => match us, hl with | [_, _], _ => rfl
theorem six_all {p : Nat → Nat → Prop} (h00 : p 0 0) (h01 : p 0 1) (h02 : p 0 2) (h03 : p 0 3) (h04 : p 0 4) (h05 : p 0 5) (h10 : p 1 0) (h11 : p 1 1) (h12 : p 1 2) (h13 : p 1 3) (h14 : p 1 4) (h15 : p 1 5) (h20 : p 2 0) (h21 : p 2 1) (h22 : p 2 2) (h23 : p 2 3) (h24 : p 2 4) (h25 : p 2 5) (h30 : p 3 0) (h31 : p 3 1) (h32 : p 3 2) (h33 : p 3 3) (h34 : p 3 4) (h35 : p 3 5) (h40 : p 4 0) (h41 : p 4 1) (h42 : p 4 2) (h43 : p 4 3) (h44 : p 4 4) (h45 : p 4 5) (h50 : p 5 0) (h51 : p 5 1) (h52 : p 5 2) (h53 : p 5 3) (h54 : p 5 4) (h55 : p 5 5) : ∀ i j, i < 6 → j < 6 → p i j
  | 0, 0, _, _ => h00
  | 0, 1, _, _ => h01
  | 0, 2, _, _ => h02
  | 0, 3, _, _ => h03
  | 0, 4, _, _ => h04
  | 0, 5, _, _ => h05
  | 1, 0, _, _ => h10
  | 1, 1, _, _ => h11
  | 1, 2, _, _ => h12
  | 1, 3, _, _ => h13
  | 1, 4, _, _ => h14
  | 1, 5, _, _ => h15
  | 2, 0, _, _ => h20
  | 2, 1, _, _ => h21
  | 2, 2, _, _ => h22
  | 2, 3, _, _ => h23
  | 2, 4, _, _ => h24
  | 2, 5, _, _ => h25
  | 3, 0, _, _ => h30
  | 3, 1, _, _ => h31
  | 3, 2, _, _ => h32
  | 3, 3, _, _ => h33
  | 3, 4, _, _ => h34
  | 3, 5, _, _ => h35
  | 4, 0, _, _ => h40
  | 4, 1, _, _ => h41
  | 4, 2, _, _ => h42
  | 4, 3, _, _ => h43
  | 4, 4, _, _ => h44
  | 4, 5, _, _ => h45
  | 5, 0, _, _ => h50
  | 5, 1, _, _ => h51
  | 5, 2, _, _ => h52
  | 5, 3, _, _ => h53
  | 5, 4, _, _ => h54
  | 5, 5, _, _ => h55
  | n + 6, _, h, _ => absurd h (by omega)
  | _, n + 6, _, h => absurd h (by omega)
structure TopD (K : PySem.W.Frag) (mg : Str → Option Value) : Prop where
  h_is_integer : Hd K mg "is_integer" sIsInt ["thing"]
  h_common : Hd K mg "common" sCommon ["one", "other"]
  h_made : Hd K mg "made" sMade ["top", "bottom"]
  h_is_fraction : Hd K mg "is_fraction" sIsFr ["thing"]
  h_whole : Hd K mg "whole" sWhole ["number"]
  h_add : Hd K mg "add" sAdd ["one", "other"]
  h_sub : Hd K mg "sub" sSub ["one", "other"]
  h_mul : Hd K mg "mul" sMul ["one", "other"]
  h_div : Hd K mg "div" sDiv ["one", "other"]
  h_is_under : Hd K mg "is_under" sUnder ["one", "other"]
  h_sum_in : Hd K mg "sum_in" sSumIn ["some"]
  h_are_fractions : Hd K mg "are_fractions" sAreFr ["thing", "most"]
  h_need_top : Hd K mg "need_top" sNeedTop ["top"]
  h_is_rung : Hd K mg "is_rung" sIsRung ["thing"]
  h_are_rates : Hd K mg "are_rates" sAreRates ["thing"]
  h_need_rates : Hd K mg "need_rates" sNeedRates ["thing"]
  h_is_closed : Hd K mg "is_closed" sIsClosed ["rates"]
  h_gone_on : Hd K mg "gone_on" sGoneOn ["rates", "some"]
  h_begun_at : Hd K mg "begun_at" sBegunAt ["rates", "rung"]
  h_chances : Hd K mg "chances" sChances ["rates", "rung", "steps"]
  h_back_in : Hd K mg "back_in" sBackIn ["rates", "top"]
  h_back_row : Hd K mg "back_row" sBackRow ["rates", "top"]
  h_weights_in : Hd K mg "weights_in" sWIn ["rates"]
  h_rung_weights : Hd K mg "rung_weights" sRW ["rates"]
  h_first_backs : Hd K mg "first_backs" sFB ["rates", "top"]
  h_mean_back : Hd K mg "mean_back" sMB ["rates"]
  h_is_form : Hd K mg "is_form" sForm ["thing"]
  h_is_ended_in : Hd K mg "is_ended_in" sEndI ["ladder"]
  h_is_ladder : Hd K mg "is_ladder" sIsLad ["thing"]
  h_ladder_from : Hd K mg "ladder_from" (topS 54) ["rates"]
  h_walk_ladder : Hd K mg "walk_ladder" sWalkL ["rates"]
  h_need_walkable : Hd K mg "need_walkable" sNeedW ["ladder"]
  h_rates_of : Hd K mg "rates_of" sRatesOf ["ladder"]
  h_walk_paper : Hd K mg "walk_paper" sWalkP ["ladder"]
  h_does_show : Hd K mg "does_show" sShow ["ladder", "paper"]
  h_check_walk : Hd K mg "check_walk" sCheck ["ladder", "paper"]
  h__law_mixed : Hd K mg "_law_mixed" sMixed ["_law_cell", "_law_k"]
  h__law_begin : Hd K mg "_law_begin" sBegin ["_law_script"]
  h__law_draw : Hd K mg "_law_draw" sDraw ["_law_state", "_law_many"]
  h__law_ratio : Hd K mg "_law_ratio" sRatio ["_law_top", "_law_bottom"]
  h__law_plus : Hd K mg "_law_plus" sPlus ["_law_one", "_law_other"]
  h__law_less : Hd K mg "_law_less" sLess ["_law_one", "_law_other"]
  h__law_times : Hd K mg "_law_times" sTimes ["_law_one", "_law_other"]
  h__law_over : Hd K mg "_law_over" sOver ["_law_one", "_law_other"]
  h__law_sum : Hd K mg "_law_sum" sLSum ["_law_some"]
  h__law_rates : Hd K mg "_law_rates" sLRates ["_law_state", "_law_most_so"]
  h__law_step : Hd K mg "_law_step" sStep ["_law_rates_so", "_law_some"]
  h__law_chances : Hd K mg "_law_chances" sLCh ["_law_rates_so", "_law_rung", "_law_many"]
  h__law_said : Hd K mg "_law_said" sSaid ["_law_call"]
  h__law_are_weights_right : Hd K mg "_law_are_weights_right" sRight ["_law_state", "_law_rates_so"]
  h__law_rates_refused : Hd K mg "_law_rates_refused" sRef ["_law_state"]
  h__law_others_refused : Hd K mg "_law_others_refused" sOthers ["_law_rates_so"]
  h__law_hand_right : Hd K mg "_law_hand_right" sHand []
  h_law : Hd K mg "law" sLaw ["_law_script"]
structure TopN (K : PySem.W.Frag) (mg : Str → Option Value) : Prop where
  m_isinstance : mg "isinstance" = none
  m_len : mg "len" = none
  m_all : mg "all" = none
  m_any : mg "any" = none
  m_abs : mg "abs" = none
  m_int : mg "int" = none
  m_bool : mg "bool" = none
  m_tuple : mg "tuple" = none
  m_str : mg "str" = none
  m_repr : mg "repr" = none
  m_zip : mg "zip" = none
  m_range : mg "range" = none
  m_enumerate : mg "enumerate" = none
  m_list : mg "list" = none
  m_max : mg "max" = none
  gNOUGHT : Kd K mg "NOUGHT" (FI 0 1)
  gMOST_MOMENTS : Kd K mg "MOST_MOMENTS" (.int 9)
  gMOST_RUNGS : Kd K mg "MOST_RUNGS" (.int 5)
  gMOST_TURNS : Kd K mg "MOST_TURNS" (.int 12)
  gMOST_OPEN : Kd K mg "MOST_OPEN" (.int 4)
  gMOST_ENDED : Kd K mg "MOST_ENDED" (.int 5)
  gWALK : Kd K mg "WALK" (.str "walk")
  gWORDS : Kd K mg "WORDS" (.tuple [.str "walk", .str "stay", .str "up"])
structure TopE (K : PySem.W.Frag) (mg : Str → Option Value) (c0 c1 c2 c3 c4 c5 : Addr) : Prop where
  e0 : ErF K mg "BadRates" "BadRates.__init__" sIBadRates c0 "given"
  e1 : ErF K mg "BadRung" "BadRung.__init__" sIBadRung c1 "given"
  e2 : ErF K mg "BadNumber" "BadNumber.__init__" sIBadNumber c2 "given"
  e3 : ErF K mg "BadLadder" "BadLadder.__init__" sIBadLadder c3 "given"
  e4 : ErF K mg "BadFraction" "BadFraction.__init__" sIBadFraction c4 "given"
  e5 : ErF K mg "BadPaper" "BadPaper.__init__" sIBadPaper c5 "part"
  ex : ∀ i j, i < 6 → j < 6 → PySem.W.exmOne K (.ref (sixA c0 c1 c2 c3 c4 c5 i)) (.ref (sixA c0 c1 c2 c3 c4 c5 j)) = some (decide (i = j))
section
variable {P : Program} {w : World} {K : PySem.W.Frag} {mg : Str → Option Value} {base : Heap} {S : Nat → Addr} {c0 c1 c2 c3 c4 c5 : Addr}
theorem TopE.six (t : TopE K mg c0 c1 c2 c3 c4 c5) : Six P w K mg base (sixA c0 c1 c2 c3 c4 c5) where
  e0 := t.e0.er scIBadRates P w base fun fI cdv A outer s H E => pss_one (ps_ost (pe_var (i := 0) rfl (.inl rfl)) (pe_var (i := 1) rfl (.inl rfl)))
  e1 := t.e1.er scIBadRung P w base fun fI cdv A outer s H E => pss_one (ps_ost (pe_var (i := 0) rfl (.inl rfl)) (pe_var (i := 1) rfl (.inl rfl)))
  e2 := t.e2.er scIBadNumber P w base fun fI cdv A outer s H E => pss_one (ps_ost (pe_var (i := 0) rfl (.inl rfl)) (pe_var (i := 1) rfl (.inl rfl)))
  e3 := t.e3.er scIBadLadder P w base fun fI cdv A outer s H E => pss_one (ps_ost (pe_var (i := 0) rfl (.inl rfl)) (pe_var (i := 1) rfl (.inl rfl)))
  e4 := t.e4.er scIBadFraction P w base fun fI cdv A outer s H E => pss_one (ps_ost (pe_var (i := 0) rfl (.inl rfl)) (pe_var (i := 1) rfl (.inl rfl)))
  e5 := t.e5.er scIBadPaper P w base fun fI cdv A outer s H E => pss_one (ps_ost (pe_var (i := 0) rfl (.inl rfl)) (pe_var (i := 1) rfl (.inl rfl)))
  ex := t.ex
theorem cn_never {x : Str} {st : Stmt} {ps : List Str} (h : Hd K mg x st ps) : Cn P w K mg base x 1 (fun _ _ => False) := by
  obtain ⟨f, fd, F, h1, h2⟩ := h.ex
  exact ⟨f, fd, ps, ⟨fun vs H Q E z => by obtain ⟨_, _, _, z, _⟩ := z; exact z.elim, fun A outer s H args us vs Q E _ _ _ _ z => by obtain ⟨_, _, _, z, _⟩ := z; exact z.elim⟩, h1, F.kp, h2⟩
theorem law_all {cR pR cO pO : Addr} (d : TopD K mg) (n : TopN K mg) (e : Six P w K mg base S) (hR : ∀ cdv, CodeAt K mg "_law_rates_refused" cdv → cdv = .ref cR) (hO : ∀ cdv, CodeAt K mg "_law_others_refused" cdv → cdv = .ref cO) (hne : pR ≠ pO) (TR : TabB base mg cR pR) (TO : TabB base mg cO pO) :
    CnG P w K mg base "law" 12 (spLaw K [(pR, qRef), (pO, qOthers)]) := by
  have six : Six P w K mg base S := e
  have gN : Kd K mg "NOUGHT" (FQ 0) := n.gNOUGHT
  have c_is_integer : Cn P w K mg base "is_integer" 1 frIsInt := cn_isint d.h_is_integer n.m_isinstance n.m_int n.m_bool
  have c_common : Cn P w K mg base "common" 1 frCommon := cn_common d.h_common n.m_abs n.m_int
  have c_made : Cn P w K mg base "made" 2 frMade := cn_made d.h_made c_common
  have c_whole : Cn P w K mg base "whole" 1 frWhole := cn_whole d.h_whole
  have c_add : Cn P w K mg base "add" 3 frAdd := cn_add d.h_add c_made
  have c_sub : Cn P w K mg base "sub" 3 frSub := cn_sub d.h_sub c_made
  have c_mul : Cn P w K mg base "mul" 3 frMul := cn_mul d.h_mul c_made
  have c_div : Cn P w K mg base "div" 3 frDiv := cn_div d.h_div c_made
  have c_is_under : Cn P w K mg base "is_under" 1 frUnder := cn_under d.h_is_under
  have c_sum_in : Cn P w K mg base "sum_in" 4 frSum := cn_sumin d.h_sum_in gN c_add
  have c_is_fraction : Cn P w K mg base "is_fraction" 2 frIsF := cn_isfr d.h_is_fraction n.m_isinstance n.m_tuple n.m_len n.m_all c_is_integer c_common
  have c_are_fractions : Cn P w K mg base "are_fractions" 3 frArFr := cn_arfr d.h_are_fractions n.m_isinstance n.m_tuple n.m_len n.m_all c_is_fraction
  have c_is_rung : Cn P w K mg base "is_rung" 5 frIsRung := cn_isrung d.h_is_rung n.m_isinstance n.m_tuple n.m_len n.m_all n.m_any c_is_fraction c_is_under gN c_sum_in c_whole
  have c_are_rates : Cn P w K mg base "are_rates" 6 frAreRates := cn_arerates d.h_are_rates n.m_isinstance n.m_tuple n.m_len n.m_all n.gMOST_RUNGS gN c_is_rung
  have c_need_rates : Cn P w K mg base "need_rates" 7 (frNeed (S 0)) := cn_needrates d.h_need_rates c_are_rates six.e0
  have c_need_top : Cn P w K mg base "need_top" 3 (frNT (S 2)) := cn_needtop d.h_need_top c_is_integer n.gMOST_MOMENTS six.e2
  have c_gone_on : Cn P w K mg base "gone_on" 4 frGo := cn_goneon d.h_gone_on gN n.m_len n.m_enumerate c_add c_mul
  have c_begun_at : Cn P w K mg base "begun_at" 2 frBa := cn_begunat d.h_begun_at n.m_len n.m_range n.m_int c_whole
  have c_chances : Cn P w K mg base "chances" 8 (FrCh (S 0) (S 1) (S 2)) := cn_chances d.h_chances n.m_len n.m_range n.m_tuple c_need_rates c_is_integer six.e1 six.e2 n.gMOST_TURNS c_begun_at c_gone_on
  have c_is_closed : Cn P w K mg base "is_closed" 8 (frBad (S 0)) := cn_isclosed d.h_is_closed c_need_rates
  have c_back_in : Cn P w K mg base "back_in" 5 frBi := cn_backin d.h_back_in n.m_range n.m_tuple c_begun_at c_gone_on
  have c_back_row : Cn P w K mg base "back_row" 8 (FrBr (S 0) (S 2) fun R m => .tuple (VF (row R) (m + 1))) := cn_backrow d.h_back_row c_need_rates c_need_top c_back_in
  have c_weights_in : Cn P w K mg base "weights_in" 4 frWIn := cn_wIn d.h_weights_in n.m_zip c_whole c_mul c_div
  have c_rung_weights : Cn P w K mg base "rung_weights" 8 (FrRW (S 0) fun R => .tuple (VF (wt R) R.n)) := cn_rw d.h_rung_weights n.m_tuple c_need_rates c_weights_in
  have c_mean_back : Cn P w K mg base "mean_back" 8 (FrRW (S 0) fun R => if R.u (R.n - 1) = 0 then FQ (((List.range R.n).map (wt R)).foldl (· + ·) 0) else .none) := cn_mb d.h_mean_back gN c_need_rates c_weights_in c_sum_in
  have c_first_backs : Cn P w K mg base "first_backs" 8 (FrBr (S 0) (S 2) fun R m => .tuple ((fbl R m).map FQ)) := cn_fb d.h_first_backs n.m_range n.m_enumerate n.m_tuple c_need_rates c_need_top c_back_in c_mul c_sub c_sum_in
  have c_is_form : Cn P w K mg base "is_form" 4 frForm := cn_form d.h_is_form n.m_isinstance n.m_tuple n.m_len gN n.gMOST_ENDED c_is_fraction c_is_under c_are_fractions
  have c_is_ended_in : Cn P w K mg base "is_ended_in" 1 frEnd := cn_endI d.h_is_ended_in gN
  have c_is_ladder : Cn P w K mg base "is_ladder" 5 FrIL := cn_islad d.h_is_ladder n.m_len n.m_all gN n.gMOST_OPEN c_is_form c_is_ended_in c_is_under
  have c_need_walkable : Cn P w K mg base "need_walkable" 6 (FrNW (S 3)) := cn_needw d.h_need_walkable c_is_ladder c_is_ended_in c_whole six.e3
  have c_walk_ladder : Cn P w K mg base "walk_ladder" 8 (frBad (S 0)) := cn_walkl d.h_walk_ladder c_need_rates (by decide : 1 ≤ 7) (cn_never d.h_ladder_from)
  have c_rates_of : Cn P w K mg base "rates_of" 7 (FrLX (S 3)) := cn_ratesof d.h_rates_of c_need_walkable
  have c_walk_paper : Cn P w K mg base "walk_paper" 7 (FrLX (S 3)) := cn_walkp d.h_walk_paper c_need_walkable
  have c_does_show : Cn P w K mg base "does_show" 2 frShow := cn_show d.h_does_show n.gWALK c_is_integer
  have c_check_walk : Cn P w K mg base "check_walk" 7 (FrCW (S 3) (S 5)) := cn_check d.h_check_walk n.m_isinstance n.m_tuple n.m_str n.m_len n.gWORDS c_need_walkable c_does_show six.e5
  have l_ratio : Cn P w K mg base "_law_ratio" 1 frMade := cn_ratio d.h__law_ratio n.m_abs n.m_int
  have l_plus : Cn P w K mg base "_law_plus" 2 frAdd := cn_plus d.h__law_plus l_ratio
  have l_less : Cn P w K mg base "_law_less" 2 frSub := cn_less d.h__law_less l_ratio
  have l_times : Cn P w K mg base "_law_times" 2 frMul := cn_times d.h__law_times l_ratio
  have l_over : Cn P w K mg base "_law_over" 2 frDiv := cn_over d.h__law_over l_ratio
  have l_sum : Cn P w K mg base "_law_sum" 3 frSum := cn_lsum d.h__law_sum l_plus
  have l_step : Cn P w K mg base "_law_step" 3 frGo := cn_step d.h__law_step n.m_len n.m_enumerate l_plus l_times
  have l_chances : Cn P w K mg base "_law_chances" 4 frLCh := cn_lch d.h__law_chances n.m_len n.m_range n.m_tuple l_step
  have l_mixed : Cn P w K mg base "_law_mixed" 1 frMixed := cn_mixed d.h__law_mixed n.m_int
  have l_draw : CnG P w K mg base "_law_draw" 2 spDraw := cn_draw d.h__law_draw n.m_int n.m_len l_mixed
  have l_rates : CnG P w K mg base "_law_rates" 3 (spRates K) := cn_lrates d.h__law_rates n.m_int n.m_range n.m_max n.m_tuple l_draw l_ratio
  have l_begin : CnG P w K mg base "_law_begin" 1 (spBegin K) := cn_begin d.h__law_begin n.m_list
  have l_right : CnG P w K mg base "_law_are_weights_right" 9 (spRight K) := cn_right d.h__law_are_weights_right n.m_repr n.m_zip n.m_len n.m_range n.m_enumerate n.m_tuple l_draw l_times l_over l_less l_sum l_chances c_rung_weights c_first_backs c_mean_back
  have l_hand : CnG P w K mg base "_law_hand_right" 9 spHand := cn_hand d.h__law_hand_right n.m_repr c_rung_weights c_first_backs c_mean_back
  have mR : (pR, qRef) ∈ [(pR, qRef), (pO, qOthers)] := List.mem_cons_self
  have mO : (pO, qOthers) ∈ [(pR, qRef), (pO, qOthers)] := List.mem_cons_of_mem _ List.mem_cons_self
  have uR : ∀ p ∈ [(pR, qRef), (pO, qOthers)], p.1 = pR → p.2 = qRef := fun p hp z => by
    rcases List.mem_cons.mp hp with y | y
    · rw [y]
    · rw [List.mem_singleton.mp y] at z
      exact absurd z.symm hne
  have uO : ∀ p ∈ [(pR, qRef), (pO, qOthers)], p.1 = pO → p.2 = qOthers := fun p hp z => by
    rcases List.mem_cons.mp hp with y | y
    · rw [y] at z
      exact absurd z hne
    · rw [List.mem_singleton.mp y]
  have l_ref : CnG P w K mg base "_law_rates_refused" 11 (spRef [(pR, qRef), (pO, qOthers)]) := cn_ref d.h__law_rates_refused d.h__law_said six n.m_repr TR hR mR uR l_draw c_need_rates c_is_closed c_chances c_back_row c_walk_ladder c_rung_weights c_first_backs c_mean_back
  have l_oth : CnG P w K mg base "_law_others_refused" 11 (spOthers K [(pR, qRef), (pO, qOthers)]) := cn_others d.h__law_others_refused d.h__law_said six n.m_repr n.m_len TO hO mO uO c_chances c_back_row c_first_backs c_rates_of c_walk_paper c_check_walk
  exact cn_law d.h_law n.m_len n.m_range l_begin l_rates l_right l_ref l_oth l_hand
end
end RS
set_option Elab.async false
set_option linter.all false
set_option maxRecDepth 100000
set_option maxHeartbeats 4000000
/-! part Y4: the walk of the row -/
namespace RS
open PySem PySem.Spec PyProof.Rows L2 RM LamX
/-- the code object of the def of this name stands at c -/
def CodeBy (K : PySem.W.Frag) (mg : Str → Option Value) (x : Str) (c : Addr) : Prop := ∃ (f : Addr) (o : Obj) (fd : FuncData), mg x = some (.ref f) ∧ K.lookup f = some o ∧ o.data = .func fd ∧ fd.code = .ref c
theorem codeBy_mk {K : PySem.W.Frag} {mg : Str → Option Value} {h : Heap} {x : Str} {f c : Addr} {oc : Value} {od : Option Addr} {osl : Array (Option Value)} {fd : FuncData} (X : K.In h) (G : h.Ns mainGlobals mg) (a : PySem.W.nsIn K mainGlobals x = some (some (.ref f))) (l : K.lookup f = some ⟨oc, od, .func fd, osl⟩) (e : fd.code = .ref c) : CodeBy K mg x c :=
  ⟨f, _, fd, PySem.W.mg_of X G a, l, rfl, e⟩
/-- all that is asked of the top's end -/
structure TopZ (K : PySem.W.Frag) (mg : Str → Option Value) (h : Heap) (cR pR cO pO c0 c1 c2 c3 c4 c5 : Addr) : Prop where
  d : TopD K mg
  n : TopN K mg
  e : TopE K mg c0 c1 c2 c3 c4 c5
  oR : CodeBy K mg "_law_rates_refused" cR
  oO : CodeBy K mg "_law_others_refused" cO
  ne : pR ≠ pO
  hR : PySem.W.CodeHd h cR pR
  hO : PySem.W.CodeHd h cO pO
  tR : h.get? pR = some emT
  tO : h.get? pO = some emT
  nR : K.lookup pR = none
  nO : K.lookup pO = none
theorem code_at {K : PySem.W.Frag} {mg : Str → Option Value} {x : Str} {c : Addr} (h : CodeBy K mg x c) : ∀ cdv, CodeAt K mg x cdv → cdv = .ref c := fun cdv hc => by
  obtain ⟨f, o, fd, h1, h2, h3, h4⟩ := h
  obtain ⟨_, f', o', fd', g1, g2, g3, g4⟩ := hc
  rw [h1] at g1
  cases g1
  rw [h2] at g2
  cases g2
  rw [h3] at g3
  cases g3
  exact g4.symm.trans h4
theorem walk_fin {l : PySem.W.OpenLaw} {q : Program} {loose : List Str} {XP : (Str → Option Value) → Heap → Prop} {YP : World → Heap → Prop} {d : DefRec} {K : Params → PySem.W.Frag} (hn : l.most = some 63) (hdf : d.params.defaults = []) (hnm : d.name = "law")
    (hY : ∀ (w : World) (h : Heap), YP w h → (K w.params).In h)
    (F : ∀ (w : World) (mg : Str → Option Value) (h : Heap), YP w h → (K w.params).In h → h.Ns mainGlobals mg → XP mg h → ∃ cR pR cO pO c0 c1 c2 c3 c4 c5, TopZ (K w.params) mg h cR pR cO pO c0 c1 c2 c3 c4 c5) :
    PySem.W.WalkO q loose XP YP l.row.toRowW d [] (fun f vs => PySem.call f vs) := by
  refine Att.attach_callB hn hdf fun w s0 s1 mg mb fa o pm cd doc a us ks G Y ho hd hcd hmg hobj hii hlen hbits hg => ?_
  rw [hnm] at hmg
  obtain ⟨cR, pR, cO, pO, c0, c1, c2, c3, c4, c5, t⟩ := F w mg _ Y (hY w _ Y) G.T.g G.X
  have St : Stand (K w.params) mg mb [pR, pO] a us ks s1 := by
    refine ⟨hY w _ Y, G.T.g, G.T.b, G.T.builtins, G.T.nolimit, hg, fun b hb => ?_, fun b hb => ?_, hobj, hii, Nat.le_trans hlen (by decide)⟩
    · rcases List.mem_cons.mp hb with z | z
      · rw [z]; exact t.tR
      · rw [List.mem_singleton.mp z]; exact t.tO
    · rcases List.mem_cons.mp hb with z | z
      · rw [z]; exact t.nR
      · rw [List.mem_singleton.mp z]; exact t.nO
  have mR : pR ∈ [pR, pO] := List.mem_cons_self
  have mO : pO ∈ [pR, pO] := List.mem_cons_of_mem _ List.mem_cons_self
  refine St.call (k := 12) (x := "law") (fun b hb => ?_) ⟨rfl, by decide, by decide⟩ (law_all t.d t.n t.e.six (code_at t.oR) (code_at t.oO) t.ne (St.tabB t.hR mR G.T.bmain) (St.tabB t.hO mO G.T.bmain)) hmg ⟨a, ks, rfl, St.seq, hlen, fun p hp => ?_, fun _ => rfl⟩
  · rcases List.mem_cons.mp hb with z | z
    · rw [z]; exact (t.hR.tab t.tR).isCodeTable
    · rw [List.mem_singleton.mp z]; exact (t.hO.tab t.tO).isCodeTable
  · rcases List.mem_cons.mp hp with z | z
    · rw [z]; exact TabS.nil (entry_tab mR)
    · rw [List.mem_singleton.mp z]; exact TabS.nil (entry_tab mO)
end RS
open PySem PySem.W PyProof.Rows
set_option maxRecDepth 100000 in
set_option maxHeartbeats 0 in
theorem PySem.Challenge.cw_rungshare_k29_whole_walk_weights_and_ref_holds : PySem.Challenge.rw_rungshare_k29_whole_walk_weights_and_ref.Holds := by
  w_on; o_law; k_head; (case hw => w_witness2)
  k_fill
  refine RS.walk_fin (l := PySem.Challenge.rw_rungshare_k29_whole_walk_weights_and_ref) rfl rfl rfl (fun w h Y => PySem.W.km_in_of Y) ?F
  case F =>
    intro w mg h Y KX G GX
    have tabs := PySem.W.km_tabs_of Y
    refine' ⟨?zR, 499, ?zO, 506, ?z0, ?z1, ?z2, ?z3, ?z4, ?z5, RS.TopZ.mk ?d ?n ?e ?oR ?oO ?ne ?hR ?hO ?tR ?tO ?nR ?nO⟩
    case e =>
      refine' RS.TopE.mk ?e0 ?e1 ?e2 ?e3 ?e4 ?e5 ?ex
      case e0 =>
        refine' RS.erf_mk KX G RS.b_BadRates ?aC ?xL ?sa ?ga ?gg ?nb ?a1 ?t1 ?l1 ?c1 ?k1 ?kC ?eC ?tC ?hC
        (case aC => k_is); (case xL => k_is); (case sa => k_is); (case ga => k_is); (case gg => k_is); (case nb => k_is); (case a1 => k_is); (case t1 => k_is); (case l1 => k_is); (case c1 => k_is); (case k1 => k_is); (case kC => k_is); (case eC => k_is); (case tC => k_is); (case hC => k_is)
      case e1 =>
        refine' RS.erf_mk KX G RS.b_BadRung ?aC ?xL ?sa ?ga ?gg ?nb ?a1 ?t1 ?l1 ?c1 ?k1 ?kC ?eC ?tC ?hC
        (case aC => k_is); (case xL => k_is); (case sa => k_is); (case ga => k_is); (case gg => k_is); (case nb => k_is); (case a1 => k_is); (case t1 => k_is); (case l1 => k_is); (case c1 => k_is); (case k1 => k_is); (case kC => k_is); (case eC => k_is); (case tC => k_is); (case hC => k_is)
      case e2 =>
        refine' RS.erf_mk KX G RS.b_BadNumber ?aC ?xL ?sa ?ga ?gg ?nb ?a1 ?t1 ?l1 ?c1 ?k1 ?kC ?eC ?tC ?hC
        (case aC => k_is); (case xL => k_is); (case sa => k_is); (case ga => k_is); (case gg => k_is); (case nb => k_is); (case a1 => k_is); (case t1 => k_is); (case l1 => k_is); (case c1 => k_is); (case k1 => k_is); (case kC => k_is); (case eC => k_is); (case tC => k_is); (case hC => k_is)
      case e3 =>
        refine' RS.erf_mk KX G RS.b_BadLadder ?aC ?xL ?sa ?ga ?gg ?nb ?a1 ?t1 ?l1 ?c1 ?k1 ?kC ?eC ?tC ?hC
        (case aC => k_is); (case xL => k_is); (case sa => k_is); (case ga => k_is); (case gg => k_is); (case nb => k_is); (case a1 => k_is); (case t1 => k_is); (case l1 => k_is); (case c1 => k_is); (case k1 => k_is); (case kC => k_is); (case eC => k_is); (case tC => k_is); (case hC => k_is)
      case e4 =>
        refine' RS.erf_mk KX G RS.b_BadFraction ?aC ?xL ?sa ?ga ?gg ?nb ?a1 ?t1 ?l1 ?c1 ?k1 ?kC ?eC ?tC ?hC
        (case aC => k_is); (case xL => k_is); (case sa => k_is); (case ga => k_is); (case gg => k_is); (case nb => k_is); (case a1 => k_is); (case t1 => k_is); (case l1 => k_is); (case c1 => k_is); (case k1 => k_is); (case kC => k_is); (case eC => k_is); (case tC => k_is); (case hC => k_is)
      case e5 =>
        refine' RS.erf_mk KX G RS.b_BadPaper ?aC ?xL ?sa ?ga ?gg ?nb ?a1 ?t1 ?l1 ?c1 ?k1 ?kC ?eC ?tC ?hC
        (case aC => k_is); (case xL => k_is); (case sa => k_is); (case ga => k_is); (case gg => k_is); (case nb => k_is); (case a1 => k_is); (case t1 => k_is); (case l1 => k_is); (case c1 => k_is); (case k1 => k_is); (case kC => k_is); (case eC => k_is); (case tC => k_is); (case hC => k_is)
      case ex =>
        refine' RS.six_all ?h00 ?h01 ?h02 ?h03 ?h04 ?h05 ?h10 ?h11 ?h12 ?h13 ?h14 ?h15 ?h20 ?h21 ?h22 ?h23 ?h24 ?h25 ?h30 ?h31 ?h32 ?h33 ?h34 ?h35 ?h40 ?h41 ?h42 ?h43 ?h44 ?h45 ?h50 ?h51 ?h52 ?h53 ?h54 ?h55
        all_goals exact RS.exm_of (by k_is) (by k_is) (by k_is) (by k_is)
    case d =>
      refine' RS.TopD.mk ?d0 ?d1 ?d2 ?d3 ?d4 ?d5 ?d6 ?d7 ?d8 ?d9 ?d10 ?d11 ?d12 ?d13 ?d14 ?d15 ?d16 ?d17 ?d18 ?d19 ?d20 ?d21 ?d22 ?d23 ?d24 ?d25 ?d26 ?d27 ?d28 ?d29 ?d30 ?d31 ?d32 ?d33 ?d34 ?d35 ?d36 ?d37 ?d38 ?d39 ?d40 ?d41 ?d42 ?d43 ?d44 ?d45 ?d46 ?d47 ?d48 ?d49 ?d50 ?d51 ?d52 ?d53
      case d0 =>
        refine' RS.hd_mk KX G RS.b_is_integer ?a ?l ?c ?k
        (case a => k_is); (case l => k_is); (case c => k_is); (case k => k_is)
      case d1 =>
        refine' RS.hd_mk KX G RS.b_common ?a ?l ?c ?k
        (case a => k_is); (case l => k_is); (case c => k_is); (case k => k_is)
      case d2 =>
        refine' RS.hd_mk KX G RS.b_made ?a ?l ?c ?k
        (case a => k_is); (case l => k_is); (case c => k_is); (case k => k_is)
      case d3 =>
        refine' RS.hd_mk KX G RS.b_is_fraction ?a ?l ?c ?k
        (case a => k_is); (case l => k_is); (case c => k_is); (case k => k_is)
      case d4 =>
        refine' RS.hd_mk KX G RS.b_whole ?a ?l ?c ?k
        (case a => k_is); (case l => k_is); (case c => k_is); (case k => k_is)
      case d5 =>
        refine' RS.hd_mk KX G RS.b_add ?a ?l ?c ?k
        (case a => k_is); (case l => k_is); (case c => k_is); (case k => k_is)
      case d6 =>
        refine' RS.hd_mk KX G RS.b_sub ?a ?l ?c ?k
        (case a => k_is); (case l => k_is); (case c => k_is); (case k => k_is)
      case d7 =>
        refine' RS.hd_mk KX G RS.b_mul ?a ?l ?c ?k
        (case a => k_is); (case l => k_is); (case c => k_is); (case k => k_is)
      case d8 =>
        refine' RS.hd_mk KX G RS.b_div ?a ?l ?c ?k
        (case a => k_is); (case l => k_is); (case c => k_is); (case k => k_is)
      case d9 =>
        refine' RS.hd_mk KX G RS.b_is_under ?a ?l ?c ?k
        (case a => k_is); (case l => k_is); (case c => k_is); (case k => k_is)
      case d10 =>
        refine' RS.hd_mk KX G RS.b_sum_in ?a ?l ?c ?k
        (case a => k_is); (case l => k_is); (case c => k_is); (case k => k_is)
      case d11 =>
        refine' RS.hd_mk KX G RS.b_are_fractions ?a ?l ?c ?k
        (case a => k_is); (case l => k_is); (case c => k_is); (case k => k_is)
      case d12 =>
        refine' RS.hd_mk KX G RS.b_need_top ?a ?l ?c ?k
        (case a => k_is); (case l => k_is); (case c => k_is); (case k => k_is)
      case d13 =>
        refine' RS.hd_mk KX G RS.b_is_rung ?a ?l ?c ?k
        (case a => k_is); (case l => k_is); (case c => k_is); (case k => k_is)
      case d14 =>
        refine' RS.hd_mk KX G RS.b_are_rates ?a ?l ?c ?k
        (case a => k_is); (case l => k_is); (case c => k_is); (case k => k_is)
      case d15 =>
        refine' RS.hd_mk KX G RS.b_need_rates ?a ?l ?c ?k
        (case a => k_is); (case l => k_is); (case c => k_is); (case k => k_is)
      case d16 =>
        refine' RS.hd_mk KX G RS.b_is_closed ?a ?l ?c ?k
        (case a => k_is); (case l => k_is); (case c => k_is); (case k => k_is)
      case d17 =>
        refine' RS.hd_mk KX G RS.b_gone_on ?a ?l ?c ?k
        (case a => k_is); (case l => k_is); (case c => k_is); (case k => k_is)
      case d18 =>
        refine' RS.hd_mk KX G RS.b_begun_at ?a ?l ?c ?k
        (case a => k_is); (case l => k_is); (case c => k_is); (case k => k_is)
      case d19 =>
        refine' RS.hd_mk KX G RS.b_chances ?a ?l ?c ?k
        (case a => k_is); (case l => k_is); (case c => k_is); (case k => k_is)
      case d20 =>
        refine' RS.hd_mk KX G RS.b_back_in ?a ?l ?c ?k
        (case a => k_is); (case l => k_is); (case c => k_is); (case k => k_is)
      case d21 =>
        refine' RS.hd_mk KX G RS.b_back_row ?a ?l ?c ?k
        (case a => k_is); (case l => k_is); (case c => k_is); (case k => k_is)
      case d22 =>
        refine' RS.hd_mk KX G RS.b_weights_in ?a ?l ?c ?k
        (case a => k_is); (case l => k_is); (case c => k_is); (case k => k_is)
      case d23 =>
        refine' RS.hd_mk KX G RS.b_rung_weights ?a ?l ?c ?k
        (case a => k_is); (case l => k_is); (case c => k_is); (case k => k_is)
      case d24 =>
        refine' RS.hd_mk KX G RS.b_first_backs ?a ?l ?c ?k
        (case a => k_is); (case l => k_is); (case c => k_is); (case k => k_is)
      case d25 =>
        refine' RS.hd_mk KX G RS.b_mean_back ?a ?l ?c ?k
        (case a => k_is); (case l => k_is); (case c => k_is); (case k => k_is)
      case d26 =>
        refine' RS.hd_mk KX G RS.b_is_form ?a ?l ?c ?k
        (case a => k_is); (case l => k_is); (case c => k_is); (case k => k_is)
      case d27 =>
        refine' RS.hd_mk KX G RS.b_is_ended_in ?a ?l ?c ?k
        (case a => k_is); (case l => k_is); (case c => k_is); (case k => k_is)
      case d28 =>
        refine' RS.hd_mk KX G RS.b_is_ladder ?a ?l ?c ?k
        (case a => k_is); (case l => k_is); (case c => k_is); (case k => k_is)
      case d29 =>
        refine' RS.hd_mk KX G RS.b_ladder_from ?a ?l ?c ?k
        (case a => k_is); (case l => k_is); (case c => k_is); (case k => k_is)
      case d30 =>
        refine' RS.hd_mk KX G RS.b_walk_ladder ?a ?l ?c ?k
        (case a => k_is); (case l => k_is); (case c => k_is); (case k => k_is)
      case d31 =>
        refine' RS.hd_mk KX G RS.b_need_walkable ?a ?l ?c ?k
        (case a => k_is); (case l => k_is); (case c => k_is); (case k => k_is)
      case d32 =>
        refine' RS.hd_mk KX G RS.b_rates_of ?a ?l ?c ?k
        (case a => k_is); (case l => k_is); (case c => k_is); (case k => k_is)
      case d33 =>
        refine' RS.hd_mk KX G RS.b_walk_paper ?a ?l ?c ?k
        (case a => k_is); (case l => k_is); (case c => k_is); (case k => k_is)
      case d34 =>
        refine' RS.hd_mk KX G RS.b_does_show ?a ?l ?c ?k
        (case a => k_is); (case l => k_is); (case c => k_is); (case k => k_is)
      case d35 =>
        refine' RS.hd_mk KX G RS.b_check_walk ?a ?l ?c ?k
        (case a => k_is); (case l => k_is); (case c => k_is); (case k => k_is)
      case d36 =>
        refine' RS.hd_mk KX G RS.b__law_mixed ?a ?l ?c ?k
        (case a => k_is); (case l => k_is); (case c => k_is); (case k => k_is)
      case d37 =>
        refine' RS.hd_mk KX G RS.b__law_begin ?a ?l ?c ?k
        (case a => k_is); (case l => k_is); (case c => k_is); (case k => k_is)
      case d38 =>
        refine' RS.hd_mk KX G RS.b__law_draw ?a ?l ?c ?k
        (case a => k_is); (case l => k_is); (case c => k_is); (case k => k_is)
      case d39 =>
        refine' RS.hd_mk KX G RS.b__law_ratio ?a ?l ?c ?k
        (case a => k_is); (case l => k_is); (case c => k_is); (case k => k_is)
      case d40 =>
        refine' RS.hd_mk KX G RS.b__law_plus ?a ?l ?c ?k
        (case a => k_is); (case l => k_is); (case c => k_is); (case k => k_is)
      case d41 =>
        refine' RS.hd_mk KX G RS.b__law_less ?a ?l ?c ?k
        (case a => k_is); (case l => k_is); (case c => k_is); (case k => k_is)
      case d42 =>
        refine' RS.hd_mk KX G RS.b__law_times ?a ?l ?c ?k
        (case a => k_is); (case l => k_is); (case c => k_is); (case k => k_is)
      case d43 =>
        refine' RS.hd_mk KX G RS.b__law_over ?a ?l ?c ?k
        (case a => k_is); (case l => k_is); (case c => k_is); (case k => k_is)
      case d44 =>
        refine' RS.hd_mk KX G RS.b__law_sum ?a ?l ?c ?k
        (case a => k_is); (case l => k_is); (case c => k_is); (case k => k_is)
      case d45 =>
        refine' RS.hd_mk KX G RS.b__law_rates ?a ?l ?c ?k
        (case a => k_is); (case l => k_is); (case c => k_is); (case k => k_is)
      case d46 =>
        refine' RS.hd_mk KX G RS.b__law_step ?a ?l ?c ?k
        (case a => k_is); (case l => k_is); (case c => k_is); (case k => k_is)
      case d47 =>
        refine' RS.hd_mk KX G RS.b__law_chances ?a ?l ?c ?k
        (case a => k_is); (case l => k_is); (case c => k_is); (case k => k_is)
      case d48 =>
        refine' RS.hd_mk KX G RS.b__law_said ?a ?l ?c ?k
        (case a => k_is); (case l => k_is); (case c => k_is); (case k => k_is)
      case d49 =>
        refine' RS.hd_mk KX G RS.b__law_are_weights_right ?a ?l ?c ?k
        (case a => k_is); (case l => k_is); (case c => k_is); (case k => k_is)
      case d50 =>
        refine' RS.hd_mk KX G RS.b__law_rates_refused ?a ?l ?c ?k
        (case a => k_is); (case l => k_is); (case c => k_is); (case k => k_is)
      case d51 =>
        refine' RS.hd_mk KX G RS.b__law_others_refused ?a ?l ?c ?k
        (case a => k_is); (case l => k_is); (case c => k_is); (case k => k_is)
      case d52 =>
        refine' RS.hd_mk KX G RS.b__law_hand_right ?a ?l ?c ?k
        (case a => k_is); (case l => k_is); (case c => k_is); (case k => k_is)
      case d53 =>
        refine' RS.hd_mk KX G RS.b_law ?a ?l ?c ?k
        (case a => k_is); (case l => k_is); (case c => k_is); (case k => k_is)
    case n =>
      refine' RS.TopN.mk ?n0 ?n1 ?n2 ?n3 ?n4 ?n5 ?n6 ?n7 ?n8 ?n9 ?n10 ?n11 ?n12 ?n13 ?n14 ?gN ?iM0 ?iM1 ?iM2 ?iM3 ?iM4 ?gK ?gW
      case n0 => exact PySem.W.mg_none_of KX G (by k_is)
      case n1 => exact PySem.W.mg_none_of KX G (by k_is)
      case n2 => exact PySem.W.mg_none_of KX G (by k_is)
      case n3 => exact PySem.W.mg_none_of KX G (by k_is)
      case n4 => exact PySem.W.mg_none_of KX G (by k_is)
      case n5 => exact PySem.W.mg_none_of KX G (by k_is)
      case n6 => exact PySem.W.mg_none_of KX G (by k_is)
      case n7 => exact PySem.W.mg_none_of KX G (by k_is)
      case n8 => exact PySem.W.mg_none_of KX G (by k_is)
      case n9 => exact PySem.W.mg_none_of KX G (by k_is)
      case n10 => exact PySem.W.mg_none_of KX G (by k_is)
      case n11 => exact PySem.W.mg_none_of KX G (by k_is)
      case n12 => exact PySem.W.mg_none_of KX G (by k_is)
      case n13 => exact PySem.W.mg_none_of KX G (by k_is)
      case n14 => exact PySem.W.mg_none_of KX G (by k_is)
      case gN =>
        refine' RS.kd_pair KX G ?a ?l ?c ?d
        (case a => k_is); (case l => k_is); (case c => rfl); (case d => rfl)
      case iM0 =>
        refine' RS.kd_int KX G ?a
        (case a => k_is)
      case iM1 =>
        refine' RS.kd_int KX G ?a
        (case a => k_is)
      case iM2 =>
        refine' RS.kd_int KX G ?a
        (case a => k_is)
      case iM3 =>
        refine' RS.kd_int KX G ?a
        (case a => k_is)
      case iM4 =>
        refine' RS.kd_int KX G ?a
        (case a => k_is)
      case gK =>
        refine' RS.kd_str KX G ?a
        (case a => k_is)
      case gW =>
        refine' RS.kd_words KX G ?a ?l ?c ?d
        (case a => k_is); (case l => k_is); (case c => rfl); (case d => rfl)
    case oR =>
      refine' RS.codeBy_mk KX G ?a ?l ?x
      (case a => k_is); (case l => k_is); (case x => exact rfl)
    case oO =>
      refine' RS.codeBy_mk KX G ?a ?l ?x
      (case a => k_is); (case l => k_is); (case x => exact rfl)
    case ne => decide
    case hR => exact PySem.W.codeHd_of_K KX (by kernel_rfl)
    case hO => exact PySem.W.codeHd_of_K KX (by kernel_rfl)
    case tR => exact tabs 499 (by decide)
    case tO => exact tabs 506 (by decide)
    case nR => kernel_rfl
    case nO => kernel_rfl
