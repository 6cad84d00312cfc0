import PyProof.Rows.All
import Wide.All
import OpenK.AllK
import Wide.FinOn
import HandS.ForMost
import HandS.ForExc
import HandS.TupAny
import HandS.Deep
import HandS.Flow
import HandS.TryMany
import HandS.IsInst
import HandS.ExcIs
import PyProof.ReprRoads
import HandS.Wide
import HandS.TupMul
import PySem.Challenge.RW_scarp_k01_patterns_checked
set_option Elab.async false
set_option linter.all false
set_option maxRecDepth 100000
set_option maxHeartbeats 4000000
/-! DL: a layer of data over HandS: what stands in a slot is a tree of data (frozen), or an object that this slot alone owns. -/
namespace DL
open PySem PySem.Spec PyProof.Rows L2

/-- what a slot holds: data that never changes; an owned list, dict, instance; a value as it is -/
inductive M where
  | d (x : PyData)
  | lst (ms : List M)
  | dK (kvs : List (Key × M))
  | dT (kvs : List (List Key × M))
  | ins (C : Addr) (fs : List (Str × M))
  | raw (v : V)
  | scr (ns : List Int)
abbrev AS := Addr → Prop
abbrev G := List (Option M)

/-! data: lists as they are laid, tuples of any kind -/
mutual
inductive Dq (K : PySem.W.Frag) (H : Hp) : V → PyData → Prop
  | non : Dq K H .non .none
  | bl (b : Bool) : Dq K H (.bl b) (.bool b)
  | int (i : Int) : Dq K H (.int i) (.int i)
  | str (x : Str) : Dq K H (.str x) (.str x)
  | lst {a : Addr} {xs : List V} {ds : List PyData} : H a = some (.lst xs) → DqAll K H xs ds → Dq K H (.ref a) (.list ds)
  | tup {a : Addr} {xs : List V} {ds : List PyData} : SqT K H a xs → DqAll K H xs ds → Dq K H (.ref a) (.tuple ds)
inductive DqAll (K : PySem.W.Frag) (H : Hp) : List V → List PyData → Prop
  | nil : DqAll K H [] []
  | cons {v : V} {vs : List V} {d : PyData} {ds : List PyData} : Dq K H v d → DqAll K H vs ds → DqAll K H (v :: vs) (d :: ds)
end
section
variable (K : PySem.W.Frag) (F H : Hp)
mutual
inductive Own : V → M → AS → Prop
  | d {v : V} {x : PyData} {fp : AS} : Dq K F v x → (∀ a, ¬ fp a) → Own v (.d x) fp
  | raw {v : V} {fp : AS} : (∀ a, ¬ fp a) → Own v (.raw v) fp
  | scr {a : Addr} {ns : List Int} {fp : AS} : SqL K F a (ns.map V.int) → (∀ a, ¬ fp a) → Own (.ref a) (.scr ns) fp
  | lst {a : Addr} {vs : List V} {ms : List M} {f fp : AS} : H a = some (.lst vs) → OwnL vs ms f → ¬ f a → (∀ b, fp b ↔ (b = a ∨ f b)) → Own (.ref a) (.lst ms) fp
  | dK {a : Addr} {kvs : List (Key × V)} {mvs : List (Key × M)} {f fp : AS} : H a = some (.dK kvs) → kvs.map (·.1) = mvs.map (·.1) → OwnL (kvs.map (·.2)) (mvs.map (·.2)) f → ¬ f a → (∀ b, fp b ↔ (b = a ∨ f b)) → Own (.ref a) (.dK mvs) fp
  | dT {a : Addr} {kvs : List (List Key × V)} {mvs : List (List Key × M)} {f fp : AS} : H a = some (.dT kvs) → kvs.map (·.1) = mvs.map (·.1) → OwnL (kvs.map (·.2)) (mvs.map (·.2)) f → ¬ f a → (∀ b, fp b ↔ (b = a ∨ f b)) → Own (.ref a) (.dT mvs) fp
  | ins {a C dx : Addr} {fs : List (Str × V)} {ms : List (Str × M)} {f fp : AS} : H a = some (.ins C dx fs) → H dx = some (.own a) → dx ≠ a → fs.map (·.1) = ms.map (·.1) → OwnL (fs.map (·.2)) (ms.map (·.2)) f → ¬ f a → ¬ f dx → (∀ b, fp b ↔ (b = a ∨ b = dx ∨ f b)) → Own (.ref a) (.ins C ms) fp
inductive OwnL : List V → List M → AS → Prop
  | nil {fp : AS} : (∀ a, ¬ fp a) → OwnL [] [] fp
  | cons {v : V} {vs : List V} {m : M} {ms : List M} {f g fp : AS} : Own v m f → OwnL vs ms g → (∀ a, f a → g a → False) → (∀ b, fp b ↔ (f b ∨ g b)) → OwnL (v :: vs) (m :: ms) fp
end
end

theorem Same.sqL {K : PySem.W.Frag} {H H' : Hp} {a : Addr} {xs : List V} (e : Same H H') (h : SqL K H a xs) : SqL K H' a xs := e.seq h
theorem Same.sqT {K : PySem.W.Frag} {H H' : Hp} {a : Addr} {xs : List V} (e : Same H H') (h : SqT K H a xs) : SqT K H' a xs := by
  rcases h with (h | ⟨o, h⟩) | h
  · exact .inl (.inl (e _ _ h))
  · exact .inl (.inr ⟨o, e _ _ h⟩)
  · exact .inr h
section
variable {K : PySem.W.Frag} {F F' H H' : Hp}
mutual
theorem Dq.mono (e : Same F F') : ∀ (d : PyData) (v : V), Dq K F v d → Dq K F' v d
  | .none, _, h => by cases h; exact .non
  | .bool b, _, h => by cases h; exact .bl b
  | .int i, _, h => by cases h; exact .int i
  | .str x, _, h => by cases h; exact .str x
  | .list ds, _, h => by
    cases h with
    | lst h1 h2 => exact .lst (e _ _ h1) (DqAll.mono e ds _ h2)
  | .tuple ds, _, h => by
    cases h with
    | tup h1 h2 => exact .tup (Same.sqT e h1) (DqAll.mono e ds _ h2)
  | .dict _, _, h => by cases h
theorem DqAll.mono (e : Same F F') : ∀ (ds : List PyData) (vs : List V), DqAll K F vs ds → DqAll K F' vs ds
  | [], _, h => by cases h; exact .nil
  | d :: ds, _, h => by
    cases h with
    | cons h1 h2 => exact .cons (Dq.mono e d _ h1) (DqAll.mono e ds _ h2)
end
theorem Dq.up {v : V} {d : PyData} (h : Dq K F v d) (e : Same F F') : Dq K F' v d := Dq.mono e d v h
theorem DqAll.up {vs : List V} {ds : List PyData} (h : DqAll K F vs ds) (e : Same F F') : DqAll K F' vs ds := DqAll.mono e ds vs h
theorem DqAll.length {vs : List V} {ds : List PyData} (h : DqAll K F vs ds) : vs.length = ds.length := by
  induction ds generalizing vs with
  | nil => cases h; rfl
  | cons d ds ih =>
    cases h with
    | cons h1 h2 => simp [ih h2]
theorem DqAll.get {vs : List V} {ds : List PyData} (h : DqAll K F vs ds) {i : Nat} {d : PyData} (e : ds[i]? = some d) : ∃ v, vs[i]? = some v ∧ Dq K F v d := by
  induction ds generalizing vs i with
  | nil => simp at e
  | cons d0 ds ih =>
    cases h with
    | cons h1 h2 =>
      cases i with
      | zero => simp at e; subst e; exact ⟨_, rfl, h1⟩
      | succ i => simpa using ih h2 (by simpa using e)
theorem DqAll.get' {vs : List V} {ds : List PyData} (h : DqAll K F vs ds) {i : Nat} {v : V} (e : vs[i]? = some v) : ∃ d, ds[i]? = some d ∧ Dq K F v d := by
  have hl := h.length
  have hi : i < vs.length := (List.getElem?_eq_some_iff.mp e).1
  obtain ⟨v', e', q⟩ := h.get (i := i) (d := ds[i]'(by omega)) (List.getElem?_eq_getElem (by omega))
  rw [e] at e'; cases e'
  exact ⟨_, List.getElem?_eq_getElem (by omega), q⟩
theorem DqAll.append {vs ws : List V} {ds es : List PyData} (h : DqAll K F vs ds) (h' : DqAll K F ws es) : DqAll K F (vs ++ ws) (ds ++ es) := by
  induction ds generalizing vs with
  | nil => cases h; exact h'
  | cons d ds ih =>
    cases h with
    | cons h1 h2 => exact .cons h1 (ih h2)
theorem DqAll.take {vs : List V} {ds : List PyData} (n : Nat) (h : DqAll K F vs ds) : DqAll K F (vs.take n) (ds.take n) := by
  induction ds generalizing vs n with
  | nil => cases h; cases n <;> exact .nil
  | cons d ds ih =>
    cases h with
    | cons h1 h2 =>
      cases n with
      | zero => exact .nil
      | succ n => exact .cons h1 (ih n h2)
theorem DqAll.drop {vs : List V} {ds : List PyData} (n : Nat) (h : DqAll K F vs ds) : DqAll K F (vs.drop n) (ds.drop n) := by
  induction ds generalizing vs n with
  | nil => cases h; cases n <;> exact .nil
  | cons d ds ih =>
    cases h with
    | cons h1 h2 =>
      cases n with
      | zero => exact .cons h1 h2
      | succ n => exact ih n h2
theorem DqAll.one {v : V} {d : PyData} (h : Dq K F v d) : DqAll K F [v] [d] := .cons h .nil
theorem DqAll.mapInt (ns : List Int) : DqAll K F (ns.map V.int) (ns.map PyData.int) := by
  induction ns with
  | nil => exact .nil
  | cons n ns ih => exact .cons (.int n) ih
theorem DqAll.mapStr (ns : List Str) : DqAll K F (ns.map V.str) (ns.map PyData.str) := by
  induction ns with
  | nil => exact .nil
  | cons n ns ih => exact .cons (.str n) ih

mutual
theorem Dq.dp : ∀ (d : PyData) (v : V), Dq K F v d → Dp K F v d
  | .none, _, h => by cases h; exact .non
  | .bool b, _, h => by cases h; exact .bl b
  | .int i, _, h => by cases h; exact .int i
  | .str x, _, h => by cases h; exact .str x
  | .list ds, _, h => by
    cases h with
    | lst h1 h2 => exact .lst (.of h1) (DqAll.dp ds _ h2)
  | .tuple ds, _, h => by
    cases h with
    | tup h1 h2 => exact .tup h1 (DqAll.dp ds _ h2)
  | .dict _, _, h => by cases h
theorem DqAll.dp : ∀ (ds : List PyData) (vs : List V), DqAll K F vs ds → DpAll K F vs ds
  | [], _, h => by cases h; exact .nil
  | d :: ds, _, h => by
    cases h with
    | cons h1 h2 => exact .cons (Dq.dp d _ h1) (DqAll.dp ds _ h2)
end
theorem Dq.to {v : V} {d : PyData} (h : Dq K F v d) : Dp K F v d := Dq.dp d v h
theorem DqAll.to {vs : List V} {ds : List PyData} (h : DqAll K F vs ds) : DpAll K F vs ds := DqAll.dp ds vs h
/-! ### Own -/
mutual
theorem Own.mono {F F' H H' : Hp} (e : Same F F') : ∀ {v : V} {m : M} {fp : AS}, Own K F H v m fp → (∀ a, fp a → H' a = H a) → Own K F' H' v m fp
  | _, _, _, .d h n, _ => .d (h.up e) n
  | _, _, _, .raw n, _ => .raw n
  | _, _, _, .scr h n, _ => .scr (Same.sqL e h) n
  | _, _, _, .lst h1 h2 h3 h4, k => .lst ((k _ ((h4 _).2 (.inl rfl))).trans h1) (OwnL.mono e h2 fun b hb => k b ((h4 b).2 (.inr hb))) h3 h4
  | _, _, _, .dK h1 h0 h2 h3 h4, k => .dK ((k _ ((h4 _).2 (.inl rfl))).trans h1) h0 (OwnL.mono e h2 fun b hb => k b ((h4 b).2 (.inr hb))) h3 h4
  | _, _, _, .dT h1 h0 h2 h3 h4, k => .dT ((k _ ((h4 _).2 (.inl rfl))).trans h1) h0 (OwnL.mono e h2 fun b hb => k b ((h4 b).2 (.inr hb))) h3 h4
  | _, _, _, .ins h1 h5 h6 h0 h2 h3 h7 h4, k => .ins ((k _ ((h4 _).2 (.inl rfl))).trans h1) ((k _ ((h4 _).2 (.inr (.inl rfl)))).trans h5) h6 h0 (OwnL.mono e h2 fun b hb => k b ((h4 b).2 (.inr (.inr hb)))) h3 h7 h4
theorem OwnL.mono {F F' H H' : Hp} (e : Same F F') : ∀ {vs : List V} {ms : List M} {fp : AS}, OwnL K F H vs ms fp → (∀ a, fp a → H' a = H a) → OwnL K F' H' vs ms fp
  | _, _, _, .nil n, _ => .nil n
  | _, _, _, .cons h1 h2 h3 h4, k => .cons (Own.mono e h1 fun b hb => k b ((h4 b).2 (.inl hb))) (OwnL.mono e h2 fun b hb => k b ((h4 b).2 (.inr hb))) h3 h4
end
mutual
theorem Own.dom : ∀ {v : V} {m : M} {fp : AS}, Own K F H v m fp → ∀ a, fp a → H a ≠ none
  | _, _, _, .d _ n, a, ha => absurd ha (n a)
  | _, _, _, .raw n, a, ha => absurd ha (n a)
  | _, _, _, .scr _ n, a, ha => absurd ha (n a)
  | _, _, _, .lst h1 h2 h3 h4, a, ha => by
    rcases (h4 a).1 ha with rfl | hb
    · rw [h1]; exact fun z => nomatch z
    · exact OwnL.dom h2 a hb
  | _, _, _, .dK h1 h0 h2 h3 h4, a, ha => by
    rcases (h4 a).1 ha with rfl | hb
    · rw [h1]; exact fun z => nomatch z
    · exact OwnL.dom h2 a hb
  | _, _, _, .dT h1 h0 h2 h3 h4, a, ha => by
    rcases (h4 a).1 ha with rfl | hb
    · rw [h1]; exact fun z => nomatch z
    · exact OwnL.dom h2 a hb
  | _, _, _, .ins h1 h5 h6 h0 h2 h3 h7 h4, a, ha => by
    rcases (h4 a).1 ha with rfl | rfl | hb
    · rw [h1]; exact fun z => nomatch z
    · rw [h5]; exact fun z => nomatch z
    · exact OwnL.dom h2 a hb
theorem OwnL.dom : ∀ {vs : List V} {ms : List M} {fp : AS}, OwnL K F H vs ms fp → ∀ a, fp a → H a ≠ none
  | _, _, _, .nil n, a, ha => absurd ha (n a)
  | _, _, _, .cons h1 h2 h3 h4, a, ha => by
    rcases (h4 a).1 ha with hb | hb
    · exact Own.dom h1 a hb
    · exact OwnL.dom h2 a hb
end
theorem OwnL.length : ∀ {vs : List V} {ms : List M} {fp : AS}, OwnL K F H vs ms fp → vs.length = ms.length
  | _, _, _, .nil _ => rfl
  | _, _, _, .cons _ h2 _ _ => by simp [OwnL.length h2]
/-- another name of the same set of places -/
theorem Own.cong {v : V} {m : M} {fp gp : AS} (h : Own K F H v m fp) (e : ∀ a, gp a ↔ fp a) : Own K F H v m gp := by
  have : gp = fp := funext fun a => propext (e a)
  rw [this]; exact h
theorem OwnL.cong {v : List V} {m : List M} {fp gp : AS} (h : OwnL K F H v m fp) (e : ∀ a, gp a ↔ fp a) : OwnL K F H v m gp := by
  have : gp = fp := funext fun a => propext (e a)
  rw [this]; exact h

/-! ### frozen -/
mutual
inductive Frz : M → PyData → Prop
  | d {x : PyData} : Frz (.d x) x
  | lst {ms : List M} {xs : List PyData} : FrzL ms xs → Frz (.lst ms) (.list xs)
inductive FrzL : List M → List PyData → Prop
  | nil : FrzL [] []
  | cons {m : M} {ms : List M} {x : PyData} {xs : List PyData} : Frz m x → FrzL ms xs → FrzL (m :: ms) (x :: xs)
end
theorem FrzL.map : ∀ xs : List PyData, FrzL (xs.map M.d) xs
  | [] => .nil
  | _ :: xs => .cons .d (FrzL.map xs)
theorem Frz.list (xs : List PyData) : Frz (.lst (xs.map M.d)) (.list xs) := .lst (FrzL.map xs)
mutual
theorem Frz.own (e : Same F F') : ∀ {m : M} {x : PyData}, Frz m x → ∀ {v : V} {fp : AS}, Own K F H v m fp → (∀ a, fp a → F' a = H a) → Dq K F' v x
  | _, _, .d, v, fp, o, _ => by
    cases o with
    | d h _ => exact Dq.up h e
  | _, _, .lst q, v, fp, o, k => by
    cases o with
    | lst h1 h2 h3 h4 => exact .lst ((k _ ((h4 _).2 (.inl rfl))).trans h1) (FrzL.own e q h2 fun b hb => k b ((h4 b).2 (.inr hb)))
theorem FrzL.own (e : Same F F') : ∀ {ms : List M} {xs : List PyData}, FrzL ms xs → ∀ {vs : List V} {fp : AS}, OwnL K F H vs ms fp → (∀ a, fp a → F' a = H a) → DqAll K F' vs xs
  | _, _, .nil, vs, fp, o, _ => by
    cases o with
    | nil _ => exact .nil
  | _, _, .cons q1 q2, vs, fp, o, k => by
    cases o with
    | cons h1 h2 h3 h4 => exact .cons (Frz.own e q1 h1 fun b hb => k b ((h4 b).2 (.inl hb))) (FrzL.own e q2 h2 fun b hb => k b ((h4 b).2 (.inr hb)))
end
theorem Own.freeze (e : Same F F') {v : V} {m : M} {fp : AS} {x : PyData} (o : Own K F H v m fp) (z : Frz m x) (k : ∀ a, fp a → F' a = H a) : Dq K F' v x := z.own e o k
theorem OwnL.freeze (e : Same F F') {vs : List V} {ms : List M} {fp : AS} {xs : List PyData} (o : OwnL K F H vs ms fp) (z : FrzL ms xs) (k : ∀ a, fp a → F' a = H a) : DqAll K F' vs xs := z.own e o k
/-- data all through: nothing is owned -/
theorem OwnL.ofAll : ∀ {xs : List PyData} {vs : List V}, DqAll K F vs xs → OwnL K F H vs (xs.map M.d) (fun _ => False)
  | [], _, h => by cases h; exact .nil fun _ z => z
  | x :: xs, _, h => by
    cases h with
    | cons h1 h2 => exact .cons (.d h1 fun _ z => z) (OwnL.ofAll h2) (fun _ z _ => z) (fun b => by simp)
theorem OwnL.toAll : ∀ {xs : List PyData} {vs : List V} {fp : AS}, OwnL K F H vs (xs.map M.d) fp → DqAll K F vs xs ∧ ∀ a, ¬ fp a
  | [], _, _, h => by cases h with | nil n => exact ⟨.nil, n⟩
  | x :: xs, _, _, h => by
    cases h with
    | cons h1 h2 h3 h4 =>
      cases h1 with
      | d h1 n1 =>
        obtain ⟨q, n2⟩ := OwnL.toAll h2
        exact ⟨.cons h1 q, fun a ha => ((h4 a).1 ha).elim (n1 a) (n2 a)⟩
end
end DL

set_option Elab.async false
set_option linter.all false
set_option maxRecDepth 100000
set_option maxHeartbeats 4000000
namespace DL
open PySem PySem.Spec PyProof.Rows L2

/-! ### the weakest readings -/
def wE (X : Cx) (e : Expr) : TE := fun σ H Q => ∀ (pins : List (Addr × Obj)) (s : Shared), Inv X pins σ H s → wpAny (model X.prog X.w) X.A (eval e X.env) (EP X pins σ Q) X.xe s
def wT (X : Cx) (e : Expr) : TT := fun σ H Q => ∀ (pins : List (Addr × Obj)) (s : Shared), Inv X pins σ H s → wpAny (model X.prog X.w) X.A (isTrue e X.env (eval e X.env)) (TP X pins σ Q) X.xe s
def wW (X : Cx) (e : Expr) : TT := fun σ H Q => ∀ (whole : Sem Value) (pins : List (Addr × Obj)) (s : Shared), Inv X pins σ H s → wpAny (model X.prog X.w) X.A (isTrue e X.env whole) (TP X pins σ Q) X.xe s
def wA (X : Cx) (es : List Expr) : TA := fun σ H Q => ∀ (pos : Pos) (pins : List (Addr × Obj)) (s : Shared), Inv X pins σ H s → wpAny (model X.prog X.w) X.A (spliced (backTo pos (starEach es X.env))) (AP X pins σ Q) X.xe s
def wS (X : Cx) (st : Stmt) : TS := fun D σ H => ∀ (pins : List (Addr × Obj)) (s : Shared), Inv X pins σ H s → wpAny (model X.prog X.w) X.A (exec st X.env) (SP X pins D) X.xe s
def wSs (X : Cx) (st : List Stmt) : TS := fun D σ H => ∀ (pins : List (Addr × Obj)) (s : Shared), Inv X pins σ H s → wpAny (model X.prog X.w) X.A (execs st X.env) (SP X pins D) X.xe s
def wOp (X : Cx) (f : Value → Value → Sem Value) : R2 := fun x y H Q => ∀ (pins : List (Addr × Obj)) (s : Shared) (σ : L2.St) (v u : Value), Inv X pins σ H s → RelV x v → RelV y u → wpAny (model X.prog X.w) X.A (f v u) (EP X pins σ Q) X.xe s
section
variable {X : Cx}
theorem pe_w {e : Expr} : PE X e (wE X e) := ⟨fun pins s _ _ _ I h => h pins s I⟩
theorem pt_w {e : Expr} : PT X e (wT X e) := ⟨fun pins s _ _ _ I h => h pins s I⟩
theorem pw_w {e : Expr} : PW X e (wW X e) := ⟨fun wh pins s _ _ _ I h => h wh pins s I⟩
theorem pa_w {es : List Expr} : PA X es (wA X es) := ⟨fun pos pins s _ _ _ I h => h pos pins s I⟩
theorem ps_w {st : Stmt} : PS X st (wS X st) := ⟨fun pins s _ _ _ I h => h pins s I⟩
theorem pss_w {st : List Stmt} : PSs X st (wSs X st) := ⟨fun pins s _ _ _ I h => h pins s I⟩
theorem op_w {f : Value → Value → Sem Value} : OpR X f (wOp X f) := fun pins s σ H x y v u Q I rx ry h => h pins s σ v u I rx ry
theorem wE.of {e : Expr} {t : TE} (h : PE X e t) {σ : L2.St} {H : Hp} {Q : VK} (q : t σ H Q) : wE X e σ H Q := fun pins s I => h.run pins s σ H Q I q
theorem wT.of {e : Expr} {t : TT} (h : PT X e t) {σ : L2.St} {H : Hp} {Q : Bool → Hp → Prop} (q : t σ H Q) : wT X e σ H Q := fun pins s I => h.run pins s σ H Q I q
theorem wW.of {e : Expr} {t : TT} (h : PW X e t) {σ : L2.St} {H : Hp} {Q : Bool → Hp → Prop} (q : t σ H Q) : wW X e σ H Q := fun wh pins s I => h.run wh pins s σ H Q I q
theorem wA.of {es : List Expr} {t : TA} (h : PA X es t) {σ : L2.St} {H : Hp} {Q : List V → Hp → Prop} (q : t σ H Q) : wA X es σ H Q := fun pos pins s I => h.run pos pins s σ H Q I q
theorem wS.of {st : Stmt} {t : TS} (h : PS X st t) {D : Ends} {σ : L2.St} {H : Hp} (q : t D σ H) : wS X st D σ H := fun pins s I => h.run pins s σ H D I q
theorem wSs.of {st : List Stmt} {t : TS} (h : PSs X st t) {D : Ends} {σ : L2.St} {H : Hp} (q : t D σ H) : wSs X st D σ H := fun pins s I => h.run pins s σ H D I q
theorem wOp.of {f : Value → Value → Sem Value} {r : R2} (h : OpR X f r) {x y : V} {H : Hp} {Q : VK} (q : r x y H Q) : wOp X f x y H Q := fun pins s σ v u I rx ry => h pins s σ H x y v u Q I rx ry q
theorem wE.mono {e : Expr} {σ : L2.St} {H : Hp} {Q Q' : VK} (h : wE X e σ H Q) (k : ∀ v H', Q v H' → Q' v H') : wE X e σ H Q' := fun pins s I =>
  thn (h pins s I) fun _ _ ⟨v, H', I', r, q⟩ => ⟨v, H', I', r, k v H' q⟩
end

/-! ### the state -/
/-- the entry: what is frozen, what is tracked, what is lent (places, slots) -/
structure Base where
  F0 : Hp
  H0 : Hp
  L : Nat → AS
  ls : List (Option V)
structure Rel (K : PySem.W.Frag) (B : Base) (Γ : G) (σ : L2.St) (F H : Hp) (fp : Nat → AS) : Prop where
  len : Γ.length = σ.length
  own : ∀ (i : Nat) (m : M), Γ[i]? = some (some m) → ∃ v, σ[i]? = some (some v) ∧ Own K F H v m (fp i)
  dis : ∀ (i j : Nat) (a : Addr), i ≠ j → fp i a → fp j a → False
  out : ∀ (i : Nat) (a : Addr), fp i a → F a = none ∧ H a ≠ none ∧ (B.H0 a = none ∨ B.L i a)
  sub : Same F H
  ext : Same B.F0 F
  new : ∀ a, F a ≠ none → B.F0 a ≠ none ∨ B.H0 a = none
  keep : ∀ a o, B.H0 a = some o → (∀ i, ¬ B.L i a) → H a = some o
  there : ∀ a, B.H0 a ≠ none → H a ≠ none
  lent : ∀ (i : Nat) (v : V), B.ls[i]? = some (some v) → σ[i]? = some (some v)
section
variable {K : PySem.W.Frag} {B : Base} {Γ Γ' : G} {σ σ' : L2.St} {F F' H H' : Hp} {fp : Nat → AS}

/-- what only lays new things -/
structure Grow (F H F' H' : Hp) : Prop where
  f : Same F F'
  h : Same H H'
  sub : Same F' H'
  new : ∀ a, F' a ≠ none → F a ≠ none ∨ H a = none
theorem Grow.refl (s : Same F H) : Grow F H F H := ⟨Same.refl _, Same.refl _, s, fun _ h => .inl h⟩
theorem Same.back (e : Same H H') {a : Addr} (h : H' a = none) : H a = none := e.free h
theorem Same.ne (e : Same H H') {a : Addr} (h : H a ≠ none) : H' a = H a := by
  cases q : H a with
  | none => exact absurd q h
  | some o => exact e a o q
theorem Grow.trans {F1 H1 : Hp} (a : Grow F H F1 H1) (b : Grow F1 H1 F' H') : Grow F H F' H' := ⟨a.f.trans b.f, a.h.trans b.h, b.sub, fun x hx => by
  rcases b.new x hx with h | h
  · exact a.new x h
  · exact .inr (a.h.free h)⟩
theorem Rel.grow (R : Rel K B Γ σ F H fp) (g : Grow F H F' H') : Rel K B Γ σ F' H' fp where
  len := R.len
  own := fun i m e => by
    obtain ⟨v, e1, o⟩ := R.own i m e
    exact ⟨v, e1, o.mono g.f fun a ha => Same.ne g.h (R.out i a ha).2.1⟩
  dis := R.dis
  out := fun i a ha => by
    obtain ⟨h1, h2, h3⟩ := R.out i a ha
    refine ⟨?_, by rw [Same.ne g.h h2]; exact h2, h3⟩
    cases q : F' a with
    | none => rfl
    | some o =>
      rcases g.new a (by rw [q]; exact fun z => nomatch z) with z | z
      · exact absurd h1 z
      · exact absurd z h2
  sub := g.sub
  ext := R.ext.trans g.f
  new := fun a ha => by
    rcases g.new a ha with z | z
    · exact R.new a z
    · refine .inr ?_
      cases q : B.H0 a with
      | none => rfl
      | some o => exact absurd z (R.there a (by rw [q]; exact fun z => nomatch z))
  keep := fun a o e n => g.h a o (R.keep a o e n)
  there := fun a e => by rw [Same.ne g.h (R.there a e)]; exact R.there a e
  lent := R.lent
theorem same_upd {p : Addr} {o : HO} (h : H p = none) : Same H (upd H p o) := fun b x e => by
  rw [upd_ne (ne_of_none e h)]
  exact e
theorem Rel.fresh0 (R : Rel K B Γ σ F H fp) {p : Addr} (h : H p = none) : F p = none ∧ B.H0 p = none ∧ ∀ i, ¬ fp i p := by
  refine ⟨R.sub.free h, ?_, fun i z => (R.out i p z).2.1 h⟩
  cases q : B.H0 p with
  | none => rfl
  | some o => exact absurd h (R.there p (by rw [q]; exact fun z => nomatch z))
/-- a new frozen object -/
theorem Grow.laid (s : Same F H) {p : Addr} (h : H p = none) {o : HO} : Grow F H (upd F p o) (upd H p o) where
  f := same_upd (s.free h)
  h := same_upd h
  sub := fun b x e => by
    by_cases hb : b = p
    · subst hb
      rw [upd_same] at e ⊢
      exact e
    · rw [upd_ne hb] at e ⊢
      exact s b x e
  new := fun a ha => by
    by_cases hb : a = p
    · subst hb; exact .inr h
    · rw [upd_ne hb] at ha; exact .inl ha
/-- slots are forgotten -/
theorem Rel.weak (R : Rel K B Γ σ F H fp) (hl : Γ'.length = Γ.length) (w : ∀ (i : Nat) m, Γ'[i]? = some (some m) → Γ[i]? = some (some m)) : Rel K B Γ' σ F H fp :=
  ⟨hl.trans R.len, fun i m e => R.own i m (w i m e), R.dis, R.out, R.sub, R.ext, R.new, R.keep, R.there, R.lent⟩
/-- what is owned afresh: places that nobody else has -/
structure Fresh (B : Base) (F H : Hp) (fp : Nat → AS) (fr : AS) : Prop where
  out : ∀ a, fr a → F a = none ∧ H a ≠ none ∧ B.H0 a = none
  dis : ∀ a i, fr a → fp i a → False
/-- slot i takes a value -/
theorem Rel.set (R : Rel K B Γ σ F H fp) {i : Nat} {m : M} {v : V} {fr : AS} (hi : i < Γ.length) (o : Own K F H v m fr) (f : Fresh B F H fp fr) (hl : ∀ u, B.ls[i]? ≠ some (some u)) :
    Rel K B (Γ.set i (some m)) (σ.set i (some v)) F H (fun j => if j = i then fr else fp j) where
  len := by rw [List.length_set, List.length_set]; exact R.len
  own := fun j m' e => by
    by_cases hj : j = i
    · subst hj
      rw [List.getElem?_set_self hi] at e
      cases e
      refine ⟨v, List.getElem?_set_self (by rw [← R.len]; exact hi), ?_⟩
      rw [if_pos rfl]
      exact o
    · rw [List.getElem?_set_ne (Ne.symm hj)] at e
      obtain ⟨v', e', o'⟩ := R.own j m' e
      refine ⟨v', by rw [List.getElem?_set_ne (Ne.symm hj)]; exact e', ?_⟩
      rw [if_neg hj]
      exact o'
  dis := fun j k a hjk h1 h2 => by
    by_cases hj : j = i
    · rw [if_pos hj] at h1
      rw [if_neg (fun z => hjk (hj.trans z.symm))] at h2
      exact f.dis a k h1 h2
    · rw [if_neg hj] at h1
      by_cases hk : k = i
      · rw [if_pos hk] at h2
        exact f.dis a j h2 h1
      · rw [if_neg hk] at h2
        exact R.dis j k a hjk h1 h2
  out := fun j a h => by
    by_cases hj : j = i
    · rw [if_pos hj] at h; exact ⟨(f.out a h).1, (f.out a h).2.1, .inl (f.out a h).2.2⟩
    · rw [if_neg hj] at h; exact R.out j a h
  sub := R.sub
  ext := R.ext
  new := R.new
  keep := R.keep
  there := R.there
  lent := fun j u e => by
    by_cases hj : j = i
    · subst hj; exact absurd e (hl u)
    · rw [List.getElem?_set_ne (Ne.symm hj)]; exact R.lent j u e
theorem Fresh.none {B : Base} {fr : AS} (n : ∀ a, ¬ fr a) : Fresh B F H fp fr := ⟨fun a h => absurd h (n a), fun a _ h => absurd h (n a)⟩
theorem Rel.setD (R : Rel K B Γ σ F H fp) {i : Nat} {x : PyData} {v : V} (hi : i < Γ.length) (o : Dq K F v x) (hl : ∀ u, B.ls[i]? ≠ some (some u)) :
    ∃ fp', Rel K B (Γ.set i (some (.d x))) (σ.set i (some v)) F H fp' := ⟨_, R.set hi (.d (fp := fun _ => False) o fun _ z => z) (.none fun _ z => z) hl⟩
/-- an own thing is frozen: into F come its places -/
noncomputable def frz (F H : Hp) (fr : AS) : Hp := fun a => open Classical in if fr a then H a else F a
theorem frz_in {fr : AS} {a : Addr} (h : fr a) : frz F H fr a = H a := by unfold frz; rw [if_pos h]
theorem frz_out {fr : AS} {a : Addr} (h : ¬ fr a) : frz F H fr a = F a := by unfold frz; rw [if_neg h]
theorem frz_up {fr : AS} (s : Same F H) : Same F (frz F H fr) := fun a o e => by
  by_cases h : fr a
  · rw [frz_in h]; exact s a o e
  · rw [frz_out h]; exact e
theorem frz_sub {fr : AS} (s : Same F H) : Same (frz F H fr) H := fun a o e => by
  by_cases h : fr a
  · rw [frz_in h] at e; exact e
  · rw [frz_out h] at e; exact s a o e
theorem Rel.frz {fr : AS} (R : Rel K B Γ σ F H fp) (f : ∀ a, fr a → B.H0 a = Option.none) (d : ∀ a i, fr a → fp i a → False) : Rel K B Γ σ (DL.frz F H fr) H fp where
  len := R.len
  own := fun i m e => by
    obtain ⟨v, e1, o⟩ := R.own i m e
    exact ⟨v, e1, o.mono (frz_up R.sub) fun _ _ => rfl⟩
  dis := R.dis
  out := fun i a h => by
    obtain ⟨h1, h2, h3⟩ := R.out i a h
    exact ⟨by rw [frz_out fun z => d a i z h]; exact h1, h2, h3⟩
  sub := frz_sub R.sub
  ext := R.ext.trans (frz_up R.sub)
  new := fun a ha => by
    by_cases h : fr a
    · exact .inr (f a h)
    · rw [frz_out h] at ha; exact R.new a ha
  keep := R.keep
  there := R.there
  lent := R.lent
/-- a slot's own thing is frozen where it stands -/
theorem Rel.frzSlot (R : Rel K B Γ σ F H fp) {i : Nat} {m : M} {x : PyData} (e : Γ[i]? = some (some m)) (z : Frz m x) (nl : ∀ a, fp i a → B.H0 a = Option.none) :
    ∃ F' fp', Rel K B (Γ.set i (some (.d x))) σ F' H fp' ∧ Same F F' := by
  obtain ⟨v, e1, o⟩ := R.own i m e
  have hi : i < Γ.length := (List.getElem?_eq_some_iff.mp e).1
  have R1 : Rel K B (Γ.set i Option.none) σ F H (fun j => if j = i then (fun _ => False) else fp j) := {
    len := by rw [List.length_set]; exact R.len
    own := fun j m' e' => by
      by_cases hj : j = i
      · subst hj
        rw [List.getElem?_set_self hi] at e'
        cases e'
      · rw [List.getElem?_set_ne (Ne.symm hj)] at e'
        obtain ⟨v', q1, q2⟩ := R.own j m' e'
        exact ⟨v', q1, by rw [if_neg hj]; exact q2⟩
    dis := fun j k a hjk h1 h2 => by
      by_cases hj : j = i
      · rw [if_pos hj] at h1; exact h1
      · by_cases hk : k = i
        · rw [if_pos hk] at h2; exact h2
        · rw [if_neg hj] at h1; rw [if_neg hk] at h2; exact R.dis j k a hjk h1 h2
    out := fun j a h => by
      by_cases hj : j = i
      · rw [if_pos hj] at h; exact h.elim
      · rw [if_neg hj] at h; exact R.out j a h
    sub := R.sub, ext := R.ext, new := R.new, keep := R.keep, there := R.there, lent := R.lent }
  have R2 := R1.frz (fr := fp i) nl fun a j h1 h2 => by
    by_cases hj : j = i
    · rw [if_pos hj] at h2; exact h2
    · rw [if_neg hj] at h2; exact R.dis i j a (Ne.symm hj) h1 h2
  refine ⟨DL.frz F H (fp i), fun j => if j = i then (fun _ => False) else fp j, ?_, frz_up (fr := fp i) R.sub⟩
  have o2 : Own K (DL.frz F H (fp i)) H v (.d x) (fun _ => False) := .d (o.freeze (frz_up R.sub) z fun a ha => frz_in ha) fun _ q => q
  have : Rel K B (Γ.set i (some (.d x))) σ (DL.frz F H (fp i)) H (fun j => if j = i then (fun _ => False) else fp j) := {
    len := by rw [List.length_set]; exact R.len
    own := fun j m' e' => by
      by_cases hj : j = i
      · subst hj
        rw [List.getElem?_set_self hi] at e'
        cases e'
        exact ⟨v, e1, by rw [if_pos rfl]; exact o2⟩
      · rw [List.getElem?_set_ne (Ne.symm hj)] at e'
        exact R2.own j m' (by rw [List.getElem?_set_ne (Ne.symm hj)]; exact e')
    dis := R2.dis, out := R2.out, sub := R2.sub, ext := R2.ext, new := R2.new, keep := R2.keep, there := R2.there, lent := R2.lent }
  exact this
/-- the state as a base of its own: all that is owned is lent -/
def Base.at (B : Base) (F H : Hp) (fp : Nat → AS) : Base := ⟨F, H, fp, B.ls⟩
theorem Rel.rebase (R : Rel K B Γ σ F H fp) : Rel K (B.at F H fp) Γ σ F H fp :=
  ⟨R.len, R.own, R.dis, fun i a h => ⟨(R.out i a h).1, (R.out i a h).2.1, .inr h⟩, R.sub, Same.refl _, fun a h => .inl h, fun a o e _ => e, fun a h => h, R.lent⟩
theorem Rel.unbase {Γ2 : G} {F2 H2 : Hp} {fp2 : Nat → AS} (R : Rel K B Γ σ F H fp) (S : Rel K (B.at F H fp) Γ2 σ F2 H2 fp2) : Rel K B Γ2 σ F2 H2 fp2 where
  len := S.len
  own := S.own
  dis := S.dis
  out := fun i a h => by
    obtain ⟨h1, h2, h3⟩ := S.out i a h
    refine ⟨h1, h2, ?_⟩
    rcases h3 with h3 | h3
    · refine .inl ?_
      cases q : B.H0 a with
      | none => rfl
      | some o => exact absurd h3 (R.there a (by rw [q]; exact fun z => nomatch z))
    · exact (R.out i a h3).2.2
  sub := S.sub
  ext := R.ext.trans S.ext
  new := fun a h => by
    rcases S.new a h with z | z
    · exact R.new a z
    · refine .inr ?_
      cases q : B.H0 a with
      | none => rfl
      | some o => exact absurd z (R.there a (by rw [q]; exact fun z => nomatch z))
  keep := fun a o e n => S.keep a o (R.keep a o e n) fun i z => by
    rcases (R.out i a z).2.2 with q | q
    · rw [q] at e; cases e
    · exact n i q
  there := fun a e => S.there a (R.there a e)
  lent := S.lent
/-- an object beside all that is known stays through what goes on from here -/
theorem Rel.beside {Γ2 : G} {F2 H2 : Hp} {fp2 : Nat → AS} {σ2 : L2.St} (S : Rel K (B.at F H fp) Γ2 σ2 F2 H2 fp2) {a : Addr} {o : HO} (e : H a = some o) (n : ∀ i, ¬ fp i a) : H2 a = some o := S.keep a o e n
end
end DL

set_option Elab.async false
set_option linter.all false
set_option maxRecDepth 100000
set_option maxHeartbeats 4000000
namespace DL
open PySem PySem.Spec PyProof.Rows L2

/-! ### the judgements -/
/-- what an expression gives: data; what slot i owns; a value as it is -/
inductive R where
  | d (x : PyData)
  | al (i : Nat)
  | raw (v : V)
/-- an exception: its class, its attributes -/
structure Ex where
  cls : Value
  at_ : List (Str × PyData)
structure DC where
  X : Cx
  ln : Nat → Bool
  EX : Ex → G → Prop
  hu : X.A.units + 65 < cLine
  nd : X.N.Nodup
  gd : X.A.guards = some []
  po : PassesOwn (model X.prog X.w) X.A X.env X.xe
structure DE where
  nx : G → Prop
  rt : M → G → Prop
  bk : G → Prop := fun _ => False
  ct : G → Prop := fun _ => False
def XOk (K : PySem.W.Frag) (F H : Hp) (ex : Ex) (cls : Value) (d : Option Addr) : Prop :=
  cls = ex.cls ∧ ((ex.at_ = [] ∧ d = none) ∨ ex.at_ ≠ [] ∧ ∃ dd vs, d = some dd ∧ H dd = some (.xd vs) ∧ vs.map (·.1) = ex.at_.map (·.1) ∧ DqAll K F (vs.map (·.2)) (ex.at_.map (·.2)))
def WD (K : PySem.W.Frag) (B : Base) (EX : Ex → G → Prop) : WX := fun cls d σ H => ∃ Γ F fp ex, EX ex Γ ∧ Rel K B Γ σ F H fp ∧ XOk K F H ex cls d
structure In (Y : DC) (B : Base) : Prop where
  ln : ∀ i v, B.ls[i]? = some (some v) → Y.ln i = true
  lL : ∀ i a, B.L i a → Y.ln i = true
  tk : Takes Y.X (WD Y.X.K B Y.EX)
theorem In.nl {Y : DC} {B : Base} (n : In Y B) {i : Nat} (h : Y.ln i = false) : ∀ u, B.ls[i]? ≠ some (some u) := fun u e => by
  rw [n.ln i u e] at h; cases h
def ROk (K : PySem.W.Frag) (F : Hp) (σ : L2.St) : R → V → Prop
  | .d x, v => Dq K F v x
  | .al i, v => σ[i]? = some (some v)
  | .raw u, v => v = u
theorem ROk.up {K : PySem.W.Frag} {F F' : Hp} {σ : L2.St} (e : Same F F') {r : R} {v : V} (h : ROk K F σ r v) : ROk K F' σ r v := by
  cases r with
  | d x => exact Dq.up (show Dq K F v x from h) e
  | al i => exact h
  | raw u => exact h

structure dE (Y : DC) (e : Expr) (Γ : G) (Q : R → G → Prop) : Prop where
  run : ∀ (B : Base) (σ : L2.St) (F H : Hp) (fp : Nat → AS), In Y B → Rel Y.X.K B Γ σ F H fp → ∀ QV : VK,
    (∀ r Γ' v F' H' fp', Q r Γ' → Rel Y.X.K B Γ' σ F' H' fp' → Same F F' → ROk Y.X.K F' σ r v → QV v H') → wE Y.X e σ H QV
structure dO (Y : DC) (e : Expr) (Γ : G) (Q : M → G → Prop) : Prop where
  run : ∀ (B : Base) (σ : L2.St) (F H : Hp) (fp : Nat → AS), In Y B → Rel Y.X.K B Γ σ F H fp → ∀ QV : VK,
    (∀ m Γ' v F' H' fp' fr, Q m Γ' → Rel Y.X.K B Γ' σ F' H' fp' → Same F F' → Own Y.X.K F' H' v m fr → Fresh B F' H' fp' fr → QV v H') → wE Y.X e σ H QV
structure dT (Y : DC) (e : Expr) (Γ : G) (Q : Bool → G → Prop) : Prop where
  run : ∀ (B : Base) (σ : L2.St) (F H : Hp) (fp : Nat → AS), In Y B → Rel Y.X.K B Γ σ F H fp → ∀ QV : Bool → Hp → Prop,
    (∀ b Γ' F' H' fp', Q b Γ' → Rel Y.X.K B Γ' σ F' H' fp' → Same F F' → QV b H') → wT Y.X e σ H QV
/-- and, or: a test whatever its whole is -/
structure dW (Y : DC) (e : Expr) (Γ : G) (Q : Bool → G → Prop) : Prop where
  run : ∀ (B : Base) (σ : L2.St) (F H : Hp) (fp : Nat → AS), In Y B → Rel Y.X.K B Γ σ F H fp → ∀ QV : Bool → Hp → Prop,
    (∀ b Γ' F' H' fp', Q b Γ' → Rel Y.X.K B Γ' σ F' H' fp' → Same F F' → QV b H') → wW Y.X e σ H QV
structure dA (Y : DC) (es : List Expr) (Γ : G) (Q : List R → G → Prop) : Prop where
  run : ∀ (B : Base) (σ : L2.St) (F H : Hp) (fp : Nat → AS), In Y B → Rel Y.X.K B Γ σ F H fp → ∀ QV : List V → Hp → Prop,
    (∀ rs Γ' vs F' H' fp', Q rs Γ' → Rel Y.X.K B Γ' σ F' H' fp' → Same F F' → Paired (ROk Y.X.K F' σ) rs vs → QV vs H') → wA Y.X es σ H QV
/-- how the wanted ends meet -/
structure DOk (Y : DC) (B : Base) (D : DE) (DV : Ends) : Prop where
  nx : ∀ Γ σ F H fp, D.nx Γ → Rel Y.X.K B Γ σ F H fp → DV.nx σ H
  rt : ∀ m Γ v σ F H fp fr, D.rt m Γ → Rel Y.X.K B Γ σ F H fp → Own Y.X.K F H v m fr → Fresh B F H fp fr → DV.rt v H
  bk : ∀ Γ σ F H fp, D.bk Γ → Rel Y.X.K B Γ σ F H fp → DV.bk σ H
  ct : ∀ Γ σ F H fp, D.ct Γ → Rel Y.X.K B Γ σ F H fp → DV.ct σ H
structure dS (Y : DC) (st : Stmt) (Γ : G) (D : DE) : Prop where
  run : ∀ (B : Base) (σ : L2.St) (F H : Hp) (fp : Nat → AS), In Y B → Rel Y.X.K B Γ σ F H fp → ∀ DV : Ends, DOk Y B D DV → wS Y.X st DV σ H
structure dSs (Y : DC) (st : List Stmt) (Γ : G) (D : DE) : Prop where
  run : ∀ (B : Base) (σ : L2.St) (F H : Hp) (fp : Nat → AS), In Y B → Rel Y.X.K B Γ σ F H fp → ∀ DV : Ends, DOk Y B D DV → wSs Y.X st DV σ H

/-! ### results -/
@[reducible] def frzQ : M → (PyData → Prop) → Prop
  | .d x, k => k x
  | m, k => ∃ x, Frz m x ∧ k x
@[reducible] def onD : R → (PyData → Prop) → Prop
  | .d x, k => k x
  | _, _ => False
theorem frzQ.ex : ∀ {m : M} {k : PyData → Prop}, frzQ m k → ∃ x, Frz m x ∧ k x
  | .d x, _, h => ⟨x, .d, h⟩
  | .lst _, _, h => h
  | .dK _, _, h => h
  | .dT _, _, h => h
  | .ins _ _, _, h => h
  | .raw _, _, h => h
  | .scr _, _, h => h
theorem frzQ.list {xs : List PyData} {k : PyData → Prop} (h : k (.list xs)) : frzQ (.lst (xs.map M.d)) k := ⟨_, Frz.list xs, h⟩
theorem onD.ex : ∀ {r : R} {k : PyData → Prop}, onD r k → ∃ x, r = .d x ∧ k x
  | .d x, _, h => ⟨x, rfl, h⟩
  | .al _, _, h => h.elim
  | .raw _, _, h => h.elim
section
variable {Y : DC} {e : Expr} {Γ : G}
theorem dE_of_dO {Q : R → G → Prop} (h : dO Y e Γ fun m Γ' => frzQ m fun x => Q (.d x) Γ') : dE Y e Γ Q := by
  refine ⟨fun B σ F H fp n R QV k => h.run B σ F H fp n R QV fun m Γ' v F' H' fp' fr q R' s o f => ?_⟩
  obtain ⟨x, z, q⟩ := q.ex
  have R2 := R'.frz (fr := fr) (fun a ha => (f.out a ha).2.2) fun a i h1 h2 => f.dis a i h1 h2
  exact k _ _ v _ _ _ q R2 (s.trans (frz_up R'.sub)) (o.freeze (frz_up R'.sub) z fun a ha => frz_in ha)
theorem dO_of_dE {Q : M → G → Prop} (h : dE Y e Γ fun r Γ' => onD r fun x => Q (.d x) Γ') : dO Y e Γ Q := by
  refine ⟨fun B σ F H fp n R QV k => h.run B σ F H fp n R QV fun r Γ' v F' H' fp' q R' s o => ?_⟩
  obtain ⟨x, rfl, q⟩ := q.ex
  exact k _ _ v _ _ _ _ q R' s (.d (fp := fun _ => False) o fun _ z => z) (.none fun _ z => z)
theorem dE.mono {Q Q' : R → G → Prop} (h : dE Y e Γ Q) (k : ∀ r Γ', Q r Γ' → Q' r Γ') : dE Y e Γ Q' :=
  ⟨fun B σ F H fp n R QV c => h.run B σ F H fp n R QV fun r Γ' v F' H' fp' q => c r Γ' v F' H' fp' (k _ _ q)⟩
theorem dO.mono {Q Q' : M → G → Prop} (h : dO Y e Γ Q) (k : ∀ r Γ', Q r Γ' → Q' r Γ') : dO Y e Γ Q' :=
  ⟨fun B σ F H fp n R QV c => h.run B σ F H fp n R QV fun r Γ' v F' H' fp' fr q => c r Γ' v F' H' fp' fr (k _ _ q)⟩
theorem dT.mono {Q Q' : Bool → G → Prop} (h : dT Y e Γ Q) (k : ∀ r Γ', Q r Γ' → Q' r Γ') : dT Y e Γ Q' :=
  ⟨fun B σ F H fp n R QV c => h.run B σ F H fp n R QV fun r Γ' F' H' fp' q => c r Γ' F' H' fp' (k _ _ q)⟩

/-! ### names, constants -/
@[reducible] def rOf (i : Nat) : M → R
  | .d x => .d x
  | .raw v => .raw v
  | _ => .al i
theorem dE_name {i : Nat} {x : Str} {pos : Pos} {Q : R → G → Prop} {m : M} (hN : Y.X.N[i]? = some x) (hv : Vis Y.X.env.scope x) (hm : Γ[i]? = some (some m)) (q : Q (rOf i m) Γ)
    (hd : (x == ("__debug__" : Str)) = false := by decide) (hcd : (x == ("__classdict__" : Str)) = false := by decide) : dE Y (.Name x pos) Γ Q := by
  refine ⟨fun B σ F H fp n R QV k => wE.of (pe_var hN hv hd hcd) ?_⟩
  obtain ⟨v, e, o⟩ := R.own i m hm
  refine ⟨v, e, k _ _ v F H fp q R (Same.refl _) ?_⟩
  cases m with
  | d x => cases o with | d h _ => exact h
  | raw u => cases o with | raw _ => rfl
  | scr ns => exact e
  | lst ms => exact e
  | dK ms => exact e
  | dT ms => exact e
  | ins C ms => exact e
theorem dE_c {c : V} {x : PyData} {Q : R → G → Prop} (h : PE Y.X e (tC c)) (hd : ∀ F : Hp, Dq Y.X.K F c x) (q : Q (.d x) Γ) : dE Y e Γ Q :=
  ⟨fun B σ F H fp n R QV k => wE.of h (k _ _ c F H fp q R (Same.refl _) (hd F))⟩
theorem dE_int {i : Int} {j} {pos : Pos} {Q : R → G → Prop} (q : Q (.d (.int i)) Γ) : dE Y (.Constant (.int i) j pos) Γ Q := dE_c pe_int (fun _ => .int i) q
theorem dE_bl {b : Bool} {j} {pos : Pos} {Q : R → G → Prop} (q : Q (.d (.bool b)) Γ) : dE Y (.Constant (.bool b) j pos) Γ Q := dE_c pe_bl (fun _ => .bl b) q
theorem dE_non {j} {pos : Pos} {Q : R → G → Prop} (q : Q (.d .none) Γ) : dE Y (.Constant .none j pos) Γ Q := dE_c pe_non (fun _ => .non) q
theorem dE_str {x : Str} {j} {pos : Pos} {Q : R → G → Prop} (q : Q (.d (.str x)) Γ) : dE Y (.Constant (.str x) j pos) Γ Q := dE_c pe_str (fun _ => .str x) q
/-- a module's constant -/
theorem dE_glob {x : Str} {v : V} {u : Value} {y : PyData} {pos : Pos} {Q : R → G → Prop} (hg : Gl Y.X x) (hm : Y.X.mg x = some u) (r : RelV v u) (hd : Dq Y.X.K (fun _ => none) v y) (q : Q (.d y) Γ) (hdb : (x == ("__debug__" : Str)) = false := by decide) : dE Y (.Name x pos) Γ Q :=
  dE_c (pe_glob hg hm r hdb) (fun F => hd.up fun _ _ h => nomatch h) q
/-- a class, a def as a value -/
theorem dE_globV {x : Str} {v : V} {u : Value} {pos : Pos} {Q : R → G → Prop} (hg : Gl Y.X x) (hm : Y.X.mg x = some u) (r : RelV v u) (q : Q (.raw v) Γ) (hdb : (x == ("__debug__" : Str)) = false := by decide) : dE Y (.Name x pos) Γ Q :=
  ⟨fun B σ F H fp n R QV k => wE.of (pe_glob hg hm r hdb) (k _ _ v F H fp q R (Same.refl _) rfl)⟩
theorem dE_bltnV {x : Str} {v : V} {u : Value} {pos : Pos} {Q : R → G → Prop} (hg : Gl Y.X x) (hm : Y.X.mg x = none) (hv : bootBuiltins x = some u) (r : RelV v u) (q : Q (.raw v) Γ) (hn : x ≠ "__name__" := by decide) (hdb : (x == ("__debug__" : Str)) = false := by decide) : dE Y (.Name x pos) Γ Q :=
  ⟨fun B σ F H fp n R QV k => wE.of (pe_bltn hg hm hv r hn hdb) (k _ _ v F H fp q R (Same.refl _) rfl)⟩
end

/-! ### what an operation on values gives -/
/-- a value m may come: what it lays is new -/
def VO (K : PySem.W.Frag) (F H : Hp) (P : M → Prop) (QV : VK) : Prop :=
  ∀ m v F' H' fr, P m → Grow F H F' H' → Own K F' H' v m fr → (∀ a, fr a → F' a = none ∧ H a = none) → QV v H'
section
variable {K : PySem.W.Frag} {B : Base} {Γ : G} {σ : L2.St} {F H : Hp} {fp : Nat → AS} {P : M → Prop} {QV : VK}
theorem VO.d (s : Same F H) {x : PyData} {v : V} (h : VO K F H P QV) (q : P (.d x)) (d : Dq K F v x) : QV v H :=
  h (.d x) v F H (fun _ => False) q (Grow.refl s) (Own.d d fun _ z => z) fun _ z => z.elim
theorem VO.dnew (s : Same F H) {x : PyData} {o : HO} {p : Addr} (np : H p = none) (h : VO K F H P QV) (q : P (.d x)) (d : Dq K (upd F p o) (.ref p) x) : QV (.ref p) (upd H p o) :=
  h (.d x) (.ref p) (upd F p o) (upd H p o) (fun _ => False) q (Grow.laid s np) (Own.d d fun _ z => z) fun _ z => z.elim
theorem VO.lst (s : Same F H) {xs : List PyData} {vs : List V} {p : Addr} (np : H p = none) (h : VO K F H P QV) (q : P (.lst (xs.map M.d))) (d : DqAll K F vs xs) : QV (.ref p) (upd H p (.lst vs)) := by
  refine h (.lst (xs.map M.d)) (.ref p) F (upd H p (.lst vs)) (fun a => a = p) q ⟨Same.refl _, same_upd np, fun a o e => same_upd np a o (s a o e), fun a ha => .inl ha⟩ ?_ fun a ha => ?_
  · exact .lst upd_same (OwnL.ofAll d) (fun z => z) fun b => by simp
  · subst ha; exact ⟨s.free np, np⟩
/-- the step from the state at an operation -/
theorem Rel.vo (R : Rel K B Γ σ F H fp) {Q : M → G → Prop} (hP : ∀ m, P m → Q m Γ)
    (k : ∀ m Γ' v F' H' fp' fr, Q m Γ' → Rel K B Γ' σ F' H' fp' → Same F F' → Own K F' H' v m fr → Fresh B F' H' fp' fr → QV v H') : VO K F H P QV := fun m v F' H' fr p g o f =>
  k m Γ v F' H' fp fr (hP m p) (R.grow g) g.f o ⟨fun a ha => ⟨(f a ha).1, o.dom a ha, (R.fresh0 (f a ha).2).2.1⟩, fun a i h1 h2 => (R.out i a h2).2.1 (f a h1).2⟩
end
end DL

set_option Elab.async false
set_option linter.all false
set_option maxRecDepth 100000
set_option maxHeartbeats 4000000
namespace DL
open PySem PySem.Spec PyProof.Rows L2

/-! ### operands -/
/-- what a result is as data at the end; true: it is borrowed from a slot -/
@[reducible] def onX (Γ : G) : R → (Bool → PyData → Prop) → Prop
  | .d x, k => k false x
  | .al i, k => ∃ m x, Γ[i]? = some (some m) ∧ Frz m x ∧ k true x
  | .raw _, _ => False
def Flat : PyData → Prop
  | .list _ => False
  | .tuple _ => False
  | .dict _ => False
  | _ => True
@[reducible] def orB : Bool → Bool → Bool
  | true, _ => true
  | false, b => b
theorem orB_eq (a b : Bool) : orB a b = (a || b) := by cases a <;> rfl
@[reducible] def flatB : Bool → M → Prop → Prop
  | false, _, q => q
  | true, m, q => (∃ x, m = .d x ∧ Flat x) ∧ q
@[reducible] def onXs (Γ : G) : List R → (Bool → List PyData → Prop) → Prop
  | [], k => k false []
  | r :: rs, k => onX Γ r fun b x => onXs Γ rs fun c xs => k (orB b c) (x :: xs)
theorem Flat.up {K : PySem.W.Frag} {F F' : Hp} {v : V} {x : PyData} (f : Flat x) (h : Dq K F v x) : Dq K F' v x := by
  cases h with
  | non => exact .non
  | bl b => exact .bl b
  | int i => exact .int i
  | str s => exact .str s
  | lst _ _ => exact f.elim
  | tup _ _ => exact f.elim
section
variable {K : PySem.W.Frag} {B : Base} {Γ : G} {σ : L2.St} {F H : Hp} {fp : Nat → AS}
/-- places that are borrowed -/
abbrev bor (fp : Nat → AS) (I : List Nat) : AS := fun a => ∃ i ∈ I, fp i a
theorem frz_mono {F H : Hp} {f g : AS} (s : Same F H) (h : ∀ a, f a → g a) : Same (DL.frz F H f) (DL.frz F H g) := fun a o e => by
  by_cases hg : g a
  · rw [frz_in hg]; exact frz_sub s a o e
  · rw [frz_out fun z => hg (h a z)] at e
    rw [frz_out hg]; exact e
theorem bor_nil {F H : Hp} : DL.frz F H (bor fp []) = F := funext fun a => frz_out fun ⟨_, h, _⟩ => nomatch h
theorem onX.at (R : Rel K B Γ σ F H fp) {r : DL.R} {v : V} (o : ROk K F σ r v) {k : Bool → PyData → Prop} (h : onX Γ r k) :
    ∃ b x I, k b x ∧ (b = false → I = []) ∧ Dq K (DL.frz F H (bor fp I)) v x := by
  cases r with
  | d x => exact ⟨false, x, [], h, fun _ => rfl, by rw [bor_nil]; exact o⟩
  | raw u => exact h.elim
  | al i =>
    obtain ⟨m, x, e, z, q⟩ := h
    obtain ⟨v', e', ow⟩ := R.own i m e
    have : v' = v := by
      have o' : σ[i]? = some (some v) := o
      rw [o'] at e'; cases e'; rfl
    subst this
    exact ⟨true, x, [i], q, (fun h => Bool.noConfusion h), ow.freeze (frz_up R.sub) z (fun a ha => frz_in ⟨i, by simp, ha⟩)⟩
theorem onXs.at (R : Rel K B Γ σ F H fp) : ∀ {rs : List DL.R} {vs : List V}, Paired (ROk K F σ) rs vs → ∀ {k : Bool → List PyData → Prop}, onXs Γ rs k →
    ∃ b xs I, k b xs ∧ (b = false → I = []) ∧ DqAll K (DL.frz F H (bor fp I)) vs xs
  | _, _, .nil, _, h => ⟨false, [], [], h, fun _ => rfl, .nil⟩
  | _, _, .cons r t, k, h => by
    obtain ⟨b, x, I, h1, z1, d1⟩ := onX.at R r (k := fun b x => onXs Γ _ fun c xs => k (orB b c) (x :: xs)) h
    obtain ⟨c, xs, J, h2, z2, d2⟩ := onXs.at R t h1
    refine ⟨orB b c, x :: xs, I ++ J, h2, fun z => ?_, .cons (d1.up (frz_mono R.sub ?_)) (d2.up (frz_mono R.sub ?_))⟩
    · rw [orB_eq] at z
      obtain ⟨zb, zc⟩ := Bool.or_eq_false_iff.mp z
      rw [z1 zb, z2 zc] <;> rfl
    · rintro a ⟨i, hi, q⟩; exact ⟨i, List.mem_append_left _ hi, q⟩
    · rintro a ⟨i, hi, q⟩; exact ⟨i, List.mem_append_right _ hi, q⟩
/-- the step behind an operation whose operands may be borrowed -/
theorem Rel.vob (R : Rel K B Γ σ F H fp) {b : Bool} {I : List Nat} (hb : b = false → I = []) {Q : M → G → Prop} {QV : VK}
    (k : ∀ m Γ' v F' H' fp' fr, Q m Γ' → Rel K B Γ' σ F' H' fp' → Same F F' → Own K F' H' v m fr → Fresh B F' H' fp' fr → QV v H') :
    VO K (DL.frz F H (bor fp I)) H (fun m => flatB b m (Q m Γ)) QV := by
  cases b with
  | false =>
    rw [hb rfl, bor_nil]
    exact R.vo (fun m q => q) k
  | true =>
    rintro m v F' H' fr ⟨⟨x, rfl, fx⟩, q⟩ g o f
    have dx : Dq K F v x := by cases o with | d h _ => exact fx.up h
    have g' : Grow F H F H' := ⟨Same.refl _, g.h, fun a o e => g.h a o (R.sub a o e), fun a h => .inl h⟩
    exact k (.d x) Γ v F H' fp (fun _ => False) q (R.grow g') (Same.refl _) (.d dx fun _ z => z) (.none fun _ z => z)
end

/-! ### operations on data -/
structure dOp (X : Cx) (f : Value → Value → Sem Value) (x y : PyData) (P : M → Prop) : Prop where
  run : ∀ (F H : Hp) (a b : V), Same F H → Dq X.K F a x → Dq X.K F b y → ∀ QV : VK, VO X.K F H P QV → wOp X f a b H QV
section
variable {Y : DC} {Γ : G} {a b : Expr} {pos : Pos} {Q : M → G → Prop}
theorem dO_op {op : Operator} (h : dE Y a Γ fun r1 Γ1 => dE Y b Γ1 fun r2 Γ2 => onX Γ2 r1 fun b1 x => onX Γ2 r2 fun b2 y => dOp Y.X (binaryOp op) x y fun m => flatB (orB b1 b2) m (Q m Γ2)) :
    dO Y (.BinOp a op b pos) Γ Q := by
  refine ⟨fun B σ F H fp n R QV k => wE.of (pe_op op_w pe_w pe_w) ?_⟩
  refine h.run B σ F H fp n R _ fun r1 Γ1 x F1 H1 fp1 h1 R1 s1 o1 => ?_
  refine h1.run B σ F1 H1 fp1 n R1 _ fun r2 Γ2 y F2 H2 fp2 h2 R2 s2 o2 => ?_
  obtain ⟨b1, dx, I, h3, z1, d1⟩ := onX.at R2 (o1.up s2) h2
  obtain ⟨b2, dy, J, h4, z2, d2⟩ := onX.at R2 o2 h3
  refine h4.run (DL.frz F2 H2 (bor fp2 (I ++ J))) H2 x y (frz_sub R2.sub) (d1.up (frz_mono R2.sub ?_)) (d2.up (frz_mono R2.sub ?_)) QV (R2.vob ?_ fun m Γ' v F' H' fp' fr q R' s' => k m Γ' v F' H' fp' fr q R' ((s1.trans s2).trans s'))
  · rintro a ⟨i, hi, q⟩; exact ⟨i, List.mem_append_left _ hi, q⟩
  · rintro a ⟨i, hi, q⟩; exact ⟨i, List.mem_append_right _ hi, q⟩
  · intro z
    rw [orB_eq] at z
    obtain ⟨zb, zc⟩ := Bool.or_eq_false_iff.mp z
    rw [z1 zb, z2 zc] <;> rfl
@[reducible] def onB : M → (Bool → Prop) → Prop
  | .d (.bool b), k => k b
  | _, _ => False
theorem onB.ex : ∀ {m : M} {k : Bool → Prop}, onB m k → ∃ b, m = .d (.bool b) ∧ k b := by
  intro m k h
  unfold onB at h
  split at h
  · exact ⟨_, rfl, h⟩
  · exact h.elim
/-- a comparison as a value, as a test -/
theorem dO_cmp {op : CmpOp} (hm : behindInMarks op b = false) (h : dE Y a Γ fun r1 Γ1 => dE Y b Γ1 fun r2 Γ2 => onX Γ2 r1 fun b1 x => onX Γ2 r2 fun b2 y => dOp Y.X (compareOp op) x y fun m => flatB (orB b1 b2) m (Q m Γ2)) :
    dO Y (.Compare a [op] [b] pos) Γ Q := by
  refine ⟨fun B σ F H fp n R QV k => wE.of (pe_cmpR op_w pe_w pe_w hm) ?_⟩
  refine h.run B σ F H fp n R _ fun r1 Γ1 x F1 H1 fp1 h1 R1 s1 o1 => ?_
  refine h1.run B σ F1 H1 fp1 n R1 _ fun r2 Γ2 y F2 H2 fp2 h2 R2 s2 o2 => ?_
  obtain ⟨b1, dx, I, h3, z1, d1⟩ := onX.at R2 (o1.up s2) h2
  obtain ⟨b2, dy, J, h4, z2, d2⟩ := onX.at R2 o2 h3
  refine h4.run (DL.frz F2 H2 (bor fp2 (I ++ J))) H2 x y (frz_sub R2.sub) (d1.up (frz_mono R2.sub ?_)) (d2.up (frz_mono R2.sub ?_)) QV (R2.vob ?_ fun m Γ' v F' H' fp' fr q R' s' => k m Γ' v F' H' fp' fr q R' ((s1.trans s2).trans s'))
  · rintro a ⟨i, hi, q⟩; exact ⟨i, List.mem_append_left _ hi, q⟩
  · rintro a ⟨i, hi, q⟩; exact ⟨i, List.mem_append_right _ hi, q⟩
  · intro z
    rw [orB_eq] at z
    obtain ⟨zb, zc⟩ := Bool.or_eq_false_iff.mp z
    rw [z1 zb, z2 zc] <;> rfl
theorem dT_cmp {Q : Bool → G → Prop} {op : CmpOp} (hm : behindInMarks op b = false) (h : dE Y a Γ fun r1 Γ1 => dE Y b Γ1 fun r2 Γ2 => onX Γ2 r1 fun b1 x => onX Γ2 r2 fun b2 y => dOp Y.X (compareOp op) x y fun m => flatB (orB b1 b2) m (onB m fun c => Q c Γ2)) :
    dT Y (.Compare a [op] [b] pos) Γ Q := by
  refine ⟨fun B σ F H fp n R QV k => wT.of (pt_cmpR op_w pe_w pe_w hm) ?_⟩
  refine h.run B σ F H fp n R _ fun r1 Γ1 x F1 H1 fp1 h1 R1 s1 o1 => ?_
  refine h1.run B σ F1 H1 fp1 n R1 _ fun r2 Γ2 y F2 H2 fp2 h2 R2 s2 o2 => ?_
  obtain ⟨b1, dx, I, h3, z1, d1⟩ := onX.at R2 (o1.up s2) h2
  obtain ⟨b2, dy, J, h4, z2, d2⟩ := onX.at R2 o2 h3
  refine h4.run (DL.frz F2 H2 (bor fp2 (I ++ J))) H2 x y (frz_sub R2.sub) (d1.up (frz_mono R2.sub ?_)) (d2.up (frz_mono R2.sub ?_)) _ (R2.vob (Q := fun m Γ => onB m fun c => Q c Γ) ?_ fun m Γ' v F' H' fp' fr q R' s' o' f' => ?_)
  · rintro a ⟨i, hi, q⟩; exact ⟨i, List.mem_append_left _ hi, q⟩
  · rintro a ⟨i, hi, q⟩; exact ⟨i, List.mem_append_right _ hi, q⟩
  · intro z
    rw [orB_eq] at z
    obtain ⟨zb, zc⟩ := Bool.or_eq_false_iff.mp z
    rw [z1 zb, z2 zc] <;> rfl
  · have qe := q.ex
    clear q
    obtain ⟨c, rfl, q⟩ := qe
    cases o' with
    | d h _ =>
      cases h
      exact ⟨c, rfl, k c Γ' F' H' fp' q R' ((s1.trans s2).trans s')⟩
/-- an expression that gives a truth value, as a test -/
theorem dT_val {e : Expr} {Q : Bool → G → Prop} (he : ∀ whole, isTrue e Y.X.env whole = (do let v ← whole; standAt e.pos; holding [v] (truthy v))) (h : dO Y e Γ fun m Γ' => onB m fun c => Q c Γ') : dT Y e Γ Q := by
  refine ⟨fun B σ F H fp n R QV k => wT.of (pt_val pe_w he) ?_⟩
  refine h.run B σ F H fp n R _ fun m Γ' v F' H' fp' fr q R' s' o' f' => ?_
  have qe := q.ex
  clear q
  obtain ⟨c, rfl, q⟩ := qe
  cases o' with
  | d h _ =>
    cases h
    exact ⟨c, rfl, k c Γ' F' H' fp' q R' s'⟩
theorem dT_not {Q : Bool → G → Prop} {e : Expr} (h : dT Y e Γ fun c Γ' => Q (!c) Γ') : dT Y (.UnaryOp .Not e pos) Γ Q :=
  ⟨fun B σ F H fp n R QV k => wT.of (pt_not pt_w) (h.run B σ F H fp n R _ fun c Γ' F' H' fp' q R' s' => k (!c) Γ' F' H' fp' q R' s')⟩
theorem dO_not {e : Expr} (h : dO Y e Γ fun m Γ' => onB m fun c => Q (.d (.bool (!c))) Γ') : dO Y (.UnaryOp .Not e pos) Γ Q := by
  refine ⟨fun B σ F H fp n R QV k => wE.of (pe_not pe_w) ?_⟩
  refine h.run B σ F H fp n R _ fun m Γ' v F' H' fp' fr q R' s' o' f' => ?_
  have qe := q.ex
  clear q
  obtain ⟨c, rfl, q⟩ := qe
  cases o' with
  | d h _ =>
    cases h
    exact ⟨c, rfl, k (.d (.bool (!c))) Γ' (.bl (!c)) F' H' fp' (fun _ => False) q R' s' (.d (.bl _) fun _ z => z) (.none fun _ z => z)⟩
theorem dT_W {e : Expr} {Q : Bool → G → Prop} (h : dW Y e Γ Q) : dT Y e Γ Q :=
  ⟨fun B σ F H fp n R QV k => wT.of (PW.pt pw_w) (h.run B σ F H fp n R QV k)⟩
theorem dW_and1 {Q : Bool → G → Prop} (h : dT Y a Γ Q) : dW Y (.BoolOp .And [a] pos) Γ Q :=
  ⟨fun B σ F H fp n R QV k => wW.of (pw_and1 pt_w) (h.run B σ F H fp n R QV k)⟩
theorem dW_or1 {Q : Bool → G → Prop} (h : dT Y a Γ Q) : dW Y (.BoolOp .Or [a] pos) Γ Q :=
  ⟨fun B σ F H fp n R QV k => wW.of (pw_or1 pt_w) (h.run B σ F H fp n R QV k)⟩
theorem dW_and {es : List Expr} {Q : Bool → G → Prop} (h : dT Y a Γ fun c Γ' => if c = true then dW Y (.BoolOp .And (b :: es) pos) Γ' Q else Q false Γ') : dW Y (.BoolOp .And (a :: b :: es) pos) Γ Q := by
  refine ⟨fun B σ F H fp n R QV k => wW.of (pw_and pt_w pw_w) ?_⟩
  refine h.run B σ F H fp n R _ fun c Γ' F' H' fp' q R' s' => ?_
  cases c with
  | true =>
    rw [if_pos rfl] at q ⊢
    exact q.run B σ F' H' fp' n R' QV fun c2 Γ2 F2 H2 fp2 q2 R2 s2 => k c2 Γ2 F2 H2 fp2 q2 R2 (s'.trans s2)
  | false =>
    rw [if_neg Bool.false_ne_true] at q ⊢
    exact k false Γ' F' H' fp' q R' s'
theorem dW_or {es : List Expr} {Q : Bool → G → Prop} (h : dT Y a Γ fun c Γ' => if c = true then Q true Γ' else dW Y (.BoolOp .Or (b :: es) pos) Γ' Q) : dW Y (.BoolOp .Or (a :: b :: es) pos) Γ Q := by
  refine ⟨fun B σ F H fp n R QV k => wW.of (pw_or pt_w pw_w) ?_⟩
  refine h.run B σ F H fp n R _ fun c Γ' F' H' fp' q R' s' => ?_
  cases c with
  | false =>
    rw [if_neg Bool.false_ne_true] at q ⊢
    exact q.run B σ F' H' fp' n R' QV fun c2 Γ2 F2 H2 fp2 q2 R2 s2 => k c2 Γ2 F2 H2 fp2 q2 R2 (s'.trans s2)
  | true =>
    rw [if_pos rfl] at q ⊢
    exact k true Γ' F' H' fp' q R' s'
/-- and, or as values: truth values all -/
theorem dO_one {op : BoolOp} (h : dO Y a Γ Q) : dO Y (.BoolOp op [a] pos) Γ Q :=
  ⟨fun B σ F H fp n R QV k => wE.of (pe_one pe_w) (h.run B σ F H fp n R QV k)⟩
theorem dO_and {es : List Expr} (h : dO Y a Γ fun m Γ' => onB m fun c => if c = true then dO Y (.BoolOp .And (b :: es) pos) Γ' Q else Q (.d (.bool false)) Γ') : dO Y (.BoolOp .And (a :: b :: es) pos) Γ Q := by
  refine ⟨fun B σ F H fp n R QV k => wE.of (pe_and pe_w pe_w) ?_⟩
  refine h.run B σ F H fp n R _ fun m Γ' v F' H' fp' fr q R' s' o' f' => ?_
  have qe := q.ex
  clear q
  obtain ⟨c, rfl, q⟩ := qe
  cases o' with
  | d h _ =>
    cases h
    refine ⟨c, rfl, ?_⟩
    cases c with
    | true =>
      rw [if_pos rfl] at q ⊢
      exact q.run B σ F' H' fp' n R' QV fun m2 Γ2 v2 F2 H2 fp2 fr2 q2 R2 s2 => k m2 Γ2 v2 F2 H2 fp2 fr2 q2 R2 (s'.trans s2)
    | false =>
      rw [if_neg Bool.false_ne_true] at q ⊢
      exact k _ Γ' _ F' H' fp' (fun _ => False) q R' s' (.d (.bl _) fun _ z => z) (.none fun _ z => z)
theorem dO_or {es : List Expr} (h : dO Y a Γ fun m Γ' => onB m fun c => if c = true then Q (.d (.bool true)) Γ' else dO Y (.BoolOp .Or (b :: es) pos) Γ' Q) : dO Y (.BoolOp .Or (a :: b :: es) pos) Γ Q := by
  refine ⟨fun B σ F H fp n R QV k => wE.of (pe_or pe_w pe_w) ?_⟩
  refine h.run B σ F H fp n R _ fun m Γ' v F' H' fp' fr q R' s' o' f' => ?_
  have qe := q.ex
  clear q
  obtain ⟨c, rfl, q⟩ := qe
  cases o' with
  | d h _ =>
    cases h
    refine ⟨c, rfl, ?_⟩
    cases c with
    | false =>
      rw [if_neg Bool.false_ne_true] at q ⊢
      exact q.run B σ F' H' fp' n R' QV fun m2 Γ2 v2 F2 H2 fp2 fr2 q2 R2 s2 => k m2 Γ2 v2 F2 H2 fp2 fr2 q2 R2 (s'.trans s2)
    | true =>
      rw [if_pos rfl] at q ⊢
      exact k _ Γ' _ F' H' fp' (fun _ => False) q R' s' (.d (.bl _) fun _ z => z) (.none fun _ z => z)
theorem dO_if {c : Expr} (h : dT Y c Γ fun t Γ' => if t = true then dO Y a Γ' Q else dO Y b Γ' Q) : dO Y (.IfExp c a b pos) Γ Q := by
  refine ⟨fun B σ F H fp n R QV k => wE.of (pe_ifExp pt_w pe_w pe_w) ?_⟩
  refine h.run B σ F H fp n R _ fun t Γ' F' H' fp' q R' s' => ?_
  cases t with
  | true =>
    rw [if_pos rfl] at q ⊢
    exact q.run B σ F' H' fp' n R' QV fun m2 Γ2 v2 F2 H2 fp2 fr2 q2 R2 s2 => k m2 Γ2 v2 F2 H2 fp2 fr2 q2 R2 (s'.trans s2)
  | false =>
    rw [if_neg Bool.false_ne_true] at q ⊢
    exact q.run B σ F' H' fp' n R' QV fun m2 Γ2 v2 F2 H2 fp2 fr2 q2 R2 s2 => k m2 Γ2 v2 F2 H2 fp2 fr2 q2 R2 (s'.trans s2)
end
end DL

set_option Elab.async false
set_option linter.all false
set_option maxRecDepth 100000
set_option maxHeartbeats 4000000
namespace DL
open PySem PySem.Spec PyProof.Rows L2

/-! ### what the operators give -/
@[reducible] def opQ (op : Operator) (x y : PyData) (P : M → Prop) : Prop :=
  match op, x, y with
  | .Add, .int i, .int j => P (.d (.int (i + j)))
  | .Add, .str i, .str j => i.length + j.length ≤ sizeLine ∧ P (.d (.str (i ++ j)))
  | .Add, .tuple xs, .tuple ys => xs.length + ys.length ≤ sizeLine ∧ P (.d (.tuple (xs ++ ys)))
  | .Add, .list xs, .list ys => xs.length + ys.length ≤ sizeLine ∧ P (.lst ((xs ++ ys).map M.d))
  | .Sub, .int i, .int j => P (.d (.int (i - j)))
  | .Mult, .int i, .int j => CMulW i j ∧ P (.d (.int (i * j)))
  | .FloorDiv, .int i, .int j => CDivW i j ∧ P (.d (.int (i / j)))
  | .Mod, .int i, .int j => 0 < j ∧ P (.d (.int (i % j)))
  | .Pow, .int i, .int j => CPow i j ∧ P (.d (.int (i ^ j.toNat)))
  | _, _, _ => False
@[reducible] def seqOf : PyData → Option (List PyData)
  | .list xs => some xs
  | .tuple xs => some xs
  | _ => none
def shp (x : PyData) : Prop := SeqAt.shaped x = true
@[reducible] def cmpQ (op : CmpOp) (x y : PyData) (P : Bool → Prop) : Prop :=
  match op, x, y with
  | .Eq, x, y => shp x ∧ shp y ∧ P (PyData.eqv x y)
  | .NotEq, x, y => shp x ∧ shp y ∧ P (!PyData.eqv x y)
  | .Lt, .int i, .int j => P (decide (i < j))
  | .LtE, .int i, .int j => P (decide (i ≤ j))
  | .Gt, .int i, .int j => P (decide (j < i))
  | .GtE, .int i, .int j => P (decide (j ≤ i))
  | .In, x, .list ys => shp x ∧ shp (.list ys) ∧ P (ys.any fun z => PyData.eqv z x)
  | .NotIn, x, .list ys => shp x ∧ shp (.list ys) ∧ P (!ys.any fun z => PyData.eqv z x)
  | .In, x, .tuple ys => shp x ∧ shp (.tuple ys) ∧ P (ys.any fun z => PyData.eqv z x)
  | .NotIn, x, .tuple ys => shp x ∧ shp (.tuple ys) ∧ P (!ys.any fun z => PyData.eqv z x)
  | .Is, .none, .none => P true
  | .Is, .str _, .none => P false
  | .Is, .int _, .none => P false
  | .Is, .bool _, .none => P false
  | .Is, .tuple _, .none => P false
  | .Is, .list _, .none => P false
  | .IsNot, .none, .none => P false
  | .IsNot, .str _, .none => P true
  | .IsNot, .int _, .none => P true
  | .IsNot, .bool _, .none => P true
  | .IsNot, .tuple _, .none => P true
  | .IsNot, .list _, .none => P true
  | _, _, _ => False
section
variable {X : Cx} {P : M → Prop}
theorem Dq.intI {K : PySem.W.Frag} {H : Hp} {v : V} {i : Int} (h : Dq K H v (.int i)) : v = .int i := by cases h; rfl
theorem Dq.strI {K : PySem.W.Frag} {H : Hp} {v : V} {i : Str} (h : Dq K H v (.str i)) : v = .str i := by cases h; rfl
theorem Dq.blI {K : PySem.W.Frag} {H : Hp} {v : V} {i : Bool} (h : Dq K H v (.bool i)) : v = .bl i := by cases h; rfl
theorem Dq.nonI {K : PySem.W.Frag} {H : Hp} {v : V} (h : Dq K H v .none) : v = .non := by cases h; rfl
theorem dOp_ints {f : Value → Value → Sem Value} {C : Int → Int → Prop} {g : Int → Int → Int} (ho : OpR X f (rI C fun i j => .int (g i j))) {i j : Int} (c : C i j) (q : P (.d (.int (g i j)))) : dOp X f (.int i) (.int j) P := by
  refine ⟨fun F H a b s ha hb QV k => ?_⟩
  rw [ha.intI, hb.intI]
  exact wOp.of ho ⟨i, j, rfl, rfl, c, k.d s q (.int _)⟩
theorem dOp_ints0 {f : Value → Value → Sem Value} {g : Int → Int → Int} (ho : OpR X f (rI0 fun i j => .int (g i j))) {i j : Int} (q : P (.d (.int (g i j)))) : dOp X f (.int i) (.int j) P := by
  refine ⟨fun F H a b s ha hb QV k => ?_⟩
  rw [ha.intI, hb.intI]
  exact wOp.of ho ⟨i, j, rfl, rfl, k.d s q (.int _)⟩
theorem dOp_intsB {f : Value → Value → Sem Value} {g : Int → Int → Bool} (ho : OpR X f (rI0 fun i j => .bl (g i j))) {i j : Int} (q : P (.d (.bool (g i j)))) : dOp X f (.int i) (.int j) P := by
  refine ⟨fun F H a b s ha hb QV k => ?_⟩
  rw [ha.intI, hb.intI]
  exact wOp.of ho ⟨i, j, rfl, rfl, k.d s q (.bl _)⟩
theorem Dq.tupI {K : PySem.W.Frag} {H : Hp} {v : V} {xs : List PyData} (h : Dq K H v (.tuple xs)) : ∃ a vs, v = .ref a ∧ SqT K H a vs ∧ DqAll K H vs xs := by
  cases h with
  | tup h1 h2 => exact ⟨_, _, rfl, h1, h2⟩
theorem Dq.lstI {K : PySem.W.Frag} {H : Hp} {v : V} {xs : List PyData} (h : Dq K H v (.list xs)) : ∃ a vs, v = .ref a ∧ H a = some (.lst vs) ∧ DqAll K H vs xs := by
  cases h with
  | lst h1 h2 => exact ⟨_, _, rfl, h1, h2⟩
theorem Dq.newT {K : PySem.W.Frag} {F : Hp} {p : Addr} {vs : List V} {xs : List PyData} (np : F p = none) (h : DqAll K F vs xs) : Dq K (upd F p (.tup vs)) (.ref p) (.tuple xs) :=
  .tup (.of upd_same) (h.up (same_upd np))
theorem dOp_of {op : Operator} {x y : PyData} (h : opQ op x y P) : dOp X (binaryOp op) x y P := by
  unfold opQ at h
  split at h
  · exact dOp_ints0 op_add h
  · rename_i i j
    refine ⟨fun F H a b s ha hb QV k => ?_⟩
    rw [ha.strI, hb.strI]
    exact wOp.of op_add_str ⟨i, j, rfl, rfl, h.1, k.d s h.2 (.str _)⟩
  · rename_i xs ys
    refine ⟨fun F H a b s ha hb QV k => ?_⟩
    obtain ⟨p, vs, rfl, h1, d1⟩ := ha.tupI
    obtain ⟨q, ws, rfl, h2, d2⟩ := hb.tupI
    have e1 := d1.length
    have e2 := d2.length
    refine wOp.of op_catA ⟨p, q, vs, ws, rfl, rfl, Same.sqT s h1, Same.sqT s h2, by rw [e1, e2]; exact h.1, fun z => ?_, fun _ z => ?_, fun _ _ r nr => ?_⟩
    · subst z
      have : xs = [] := List.eq_nil_of_length_eq_zero e1.symm
      subst this
      exact k.d s h.2 (.tup h2 (by simpa using d2))
    · subst z
      have : ys = [] := List.eq_nil_of_length_eq_zero e2.symm
      subst this
      exact k.d s h.2 (.tup h1 (by simpa using d1))
    · exact k.dnew s nr h.2 (Dq.newT (s.free nr) (d1.append d2))
  · rename_i xs ys
    refine ⟨fun F H a b s ha hb QV k => ?_⟩
    obtain ⟨p, vs, rfl, h1, d1⟩ := ha.lstI
    obtain ⟨q, ws, rfl, h2, d2⟩ := hb.lstI
    refine wOp.of op_cat ⟨p, q, vs, ws, rfl, rfl, s _ _ h1, s _ _ h2, by rw [d1.length, d2.length]; exact h.1, fun r nr => ?_⟩
    exact k.lst s nr h.2 (d1.append d2)
  · exact dOp_ints0 op_sub h
  · exact dOp_ints op_mulW h.1 h.2
  · exact dOp_ints op_fdivW h.1 h.2
  · exact dOp_ints op_mod h.1 h.2
  · exact dOp_ints op_pow h.1 h.2
  · exact h.elim
theorem op_inT (hu : X.A.units + 65 < cLine) : OpR X (compareOp .In) (fun x y H Q => ∃ d ds, Dp X.K H x d ∧ Dp X.K H y (.tuple ds) ∧ SeqAt.shaped d = true ∧ SeqAt.shaped (.tuple ds) = true ∧ Q (.bl (ds.any fun z => PyData.eqv z d)) H) :=
  fun pins s σ H x y v u Q I rx ry ⟨d, ds, hd, he, sd, se, q⟩ => by
    obtain ⟨l1, r1⟩ := Dp.reads I d x v hd rx
    obtain ⟨l2, r2⟩ := Dp.reads I (.tuple ds) y u he ry
    exact SeqAt.in_tuple_reads r2 r1 (SeqAt.canLay_of_shaped se) (SeqAt.canLay_of_shaped sd) (room_in_shaped sd hu) ⟨V.bl _, H, I, rfl, q⟩
theorem op_notInT (hu : X.A.units + 65 < cLine) : OpR X (compareOp .NotIn) (fun x y H Q => ∃ d ds, Dp X.K H x d ∧ Dp X.K H y (.tuple ds) ∧ SeqAt.shaped d = true ∧ SeqAt.shaped (.tuple ds) = true ∧ Q (.bl (!ds.any fun z => PyData.eqv z d)) H) :=
  fun pins s σ H x y v u Q I rx ry ⟨d, ds, hd, he, sd, se, q⟩ => by
    obtain ⟨l1, r1⟩ := Dp.reads I d x v hd rx
    obtain ⟨l2, r2⟩ := Dp.reads I (.tuple ds) y u he ry
    exact SeqAt.notIn_tuple_reads r2 r1 (SeqAt.canLay_of_shaped se) (SeqAt.canLay_of_shaped sd) (room_in_shaped sd hu) ⟨V.bl _, H, I, rfl, q⟩
theorem _root_.L2.Dp.same {K : PySem.W.Frag} {F H : Hp} {v : V} {x : PyData} (h : Dq K F v x) (s : Same F H) : Dp K H v x := (h.up s).to
theorem dOp_data {f : Value → Value → Sem Value} {r : R2} (ho : OpR X f r) {x y : PyData} {c : Bool} (hr : ∀ (a b : V) (H : Hp) (Q : VK), Dp X.K H a x → Dp X.K H b y → Q (.bl c) H → r a b H Q) (q : P (.d (.bool c))) : dOp X f x y P :=
  ⟨fun F H a b s ha hb QV k => wOp.of ho (hr a b H QV (L2.Dp.same ha s) (L2.Dp.same hb s) (k.d s q (.bl _)))⟩
theorem dOp_isN {x : PyData} {c : Bool} (hx : ∀ (v : V) (F : Hp), Dq X.K F v x → decide (v = .non) = c) (q : P (.d (.bool c))) : dOp X (compareOp .Is) x .none P := by
  refine ⟨fun F H a b s ha hb QV k => ?_⟩
  rw [hb.nonI]
  exact wOp.of op_isN ⟨rfl, by rw [hx a F ha]; exact k.d s q (.bl _)⟩
theorem dOp_notN {x : PyData} {c : Bool} (hx : ∀ (v : V) (F : Hp), Dq X.K F v x → (!decide (v = .non)) = c) (q : P (.d (.bool c))) : dOp X (compareOp .IsNot) x .none P := by
  refine ⟨fun F H a b s ha hb QV k => ?_⟩
  rw [hb.nonI]
  exact wOp.of op_notN ⟨rfl, by rw [hx a F ha]; exact k.d s q (.bl _)⟩
theorem dOp_cmp {op : CmpOp} {x y : PyData} (hu : X.A.units + 65 < cLine) (h : cmpQ op x y fun c => P (.d (.bool c))) : dOp X (compareOp op) x y P := by
  unfold cmpQ at h
  split at h
  · exact dOp_data (op_eqD (by omega)) (fun a b H Q d1 d2 q => ⟨_, _, d1, d2, h.1, h.2.1, q⟩) h.2.2
  · exact dOp_data (op_neD (by omega)) (fun a b H Q d1 d2 q => ⟨_, _, d1, d2, h.1, h.2.1, q⟩) h.2.2
  · exact dOp_intsB op_lt h
  · exact dOp_intsB op_le h
  · exact dOp_intsB op_gt h
  · exact dOp_intsB op_ge h
  · exact dOp_data (op_inD hu) (fun a b H Q d1 d2 q => ⟨_, _, d1, d2, h.1, h.2.1, q⟩) h.2.2
  · exact dOp_data (op_notInD hu) (fun a b H Q d1 d2 q => ⟨_, _, d1, d2, h.1, h.2.1, q⟩) h.2.2
  · exact dOp_data (op_inT hu) (fun a b H Q d1 d2 q => ⟨_, _, d1, d2, h.1, h.2.1, q⟩) h.2.2
  · exact dOp_data (op_notInT hu) (fun a b H Q d1 d2 q => ⟨_, _, d1, d2, h.1, h.2.1, q⟩) h.2.2
  all_goals first
    | exact h.elim
    | exact dOp_isN (fun v F d => by cases d <;> rfl) h
    | exact dOp_notN (fun v F d => by cases d <;> rfl) h
end
end DL

set_option Elab.async false
set_option linter.all false
set_option maxRecDepth 100000
set_option maxHeartbeats 4000000
namespace DL
open PySem PySem.Spec PyProof.Rows L2

/-! ### argument lists, displays -/
section
variable {Y : DC} {Γ : G} {e : Expr} {es : List Expr} {pos : Pos}
theorem dA_nil {Q : List R → G → Prop} (q : Q [] Γ) : dA Y [] Γ Q :=
  ⟨fun B σ F H fp n R QV k => wA.of pa_nil (k [] Γ [] F H fp q R (Same.refl _) .nil)⟩
theorem dA_cons {Q : List R → G → Prop} (hs : starEach (e :: es) Y.X.env = (false, eval e Y.X.env) :: starEach es Y.X.env) (h : dE Y e Γ fun r Γ1 => dA Y es Γ1 fun rs Γ2 => Q (r :: rs) Γ2) : dA Y (e :: es) Γ Q := by
  refine ⟨fun B σ F H fp n R QV k => wA.of (pa_cons pe_w pa_w hs) ?_⟩
  refine h.run B σ F H fp n R _ fun r Γ1 x F1 H1 fp1 h1 R1 s1 o1 => ?_
  refine h1.run B σ F1 H1 fp1 n R1 _ fun rs Γ2 xs F2 H2 fp2 h2 R2 s2 o2 => ?_
  exact k (r :: rs) Γ2 (x :: xs) F2 H2 fp2 h2 R2 (s1.trans s2) (.cons (o1.up s2) o2)
@[reducible] def onDs : List R → (List PyData → Prop) → Prop
  | [], k => k []
  | r :: rs, k => onD r fun x => onDs rs fun xs => k (x :: xs)
theorem onDs.ex {K : PySem.W.Frag} {F : Hp} {σ : L2.St} : ∀ {rs : List R} {vs : List V} {k : List PyData → Prop}, onDs rs k → Paired (ROk K F σ) rs vs → ∃ xs, k xs ∧ DqAll K F vs xs
  | [], _, k, h, .nil => ⟨[], h, .nil⟩
  | r :: rs, _, k, h, .cons o t => by
    obtain ⟨x, e, h1⟩ := onD.ex (r := r) h
    obtain ⟨xs, h2, d⟩ := onDs.ex h1 t
    rw [e] at o
    exact ⟨x :: xs, h2, .cons o d⟩
theorem dO_tup {n1} {Q : M → G → Prop} (h : dA Y es Γ fun rs Γ' => onDs rs fun xs => xs.length ≤ sizeLine ∧ Q (.d (.tuple xs)) Γ') : dO Y (.Tuple es n1 pos) Γ Q := by
  refine ⟨fun B σ F H fp n R QV k => wE.of (pe_tup pa_w) ?_⟩
  refine h.run B σ F H fp n R _ fun rs Γ1 vs F1 H1 fp1 h1 R1 s1 o1 => ?_
  obtain ⟨xs, ⟨hl, q⟩, d⟩ := h1.ex o1
  refine ⟨by rw [d.length]; exact hl, fun p np => ?_⟩
  have g := Grow.laid R1.sub np (o := .tup vs)
  exact k (.d (.tuple xs)) Γ1 (.ref p) _ _ fp1 (fun _ => False) q (R1.grow g) (s1.trans g.f) (.d (Dq.newT (R1.sub.free np) d) fun _ z => z) (.none fun _ z => z)
theorem dO_lst {Q : M → G → Prop} (h : dA Y es Γ fun rs Γ' => onDs rs fun xs => xs.length ≤ sizeLine ∧ Q (.lst (xs.map M.d)) Γ') : dO Y (.List es pos) Γ Q := by
  refine ⟨fun B σ F H fp n R QV k => wE.of (pe_lst pa_w) ?_⟩
  refine h.run B σ F H fp n R _ fun rs Γ1 vs F1 H1 fp1 h1 R1 s1 o1 => ?_
  obtain ⟨xs, ⟨hl, q⟩, d⟩ := h1.ex o1
  refine ⟨by rw [d.length]; exact hl, fun p np => ?_⟩
  have V : VO Y.X.K F1 H1 (fun m => Q m Γ1) QV := R1.vo (fun m q => q) fun m Γ' v F' H' fp' fr q R' s' => k m Γ' v F' H' fp' fr q R' (s1.trans s')
  exact V.lst R1.sub np q d
end

/-! ### subscripts -/
@[reducible] def ixQ : PyData → PyData → (PyData → Prop) → Prop
  | .list xs, .int i, k => ∃ y, atI xs i = some y ∧ k y
  | .tuple xs, .int i, k => ∃ y, atI xs i = some y ∧ k y
  | .str z, .int i, k => z.length ≤ sizeLine ∧ ∃ c, atI z.cps.toList i = some c ∧ k (.str ⟨#[c]⟩)
  | _, _, _ => False
@[reducible] def ixR (Γ : G) : R → PyData → (PyData → Prop) → Prop
  | .d x, j, k => ixQ x j k
  | .al i, j, k => ∃ ms n y, Γ[i]? = some (some (.lst ms)) ∧ j = .int n ∧ atI ms n = some (.d y) ∧ k y
  | .raw _, _, _ => False
theorem DqAll.atI {K : PySem.W.Frag} {F : Hp} {vs : List V} {xs : List PyData} (d : DqAll K F vs xs) {i : Int} {y : PyData} (h : L2.atI xs i = some y) : ∃ v, L2.atI vs i = some v ∧ Dq K F v y := by
  unfold L2.atI at h ⊢
  rw [d.length]
  cases e : ixN xs.length i with
  | none => rw [e] at h; cases h
  | some j =>
    rw [e] at h
    exact d.get h
theorem OwnL.get {K : PySem.W.Frag} {F H : Hp} : ∀ {ms : List M} {vs : List V} {fp : AS}, OwnL K F H vs ms fp → ∀ {j : Nat} {m : M}, ms[j]? = some m → ∃ v f, vs[j]? = some v ∧ Own K F H v m f ∧ ∀ a, f a → fp a
  | [], _, _, _, j, m, e => by simp at e
  | m0 :: ms, _, _, .cons h1 h2 h3 h4, 0, m, e => by
    simp at e
    subst e
    exact ⟨_, _, rfl, h1, fun a ha => (h4 a).2 (.inl ha)⟩
  | m0 :: ms, _, _, .cons h1 h2 h3 h4, j + 1, m, e => by
    obtain ⟨v, f, e1, o, k⟩ := OwnL.get h2 (by simpa using e)
    exact ⟨v, f, by simpa using e1, o, fun a ha => (h4 a).2 (.inr (k a ha))⟩
theorem OwnL.atI {K : PySem.W.Frag} {F H : Hp} {ms : List M} {vs : List V} {fp : AS} (d : OwnL K F H vs ms fp) {i : Int} {y : PyData} (h : L2.atI ms i = some (.d y)) : ∃ v, L2.atI vs i = some v ∧ Dq K F v y := by
  unfold L2.atI at h ⊢
  rw [d.length]
  cases e : ixN ms.length i with
  | none => rw [e] at h; cases h
  | some j =>
    rw [e] at h
    obtain ⟨v, f, e1, o, _⟩ := d.get h
    cases o with
    | d q _ => exact ⟨v, e1, q⟩
section
variable {Y : DC} {Γ : G} {a b : Expr} {pos : Pos}
theorem dE_ix {Q : R → G → Prop} (hs : PlainIx b) (h : dE Y a Γ fun r1 Γ1 => dE Y b Γ1 fun r2 Γ2 => onD r2 fun j => ixR Γ2 r1 j fun y => Q (.d y) Γ2) : dE Y (.Subscript a b pos) Γ Q := by
  refine ⟨fun B σ F H fp n R QV k => wE.of (pe_ix ix_seq pe_w pe_w hs) ?_⟩
  refine h.run B σ F H fp n R _ fun r1 Γ1 x F1 H1 fp1 h1 R1 s1 o1 => ?_
  refine h1.run B σ F1 H1 fp1 n R1 _ fun r2 Γ2 y F2 H2 fp2 h2 R2 s2 o2 => ?_
  obtain ⟨j, rfl, h3⟩ := h2.ex
  have fin : ∀ {v : V} {z : PyData}, Q (.d z) Γ2 → Dq Y.X.K F2 v z → QV v H2 := fun q d => k _ Γ2 _ F2 H2 fp2 q R2 (s1.trans s2) d
  have o1' := o1.up s2
  cases r1 with
  | raw u => exact h3.elim
  | al i =>
    obtain ⟨ms, m, z, e, rfl, ha, q⟩ := h3
    obtain ⟨v, e', o⟩ := R2.own i _ e
    have ev : v = x := by
      have o' : σ[i]? = some (some x) := o1'
      rw [o'] at e'; cases e'; rfl
    subst ev
    cases Dq.intI o2
    generalize fp2 i = g at o
    cases o with
    | lst hh hl _ _ =>
      obtain ⟨w, e2, d⟩ := hl.atI ha
      exact .inl ⟨_, _, m, w, rfl, rfl, .of hh, e2, fin q d⟩
  | d xx =>
    have dx : Dq Y.X.K F2 x xx := o1'
    have h4 : ixQ xx j fun y => Q (.d y) Γ2 := h3
    unfold ixQ at h4
    split at h4
    · rename_i xs i
      obtain ⟨z, ha, q⟩ := h4
      obtain ⟨p, vs, rfl, hp, dl⟩ := dx.lstI
      cases Dq.intI o2
      obtain ⟨w, e2, d⟩ := dl.atI ha
      exact .inl ⟨p, vs, i, w, rfl, rfl, .of (R2.sub _ _ hp), e2, fin q d⟩
    · rename_i xs i
      obtain ⟨z, ha, q⟩ := h4
      obtain ⟨p, vs, rfl, hp, dl⟩ := dx.tupI
      cases Dq.intI o2
      obtain ⟨w, e2, d⟩ := dl.atI ha
      exact .inr (.inl ⟨p, vs, i, w, rfl, rfl, Same.sqT R2.sub hp, e2, fin q d⟩)
    · rename_i z i
      obtain ⟨hz, c, ha, q⟩ := h4
      cases Dq.intI o2
      cases dx.strI
      exact .inr (.inr ⟨z, i, c, rfl, rfl, hz, ha, fin q (.str _)⟩)
    · exact h4.elim
end

/-! ### slices -/
def cutD {α : Type} (xs : List α) (lo hi : Option Int) : List α := (xs.drop (HT.sIx xs.length 0 lo)).take (HT.sIx xs.length xs.length hi - HT.sIx xs.length 0 lo)
theorem cutD_whole {α : Type} {xs : List α} {lo hi : Option Int} (h : HT.sIx xs.length 0 lo = 0 ∧ HT.sIx xs.length xs.length hi = xs.length) : cutD xs lo hi = xs := by
  unfold cutD
  rw [h.1, h.2, List.drop_zero, Nat.sub_zero, List.take_length]
theorem DqAll.cut {K : PySem.W.Frag} {F : Hp} {vs : List V} {xs : List PyData} (d : DqAll K F vs xs) (lo hi : Option Int) : DqAll K F (cutV vs lo hi) (cutD xs lo hi) := by
  unfold cutV cutD
  rw [d.length]
  exact (d.drop _).take _
@[reducible] def slQ : PyData → Option Int → Option Int → (M → Prop) → Prop
  | .str z, lo, hi, P => z.length ≤ sizeLine ∧ P (.d (.str (cutS z lo hi)))
  | .tuple xs, lo, hi, P => P (.d (.tuple (cutD xs lo hi)))
  | .list xs, lo, hi, P => P (.lst ((cutD xs lo hi).map M.d))
  | _, _, _, _ => False
@[reducible] def slR (Γ : G) : R → Option Int → Option Int → (M → Prop) → Prop
  | .d x, lo, hi, P => slQ x lo hi P
  | .al i, lo, hi, P => (∃ xs, Γ[i]? = some (some (.lst (xs.map M.d))) ∧ P (.lst ((cutD xs lo hi).map M.d))) ∨ (∃ ns, Γ[i]? = some (some (.scr ns)) ∧ P (.lst (((cutD ns lo hi).map PyData.int).map M.d)))
  | .raw _, _, _, _ => False
/-- a bound of a slice -/
def wO (X : Cx) (o : Option Expr) : TO := fun σ H Q => ∃ t, PO X o t ∧ t σ H Q
theorem po_w {X : Cx} {o : Option Expr} : PO X o (wO X o) := ⟨fun pins s σ H Q I ⟨t, h, q⟩ => h.run pins s σ H Q I q⟩
structure dB (Y : DC) (o : Option Expr) (Γ : G) (Q : Option Int → G → Prop) : Prop where
  run : ∀ (B : Base) (σ : L2.St) (F H : Hp) (fp : Nat → AS), In Y B → Rel Y.X.K B Γ σ F H fp → ∀ QV : Option Int → Hp → Prop,
    (∀ j Γ' F' H' fp', Q j Γ' → Rel Y.X.K B Γ' σ F' H' fp' → Same F F' → QV j H') → wO Y.X o σ H QV
@[reducible] def onI : R → (Int → Prop) → Prop
  | .d (.int i), k => k i
  | _, _ => False
theorem onI.ex {r : R} {k : Int → Prop} (h : onI r k) : ∃ i, r = .d (.int i) ∧ k i := by
  unfold onI at h
  split at h
  · exact ⟨_, rfl, h⟩
  · exact h.elim
section
variable {Y : DC} {Γ : G} {a e : Expr} {lo hi : Option Expr} {pos p2 : Pos}
theorem dB_none {Q : Option Int → G → Prop} (q : Q none Γ) : dB Y none Γ Q :=
  ⟨fun B σ F H fp n R QV k => ⟨_, po_none, k none Γ F H fp q R (Same.refl _)⟩⟩
theorem dB_some {Q : Option Int → G → Prop} (h : dE Y e Γ fun r Γ' => onI r fun i => Q (some i) Γ') : dB Y (some e) Γ Q := by
  refine ⟨fun B σ F H fp n R QV k => ⟨_, po_some pe_w, ?_⟩⟩
  refine h.run B σ F H fp n R _ fun r Γ1 x F1 H1 fp1 h1 R1 s1 o1 => ?_
  obtain ⟨i, rfl, q⟩ := h1.ex
  cases Dq.intI o1
  exact ⟨i, rfl, k (some i) Γ1 F1 H1 fp1 q R1 s1⟩
theorem cutV_map {α : Type} (f : α → V) (xs : List α) (lo hi : Option Int) : cutV (xs.map f) lo hi = (cutD xs lo hi).map f := by
  unfold cutV cutD
  rw [List.length_map, List.map_take, List.map_drop]
theorem dO_sl {Q : M → G → Prop} (h : dE Y a Γ fun r Γ1 => dB Y lo Γ1 fun l Γ2 => dB Y hi Γ2 fun u Γ3 => slR Γ3 r l u fun m => Q m Γ3) : dO Y (.Subscript a (.Slice lo hi none p2) pos) Γ Q := by
  refine ⟨fun B σ F H fp n R QV k => wE.of (pe_slice (sl_list.or (sl_tupA.or sl_str)) pe_w po_w po_w) ?_⟩
  refine h.run B σ F H fp n R _ fun r Γ1 x F1 H1 fp1 h1 R1 s1 o1 => ?_
  refine h1.run B σ F1 H1 fp1 n R1 _ fun l Γ2 F2 H2 fp2 h2 R2 s2 => ?_
  refine h2.run B σ F2 H2 fp2 n R2 _ fun u Γ3 F3 H3 fp3 h3 R3 s3 => ?_
  have o' := (o1.up s2).up s3
  have V : VO Y.X.K F3 H3 (fun m => Q m Γ3) QV := R3.vo (fun m q => q) fun m Γ' v F' H' fp' fr q R' s' => k m Γ' v F' H' fp' fr q R' (((s1.trans s2).trans s3).trans s')
  cases r with
  | raw u => exact h3.elim
  | al i =>
    rcases h3 with ⟨xs, e, q⟩ | ⟨ns, e, q⟩
    · obtain ⟨v, e', o⟩ := R3.own i _ e
      have ev : v = x := by
        have o2 : σ[i]? = some (some x) := o'
        rw [o2] at e'; cases e'; rfl
      subst ev
      generalize fp3 i = g at o
      cases o with
      | lst hh hl _ _ => exact .inl ⟨_, _, rfl, .of hh, fun p np => V.lst R3.sub np q (hl.toAll.1.cut _ _)⟩
    · obtain ⟨v, e', o⟩ := R3.own i _ e
      have ev : v = x := by
        have o2 : σ[i]? = some (some x) := o'
        rw [o2] at e'; cases e'; rfl
      subst ev
      generalize fp3 i = g at o
      cases o with
      | scr hh _ => exact .inl ⟨_, _, rfl, Same.sqL R3.sub hh, fun p np => V.lst R3.sub np q (by rw [cutV_map]; exact DqAll.mapInt _)⟩
  | d xx =>
    have dx : Dq Y.X.K F3 x xx := o'
    have h4 : slQ xx l u fun m => Q m Γ3 := h3
    unfold slQ at h4
    split at h4
    · cases dx.strI
      exact .inr (.inr ⟨_, rfl, h4.1, V.d R3.sub h4.2 (.str _)⟩)
    · rename_i xs
      obtain ⟨p, vs, rfl, hp, dl⟩ := dx.tupI
      refine .inr (.inl ⟨p, vs, rfl, Same.sqT R3.sub hp, fun w => V.d R3.sub h4 (.tup hp ?_), fun _ q nq => V.dnew R3.sub nq h4 (Dq.newT (R3.sub.free nq) (dl.cut _ _))⟩)
      rw [dl.length] at w
      rw [cutD_whole w]
      exact dl
    · rename_i xs
      obtain ⟨p, vs, rfl, hp, dl⟩ := dx.lstI
      exact .inl ⟨p, vs, rfl, .of (R3.sub _ _ hp), fun q nq => V.lst R3.sub nq h4 (dl.cut _ _)⟩
    · exact h4.elim
end

/-! ### calls of what is built in -/
def wC (X : Cx) (f : Value) : List V → Hp → VK → Prop := fun xs H Q => ∃ r, CallR X f r ∧ r xs H Q
theorem call_w {X : Cx} {f : Value} : CallR X f (wC X f) := fun pins s σ H xs us Q I r ⟨t, h, q⟩ => h pins s σ H xs us Q I r q
structure dC (X : Cx) (f : Value) (xs : List PyData) (P : M → Prop) : Prop where
  run : ∀ (F H : Hp) (vs : List V), Same F H → DqAll X.K F vs xs → ∀ QV : VK, VO X.K F H P QV → wC X f vs H QV
section
variable {Y : DC} {Γ : G} {x : Str} {p pos : Pos} {e : Expr} {es : List Expr} {id T : String} {Q : M → G → Prop}
theorem dA_onXs {Q' : List R → G → Prop} {f : Value} (h : dA Y (e :: es) Γ fun rs Γ' => onXs Γ' rs fun b xs => dC Y.X f xs fun m => flatB b m (Q m Γ')) {B : Base} {σ : L2.St} {F H : Hp} {fp : Nat → AS} (n : In Y B) (R : Rel Y.X.K B Γ σ F H fp) {QV : VK}
    (k : ∀ m Γ' v F' H' fp' fr, Q m Γ' → Rel Y.X.K B Γ' σ F' H' fp' → Same F F' → Own Y.X.K F' H' v m fr → Fresh B F' H' fp' fr → QV v H') : wA Y.X (e :: es) σ H fun vs H1 => wC Y.X f vs H1 QV := by
  refine h.run B σ F H fp n R _ fun rs Γ1 vs F1 H1 fp1 h1 R1 s1 o1 => ?_
  obtain ⟨b, xs, I, h2, z, d⟩ := onXs.at R1 o1 h1
  exact h2.run (DL.frz F1 H1 (bor fp1 I)) H1 vs (frz_sub R1.sub) d QV (R1.vob z fun m Γ' v F' H' fp' fr q R' s' => k m Γ' v F' H' fp' fr q R' (s1.trans s'))
theorem dO_callB (hg : Gl Y.X x) (hm : Y.X.mg x = none) (hv : bootBuiltins x = some (.builtin id))
    (he : starEach (e :: es) Y.X.env = (false, eval e Y.X.env) :: starEach es Y.X.env) (hpl : (backTo pos (starEach es Y.X.env)).any (·.1) = false)
    (h : dA Y (e :: es) Γ fun rs Γ' => onXs Γ' rs fun b xs => dC Y.X (.builtin id) xs fun m => flatB b m (Q m Γ'))
    (hn : x ≠ "__name__" := by decide) (hdb : (x == ("__debug__" : Str)) = false := by decide) : dO Y (.Call (.Name x p) (e :: es) [] pos) Γ Q :=
  ⟨fun B σ F H fp n R QV k => wE.of (pe_callB call_w hg hm hv pa_w hn hdb he hpl) (dA_onXs (Q' := fun _ _ => True) h n R k)⟩
theorem dO_callTy (hg : Gl Y.X x) (hm : Y.X.mg x = none) (hv : bootBuiltins x = some (.type T))
    (he : starEach (e :: es) Y.X.env = (false, eval e Y.X.env) :: starEach es Y.X.env) (hpl : (backTo pos (starEach es Y.X.env)).any (·.1) = false)
    (h : dA Y (e :: es) Γ fun rs Γ' => onXs Γ' rs fun b xs => dC Y.X (.type T) xs fun m => flatB b m (Q m Γ'))
    (hn : x ≠ "__name__" := by decide) (hdb : (x == ("__debug__" : Str)) = false := by decide) : dO Y (.Call (.Name x p) (e :: es) [] pos) Γ Q :=
  ⟨fun B σ F H fp n R QV k => wE.of (pe_callTy call_w hg hm hv pa_w hn hdb he hpl) (dA_onXs (Q' := fun _ _ => True) h n R k)⟩
end
section
variable {X : Cx} {P : M → Prop}
theorem DqAll.i1 {K : PySem.W.Frag} {F : Hp} {vs : List V} {x : PyData} (h : DqAll K F vs [x]) : ∃ v, vs = [v] ∧ Dq K F v x := by
  cases h with
  | cons h1 h2 => cases h2; exact ⟨_, rfl, h1⟩
theorem DqAll.i2 {K : PySem.W.Frag} {F : Hp} {vs : List V} {x y : PyData} (h : DqAll K F vs [x, y]) : ∃ v w, vs = [v, w] ∧ Dq K F v x ∧ Dq K F w y := by
  cases h with
  | cons h1 h2 =>
    obtain ⟨w, rfl, h3⟩ := h2.i1
    exact ⟨_, w, rfl, h1, h3⟩
theorem dC_len {x : PyData} (h : match x with | .str z => z.length ≤ sizeLine ∧ P (.d (.int z.length)) | .tuple xs => P (.d (.int xs.length)) | .list xs => P (.d (.int xs.length)) | _ => False) : dC X (.builtin "len") [x] P := by
  refine ⟨fun F H vs s dd QV k => ?_⟩
  obtain ⟨v, rfl, d⟩ := dd.i1
  split at h
  · cases d.strI
    exact ⟨_, call_len_str, _, rfl, h.1, k.d s h.2 (.int _)⟩
  · obtain ⟨p, ws, rfl, hp, dl⟩ := d.tupI
    exact ⟨_, call_len_seq, p, ws, rfl, .inr (Same.sqT s hp), by rw [dl.length]; exact k.d s h (.int _)⟩
  · obtain ⟨p, ws, rfl, hp, dl⟩ := d.lstI
    exact ⟨_, call_len_seq, p, ws, rfl, .inl (.of (s _ _ hp)), by rw [dl.length]; exact k.d s h (.int _)⟩
  · exact h.elim
theorem dC_abs {i : Int} (h : P (.d (.int (if i < 0 then -i else i)))) : dC X (.builtin "abs") [.int i] P := by
  refine ⟨fun F H vs s dd QV k => ?_⟩
  obtain ⟨v, rfl, d⟩ := dd.i1
  cases d.intI
  exact ⟨_, call_abs, i, rfl, k.d s h (.int _)⟩
theorem dC_max {i j : Int} (hc : X.calm = true) (h : P (.d (.int (if j > i then j else i)))) : dC X (.builtin "max") [.int i, .int j] P := by
  refine ⟨fun F H vs s dd QV k => ?_⟩
  obtain ⟨v, w, rfl, d, d2⟩ := dd.i2
  cases d.intI
  cases d2.intI
  exact ⟨_, call_max2 hc, i, j, rfl, k.d s h (.int _)⟩
theorem dC_min {i j : Int} (hc : X.calm = true) (h : P (.d (.int (if j < i then j else i)))) : dC X (.builtin "min") [.int i, .int j] P := by
  refine ⟨fun F H vs s dd QV k => ?_⟩
  obtain ⟨v, w, rfl, d, d2⟩ := dd.i2
  cases d.intI
  cases d2.intI
  exact ⟨_, call_min2 hc, i, j, rfl, k.d s h (.int _)⟩
theorem dC_int {x : PyData} (h : match x with | .int i => P (.d (.int i)) | .bool b => P (.d (.int (if b then 1 else 0))) | _ => False) : dC X (.type "int") [x] P := by
  refine ⟨fun F H vs s dd QV k => ?_⟩
  obtain ⟨v, rfl, d⟩ := dd.i1
  split at h
  · cases d.intI
    exact ⟨_, call_int1, .inl ⟨_, rfl, k.d s h (.int _)⟩⟩
  · cases d.blI
    exact ⟨_, call_int1, .inr ⟨_, rfl, k.d s h (.int _)⟩⟩
  · exact h.elim
theorem dC_tuple {x : PyData} (h : match x with | .tuple xs => P (.d (.tuple xs)) | .list xs => P (.d (.tuple xs)) | _ => False) : dC X (.type "tuple") [x] P := by
  refine ⟨fun F H vs s dd QV k => ?_⟩
  obtain ⟨v, rfl, d⟩ := dd.i1
  split at h
  · obtain ⟨p, ws, rfl, hp, dl⟩ := d.tupI
    exact ⟨_, call_tuple_of, p, ws, rfl, .inr ⟨Same.sqT s hp, k.d s h (.tup hp dl)⟩⟩
  · obtain ⟨p, ws, rfl, hp, dl⟩ := d.lstI
    exact ⟨_, call_tuple_of, p, ws, rfl, .inl ⟨.of (s _ _ hp), fun q nq => k.dnew s nq h (Dq.newT (s.free nq) dl)⟩⟩
  · exact h.elim
theorem dC_list {x : PyData} (h : match x with | .tuple xs => P (.lst (xs.map M.d)) | .list xs => P (.lst (xs.map M.d)) | _ => False) : dC X (.type "list") [x] P := by
  refine ⟨fun F H vs s dd QV k => ?_⟩
  obtain ⟨v, rfl, d⟩ := dd.i1
  split at h
  · obtain ⟨p, ws, rfl, hp, dl⟩ := d.tupI
    exact ⟨_, call_list_of, p, ws, rfl, .inr (Same.sqT s hp), fun q nq => k.lst s nq h dl⟩
  · obtain ⟨p, ws, rfl, hp, dl⟩ := d.lstI
    exact ⟨_, call_list_of, p, ws, rfl, .inl (.of (s _ _ hp)), fun q nq => k.lst s nq h dl⟩
  · exact h.elim
theorem DqAll.ints {K : PySem.W.Frag} {F : Hp} : ∀ {ns : List Int} {vs : List V}, DqAll K F vs (ns.map PyData.int) → vs = ns.map V.int
  | [], _, h => by cases h; rfl
  | n :: ns, _, h => by
    cases h with
    | cons h1 h2 => rw [h1.intI, DqAll.ints h2]; rfl
theorem DqAll.bls {K : PySem.W.Frag} {F : Hp} : ∀ {ns : List Bool} {vs : List V}, DqAll K F vs (ns.map PyData.bool) → vs = ns.map V.bl
  | [], _, h => by cases h; rfl
  | n :: ns, _, h => by
    cases h with
    | cons h1 h2 => rw [h1.blI, DqAll.bls h2]; rfl
theorem dC_sum (hc : X.calm = true) {ns : List Int} (h : P (.d (.int ns.sum))) : dC X (.builtin "sum") [.list (ns.map PyData.int)] P := by
  refine ⟨fun F H vs s dd QV k => ?_⟩
  obtain ⟨v, rfl, d⟩ := dd.i1
  obtain ⟨p, ws, rfl, hp, dl⟩ := d.lstI
  rw [dl.ints] at hp
  exact ⟨_, cr_sum hc, p, ns, rfl, .of (s _ _ hp), k.d s h (.int _)⟩
theorem dC_all (hc : X.calm = true) {bs : List Bool} (h : P (.d (.bool (bs.all id)))) : dC X (.builtin "all") [.list (bs.map PyData.bool)] P := by
  refine ⟨fun F H vs s dd QV k => ?_⟩
  obtain ⟨v, rfl, d⟩ := dd.i1
  obtain ⟨p, ws, rfl, hp, dl⟩ := d.lstI
  rw [dl.bls] at hp
  exact ⟨_, cr_all hc, p, bs, rfl, .of (s _ _ hp), k.d s h (.bl _)⟩
theorem dC_any (hc : X.calm = true) {bs : List Bool} (h : P (.d (.bool (bs.any id)))) : dC X (.builtin "any") [.list (bs.map PyData.bool)] P := by
  refine ⟨fun F H vs s dd QV k => ?_⟩
  obtain ⟨v, rfl, d⟩ := dd.i1
  obtain ⟨p, ws, rfl, hp, dl⟩ := d.lstI
  rw [dl.bls] at hp
  exact ⟨_, cr_any hc, p, bs, rfl, .of (s _ _ hp), k.d s h (.bl _)⟩
/-- repr of a list or tuple of data -/
theorem dC_repr {x : PyData} (hg : X.A.guards = some []) (hu : X.A.units + (x.depth + 1) < cLine) (hd : isDisplay x = true) (hs : x.showable = true) (hk : x.hasDict = false) (hz : x.shown.length ≤ sizeLine) (h : P (.d (.str x.shown))) : dC X (.builtin "repr") [x] P := by
  refine ⟨fun F H vs s dd QV k => ⟨fun xs H' Q => xs = vs ∧ H' = H ∧ Q (.str x.shown) H, ?_, rfl, rfl, k.d s h (.str _)⟩⟩
  obtain ⟨v, rfl, d⟩ := dd.i1
  intro pins st σ H' xs us Q I r q
  obtain ⟨rfl, rfl, q⟩ := q
  obtain ⟨u, rfl, ru⟩ := Vals.one r
  obtain ⟨as, hr⟩ := Dp.reads I x v u (L2.Dp.same d s) ru
  obtain ⟨b, rfl⟩ := isRef_of_reads hr hd
  refine repr_of_reads' hr hs (fun z => by rw [hk] at z; cases z) hg hu (fun _ _ e => e) (fun h' u tk hk => ?_) hz
  exact ⟨.str x.shown, _, I.kept hk, ⟨_, rfl⟩, q⟩
end
end DL

set_option Elab.async false
set_option linter.all false
set_option maxRecDepth 100000
set_option maxHeartbeats 4000000
namespace DL
open PySem PySem.Spec PyProof.Rows L2

/-! ### blocks -/
section
variable {Y : DC} {Γ : G} {D : DE} {st : Stmt} {rest : List Stmt} {e : Expr} {pos : Pos}
theorem dSs_nil (q : D.nx Γ) : dSs Y [] Γ D := ⟨fun B σ F H fp n R DV k => wSs.of pss_nil (k.nx Γ σ F H fp q R)⟩
theorem dSs_cons (h : dS Y st Γ { D with nx := fun Γ' => dSs Y rest Γ' D }) : dSs Y (st :: rest) Γ D := by
  refine ⟨fun B σ F H fp n R DV k => wSs.of (pss_cons ps_w pss_w) ?_⟩
  exact h.run B σ F H fp n R { DV with nx := fun σ' H' => wSs Y.X rest DV σ' H' } ⟨fun Γ' σ' F' H' fp' q R' => q.run B σ' F' H' fp' n R' DV k, k.rt, k.bk, k.ct⟩
theorem dSs_one (h : dS Y st Γ D) : dSs Y [st] Γ D :=
  ⟨fun B σ F H fp n R DV k => wSs.of (pss_one ps_w) (h.run B σ F H fp n R DV k)⟩
theorem dS_ex (h : dO Y e Γ fun _ Γ' => D.nx Γ') (hs : swapsWith e none pos.line Y.X.env = pure false) : dS Y (.Expr e pos) Γ D :=
  ⟨fun B σ F H fp n R DV k => wS.of (ps_expr pe_w hs) (h.run B σ F H fp n R _ fun m Γ' v F' H' fp' fr q R' _ _ _ => k.nx Γ' σ F' H' fp' q R')⟩
theorem dS_ret (h : dO Y e Γ fun m Γ' => D.rt m Γ') : dS Y (.Return (some e) pos) Γ D :=
  ⟨fun B σ F H fp n R DV k => wS.of (ps_ret pe_w) (h.run B σ F H fp n R _ fun m Γ' v F' H' fp' fr q R' _ o f => k.rt m Γ' v σ F' H' fp' fr q R' o f)⟩
theorem dS_retN (q : D.rt (.d .none) Γ) : dS Y (.Return none pos) Γ D :=
  ⟨fun B σ F H fp n R DV k => wS.of ps_retN (k.rt (.d .none) Γ .non σ F H fp (fun _ => False) q R (.d .non fun _ z => z) (.none fun _ z => z))⟩
theorem dS_if {c : Expr} {a b : List Stmt} (h : dT Y c Γ fun t Γ' => if t = true then dSs Y a Γ' D else dSs Y b Γ' D) : dS Y (.If c a b pos) Γ D := by
  refine ⟨fun B σ F H fp n R DV k => wS.of (ps_if pt_w pss_w pss_w) ?_⟩
  refine h.run B σ F H fp n R _ fun t Γ' F' H' fp' q R' s' => ?_
  cases t with
  | true =>
    rw [if_pos rfl] at q ⊢
    exact q.run B σ F' H' fp' n R' DV k
  | false =>
    rw [if_neg Bool.false_ne_true] at q ⊢
    exact q.run B σ F' H' fp' n R' DV k
theorem dS_pass (q : D.nx Γ) : dS Y (.Pass pos) Γ D := ⟨fun B σ F H fp n R DV k => wS.of ps_pass (k.nx Γ σ F H fp q R)⟩
theorem dS_break (q : D.bk Γ) : dS Y (.Break pos) Γ D := ⟨fun B σ F H fp n R DV k => wS.of ps_break (k.bk Γ σ F H fp q R)⟩
theorem dS_cont (q : D.ct Γ) : dS Y (.Continue pos) Γ D := ⟨fun B σ F H fp n R DV k => wS.of ps_continue (k.ct Γ σ F H fp q R)⟩
theorem dS.mono {D' : DE} (h : dS Y st Γ D) (k : (∀ Γ, D.nx Γ → D'.nx Γ) ∧ (∀ m Γ, D.rt m Γ → D'.rt m Γ) ∧ (∀ Γ, D.bk Γ → D'.bk Γ) ∧ (∀ Γ, D.ct Γ → D'.ct Γ)) : dS Y st Γ D' :=
  ⟨fun B σ F H fp n R DV c => h.run B σ F H fp n R DV ⟨fun Γ σ F H fp q => c.nx Γ σ F H fp (k.1 Γ q), fun m Γ v σ F H fp fr q => c.rt m Γ v σ F H fp fr (k.2.1 m Γ q), fun Γ σ F H fp q => c.bk Γ σ F H fp (k.2.2.1 Γ q), fun Γ σ F H fp q => c.ct Γ σ F H fp (k.2.2.2 Γ q)⟩⟩
/-- name = e -/
theorem dS_set {i : Nat} {x : Str} {p : Pos} (hi : Y.X.N[i]? = some x) (hx : Loc Y.X.env.scope x) (hl : Y.ln i = false) (h : dO Y e Γ fun m Γ' => D.nx (Γ'.set i (some m)))
    (hs : swapsWith e (some (.Name x p)) pos.line Y.X.env = pure false) (hf : Y.X.fn x = true ∨ Y.X.env.scope.names.lookup x = some .local) : dS Y (.Assign [.Name x p] e pos) Γ D := by
  refine ⟨fun B σ F H fp n R DV k => wS.of (ps_set Y.nd hi hx pe_w hs hf) ?_⟩
  refine h.run B σ F H fp n R _ fun m Γ' v F' H' fp' fr q R' _ o f => ?_
  by_cases hi : i < Γ'.length
  · exact k.nx _ _ F' H' _ q (R'.set hi o f (n.nl hl))
  · have e1 : Γ'.set i (some m) = Γ' := List.set_eq_of_length_le (by omega)
    have e2 : σ.set i (some v) = σ := List.set_eq_of_length_le (by have := R'.len; omega)
    rw [e1] at q
    show DV.nx (σ.set i (some v)) H'
    rw [e2]
    exact k.nx _ _ F' H' _ q R'
/-- a slot's thing is frozen -/
theorem dSs_frz {sts : List Stmt} (i : Nat) {m : M} {x : PyData} (e : Γ[i]? = some (some m)) (z : Frz m x) (hl : Y.ln i = false) (h : dSs Y sts (Γ.set i (some (.d x))) D) : dSs Y sts Γ D := by
  refine ⟨fun B σ F H fp n R DV k => ?_⟩
  have nl : ∀ a, fp i a → B.H0 a = none := fun a ha => by
    rcases (R.out i a ha).2.2 with q | q
    · exact q
    · rw [n.lL i a q] at hl; cases hl
  obtain ⟨F', fp', R', _⟩ := R.frzSlot e z nl
  exact h.run B σ F' H fp' n R' DV k
/-- slots are forgotten -/
theorem dSs_weak {sts : List Stmt} (Γ' : G) (hl : Γ'.length = Γ.length) (w : ∀ (i : Nat) m, Γ'[i]? = some (some m) → Γ[i]? = some (some m)) (h : dSs Y sts Γ' D) : dSs Y sts Γ D :=
  ⟨fun B σ F H fp n R DV k => h.run B σ F H fp n (R.weak hl w) DV k⟩

/-! ### what a slot owns, changed -/
theorem OwnL.snoc {K : PySem.W.Frag} {F H : Hp} : ∀ {ms : List M} {vs : List V} {f : AS}, OwnL K F H vs ms f → ∀ {m : M} {v : V} {g : AS}, Own K F H v m g → (∀ a, f a → g a → False) → OwnL K F H (vs ++ [v]) (ms ++ [m]) (fun a => f a ∨ g a)
  | [], _, _, .nil n, m, v, g, o, d => .cons o (.nil (fp := fun _ => False) fun _ z => z) (fun _ _ z => z) fun b => ⟨fun z => .inl (z.resolve_left (n b)), fun z => z.elim .inr False.elim⟩
  | m0 :: ms, _, _, .cons (f := f0) (g := g0) h1 h2 h3 h4, m, v, g, o, d => by
    refine .cons h1 (OwnL.snoc h2 o fun a ha hg => d a ((h4 a).2 (.inr ha)) hg) (fun a ha hb => hb.elim (h3 a ha) fun hg => d a ((h4 a).2 (.inl ha)) hg) fun b => ?_
    rw [h4 b, or_assoc]
theorem OwnL.setD {K : PySem.W.Frag} {F H : Hp} : ∀ {ms : List M} {vs : List V} {f : AS}, OwnL K F H vs ms f → ∀ (j : Nat) {x : PyData} {v : V}, Dq K F v x → ∃ g, OwnL K F H (vs.set j v) (ms.set j (.d x)) g ∧ ∀ a, g a → f a
  | [], _, f, .nil n, j, x, v, d => ⟨f, .nil n, fun _ z => z⟩
  | m0 :: ms, _, f, .cons (f := f0) (g := g0) h1 h2 h3 h4, 0, x, v, d => ⟨g0, .cons (f := fun _ => False) (.d d fun _ z => z) h2 (fun _ z _ => z.elim) fun b => by simp, fun a ha => (h4 a).2 (.inr ha)⟩
  | m0 :: ms, _, f, .cons (f := f0) (g := g0) h1 h2 h3 h4, j + 1, x, v, d => by
    obtain ⟨g, o, k⟩ := OwnL.setD h2 j d
    refine ⟨fun a => f0 a ∨ g a, .cons h1 o (fun a ha hb => h3 a ha (k a hb)) fun b => Iff.rfl, fun a ha => (h4 a).2 (ha.imp_right (k a))⟩
/-- slot i's own place a takes another content -/
theorem Rel.mut {K : PySem.W.Frag} {B : Base} {Γ : G} {σ : L2.St} {F H : Hp} {fp : Nat → AS} (R : Rel K B Γ σ F H fp) {i : Nat} {a : Addr} {o : HO} {m : M} {g : AS} (hi : i < Γ.length) (ha : fp i a) (hv : σ[i]? = some (some (.ref a)))
    (ow : Own K F (upd H a o) (.ref a) m g) (hg : ∀ b, g b → fp i b ∨ (F b = none ∧ B.H0 b = none ∧ ∀ j, ¬ fp j b)) :
    Rel K B (Γ.set i (some m)) σ F (upd H a o) (fun j => if j = i then g else fp j) where
  len := by rw [List.length_set]; exact R.len
  own := fun j m' e => by
    by_cases hj : j = i
    · subst hj
      rw [List.getElem?_set_self hi] at e
      cases e
      exact ⟨_, hv, by rw [if_pos rfl]; exact ow⟩
    · rw [List.getElem?_set_ne (Ne.symm hj)] at e
      obtain ⟨v', e', o'⟩ := R.own j m' e
      refine ⟨v', e', ?_⟩
      rw [if_neg hj]
      exact o'.mono (Same.refl _) fun b hb => upd_ne fun z => R.dis j i b hj hb (by rw [z]; exact ha)
  dis := fun j k b hjk h1 h2 => by
    by_cases hj : j = i
    · rw [if_pos hj] at h1
      have hk : k ≠ i := fun z => hjk (hj.trans z.symm)
      rw [if_neg hk] at h2
      rcases hg b h1 with q | q
      · exact R.dis i k b (Ne.symm hk) q h2
      · exact q.2.2 k h2
    · rw [if_neg hj] at h1
      by_cases hk : k = i
      · rw [if_pos hk] at h2
        rcases hg b h2 with q | q
        · exact R.dis i j b (Ne.symm hj) q h1
        · exact q.2.2 j h1
      · rw [if_neg hk] at h2
        exact R.dis j k b hjk h1 h2
  out := fun j b h => by
    by_cases hj : j = i
    · rw [if_pos hj] at h
      have hb := ow.dom b h
      rcases hg b h with q | q
      · obtain ⟨h1, _, h3⟩ := R.out i b q
        exact ⟨h1, hb, by rw [hj]; exact h3⟩
      · exact ⟨q.1, hb, .inl q.2.1⟩
    · rw [if_neg hj] at h
      obtain ⟨h1, h2, h3⟩ := R.out j b h
      exact ⟨h1, by rw [upd_ne fun z => R.dis j i b hj h (by rw [z]; exact ha)]; exact h2, h3⟩
  sub := fun b x e => by
    rw [upd_ne fun z => by rw [z, (R.out i a ha).1] at e; cases e]
    exact R.sub b x e
  ext := R.ext
  new := R.new
  keep := fun b x e n => by
    rw [upd_ne fun z => ?_]
    · exact R.keep b x e n
    · rcases (R.out i a ha).2.2 with q | q
      · rw [z, q] at e; cases e
      · exact n i (by rw [z]; exact q)
  there := fun b e => by
    by_cases hb : b = a
    · rw [hb, upd_same]; exact fun z => nomatch z
    · rw [upd_ne hb]; exact R.there b e
  lent := R.lent
/-- a place that nobody has takes another content -/
theorem Rel.mutOut {K : PySem.W.Frag} {B : Base} {Γ : G} {σ : L2.St} {F H : Hp} {fp : Nat → AS} (R : Rel K B Γ σ F H fp) {a : Addr} {o : HO} (hf : F a = none) (h0 : B.H0 a = none) (hn : ∀ i, ¬ fp i a) : Rel K B Γ σ F (upd H a o) fp where
  len := R.len
  own := fun j m' e => by
    obtain ⟨v', e', o'⟩ := R.own j m' e
    exact ⟨v', e', o'.mono (Same.refl _) fun b hb => upd_ne fun z => hn j (by rw [← z]; exact hb)⟩
  dis := R.dis
  out := fun j b h => by
    obtain ⟨h1, h2, h3⟩ := R.out j b h
    exact ⟨h1, by rw [upd_ne fun z => hn j (by rw [← z]; exact h)]; exact h2, h3⟩
  sub := fun b x e => by
    rw [upd_ne fun z => by rw [z, hf] at e; cases e]
    exact R.sub b x e
  ext := R.ext
  new := R.new
  keep := fun b x e n => by
    rw [upd_ne fun z => by rw [z, h0] at e; cases e]
    exact R.keep b x e n
  there := fun b e => by
    by_cases hb : b = a
    · rw [hb, upd_same]; exact fun z => nomatch z
    · rw [upd_ne hb]; exact R.there b e
  lent := R.lent
theorem Own.mono' {K : PySem.W.Frag} {F H H' : Hp} {v : V} {m : M} {fp : AS} (o : Own K F H v m fp) (k : ∀ a, fp a → H' a = H a) : Own K F H' v m fp := o.mono (Same.refl _) k

/-- name.append(e), the list owned by slot i -/
theorem dS_app {i : Nat} {x : Str} {p p2 p3 : Pos} {ms0 : List M} (hN : Y.X.N[i]? = some x) (hv : Vis Y.X.env.scope x) (hm : Γ[i]? = some (some (.lst ms0)))
    (h : dO Y e Γ fun m Γ' => ∃ ms, Γ'[i]? = some (some (.lst ms)) ∧ ms.length < sizeLine ∧ D.nx (Γ'.set i (some (.lst (ms ++ [m])))))
    (hbase : attributeBase (.Name x p) "append" Y.X.env (eval (.Name x p) Y.X.env) = eval (.Name x p) Y.X.env)
    (hfew : ((backTo p3 (starEach [e] Y.X.env)).all (fun x => !x.1) && (backToKw p3 (keywordEach [] Y.X.env)).all (fun x => x.1.isSome)
      && decide ([e].length + ([] : List Keyword).length + (if ([] : List Keyword).isEmpty then 0 else 1) < 30)) = true)
    (hline : (p2.endLine == p3.line) = true) (hs1 : starEach [e] Y.X.env = (false, eval e Y.X.env) :: starEach [] Y.X.env)
    (hs : swapsWith (.Call (.Attribute (.Name x p) "append" p2) [e] [] p3) none pos.line Y.X.env = pure false)
    (hd : (x == ("__debug__" : Str)) = false := by decide) (hcd : (x == ("__classdict__" : Str)) = false := by decide) : dS Y (.Expr (.Call (.Attribute (.Name x p) "append" p2) [e] [] p3) pos) Γ D := by
  refine ⟨fun B σ F H fp n R DV k => wS.of (ps_expr (pe_bm PySem.F.plainAttrs_list PySem.F.slot_list_append PySem.F.type_list_append mt_append (pe_var hN hv hd hcd) (pa_cons pe_w pa_nil hs1) hbase hfew hline hs1 rfl) hs) ?_⟩
  obtain ⟨v, ev, o⟩ := R.own i _ hm
  generalize hfi : fp i = fi at o
  cases o with
  | @lst a0 vs0 _ f0 _ hh hl _ _ =>
    refine ⟨_, ev, .inl ⟨rfl, _, .of hh⟩, ?_⟩
    refine h.run B σ F H fp n R _ fun m Γ' w F' H' fp' fr q R' s' ow fr' => ?_
    obtain ⟨ms, em, hlen, q⟩ := q
    obtain ⟨v2, ev2, o2⟩ := R'.own i _ em
    rw [ev] at ev2
    cases ev2
    have hi : i < Γ'.length := (List.getElem?_eq_some_iff.mp em).1
    generalize hfi' : fp' i = fi' at o2
    cases o2 with
    | @lst a0 vs' _ f' _ hh' hl' na hfp =>
      have ha : fp' i a0 := by rw [hfi']; exact (hfp a0).2 (.inl rfl)
      have nfr : ∀ b, fr b → b ≠ a0 := fun b hb z => fr'.dis b i hb (by rw [z]; exact ha)
      refine ⟨a0, vs', w, rfl, rfl, hh', by rw [hl'.length]; exact hlen, ?_⟩
      refine k.nx _ σ F' _ _ q (R'.mut (o := .lst (vs' ++ [w])) (g := fun b => b = a0 ∨ (f' b ∨ fr b)) hi ha ev ?_ fun b hb => ?_)
      · refine .lst (f := fun b => f' b ∨ fr b) upd_same (OwnL.snoc ?_ ?_ fun b h1 h2 => fr'.dis b i h2 (by rw [hfi']; exact (hfp b).2 (.inr h1))) (fun z => z.elim na fun z => nfr a0 z rfl) fun b => Iff.rfl
        · exact hl'.mono (Same.refl _) fun b hb => upd_ne fun z => na (by rw [← z]; exact hb)
        · exact ow.mono' fun b hb => upd_ne (nfr b hb)
      · rcases hb with rfl | hb | hb
        · exact .inl ha
        · exact .inl (by rw [hfi']; exact (hfp b).2 (.inr hb))
        · exact .inr ⟨(fr'.out b hb).1, (fr'.out b hb).2.2, fun j hj => fr'.dis b j hb hj⟩
/-- name[ix] = e, the list owned by slot i -/
theorem dS_setix {i : Nat} {x : Str} {b : Expr} {p p2 : Pos} (hN : Y.X.N[i]? = some x) (hv : Vis Y.X.env.scope x)
    (h : dE Y e Γ fun r1 Γ1 => onD r1 fun y => (∃ ms, Γ1[i]? = some (some (.lst ms))) ∧ dE Y b Γ1 fun r2 Γ2 => onI r2 fun j => ∃ ms n, Γ2[i]? = some (some (.lst ms)) ∧ ixN ms.length j = some n ∧ D.nx (Γ2.set i (some (.lst (ms.set n (.d y))))))
    (ha : ∀ v, assign (.Subscript (.Name x p) b p2) Y.X.env v = (do
      let ov ← holding [v] (eval (.Name x p) Y.X.env)
      let iv ← holding [v, ov] (eval b Y.X.env)
      standAt p2
      holding [v, ov, iv] (setItem ov iv v)
      release [v, ov, iv] []))
    (hs : swapsWithSole [.Subscript (.Name x p) b p2] e pos.line Y.X.env = pure false) (hw : swappedStores [.Subscript (.Name x p) b p2] e Y.X.env = pure none)
    (h1 : (assignEach [.Subscript (.Name x p) b p2] Y.X.env).map (·.2) = [assign (.Subscript (.Name x p) b p2) Y.X.env])
    (hd : (x == ("__debug__" : Str)) = false := by decide) (hcd : (x == ("__classdict__" : Str)) = false := by decide) : dS Y (.Assign [.Subscript (.Name x p) b p2] e pos) Γ D := by
  refine ⟨fun B σ F H fp n R DV k => wS.of (ps_asg pe_w (pg_sub (pe_var hN hv hd hcd) pe_w set_list ha) hs hw h1) ?_⟩
  refine h.run B σ F H fp n R _ fun r1 Γ1 v F1 H1 fp1 q1 R1 s1 o1 => ?_
  obtain ⟨y, rfl, ⟨ms1, em1⟩, q1⟩ := q1.ex
  obtain ⟨w, ew, _⟩ := R1.own i _ em1
  refine ⟨w, ew, ?_⟩
  refine q1.run B σ F1 H1 fp1 n R1 _ fun r2 Γ2 u F2 H2 fp2 q2 R2 s2 o2 => ?_
  obtain ⟨j, rfl, ms, nn, em, ej, q⟩ := q2.ex
  have ej2 := Dq.intI o2
  obtain ⟨w2, ew2, o⟩ := R2.own i _ em
  rw [ew] at ew2
  cases ew2
  have hi : i < Γ2.length := (List.getElem?_eq_some_iff.mp em).1
  generalize hfi : fp2 i = fi at o
  cases o with
  | @lst a vs _ f _ hh hl na hfp =>
    have ha : fp2 i a := by rw [hfi]; exact (hfp a).2 (.inl rfl)
    refine ⟨a, vs, j, nn, rfl, ej2, hh, by rw [hl.length]; exact ej, ?_⟩
    obtain ⟨g, og, hg⟩ := hl.setD nn (Dq.up (show Dq Y.X.K F1 v y from o1) s2)
    refine k.nx _ σ F2 _ _ q (R2.mut (o := .lst (vs.set nn v)) (g := fun b => b = a ∨ g b) hi ha ew ?_ fun b hb => ?_)
    · exact .lst upd_same (og.mono (Same.refl _) fun b hb => upd_ne fun z => na (by rw [← z]; exact hg b hb)) (fun z => na (hg a z)) fun b => Iff.rfl
    · rcases hb with rfl | hb
      · exact .inl ha
      · exact .inl (by rw [hfi]; exact (hfp b).2 (.inr (hg b hb)))
/-- name op= e, an int -/
theorem dS_augI {i : Nat} {x : Str} {op : Operator} {g : Int → Int → Int} {p : Pos} {j : Int} (hi : Y.X.N[i]? = some x) (hx : Loc Y.X.env.scope x) (hl : Y.ln i = false) (hm : Γ[i]? = some (some (.d (.int j)))) (ho : PIp Y.X op (ipI g))
    (h : dE Y e Γ fun r Γ' => onI r fun k => D.nx (Γ'.set i (some (.d (.int (g j k)))))) (hf : Y.X.fn x = true ∨ Y.X.env.scope.names.lookup x = some .local) : dS Y (.AugAssign (.Name x p) op e pos) Γ D := by
  refine ⟨fun B σ F H fp n R DV k => wS.of (ps_aug Y.nd hi hx pe_w ho hf) ?_⟩
  obtain ⟨v, ev, o⟩ := R.own i _ hm
  cases o with
  | d h1 _ =>
    cases h1.intI
    refine ⟨_, ev, ?_⟩
    refine h.run B σ F H fp n R _ fun r Γ1 w F1 H1 fp1 q R1 s1 o1 => ?_
    obtain ⟨z, rfl, qq⟩ := q.ex
    clear q
    have q := qq
    cases Dq.intI o1
    refine ⟨j, z, rfl, rfl, ?_⟩
    show DV.nx (List.set σ i (some (.int (g j z)))) H1
    by_cases hi : i < Γ1.length
    · exact k.nx _ _ F1 H1 _ q (R1.set hi (.d (fp := fun _ => False) (.int _) fun _ z => z) (.none fun _ z => z) (n.nl hl))
    · have e1 := List.set_eq_of_length_le (a := some (M.d (.int (g j z)))) (show Γ1.length ≤ i by omega)
      rw [e1] at q
      rw [List.set_eq_of_length_le (by have := R1.len; omega)]
      exact k.nx _ _ F1 H1 _ q R1
end
end DL

set_option Elab.async false
set_option linter.all false
set_option maxRecDepth 100000
set_option maxHeartbeats 4000000
namespace DL
open PySem PySem.Spec PyProof.Rows L2

/-! ### targets -/
def wG (X : Cx) (tg : Expr) : TG := fun v σ H Q => ∃ g, PG X tg g ∧ g v σ H Q
theorem pg_w {X : Cx} {tg : Expr} : PG X tg (wG X tg) := ⟨fun pins s σ H v u Q I r ⟨g, h, q⟩ => h.run pins s σ H v u Q I r q⟩
def wGs (X : Cx) (ts : List Expr) : TGs := fun vs σ H Q => ∃ g, PGs X ts g ∧ g vs σ H Q
theorem pgs_w {X : Cx} {ts : List Expr} : PGs X ts (wGs X ts) := ⟨fun pins s σ H vs us Q I r ⟨g, h, q⟩ => h.run pins s σ H vs us Q I r q⟩
/-- only the slots T change -/
def Only (T : List Nat) (σ σ' : L2.St) : Prop := σ'.length = σ.length ∧ ∀ i, i ∉ T → σ'[i]? = σ[i]?
structure dG (Y : DC) (tg : Expr) (T : List Nat) (x : PyData) (Γ : G) (Q : G → Prop) : Prop where
  run : ∀ (B : Base) (σ : L2.St) (F H : Hp) (fp : Nat → AS) (v : V), In Y B → Rel Y.X.K B Γ σ F H fp → Dq Y.X.K F v x → ∀ QV : L2.St → Hp → Prop,
    (∀ Γ' σ' F' H' fp', Q Γ' → Rel Y.X.K B Γ' σ' F' H' fp' → Same F F' → Only T σ σ' → QV σ' H') → wG Y.X tg v σ H QV
structure dGs (Y : DC) (ts : List Expr) (T : List Nat) (xs : List PyData) (Γ : G) (Q : G → Prop) : Prop where
  run : ∀ (B : Base) (σ : L2.St) (F H : Hp) (fp : Nat → AS) (vs : List V), In Y B → Rel Y.X.K B Γ σ F H fp → DqAll Y.X.K F vs xs → ∀ QV : L2.St → Hp → Prop,
    (∀ Γ' σ' F' H' fp', Q Γ' → Rel Y.X.K B Γ' σ' F' H' fp' → Same F F' → Only T σ σ' → QV σ' H') → wGs Y.X ts vs σ H QV
section
variable {Y : DC} {Γ : G} {pos : Pos} {T : List Nat} {Q : G → Prop}
theorem dG_name {i : Nat} {x : Str} {y : PyData} (hi : Y.X.N[i]? = some x) (hx : Loc Y.X.env.scope x) (hl : Y.ln i = false) (hT : i ∈ T) (hf : Y.X.fn x = true ∨ Y.X.env.scope.names.lookup x = some .local) (q : Q (Γ.set i (some (.d y)))) : dG Y (.Name x pos) T y Γ Q := by
  refine ⟨fun B σ F H fp v n R d QV k => ⟨_, pg_name Y.nd hi hx hf, ?_⟩⟩
  have on : Only T σ (σ.set i (some v)) := ⟨by rw [List.length_set], fun j hj => by rw [List.getElem?_set_ne fun z => hj (by rw [← z]; exact hT)]⟩
  by_cases hi : i < Γ.length
  · exact k _ _ F H _ q (R.set hi (.d (fp := fun _ => False) d fun _ z => z) (.none fun _ z => z) (n.nl hl)) (Same.refl _) on
  · have e1 := List.set_eq_of_length_le (a := some (M.d y)) (show Γ.length ≤ i by omega)
    rw [e1] at q
    have e2 : σ.set i (some v) = σ := List.set_eq_of_length_le (by have := R.len; omega)
    rw [e2] at on
    show QV (σ.set i (some v)) H
    rw [e2]
    exact k _ _ F H _ q R (Same.refl _) on
theorem dGs_nil (q : Q Γ) : dGs Y [] T [] Γ Q := by
  refine ⟨fun B σ F H fp v n R d QV k => ⟨_, pgs_nil, ?_⟩⟩
  cases d
  exact ⟨rfl, k Γ σ F H fp q R (Same.refl _) ⟨rfl, fun _ _ => rfl⟩⟩
theorem dGs_cons {e : Expr} {es : List Expr} {x : PyData} {xs : List PyData} (hs : (assignEach (e :: es) Y.X.env).map (·.2) = assign e Y.X.env :: (assignEach es Y.X.env).map (·.2))
    (h : dG Y e T x Γ fun Γ' => dGs Y es T xs Γ' Q) : dGs Y (e :: es) T (x :: xs) Γ Q := by
  refine ⟨fun B σ F H fp v n R d QV k => ⟨_, pgs_cons pg_w pgs_w hs, ?_⟩⟩
  cases d with
  | cons d1 d2 =>
    refine ⟨_, _, rfl, h.run B σ F H fp _ n R d1 _ fun Γ' σ' F' H' fp' q R' s' o' => ?_⟩
    exact q.run B σ' F' H' fp' _ n R' (d2.up s') QV fun Γ2 σ2 F2 H2 fp2 q2 R2 s2 o2 => k Γ2 σ2 F2 H2 fp2 q2 R2 (s'.trans s2) ⟨o2.1.trans o'.1, fun i hi => (o2.2 i hi).trans (o'.2 i hi)⟩
theorem dG_tup {es : List Expr} {n1 : Nat} {xs : List PyData} (hc : Y.X.calm = true) (hn : (assignEach es Y.X.env).length = xs.length) (hst : (assignEach es Y.X.env).findIdx? (·.1) = none) (h : dGs Y es T xs Γ Q) : dG Y (.Tuple es n1 pos) T (.tuple xs) Γ Q := by
  refine ⟨fun B σ F H fp v n R d QV k => ⟨_, pg_tup hc pgs_w hn hst, ?_⟩⟩
  obtain ⟨a, vs, rfl, hp, dl⟩ := d.tupI
  exact ⟨a, vs, rfl, Same.sqT R.sub hp, dl.length, h.run B σ F H fp vs n R dl QV k⟩
theorem dG_tupL {es : List Expr} {n1 : Nat} {xs : List PyData} (hc : Y.X.calm = true) (hn : (assignEach es Y.X.env).length = xs.length) (hst : (assignEach es Y.X.env).findIdx? (·.1) = none) (h : dGs Y es T xs Γ Q) : dG Y (.Tuple es n1 pos) T (.list xs) Γ Q := by
  refine ⟨fun B σ F H fp v n R d QV k => ⟨_, pg_lst hc pgs_w hn hst, ?_⟩⟩
  obtain ⟨a, vs, rfl, hp, dl⟩ := d.lstI
  exact ⟨a, vs, rfl, .of (R.sub _ _ hp), dl.length, h.run B σ F H fp vs n R dl QV k⟩
/-- target = e, of data -/
theorem dS_asg {tg e : Expr} {D : DE} (T : List Nat) (hs : swapsWithSole [tg] e pos.line Y.X.env = pure false) (hw : swappedStores [tg] e Y.X.env = pure none) (h1 : (assignEach [tg] Y.X.env).map (·.2) = [assign tg Y.X.env])
    (h : dE Y e Γ fun r Γ1 => onD r fun x => dG Y tg T x Γ1 D.nx) : dS Y (.Assign [tg] e pos) Γ D := by
  refine ⟨fun B σ F H fp n R DV k => wS.of (ps_asg pe_w pg_w hs hw h1) ?_⟩
  refine h.run B σ F H fp n R _ fun r Γ1 v F1 H1 fp1 q R1 s1 o1 => ?_
  obtain ⟨x, rfl, q⟩ := q.ex
  exact q.run B σ F1 H1 fp1 v n R1 o1 _ fun Γ2 σ2 F2 H2 fp2 q2 R2 s2 o2 => k.nx Γ2 σ2 F2 H2 fp2 q2 R2
end

/-! ### what is walked -/
/-- the items of an iterator, as data -/
def ItD (K : PySem.W.Frag) (J : It) (Fi : Hp) (xs : List PyData) : Prop := ∀ (i : Nat) (F H : Hp), Same Fi F → Same F H →
  (i < xs.length → J.go i H) ∧ (i = xs.length → J.stop i H) ∧ ∀ v H' x, J.yld i H v H' → xs[i]? = some x → ∃ F', Grow F H F' H' ∧ Dq K F' v x
def wI (X : Cx) (tg iter : Expr) : TI := fun σ H R => ∃ w, PI X tg iter w ∧ w σ H R
theorem pi_w {X : Cx} {tg iter : Expr} : PI X tg iter (wI X tg iter) := ⟨fun pins s σ H R I ⟨w, h, q⟩ => h.run pins s σ H R I q⟩
structure dI (Y : DC) (tg iter : Expr) (Γ : G) (Q : List PyData → G → Prop) : Prop where
  run : ∀ (B : Base) (σ : L2.St) (F H : Hp) (fp : Nat → AS), In Y B → Rel Y.X.K B Γ σ F H fp → ∀ QV : It → Hp → Prop,
    (∀ xs Γ' J F' H' fp', Q xs Γ' → Rel Y.X.K B Γ' σ F' H' fp' → Same F F' → ItD Y.X.K J F' xs → QV J H') → wI Y.X tg iter σ H QV
section
variable {Y : DC} {Γ : G} {tg a b e : Expr} {p pos : Pos} {Q : List PyData → G → Prop}
theorem ItD.list {K : PySem.W.Frag} {F : Hp} {a : Addr} {vs : List V} {xs : List PyData} (h : F a = some (.lst vs)) (d : DqAll K F vs xs) : ItD K (Itl K a) F xs := fun i F2 H2 s t => by
  have hq : SqL K H2 a vs := .of (t _ _ (s _ _ h))
  have hl := d.length
  refine ⟨fun hi => ⟨vs, vs[i]'(by omega), hq, List.getElem?_eq_getElem (by omega)⟩, fun hi => ⟨vs, hq, by omega⟩, fun v H' x y e => ?_⟩
  obtain ⟨rfl, y⟩ := y
  obtain ⟨w, e2, dw⟩ := d.get e
  have := y vs hq
  rw [e2] at this; cases this
  exact ⟨F2, Grow.refl t, dw.up s⟩
theorem ItD.tup {K : PySem.W.Frag} {F : Hp} {a : Addr} {vs : List V} {xs : List PyData} (h : SqT K F a vs) (d : DqAll K F vs xs) : ItD K (Itt K a) F xs := fun i F2 H2 s t => by
  have hq : SqT K H2 a vs := Same.sqT t (Same.sqT s h)
  have hl := d.length
  refine ⟨fun hi => ⟨vs, vs[i]'(by omega), hq, List.getElem?_eq_getElem (by omega)⟩, fun hi => ⟨vs, hq, by omega⟩, fun v H' x y e => ?_⟩
  obtain ⟨rfl, y⟩ := y
  obtain ⟨w, e2, dw⟩ := d.get e
  have := y vs hq
  rw [e2] at this; cases this
  exact ⟨F2, Grow.refl t, dw.up s⟩
def rngD (lo : Int) (n : Nat) : List PyData := (List.range n).map fun (i : Nat) => PyData.int (lo + i)
theorem rngD_get {lo : Int} {n i : Nat} {x : PyData} (h : (rngD lo n)[i]? = some x) : i < n ∧ x = .int (lo + i) := by
  unfold rngD at h
  rw [List.getElem?_map] at h
  have hi : i < n := by
    cases q : (List.range n)[i]? with
    | none => rw [q] at h; cases h
    | some j => have := (List.getElem?_eq_some_iff.mp q).1; rwa [List.length_range] at this
  rw [List.getElem?_range hi] at h
  cases h
  exact ⟨hi, rfl⟩
theorem rngD_length {lo : Int} {n : Nat} : (rngD lo n).length = n := by unfold rngD; rw [List.length_map, List.length_range]
theorem ItD.rng {K : PySem.W.Frag} {F : Hp} {lo : Int} {n : Nat} : ItD K (Itr lo n) F (rngD lo n) := fun i F2 H2 s t => by
  rw [rngD_length]
  refine ⟨fun hi => hi, fun hi => Nat.le_of_eq hi.symm, fun v H' x y e => ?_⟩
  obtain ⟨rfl, rfl⟩ := y
  obtain ⟨hi, rfl⟩ := rngD_get e
  exact ⟨F2, Grow.refl t, .int _⟩
theorem dI_range1 (hg : Gl Y.X "range") (hm : Y.X.mg "range" = none) (hs : starEach [a] Y.X.env = [(false, eval a Y.X.env)]) (hs1 : starEach [a] Y.X.env = (false, eval a Y.X.env) :: starEach [] Y.X.env)
    (h : dE Y a Γ fun r Γ' => onI r fun n => (-(2 ^ 62) ≤ n ∧ n < 2 ^ 62) ∧ Q (rngD 0 n.toNat) Γ') : dI Y tg (.Call (.Name "range" p) [a] [] pos) Γ Q := by
  refine ⟨fun B σ F H fp n R QV k => ⟨_, pi_range1 hg hm (pa_cons pe_w pa_nil hs1) hs, ?_⟩⟩
  refine h.run B σ F H fp n R _ fun r Γ1 v F1 H1 fp1 q R1 s1 o1 => ?_
  obtain ⟨j, rfl, ⟨b1, b2⟩, q⟩ := q.ex
  exact ⟨j, by rw [Dq.intI o1], b1, b2, k _ Γ1 _ F1 H1 fp1 q R1 s1 ItD.rng⟩
theorem dI_range2 (hg : Gl Y.X "range") (hm : Y.X.mg "range" = none) (hs : starEach [a, b] Y.X.env = [(false, eval a Y.X.env), (false, eval b Y.X.env)]) (hs2 : starEach [b] Y.X.env = [(false, eval b Y.X.env)])
    (hs1 : starEach [a, b] Y.X.env = (false, eval a Y.X.env) :: starEach [b] Y.X.env) (hs3 : starEach [b] Y.X.env = (false, eval b Y.X.env) :: starEach [] Y.X.env)
    (h : dE Y a Γ fun r Γ1 => onI r fun i => dE Y b Γ1 fun r2 Γ2 => onI r2 fun j => (-(2 ^ 62) ≤ i ∧ i < 2 ^ 62 ∧ -(2 ^ 62) ≤ j ∧ j < 2 ^ 62) ∧ Q (rngD i (j - i).toNat) Γ2) : dI Y tg (.Call (.Name "range" p) [a, b] [] pos) Γ Q := by
  refine ⟨fun B σ F H fp n R QV k => ⟨_, pi_range2 hg hm (pa_cons pe_w (pa_cons pe_w pa_nil hs3) hs1) hs hs2, ?_⟩⟩
  refine h.run B σ F H fp n R _ fun r Γ1 v F1 H1 fp1 q R1 s1 o1 => ?_
  obtain ⟨i, rfl, q⟩ := q.ex
  refine q.run B σ F1 H1 fp1 n R1 _ fun r Γ2 w F2 H2 fp2 q R2 s2 o2 => ?_
  obtain ⟨j, rfl, bb, q⟩ := q.ex
  exact ⟨i, j, by rw [Dq.intI o1, Dq.intI o2], bb, k _ Γ2 _ F2 H2 fp2 q R2 (s1.trans s2) ItD.rng⟩
theorem dI_list (h : dE Y e Γ fun r Γ' => ∃ xs, r = .d (.list xs) ∧ Q xs Γ') : dI Y tg e Γ Q := by
  refine ⟨fun B σ F H fp n R QV k => ⟨_, pi_list pe_w, ?_⟩⟩
  refine h.run B σ F H fp n R _ fun r Γ1 v F1 H1 fp1 q R1 s1 o1 => ?_
  obtain ⟨xs, rfl, q⟩ := q
  obtain ⟨a, vs, rfl, hp, dl⟩ := Dq.lstI o1
  exact ⟨a, rfl, ⟨vs, .of (R1.sub _ _ hp)⟩, k xs Γ1 _ F1 H1 fp1 q R1 s1 (ItD.list hp dl)⟩
theorem dI_tup (h : dE Y e Γ fun r Γ' => ∃ xs, r = .d (.tuple xs) ∧ Q xs Γ') : dI Y tg e Γ Q := by
  refine ⟨fun B σ F H fp n R QV k => ⟨_, pi_tup pe_w, ?_⟩⟩
  refine h.run B σ F H fp n R _ fun r Γ1 v F1 H1 fp1 q R1 s1 o1 => ?_
  obtain ⟨xs, rfl, q⟩ := q
  obtain ⟨a, vs, rfl, hp, dl⟩ := Dq.tupI o1
  exact ⟨a, rfl, ⟨vs, Same.sqT R1.sub hp⟩, k xs Γ1 _ F1 H1 fp1 q R1 s1 (ItD.tup hp dl)⟩
theorem dI_str (h : dE Y e Γ fun r Γ' => ∃ z, r = .d (.str z) ∧ Q (z.cps.toList.map fun c => .str ⟨#[c]⟩) Γ') : dI Y tg e Γ Q := by
  refine ⟨fun B σ F H fp n R QV k => ⟨_, L2.pi_str pe_w, ?_⟩⟩
  refine h.run B σ F H fp n R _ fun r Γ1 v F1 H1 fp1 q R1 s1 o1 => ?_
  obtain ⟨z, rfl, q⟩ := q
  refine ⟨z, Dq.strI o1, k _ Γ1 _ F1 H1 fp1 q R1 s1 fun i F2 H2 s t => ?_⟩
  rw [List.length_map, Array.length_toList]
  refine ⟨fun hi => hi, fun hi => Nat.le_of_eq hi.symm, fun v H' x y e => ?_⟩
  obtain ⟨rfl, c, ec, rfl⟩ := y
  rw [List.getElem?_map, Array.getElem?_toList, ec] at e
  cases e
  exact ⟨F2, Grow.refl t, .str _⟩

/-! ### for, while -/
/-- the same state over a base that knows what is frozen by now -/
theorem Rel.lift {K : PySem.W.Frag} {B : Base} {Γ Γ2 : G} {σ σ2 : L2.St} {F1 H1 F H : Hp} {fp1 fp : Nat → AS} (R1 : Rel K B Γ2 σ2 F1 H1 fp1) (R : Rel K B Γ σ F H fp) (s : Same F1 F) : Rel K { B with F0 := F1 } Γ σ F H fp :=
  ⟨R.len, R.own, R.dis, R.out, R.sub, s, fun a h => by
    rcases R.new a h with z | z
    · exact .inl (show F1 a ≠ none by rw [Same.ne R1.ext z]; exact z)
    · exact .inr z, R.keep, R.there, R.lent⟩
theorem Rel.unlift {K : PySem.W.Frag} {B : Base} {Γ Γ2 : G} {σ σ2 : L2.St} {F1 H1 F H : Hp} {fp1 fp : Nat → AS} (R1 : Rel K B Γ2 σ2 F1 H1 fp1) (R : Rel K { B with F0 := F1 } Γ σ F H fp) : Rel K B Γ σ F H fp :=
  ⟨R.len, R.own, R.dis, R.out, R.sub, R1.ext.trans R.ext, fun a h => by
    rcases R.new a h with z | z
    · exact R1.new a z
    · exact .inr z, R.keep, R.there, R.lent⟩
theorem In.lift {B : Base} {Γ2 : G} {σ2 : L2.St} {F1 H1 : Hp} {fp1 : Nat → AS} (n : In Y B) (R1 : Rel Y.X.K B Γ2 σ2 F1 H1 fp1) : In Y { B with F0 := F1 } :=
  ⟨n.ln, n.lL, n.tk.imp fun c d σ H ⟨Γ, F, fp, ex, h1, h2, h3⟩ => ⟨Γ, F, fp, ex, h1, R1.unlift h2, h3⟩⟩
theorem dS_for {iter : Expr} {body : List Stmt} {D : DE} (T : List Nat) (hc : Y.X.calm = true) (hs : ∀ x, foldedSetIterable iter Y.X.env x = pure x)
    (h : dI Y tg iter Γ fun xs Γ1 => ∃ I : Nat → G → Prop, I 0 Γ1 ∧
      (∀ k x Γk, xs[k]? = some x → I k Γk → dG Y tg T x Γk fun Γ2 => dSs Y body Γ2 { D with nx := I (k + 1), ct := I (k + 1), bk := D.nx }) ∧ ∀ Γn, I xs.length Γn → D.nx Γn) : dS Y (.For tg iter body [] pos) Γ D := by
  refine ⟨fun B σ F H fp n R DV k => wS.of (ps_for Y.po hc pi_w pg_w pss_w hs) ?_⟩
  refine h.run B σ F H fp n R _ fun xs Γ1 J F1 H1 fp1 q R1 s1 it => ?_
  obtain ⟨I, i0, turn, fin⟩ := q
  refine ⟨fun i m σ' H' => m = xs.length - i ∧ i ≤ xs.length ∧ ∃ Γ' F' fp', I i Γ' ∧ Rel Y.X.K B Γ' σ' F' H' fp' ∧ Same F1 F', ⟨xs.length, by simp, Nat.zero_le _, Γ1, F1, fp1, i0, R1, Same.refl _⟩, ?_⟩
  rintro i m σ2 H2 ⟨rfl, hi, Γ2, F2, fp2, i2, R2, s2⟩
  obtain ⟨t1, t2, t3⟩ := it i F2 H2 s2 R2.sub
  by_cases hlt : i < xs.length
  · refine .inr ⟨t1 hlt, fun σ' H' => ∃ Γ' F' fp', I (i + 1) Γ' ∧ Rel Y.X.K B Γ' σ' F' H' fp' ∧ Same F1 F', fun σ' H' q => ⟨xs.length - (i + 1), by omega, rfl, hlt, q⟩, fun v H' y => ?_⟩
    obtain ⟨F3, g3, d3⟩ := t3 v H' xs[i] y (List.getElem?_eq_getElem hlt)
    have R3 := R2.grow g3
    have n1 := n.lift R1
    refine (turn i xs[i] Γ2 (List.getElem?_eq_getElem hlt) i2).run { B with F0 := F1 } σ2 F3 H' fp2 v n1 (R1.lift R3 (s2.trans g3.f)) d3 _ fun Γ4 σ4 F4 H4 fp4 q4 R4 s4 o4 => ?_
    refine q4.run { B with F0 := F1 } σ4 F4 H4 fp4 n1 R4 _ ⟨fun Γ5 σ5 F5 H5 fp5 q5 R5 => ⟨Γ5, F5, fp5, q5, R1.unlift R5, R5.ext⟩, fun m Γ5 v5 σ5 F5 H5 fp5 fr5 q5 R5 o5 f5 => k.rt m Γ5 v5 σ5 F5 H5 fp5 fr5 q5 (R1.unlift R5) o5 ⟨f5.out, f5.dis⟩,
      fun Γ5 σ5 F5 H5 fp5 q5 R5 => k.nx Γ5 σ5 F5 H5 fp5 q5 (R1.unlift R5), fun Γ5 σ5 F5 H5 fp5 q5 R5 => ⟨Γ5, F5, fp5, q5, R1.unlift R5, R5.ext⟩⟩
  · have e : i = xs.length := by omega
    subst e
    exact .inl ⟨t2 rfl, k.nx Γ2 σ2 F2 H2 fp2 (fin Γ2 i2) R2⟩
theorem dS_while {c : Expr} {body : List Stmt} {D : DE} (I : G → Prop) (μ : G → Nat) (i0 : I Γ)
    (turn : ∀ Γk, I Γk → dT Y c Γk fun b Γ' => if b = true then dSs Y body Γ' { D with nx := fun Γ2 => I Γ2 ∧ μ Γ2 < μ Γk, ct := fun Γ2 => I Γ2 ∧ μ Γ2 < μ Γk, bk := D.nx } else D.nx Γ') : dS Y (.While c body [] pos) Γ D := by
  refine ⟨fun B σ F H fp n R DV k => wS.of (ps_while Y.po pt_w pss_w) ?_⟩
  refine ⟨fun m σ' H' => ∃ Γ' F' fp', m = μ Γ' ∧ I Γ' ∧ Rel Y.X.K B Γ' σ' F' H' fp', ⟨_, Γ, F, fp, rfl, i0, R⟩, ?_⟩
  rintro m σ2 H2 ⟨Γ2, F2, fp2, rfl, i2, R2⟩
  refine (turn Γ2 i2).run B σ2 F2 H2 fp2 n R2 _ fun b Γ3 F3 H3 fp3 q3 R3 s3 => ?_
  cases b with
  | true =>
    rw [if_pos rfl] at q3 ⊢
    have nxt : ∀ Γ5 σ5 F5 H5 fp5, (I Γ5 ∧ μ Γ5 < μ Γ2) → Rel Y.X.K B Γ5 σ5 F5 H5 fp5 → ∃ m', m' < μ Γ2 ∧ ∃ Γ' F' fp', m' = μ Γ' ∧ I Γ' ∧ Rel Y.X.K B Γ' σ5 F' H5 fp' := fun Γ5 σ5 F5 H5 fp5 q5 R5 => ⟨_, q5.2, Γ5, F5, fp5, rfl, q5.1, R5⟩
    exact ⟨fun σ' H' => ∃ m', m' < μ Γ2 ∧ ∃ Γ' F' fp', m' = μ Γ' ∧ I Γ' ∧ Rel Y.X.K B Γ' σ' F' H' fp', fun _ _ q => q, q3.run B σ2 F3 H3 fp3 n R3 _ ⟨nxt, k.rt, k.nx, nxt⟩⟩
  | false =>
    rw [if_neg Bool.false_ne_true] at q3 ⊢
    exact k.nx Γ3 σ2 F3 H3 fp3 q3 R3
end
end DL

set_option Elab.async false
set_option linter.all false
set_option maxRecDepth 100000
set_option maxHeartbeats 4000000
namespace DL
open PySem PySem.Spec PyProof.Rows L2

/-! ### list comprehensions -/
abbrev DC.blk (Y : DC) (s : Shared) (H : Hp) (scope : Scope) (cenv : Env) (fp : List Addr) : DC :=
  { X := Y.X.blk s H scope cenv fp, ln := fun _ => true, EX := fun _ _ => False, hu := Y.hu, nd := Y.nd, gd := Y.gd, po := PassesOwn.never }
abbrev DC.blkN (Y : DC) (s : Shared) (H : Hp) (scope : Scope) (cenv : Env) (fp : List Addr) (T : List Nat) : DC :=
  { X := Y.X.blk s H scope cenv fp, ln := fun i => decide (i ∉ T), EX := fun _ _ => False, hu := Y.hu, nd := Y.nd, gd := Y.gd, po := PassesOwn.never }
def wTs (X : Cx) (ifs : List Expr) : TT := fun σ H Q => ∃ t, PTs X ifs t ∧ t σ H Q
theorem pts_w {X : Cx} {ifs : List Expr} : PTs X ifs (wTs X ifs) := ⟨fun pins s σ H Q I ⟨t, h, q⟩ => h.run pins s σ H Q I q⟩
structure dTs (Y : DC) (ifs : List Expr) (Γ : G) (Q : Bool → G → Prop) : Prop where
  run : ∀ (B : Base) (σ : L2.St) (F H : Hp) (fp : Nat → AS), In Y B → Rel Y.X.K B Γ σ F H fp → ∀ QV : Bool → Hp → Prop,
    (∀ b Γ' F' H' fp', Q b Γ' → Rel Y.X.K B Γ' σ F' H' fp' → Same F F' → QV b H') → wTs Y.X ifs σ H QV
section
variable {Y : DC} {Γ : G}
theorem dTs_nil {Q : Bool → G → Prop} (q : Q true Γ) : dTs Y [] Γ Q := ⟨fun B σ F H fp n R QV k => ⟨_, pts_nil, k true Γ F H fp q R (Same.refl _)⟩⟩
theorem dTs_one {c : Expr} {Q : Bool → G → Prop} (h : dT Y c Γ Q) : dTs Y [c] Γ Q := ⟨fun B σ F H fp n R QV k => ⟨_, pts_one pt_w, h.run B σ F H fp n R QV k⟩⟩
end
@[reducible] def wipeG (Γ : G) : List Nat → G
  | [] => Γ
  | v :: vs => (wipeG Γ vs).set v none
theorem wipeG_length (Γ : G) : ∀ vs : List Nat, (wipeG Γ vs).length = Γ.length
  | [] => rfl
  | v :: vs => by unfold wipeG; rw [List.length_set, wipeG_length Γ vs]
theorem wipeG_some {Γ : G} {i : Nat} {m : M} : ∀ {vs : List Nat}, (wipeG Γ vs)[i]? = some (some m) → Γ[i]? = some (some m) ∧ i ∉ vs
  | [], h => ⟨h, by simp⟩
  | v :: vs, h => by
    unfold wipeG at h
    by_cases hi : v = i
    · subst hi
      by_cases hv : v < (wipeG Γ vs).length
      · rw [List.getElem?_set_self hv] at h; cases h
      · rw [List.getElem?_eq_none (by simpa using hv)] at h; cases h
    · rw [List.getElem?_set_ne hi] at h
      obtain ⟨h1, h2⟩ := wipeG_some h
      exact ⟨h1, by simp only [List.mem_cons, not_or]; exact ⟨fun e => hi e.symm, h2⟩⟩
theorem wipe_at {σ : L2.St} {i : Nat} : ∀ {vs : List Nat}, i ∉ vs → (L2.wipe σ vs)[i]? = σ[i]?
  | [], _ => rfl
  | v :: vs, h => by
    unfold L2.wipe
    rw [List.getElem?_set_ne (fun e => h (by rw [e]; exact List.mem_cons_self))]
    exact wipe_at fun z => h (List.mem_cons_of_mem _ z)
theorem wipe_eq {σ σ' : L2.St} {T vs : List Nat} (o : Only T σ σ') (h : ∀ i ∈ T, i ∈ vs) : L2.wipe σ' vs = L2.wipe σ vs := by
  refine List.ext_getElem? fun i => ?_
  by_cases hi : i ∈ vs
  · have gone : ∀ (τ : L2.St) (ws : List Nat), i ∈ ws → (L2.wipe τ ws)[i]? = if i < τ.length then some none else none := by
      intro τ ws
      induction ws with
      | nil => intro z; cases z
      | cons w ws ih =>
        intro z
        unfold L2.wipe
        by_cases hw : w = i
        · subst hw
          by_cases hl : w < τ.length
          · rw [List.getElem?_set_self (by rw [L2.wipe_length]; exact hl), if_pos hl]
          · rw [if_neg hl, List.getElem?_eq_none (by rw [List.length_set, L2.wipe_length]; omega)]
        · rw [List.getElem?_set_ne hw]
          rcases List.mem_cons.mp z with z | z
          · exact absurd z.symm hw
          · exact ih z
    rw [gone σ' vs hi, gone σ vs hi, o.1]
  · rw [wipe_at hi, wipe_at hi]
    exact o.2 i fun z => hi (h i z)
/-- the state with slots wiped, and back -/
theorem Rel.wipe {K : PySem.W.Frag} {B : Base} {Γ : G} {σ : L2.St} {F H : Hp} {fp : Nat → AS} (R : Rel K B Γ σ F H fp) {vs : List Nat} (hv : ∀ i v, B.ls[i]? = some (some v) → i ∉ vs) : Rel K B (wipeG Γ vs) (L2.wipe σ vs) F H fp where
  len := by rw [wipeG_length, L2.wipe_length]; exact R.len
  own := fun i m e => by
    obtain ⟨e1, hi⟩ := wipeG_some e
    rw [wipe_at hi]
    exact R.own i m e1
  dis := R.dis
  out := R.out
  sub := R.sub
  ext := R.ext
  new := R.new
  keep := R.keep
  there := R.there
  lent := fun i v e => by rw [wipe_at (hv i v e)]; exact R.lent i v e
theorem Rel.unwipe {K : PySem.W.Frag} {B : Base} {Γ Γ0 : G} {σ : L2.St} {F H F0 H0 : Hp} {fp fp0 : Nat → AS} {vs : List Nat} (R : Rel K B Γ (L2.wipe σ vs) F H fp) (R0 : Rel K B Γ0 σ F0 H0 fp0) : Rel K B Γ σ F H fp where
  len := by rw [R.len, L2.wipe_length]
  own := fun i m e => by
    obtain ⟨v, e1, o⟩ := R.own i m e
    exact ⟨v, (L2.wipe_some e1).1, o⟩
  dis := R.dis
  out := R.out
  sub := R.sub
  ext := R.ext
  new := R.new
  keep := R.keep
  there := R.there
  lent := R0.lent
theorem Rel.unbase' {K : PySem.W.Frag} {B : Base} {Γ Γ2 : G} {σ σ2 : L2.St} {F H F2 H2 : Hp} {fp fp2 : Nat → AS} (R : Rel K B Γ σ F H fp) (S : Rel K (B.at F H fp) Γ2 σ2 F2 H2 fp2) : Rel K B Γ2 σ2 F2 H2 fp2 where
  len := S.len
  own := S.own
  dis := S.dis
  out := fun i a h => by
    obtain ⟨h1, h2, h3⟩ := S.out i a h
    refine ⟨h1, h2, ?_⟩
    rcases h3 with h3 | h3
    · refine .inl ?_
      cases q : B.H0 a with
      | none => rfl
      | some o => exact absurd h3 (R.there a (by rw [q]; exact fun z => nomatch z))
    · exact (R.out i a h3).2.2
  sub := S.sub
  ext := R.ext.trans S.ext
  new := fun a h => by
    rcases S.new a h with z | z
    · exact R.new a z
    · refine .inr ?_
      cases q : B.H0 a with
      | none => rfl
      | some o => exact absurd z (R.there a (by rw [q]; exact fun z => nomatch z))
  keep := fun a o e n => S.keep a o (R.keep a o e n) fun i z => by
    rcases (R.out i a z).2.2 with q | q
    · rw [q] at e; cases e
    · exact n i q
  there := fun a e => S.there a (R.there a e)
  lent := S.lent
/-- a comprehension's reading -/
def lcI (Y : DC) (tg elt iter : Expr) (ifs : List Expr) (scope : Scope) (T vs : List Nat) (Γ : G) (Q : M → G → Prop) : Prop :=
  dI Y tg iter Γ fun xs Γ1 => ∃ I : Nat → List M → G → Prop, I 0 [] (wipeG Γ1 vs) ∧
    (∀ k x ms Γk, xs[k]? = some x → I k ms Γk → ∀ (s : Shared) (H : Hp) (C : Addr) (cl : List (Str × Addr)) (fp : List Addr), dG (Y.blkN s H scope (compEnvC scope cl C Y.X.env) fp vs) tg T x Γk fun Γ2 =>
      ∀ (s : Shared) (H : Hp) (C : Addr) (cl : List (Str × Addr)) (fp : List Addr), dTs (Y.blk s H scope (compEnvC scope cl C Y.X.env) fp) ifs Γ2 fun b Γ3 =>
        if b = true then ∀ (s : Shared) (H : Hp) (C : Addr) (cl : List (Str × Addr)) (fp : List Addr), dO (Y.blk s H scope (compEnvC scope cl C Y.X.env) fp) elt Γ3 fun m Γ4 => ms.length < sizeLine ∧ I (k + 1) (ms ++ [m]) (wipeG Γ4 vs)
        else I (k + 1) ms (wipeG Γ3 vs)) ∧
    ∀ ms Γn, I xs.length ms Γn → Q (.lst ms) Γn
def gLc (X : Cx) (scope : Scope) (tg : Expr) : TG := fun v σ H Q => ∀ (s : Shared) (H' : Hp) (C : Addr) (cl : List (Str × Addr)) (fp : List Addr), wG (X.blk s H' scope (compEnvC scope cl C X.env) fp) tg v σ H Q
def tLcT (X : Cx) (scope : Scope) (ifs : List Expr) : TT := fun σ H Q => ∀ (s : Shared) (H' : Hp) (C : Addr) (cl : List (Str × Addr)) (fp : List Addr), wTs (X.blk s H' scope (compEnvC scope cl C X.env) fp) ifs σ H Q
def tLcE (X : Cx) (scope : Scope) (elt : Expr) : TE := fun σ H Q => ∀ (s : Shared) (H' : Hp) (C : Addr) (cl : List (Str × Addr)) (fp : List Addr), wE (X.blk s H' scope (compEnvC scope cl C X.env) fp) elt σ H Q
theorem In.blk {Y : DC} {B : Base} {F H : Hp} {fp : Nat → AS} {s : Shared} {Hh : Hp} {scope : Scope} {cenv : Env} {l : List Addr} (n : In Y B) : In (Y.blk s Hh scope cenv l) (B.at F H fp) :=
  ⟨fun _ _ _ => rfl, fun _ _ _ => rfl, (takes0 (X := Y.X.blk s Hh scope cenv l)).imp fun c d σ H ⟨_, _, _, _, z, _⟩ => z⟩
theorem In.blkN {Y : DC} {B : Base} {F H : Hp} {fp : Nat → AS} {s : Shared} {Hh : Hp} {scope : Scope} {cenv : Env} {l : List Addr} {vs : List Nat} (n : In Y B) (h1 : ∀ i v, B.ls[i]? = some (some v) → i ∉ vs) (h2 : ∀ i a, fp i a → i ∉ vs) : In (Y.blkN s Hh scope cenv l vs) (B.at F H fp) :=
  ⟨fun i v e => decide_eq_true (h1 i v e), fun i a e => decide_eq_true (h2 i a e), (takes0 (X := Y.X.blk s Hh scope cenv l)).imp fun c d σ H ⟨_, _, _, _, z, _⟩ => z⟩
/-- what a slot that is wiped had is nobody's -/
def cutF (fp : Nat → AS) (vs : List Nat) : Nat → AS := fun i a => i ∉ vs ∧ fp i a
theorem Rel.cutF {K : PySem.W.Frag} {B : Base} {Γ : G} {σ : L2.St} {F H : Hp} {fp : Nat → AS} {vs : List Nat} (R : Rel K B (wipeG Γ vs) σ F H fp) : Rel K B (wipeG Γ vs) σ F H (DL.cutF fp vs) where
  len := R.len
  own := fun i m e => by
    obtain ⟨_, hi⟩ := wipeG_some e
    obtain ⟨v, e1, o⟩ := R.own i m e
    exact ⟨v, e1, o.cong fun a => ⟨fun z => z.2, fun z => ⟨hi, z⟩⟩⟩
  dis := fun i j a h z1 z2 => R.dis i j a h z1.2 z2.2
  out := fun i a z => R.out i a z.2
  sub := R.sub
  ext := R.ext
  new := R.new
  keep := R.keep
  there := R.there
  lent := R.lent
section
variable {Y : DC} {Γ : G} {tg elt iter : Expr} {ifs : List Expr} {scope : Scope} {vs : List Nat} {pos : Pos} {Q : M → G → Prop} {T : List Nat}
theorem lc_run (hv : ∀ i ∈ vs, Y.ln i = false) (hT : ∀ i ∈ T, i ∈ vs) (h : lcI Y tg elt iter ifs scope T vs Γ Q) {B : Base} {σ : L2.St} {F H : Hp} {fp : Nat → AS} (n : In Y B) (R : Rel Y.X.K B Γ σ F H fp) {QV : VK}
    (k : ∀ m Γ' v F' H' fp' fr, Q m Γ' → Rel Y.X.K B Γ' σ F' H' fp' → Same F F' → Own Y.X.K F' H' v m fr → Fresh B F' H' fp' fr → QV v H') :
    tLc (wI Y.X tg iter) (gLc Y.X scope tg) (tLcT Y.X scope ifs) (tLcE Y.X scope elt) vs σ H QV := by
  have hls : ∀ i v, B.ls[i]? = some (some v) → i ∉ vs := fun i v e z => by
    have := hv i z
    rw [n.ln i v e] at this; cases this
  refine h.run B σ F H fp n R _ fun xs Γ1 J F1 H1 fp1 q R1 s1 it => ?_
  obtain ⟨I, i0, turn, fin⟩ := q
  intro D nD
  obtain ⟨nD1, nD2, nD3⟩ := R1.fresh0 nD
  refine ⟨fun i mm H' => mm = xs.length - i ∧ i ≤ xs.length ∧ ∃ Γ' F' fp' ms ws f, I i ms Γ' ∧ Rel Y.X.K B Γ' (L2.wipe σ vs) F' H' fp' ∧ (∀ j, j ∈ vs → ∀ a, ¬ fp' j a) ∧ Same F1 F' ∧ H' D = some (.lst ws) ∧ OwnL Y.X.K F' H' ws ms f ∧
    (∀ a, f a → F' a = none ∧ B.H0 a = none ∧ a ≠ D ∧ ∀ j, ¬ fp' j a) ∧ F' D = none ∧ ∀ j, ¬ fp' j D, ?_, ?_⟩
  · refine ⟨xs.length, by simp, Nat.zero_le _, wipeG Γ1 vs, F1, DL.cutF fp1 vs, [], [], fun _ => False, i0, ((R1.mutOut (o := .lst []) nD1 nD2 nD3).wipe hls).cutF, fun j hj a z => z.1 hj, Same.refl _, upd_same, .nil fun _ z => z, fun _ z => z.elim, nD1, fun j z => nD3 j z.2⟩
  rintro i mm H2 ⟨rfl, hi, Γ2, F2, fp2, ms, ws, f, i2, R2, fpv, s2, hD, ol, hf, fD, fpD⟩
  obtain ⟨t1, t2, t3⟩ := it i F2 H2 s2 R2.sub
  by_cases hlt : i < xs.length
  · refine .inr ⟨t1 hlt, fun H' => ∃ Γ' F' fp' ms ws f, I (i + 1) ms Γ' ∧ Rel Y.X.K B Γ' (L2.wipe σ vs) F' H' fp' ∧ (∀ j, j ∈ vs → ∀ a, ¬ fp' j a) ∧ Same F1 F' ∧ H' D = some (.lst ws) ∧ OwnL Y.X.K F' H' ws ms f ∧
      (∀ a, f a → F' a = none ∧ B.H0 a = none ∧ a ≠ D ∧ ∀ j, ¬ fp' j a) ∧ F' D = none ∧ ∀ j, ¬ fp' j D, fun H' q => ⟨xs.length - (i + 1), by omega, rfl, hlt, q⟩, fun v H' y => ?_⟩
    obtain ⟨F3, g3, d3⟩ := t3 v H' xs[i] y (List.getElem?_eq_getElem hlt)
    have R3 := R2.grow g3
    have hD3 : H' D = some (.lst ws) := g3.h D _ hD
    have ol3 : OwnL Y.X.K F3 H' ws ms f := ol.mono g3.f fun a ha => Same.ne g3.h (ol.dom a ha)
    have fo3 : ∀ a, H2 a ≠ none → F2 a = none → F3 a = none := fun a h1 h2 => by
      cases q : F3 a with
      | none => rfl
      | some o =>
        rcases g3.new a (by rw [q]; exact fun z => nomatch z) with z | z
        · exact absurd h2 z
        · exact absurd z h1
    have fD3 : F3 D = none := fo3 D (by rw [hD]; exact fun z => nomatch z) fD
    have hf3 : ∀ a, f a → F3 a = none ∧ B.H0 a = none ∧ a ≠ D ∧ ∀ j, ¬ fp2 j a := fun a ha => ⟨fo3 a (ol.dom a ha) (hf a ha).1, (hf a ha).2⟩
    have Rb := R3.rebase
    have keepF : ∀ {Γx : G} {σx : L2.St} {Fx Hx : Hp} {fx : Nat → AS}, Rel Y.X.K (B.at F3 H' fp2) Γx σx Fx Hx fx → (∀ a, f a → Hx a = H' a ∧ Fx a = none ∧ ∀ j, ¬ fx j a) ∧ Hx D = some (.lst ws) ∧ Fx D = none ∧ ∀ j, ¬ fx j D := fun {Γx σx Fx Hx fx} Rx => by
      have gen : ∀ a, H' a ≠ none → F3 a = none → (∀ j, ¬ fp2 j a) → Hx a = H' a ∧ Fx a = none ∧ ∀ j, ¬ fx j a := fun a h1 h2 h3 => by
        refine ⟨?_, ?_, fun j z => ?_⟩
        · cases q : H' a with
          | none => exact absurd q h1
          | some o => exact Rx.keep a o q h3
        · cases q : Fx a with
          | none => rfl
          | some o =>
            rcases Rx.new a (by rw [q]; exact fun z => nomatch z) with z | z
            · exact absurd h2 z
            · exact absurd z h1
        · rcases (Rx.out j a z).2.2 with q | q
          · exact h1 q
          · exact h3 j q
      obtain ⟨e1, e2, e3⟩ := gen D (by rw [hD3]; exact fun z => nomatch z) fD3 fpD
      exact ⟨fun a ha => gen a (ol3.dom a ha) (hf3 a ha).1 (hf3 a ha).2.2.2, e1.trans hD3, e2, e3⟩
    intro sA HA CA clA fpA
    refine (turn i xs[i] ms Γ2 (List.getElem?_eq_getElem hlt) i2 sA HA CA clA fpA).run (B.at F3 H' fp2) (L2.wipe σ vs) F3 H' fp2 v (n.blkN hls fun j a z hj => fpv j hj a z) Rb d3 _ fun Γ4 σ4 F4 H4 fp4 q4 R4 s4 o4 => ?_
    have ew : L2.wipe σ4 vs = L2.wipe σ vs := by
      have h1 := wipe_eq o4 hT
      rw [h1]
      exact List.ext_getElem? fun j => by
        by_cases hj : j ∈ vs
        · have o5 : Only vs σ (L2.wipe σ vs) := ⟨L2.wipe_length σ vs, fun j hj => wipe_at hj⟩
          rw [wipe_eq o5 fun j hj => hj]
        · rw [wipe_at hj]
    refine ⟨ew, ?_⟩
    intro sB HB CB clB fpB
    refine (q4 sB HB CB clB fpB).run (B.at F3 H' fp2) σ4 F4 H4 fp4 n.blk R4 _ fun b Γ5 F5 H5 fp5 q5 R5 s5 => ?_
    cases b with
    | false =>
      rw [if_neg Bool.false_ne_true] at q5 ⊢
      obtain ⟨kf, kd, kF, kp⟩ := keepF R5
      have R6 := ((R3.unbase' R5).wipe hls).cutF
      rw [ew] at R6
      exact ⟨_, F5, _, ms, ws, f, q5, R6, fun j hj a z => z.1 hj, (s2.trans g3.f).trans (s4.trans s5), kd, ol3.mono (s4.trans s5) fun a ha => (kf a ha).1, fun a ha => ⟨(kf a ha).2.1, (hf3 a ha).2.1, (hf3 a ha).2.2.1, fun j z => (kf a ha).2.2 j z.2⟩, kF, fun j z => kp j z.2⟩
    | true =>
      rw [if_pos rfl] at q5 ⊢
      intro sC HC CC clC fpC
      refine (q5 sC HC CC clC fpC).run (B.at F3 H' fp2) σ4 F5 H5 fp5 n.blk R5 _ fun m Γ6 w F6 H6 fp6 fr6 q6 R6 s6 o6 f6 => ?_
      obtain ⟨hlen, q6⟩ := q6
      obtain ⟨kf, kd, kF, kp⟩ := keepF R6
      have nfD : ¬ fr6 D := fun z => by
        have := (f6.out D z).2.2
        rw [show (B.at F3 H' fp2).H0 D = H' D from rfl, hD3] at this; cases this
      have hH0 : ∀ a, fr6 a → B.H0 a = none := fun a ha => by
        cases q : B.H0 a with
        | none => rfl
        | some o => exact absurd (f6.out a ha).2.2 (R3.there a (by rw [q]; exact fun z => nomatch z))
      refine ⟨ws, kd, by rw [ol.length]; exact hlen, ?_⟩
      have R7 := (((R3.unbase' R6).mutOut (o := .lst (ws ++ [w])) kF nD2 kp).wipe hls).cutF
      rw [ew] at R7
      refine ⟨_, F6, _, ms ++ [m], ws ++ [w], fun a => f a ∨ fr6 a, q6, R7, fun j hj a z => z.1 hj, (s2.trans g3.f).trans ((s4.trans s5).trans s6), upd_same, OwnL.snoc ?_ ?_ ?_, ?_, kF, fun j z => kp j z.2⟩
      · exact ol3.mono ((s4.trans s5).trans s6) fun a ha => by
          rw [upd_ne (hf3 a ha).2.2.1]
          exact (kf a ha).1
      · exact o6.mono' fun a ha => upd_ne fun z => nfD (by rw [← z]; exact ha)
      · intro a ha hb
        exact ol3.dom a ha (f6.out a hb).2.2
      · rintro a (ha | ha)
        · exact ⟨(kf a ha).2.1, (hf3 a ha).2.1, (hf3 a ha).2.2.1, fun j z => (kf a ha).2.2 j z.2⟩
        · exact ⟨(f6.out a ha).1, hH0 a ha, fun z => nfD (by rw [← z]; exact ha), fun j z => f6.dis a j ha z.2⟩
  · have e : i = xs.length := by omega
    subst e
    refine .inl ⟨t2 rfl, ?_⟩
    refine k (.lst ms) Γ2 (.ref D) F2 H2 fp2 (fun a => a = D ∨ f a) (fin ms Γ2 i2) (R2.unwipe R1) (s1.trans s2) (.lst hD ol (fun z => (hf D z).2.2.1 rfl) fun b => Iff.rfl) ⟨fun a ha => ?_, fun a j ha z => ?_⟩
    · rcases ha with rfl | ha
      · exact ⟨fD, (by rw [hD]; exact fun z => nomatch z), nD2⟩
      · exact ⟨(hf a ha).1, ol.dom a ha, (hf a ha).2.1⟩
    · rcases ha with rfl | ha
      · exact fpD j z
      · exact (hf a ha).2.2.2 j z
theorem dO_lc {own : List (Str × Nat)} (T : List Nat) (hc : Y.X.calm = true) (ok : BlkOk Y.X.N Y.X.env.scope scope own) (hs : ∀ x, foldedSetIterable iter Y.X.env x = pure x) (hv : ∀ i ∈ own.map (·.2), Y.ln i = false) (hT : ∀ i ∈ T, i ∈ own.map (·.2))
    (h : lcI Y tg elt iter ifs scope T (own.map (·.2)) Γ Q) : dO Y (.ListComp elt [⟨tg, iter, ifs, 0⟩] scope pos) Γ Q := by
  refine ⟨fun B σ F H fp n R QV k => wE.of (pe_lc (g := gLc Y.X scope tg) (tt := tLcT Y.X scope ifs) (te := tLcE Y.X scope elt) hc Y.nd pi_w ok (fun s H C cl l => ⟨fun pins s' σ H v u Q I r h => ?_⟩) (fun s H C cl l => ⟨fun pins s' σ H Q I h => ?_⟩) (fun s H C cl l => ⟨fun pins s' σ H Q I h => ?_⟩) hs) (lc_run hv hT h n R k)⟩
  · exact pg_w.run pins s' σ H v u Q I r (h s _ C cl l)
  · exact pts_w.run pins s' σ H Q I (h s _ C cl l)
  · exact pe_w.run pins s' σ H Q I (h s _ C cl l)
/-- name = [..] -/
theorem dS_setLc {own : List (Str × Nat)} {D : DE} {i : Nat} {y : Str} {py spos : Pos} (T : List Nat) (hc : Y.X.calm = true) (hy : Y.X.N[i]? = some y) (hyl : Y.X.env.scope.names.lookup y = some .local) (hl : Y.ln i = false)
    (hsw : swapsWith (.ListComp elt [⟨tg, iter, ifs, 0⟩] scope pos) (some (.Name y py)) spos.line Y.X.env = pure true)
    (ok : BlkOk Y.X.N Y.X.env.scope scope own) (hs : ∀ x, foldedSetIterable iter Y.X.env x = pure x) (hv : ∀ i ∈ own.map (·.2), Y.ln i = false) (hT : ∀ i ∈ T, i ∈ own.map (·.2))
    (h : lcI Y tg elt iter ifs scope T (own.map (·.2)) Γ fun m Γ' => D.nx (Γ'.set i (some m))) : dS Y (.Assign [.Name y py] (.ListComp elt [⟨tg, iter, ifs, 0⟩] scope pos) spos) Γ D := by
  refine ⟨fun B σ F H fp n R DV k => wS.of (ps_setLc (i := i) (g := gLc Y.X scope tg) (tt := tLcT Y.X scope ifs) (te := tLcE Y.X scope elt) hc Y.nd hy hyl hsw pi_w ok (fun s H C cl l => ⟨fun pins s' σ H v u Q I r h => ?_⟩) (fun s H C cl l => ⟨fun pins s' σ H Q I h => ?_⟩) (fun s H C cl l => ⟨fun pins s' σ H Q I h => ?_⟩) hs)
    (lc_run hv hT h n R fun m Γ' v F' H' fp' fr q R' s' o f => ?_)⟩
  · exact pg_w.run pins s' σ H v u Q I r (h s _ C cl l)
  · exact pts_w.run pins s' σ H Q I (h s _ C cl l)
  · exact pe_w.run pins s' σ H Q I (h s _ C cl l)
  · show DV.nx (σ.set i (some v)) H'
    by_cases hi : i < Γ'.length
    · exact k.nx _ _ F' H' _ q (R'.set hi o f (n.nl hl))
    · rw [List.set_eq_of_length_le (by omega)] at q
      rw [List.set_eq_of_length_le (by have := R'.len; omega)]
      exact k.nx _ _ F' H' _ q R'
end
end DL

set_option Elab.async false
set_option linter.all false
set_option maxRecDepth 100000
set_option maxHeartbeats 4000000
namespace DL
open PySem PySem.Spec PyProof.Rows L2

/-! ### promises where the guards are known (repr of lists and tuples asks for them) -/
structure FnG (P : Program) (w : World) (K : PySem.W.Frag) (mg : Str → Option Value) (base : Heap) (k : Nat) (f : Addr) (fd : FuncData) (ps : List Str) (sp : Sp) : Prop where
  len : ∀ vs H Q E, sp vs H Q E → vs.length = ps.length
  go : ∀ (A : Around) (outer : List Env) (s : Shared) (H : Hp) (args : Args) (us : List Value) (vs : List V) (Q : VK) (E : XK), Room k A → A.guards = some [] → Env0 P w K mg base A outer s H →
    BindsTo s fd args (ps.zip us) → Vals vs us → sp vs H Q E → codeAny (model P w) A (.call (.ref f) args) (CR (L2.CX P w) outer P w H s Q E) s
section
variable {P : Program} {w : World} {K : PySem.W.Frag} {mg : Str → Option Value} {base : Heap}
abbrev cxG (P : Program) (w : World) (K : PySem.W.Frag) (mg : Str → Option Value) (base : Heap) (N : List Str) (qual : Str) (st : Stmt) (f : Addr) (cdv : Value) (A : Around) (outer : List Env) (s : Shared) (H : Hp) (E : XK) : Cx :=
  cxOf (L2.CX P w) P w K mg base N qual (defScope st) f cdv A outer s H E
theorem FnG.mk' {x qual : Str} {st : Stmt} {f : Addr} {fd : FuncData} {N ps : List Str} {k : Nat} {sp : Sp} (F : Fun K x qual st f fd) (S : FnScope N ps (defScope st)) (len : ∀ vs H Q E, sp vs H Q E → vs.length = ps.length)
    (body : ∀ (cdv : Value) (A : Around) (outer : List Env) (s : Shared) (H : Hp) (vs : List V) (Q : VK) (E : XK), Room k (cxG P w K mg base N qual st f cdv A outer s H E).A → (cxG P w K mg base N qual st f cdv A outer s H E).A.guards = some [] → sp vs H Q E →
      wSs (cxG P w K mg base N qual st f cdv A outer s H E) (defBody st) { nx := fun _ H' => Q .non H', rt := Q } (L2.start N vs) H) : FnG P w K mg base (k + 1) f fd ps sp := by
  obtain ⟨_, _, _, _, _, _, cdv, _, _, rfl, lk, code⟩ := F.ex
  refine ⟨len, fun A outer s H args us vs Q E room guards env binds vals want => ?_⟩
  have ll := len vs H Q E want
  have kin := Mod.kin env.mod |>.keeps fun b o e => (env.bs b o e).left
  have few := Mod.nolimit env.mod |>.keeps fun b o e => (env.bs b o e).left
  refine codeAny_call_function room.depth (kin _ _ lk) rfl S.co S.gen rfl (PySem.W.codeRec_of kin code) (binds _ _ _ _ (wpAny_newFunctionEnv_cells S.kind (fun y yin => ?_) fun en en_is s1 call => ?_))
  · obtain ⟨n, v⟩ := y
    exact (S.par n (List.of_mem_zip yin).left).imp id fun q => ⟨q, PySem.W.cellsFrom_some _ _ _ (Or.inl q)⟩
  · subst en_is
    refine ⟨few.keeps call.toInCall.keep, codeAny_func ?_⟩
    have start := inv_start (CX := L2.CX P w) (N := N) (mg := mg) (E := E) (cd := cdv) S room.hd env ll vals call
    refine wpAny_mono (body cdv A outer s H vs Q E (room.deeper _) guards want [] s1 start) (fun fl s2 ends => ?_) (fun _ _ z => z)
    have close : ∀ {σ2 : L2.St} {H2 : Hp} {v : V} {u : Value}, Inv (cxG P w K mg base N qual st f cdv A outer s H E) [] σ2 H2 s2 → RelV v u → Q v H2 → CE outer P w H s Q u s2 :=
      fun {_ H2 v _} J rv q => ⟨v, H2, J.os, J.bare, J.base, J.hok, rv, q⟩
    match fl, ends with
    | .ret _, ⟨_, _, _, J, rv, q⟩ => exact close J rv q
    | .next, ⟨_, _, J, q⟩ => exact close (v := V.non) J rfl q
    | .brk, ⟨_, _, _, q⟩ => exact q.elim
    | .cont, ⟨_, _, _, q⟩ => exact q.elim
end
section
variable {X : Cx} {k : Nat} {f : Addr} {fd : FuncData} {ps : List Str} {sp : Sp} {W : WX} {x : Str} {p pos : Pos} {e : Expr} {es : List Expr} {t : TA}
theorem pe_callG (F : FnG X.prog X.w X.K X.mg X.base k f fd ps sp) (hr : Room k X.A) (hgd : X.A.guards = some []) (hg : Gl X x) (hm : X.mg x = some (.ref f)) (hk : PySem.W.keepIn X.K (.ref f) = true) (hb : Binds X.K fd ps []) (tk : Takes X W)
    (ha : PA X (e :: es) t) (he : starEach (e :: es) X.env = (false, eval e X.env) :: starEach es X.env) (hpl : (backTo pos (starEach es X.env)).any (·.1) = false) (hdb : (x == ("__debug__" : Str)) = false := by decide) :
    PE X (.Call (.Name x p) (e :: es) [] pos) (tCallS sp (WE W) t) := by
  constructor
  intro pins s σ H Q I want
  refine wpAny_Call_Name_kw (ld_glob I hg hm ?_ hdb)
  refine PySem.W.callWith_K (h₀ := X.base) I.mod.kin hk (thn (ha.run pos pins s σ H _ I want) ?_) he hpl
  rintro us s1 ⟨vs, H1, I1, rv, q⟩
  refine ⟨I1.kIn, wpAny_call (codeAny_mono (F.go X.A X.stack s1 H1 ⟨us, []⟩ us vs Q (WE W σ) hr hgd I1.env0 ?_ rv q) ?_)⟩
  · have ll : us.length = ps.length := rv.length.symm.trans (F.len vs H1 Q (WE W σ) q)
    simpa using hb s1 us I1.kIn (by simpa using ll)
  · intro r s2 done
    match r, done with
    | .error err, done => exact passAt tk σ pins H1 s1 err s2 I1 done
    | .ok (.ret _), done => exact I1.after done
    | .ok .next, done => exact False.elim done
    | .ok .brk, done => exact False.elim done
    | .ok .cont, done => exact False.elim done
theorem pe_callG0 (F : FnG X.prog X.w X.K X.mg X.base k f fd ps sp) (hr : Room k X.A) (hgd : X.A.guards = some []) (hg : Gl X x) (hm : X.mg x = some (.ref f)) (hk : PySem.W.keepIn X.K (.ref f) = true) (hb : Binds X.K fd ps []) (tk : Takes X W)
    (hdb : (x == ("__debug__" : Str)) = false := by decide) : PE X (.Call (.Name x p) [] [] pos) (tCallS sp (WE W) tNil) := by
  constructor
  intro pins s σ H Q I want
  refine wpAny_Call_Name_kw (ld_glob I hg hm ?_ hdb)
  refine PySem.W.callWith_K0 I.kIn hk (wpAny_call (codeAny_mono (F.go X.A X.stack s H ⟨[], []⟩ [] [] Q (WE W σ) hr hgd I.env0 ?_ .nil want) ?_))
  · have ll : 0 = ps.length := F.len [] H Q (WE W σ) want
    simpa using hb s [] I.kIn (by simpa using ll)
  · intro r s2 done
    match r, done with
    | .error err, done => exact passAt tk σ pins H s err s2 I done
    | .ok (.ret _), done => exact I.after done
    | .ok .next, done => exact False.elim done
    | .ok .brk, done => exact False.elim done
    | .ok .cont, done => exact False.elim done
end

/-! ### promises over data -/
abbrev Ct := List M → (M → List M → Prop) → (Ex → List M → Prop) → Prop
def M.isOwn : M → Bool
  | .d _ => false
  | .raw _ => false
  | .scr _ => false
  | _ => true
def lsOf : List M → List V → List (Option V)
  | m :: ms, v :: vs => (if m.isOwn = true then some v else none) :: lsOf ms vs
  | _, _ => []
def low (K : PySem.W.Frag) (C : Ct) : Sp := fun vs H Q E => ∃ (F : Hp) (ms : List M) (fp : Nat → AS), Rel K ⟨F, H, fp, lsOf ms vs⟩ (ms.map some) (vs.map some) F H fp ∧ (∀ i a, fp i a → ∃ m, ms[i]? = some m ∧ m.isOwn = true) ∧
  ∃ Q1 E1, C ms Q1 E1 ∧ (∀ m ms', Q1 m ms' → ∀ v F' H' fp' fr, Rel K ⟨F, H, fp, lsOf ms vs⟩ (ms'.map some) (vs.map some) F' H' fp' → Own K F' H' v m fr → Fresh ⟨F, H, fp, lsOf ms vs⟩ F' H' fp' fr → Q v H') ∧
    (∀ ex ms', E1 ex ms' → ∀ cls d F' H' fp', Rel K ⟨F, H, fp, lsOf ms vs⟩ (ms'.map some) (vs.map some) F' H' fp' → XOk K F' H' ex cls d → E cls d H')
structure Def (P : Program) (w : World) (K : PySem.W.Frag) (mg : Str → Option Value) (base : Heap) (x : Str) (k : Nat) (C : Ct) : Prop where
  ex : ∃ f fd ps, mg x = some (.ref f) ∧ PySem.W.keepIn K (.ref f) = true ∧ Binds K fd ps [] ∧ FnG P w K mg base k f fd ps (low K C)
/-- the parameters at the end: what is owned as it stands, the others as they came -/
@[reducible] def backOne : M → Option M → M → Prop
  | .d x, _, m' => m' = .d x
  | .raw v, _, m' => m' = .raw v
  | .scr ns, _, m' => m' = .scr ns
  | _, g, m' => g = some m'
@[reducible] def Back : List M → G → List M → Prop
  | [], _, ms' => ms' = []
  | m :: ms, g :: Γ, m' :: ms' => backOne m g m' ∧ Back ms Γ ms'
  | _, _, _ => False
theorem backOne.own {m : M} {g : Option M} {m' : M} (h : backOne m g m') (o : m.isOwn = true) : g = some m' := by
  cases m <;> first | exact h | (cases o)
theorem backOne.other {m : M} {g : Option M} {m' : M} (h : backOne m g m') (o : m.isOwn = false) : m' = m := by
  cases m <;> first | exact h | (cases o)
theorem Back.at : ∀ {ms : List M} {Γ : G} {ms' : List M}, Back ms Γ ms' → ms'.length = ms.length ∧ ∀ (i : Nat) (m m' : M), ms[i]? = some m → ms'[i]? = some m' → (m.isOwn = true → Γ[i]? = some (some m')) ∧ (m.isOwn = false → m' = m)
  | [], _, ms', h => by
    have h : ms' = [] := h
    subst h
    exact ⟨rfl, fun i m m' e => by simp at e⟩
  | m0 :: ms, [], ms', h => by
    cases ms' <;> exact False.elim h
  | m0 :: ms, g :: Γ, [], h => False.elim h
  | m0 :: ms, g :: Γ, m1 :: ms', h => by
    obtain ⟨h1, h2⟩ := h
    obtain ⟨e1, e2⟩ := Back.at h2
    refine ⟨by simp [e1], fun i m m' a b => ?_⟩
    cases i with
    | zero =>
      simp at a b
      subst a b
      exact ⟨fun o => by simp [h1.own o], fun o => h1.other o⟩
    | succ i =>
      have := e2 i m m' (by simpa using a) (by simpa using b)
      simpa using this
@[reducible] def backF1 : M → Option M → Option M
  | .d x, _ => some (.d x)
  | .raw v, _ => some (.raw v)
  | .scr ns, _ => some (.scr ns)
  | .lst _, g => g
  | .dK _, g => g
  | .dT _, g => g
  | .ins _ _, g => g
@[reducible] def backF : List M → G → Option (List M)
  | [], _ => some []
  | m :: ms, g :: Γ => match backF1 m g, backF ms Γ with
    | some m', some ms' => some (m' :: ms')
    | _, _ => none
  | _ :: _, [] => none
theorem backF_B : ∀ {ms : List M} {Γ : G} {ms' : List M}, backF ms Γ = some ms' → Back ms Γ ms'
  | [], Γ, ms', h => by
    cases (Option.some.inj h)
    cases Γ <;> exact rfl
  | m :: ms, [], ms', h => by cases h
  | m :: ms, g :: Γ, ms', h => by
    unfold backF at h
    split at h
    · rename_i m1 ms1 e1 e2
      cases (Option.some.inj h)
      refine ⟨?_, backF_B e2⟩
      cases m <;> first | (cases (Option.some.inj e1); rfl) | exact e1
    · cases h
theorem lsOf_get : ∀ {ms : List M} {vs : List V} {i : Nat} {v : V}, (lsOf ms vs)[i]? = some (some v) → ∃ m, ms[i]? = some m ∧ m.isOwn = true ∧ vs[i]? = some v
  | [], vs, i, v, h => by cases vs <;> simp [lsOf] at h
  | m :: ms, [], i, v, h => by simp [lsOf] at h
  | m :: ms, w :: vs, 0, v, h => by
    simp [lsOf] at h
    exact ⟨m, rfl, h.1, by simp [h.2]⟩
  | m :: ms, w :: vs, i + 1, v, h => by
    obtain ⟨m', e1, e2, e3⟩ := lsOf_get (ms := ms) (vs := vs) (i := i) (by simpa [lsOf] using h)
    exact ⟨m', by simpa using e1, e2, by simpa using e3⟩
theorem lsOf_own : ∀ {ms : List M} {vs : List V} {i : Nat} {m : M} {v : V}, ms[i]? = some m → m.isOwn = true → vs[i]? = some v → (lsOf ms vs)[i]? = some (some v)
  | m0 :: ms, w :: vs, 0, m, v, e1, e2, e3 => by
    simp at e1 e3
    subst e1 e3
    simp [lsOf, e2]
  | m0 :: ms, w :: vs, i + 1, m, v, e1, e2, e3 => by simpa [lsOf] using lsOf_own (by simpa using e1) e2 (by simpa using e3)
  | [], _, i, _, _, e, _, _ => by simp at e
  | _ :: _, [], i, _, _, _, _, e => by simp at e
@[reducible] def lentAt (ms : List M) (i : Nat) : Bool := match ms[i]? with
  | some m => m.isOwn
  | none => false
/-- the slots at the entry -/
@[reducible] def startG (N : List Str) (ms : List M) : G := ms.map some ++ List.replicate (N.length - ms.length) none
section
variable {P : Program} {w : World} {K : PySem.W.Frag} {mg : Str → Option Value} {base : Heap}
/-- the context of a def's body -/
abbrev mkY {N ps : List Str} {st : Stmt} (S : FnScope N ps (defScope st)) (P : Program) (w : World) (K : PySem.W.Frag) (mg : Str → Option Value) (base : Heap) {k : Nat} (qual : Str) (f : Addr) (cdv : Value) (A : Around) (outer : List Env) (s : Shared) (H : Hp) (E : XK)
    (hr : Room k (cxG P w K mg base N qual st f cdv A outer s H E).A) (hg : (cxG P w K mg base N qual st f cdv A outer s H E).A.guards = some []) (ms : List M) (Ed : Ex → List M → Prop) : DC where
  X := cxG P w K mg base N qual st f cdv A outer s H E
  ln := lentAt ms
  EX := fun ex Γ => ∃ ms', backF ms Γ = some ms' ∧ Ed ex ms'
  hu := Nat.lt_of_le_of_lt (Nat.add_le_add_left (by decide : 65 ≤ 200) _) (Nat.lt_of_le_of_lt (by omega) hr.un)
  nd := S.nd
  gd := hg
  po := passes_of rfl
theorem Def.mk' {x qual : Str} {st : Stmt} {f : Addr} {fd : FuncData} {N ps : List Str} {k : Nat} {C : Ct} (F : Fun K x qual st f fd) (S : FnScope N ps (defScope st)) (gl : mg x = some (.ref f)) (hb : Binds K fd ps []) (len : ∀ ms Q E, C ms Q E → ms.length = ps.length)
    (body : ∀ (cdv : Value) (A : Around) (outer : List Env) (s : Shared) (H : Hp) (E : XK) (hr : Room k (cxG P w K mg base N qual st f cdv A outer s H E).A) (hg : (cxG P w K mg base N qual st f cdv A outer s H E).A.guards = some []) (ms : List M) (Q : M → List M → Prop) (Ed : Ex → List M → Prop), C ms Q Ed →
      dSs (mkY S P w K mg base qual f cdv A outer s H E hr hg ms Ed) (defBody st) (startG N ms) { nx := fun Γ => ∃ ms', backF ms Γ = some ms' ∧ Q (.d .none) ms', rt := fun m Γ => ∃ ms', backF ms Γ = some ms' ∧ Q m ms' }) : Def P w K mg base x (k + 1) C := by
  refine ⟨f, fd, ps, gl, F.kp, hb, FnG.mk' F S (fun vs H Q E ⟨F, ms, fp, R, _, _, _, c, _⟩ => ?_) fun cdv A outer s H vs Q E hr hg ⟨F, ms, fp, R, hfp, Q1, E1, c, w1, w2⟩ => ?_⟩
  · have e1 := R.len
    rw [List.length_map, List.length_map] at e1
    rw [← e1]
    exact len _ _ _ c
  have e1 : ms.length = vs.length := by
    have e1 := R.len
    rwa [List.length_map, List.length_map] at e1
  have R0 : Rel K ⟨F, H, fp, lsOf ms vs⟩ (startG N ms) (L2.start N vs) F H fp := {
    len := by
      unfold startG L2.start
      rw [List.length_append, List.length_append, List.length_map, List.length_map, List.length_replicate, List.length_replicate, e1]
    own := fun i m e => by
      have hi : i < ms.length := by
        unfold startG at e
        by_cases hi : i < ms.length
        · exact hi
        · rw [List.getElem?_append_right (by simpa using hi), List.getElem?_replicate] at e
          split at e <;> cases e
      unfold startG at e
      rw [List.getElem?_append_left (by simpa using hi)] at e
      obtain ⟨v, e2, o⟩ := R.own i m e
      exact ⟨v, by unfold L2.start; rw [List.getElem?_append_left (by rw [List.length_map]; omega)]; exact e2, o⟩
    dis := R.dis, out := R.out, sub := R.sub, ext := R.ext, new := R.new, keep := R.keep, there := R.there
    lent := fun i v e => by
      have e2 := R.lent i v e
      have hi : i < vs.length := by
        have := (List.getElem?_eq_some_iff.mp e2).1
        rwa [List.length_map] at this
      unfold L2.start
      rw [List.getElem?_append_left (by rw [List.length_map]; exact hi)]
      exact e2 }
  have fin : ∀ {Γ' : G} {σ' : L2.St} {F' H' : Hp} {fp' : Nat → AS} {ms' : List M}, Rel K ⟨F, H, fp, lsOf ms vs⟩ Γ' σ' F' H' fp' → Back ms Γ' ms' → Rel K ⟨F, H, fp, lsOf ms vs⟩ (ms'.map some) (vs.map some) F' H' (fun i a => (∃ m, ms[i]? = some m ∧ m.isOwn = true) ∧ fp' i a) := fun {Γ' σ' F' H' fp' ms'} R' b => by
    obtain ⟨b1, b2⟩ := b.at
    refine ⟨by rw [List.length_map, List.length_map, b1, e1], fun i m' e => ?_, fun i j a h z1 z2 => R'.dis i j a h z1.2 z2.2, fun i a z => R'.out i a z.2, R'.sub, R'.ext, R'.new, R'.keep, R'.there, R.lent⟩
    rw [List.getElem?_map] at e
    have em' : ms'[i]? = some m' := by
      cases q : ms'[i]? with
      | none => rw [q] at e; cases e
      | some z => rw [q] at e; cases e; rfl
    have hi : i < ms.length := by
      have := (List.getElem?_eq_some_iff.mp em').1
      omega
    have em : ms[i]? = some ms[i] := List.getElem?_eq_getElem hi
    have ev : vs[i]? = some (vs[i]'(by omega)) := List.getElem?_eq_getElem (by omega)
    obtain ⟨c1, c2⟩ := b2 i _ m' em em'
    refine ⟨vs[i]'(by omega), by rw [List.getElem?_map, ev]; rfl, ?_⟩
    cases ho : (ms[i]).isOwn with
    | true =>
      obtain ⟨v2, e2, o⟩ := R'.own i m' (c1 ho)
      have := R'.lent i _ (lsOf_own em ho ev)
      rw [e2] at this
      cases this
      exact o.cong fun a => ⟨fun z => z.2, fun z => ⟨⟨_, em, ho⟩, z⟩⟩
    | false =>
      have e3 := c2 ho
      subst e3
      obtain ⟨v2, e2, o⟩ := R.own i ms[i] (by rw [List.getElem?_map, em]; rfl)
      rw [List.getElem?_map, ev] at e2
      cases e2
      have nf : ∀ a, ¬ fp i a := fun a z => by
        obtain ⟨m, q1, q2⟩ := hfp i a z
        rw [em] at q1; cases q1
        rw [ho] at q2; cases q2
      refine (o.mono (H' := H') R'.ext fun a z => absurd z (nf a)).cong fun a => ⟨fun z => ?_, fun z => absurd z (nf a)⟩
      obtain ⟨⟨m, q1, q2⟩, _⟩ := z
      rw [em] at q1; cases q1
      rw [ho] at q2; cases q2
  refine (body cdv A outer s H E hr hg ms _ _ c).run ⟨F, H, fp, lsOf ms vs⟩ (L2.start N vs) F H fp ⟨fun i v e => ?_, fun i a z => ?_, ?_⟩ R0 _ ⟨fun Γ' σ' F' H' fp' q R' => ?_, fun m Γ' v σ' F' H' fp' fr q R' o fr' => ?_, fun Γ' σ' F' H' fp' q R' => q, fun Γ' σ' F' H' fp' q R' => q⟩
  · obtain ⟨m, q1, q2, _⟩ := lsOf_get e
    show lentAt ms i = true
    unfold lentAt
    rw [q1]
    exact q2
  · obtain ⟨m, q1, q2⟩ := hfp i a z
    show lentAt ms i = true
    unfold lentAt
    rw [q1]
    exact q2
  · refine (takes_of (X := cxG P w K mg base N qual st f cdv A outer s H E) (E := E) rfl rfl rfl rfl).imp fun cls d σ' H' ⟨Γ', F', fp', ex, ⟨ms', b, q⟩, R', xo⟩ => ?_
    exact w2 ex ms' q cls d F' H' _ (fin R' (backF_B b)) xo
  · obtain ⟨ms', b, q⟩ := q
    exact w1 _ _ q .non F' H' _ (fun _ => False) (fin R' (backF_B b)) (.d .non fun _ z => z) (.none fun _ z => z)
  · obtain ⟨ms', b, q⟩ := q
    exact w1 _ _ q v F' H' _ fr (fin R' (backF_B b)) o ⟨fr'.out, fun a j h1 h2 => fr'.dis a j h1 h2.2⟩
end
end DL

set_option Elab.async false
set_option linter.all false
set_option maxRecDepth 100000
set_option maxHeartbeats 4000000
namespace DL
open PySem PySem.Spec PyProof.Rows L2

/-! ### calls of defs -/
def argsM (Γ : G) : List R → List M → Prop
  | [], [] => True
  | .d x :: rs, m :: ms => m = .d x ∧ argsM Γ rs ms
  | .raw v :: rs, m :: ms => m = .raw v ∧ argsM Γ rs ms
  | .al i :: rs, m :: ms => Γ[i]? = some (some m) ∧ argsM Γ rs ms
  | _, _ => False
@[reducible] def alIx : List R → List Nat
  | [] => []
  | .al i :: rs => i :: alIx rs
  | _ :: rs => alIx rs
@[reducible] def putArgs (Γ : G) : List R → List M → G
  | .al i :: rs, m :: ms => putArgs (Γ.set i (some m)) rs ms
  | .d _ :: rs, _ :: ms => putArgs Γ rs ms
  | .raw _ :: rs, _ :: ms => putArgs Γ rs ms
  | _, _ => Γ
theorem alIx_mem : ∀ {rs : List R} {j i : Nat}, rs[j]? = some (.al i) → i ∈ alIx rs
  | [], _, _, h => by simp at h
  | r :: rs, 0, i, h => by
    simp at h
    subst h
    exact List.mem_cons_self
  | r :: rs, j + 1, i, h => by
    have := alIx_mem (rs := rs) (j := j) (i := i) (by simpa using h)
    cases r <;> first | exact this | exact List.mem_cons_of_mem _ this
theorem alIx_inj : ∀ {rs : List R}, (alIx rs).Nodup → ∀ {j k i : Nat}, rs[j]? = some (.al i) → rs[k]? = some (.al i) → j = k
  | [], _, _, _, _, h, _ => by simp at h
  | r :: rs, nd, 0, 0, i, _, _ => rfl
  | r :: rs, nd, 0, k + 1, i, h1, h2 => by
    simp at h1
    subst h1
    have : i ∈ alIx rs := alIx_mem (by simpa using h2)
    exact absurd this (List.nodup_cons.mp nd).1
  | r :: rs, nd, j + 1, 0, i, h1, h2 => by
    simp at h2
    subst h2
    have : i ∈ alIx rs := alIx_mem (by simpa using h1)
    exact absurd this (List.nodup_cons.mp nd).1
  | r :: rs, nd, j + 1, k + 1, i, h1, h2 => by
    have nd' : (alIx rs).Nodup := by cases r <;> first | exact nd | exact (List.nodup_cons.mp nd).2
    rw [alIx_inj nd' (j := j) (k := k) (i := i) (by simpa using h1) (by simpa using h2)]
theorem putArgs_length : ∀ {rs : List R} {ms : List M} {Γ : G}, (putArgs Γ rs ms).length = Γ.length
  | [], _, _ => by cases ‹List M› <;> rfl
  | .al i :: rs, m :: ms, Γ => by unfold putArgs; rw [putArgs_length, List.length_set]
  | .d _ :: rs, m :: ms, Γ => by unfold putArgs; exact putArgs_length
  | .raw _ :: rs, m :: ms, Γ => by unfold putArgs; exact putArgs_length
  | .al i :: rs, [], Γ => rfl
  | .d _ :: rs, [], Γ => rfl
  | .raw _ :: rs, [], Γ => rfl
theorem putArgs_ne : ∀ {rs : List R} {ms : List M} {Γ : G} {i : Nat}, i ∉ alIx rs → (putArgs Γ rs ms)[i]? = Γ[i]?
  | [], _, _, _, _ => by cases ‹List M› <;> rfl
  | .al k :: rs, m :: ms, Γ, i, h => by
    unfold putArgs
    rw [putArgs_ne fun z => h (List.mem_cons_of_mem _ z), List.getElem?_set_ne fun z => h (by rw [z]; exact List.mem_cons_self)]
  | .d _ :: rs, m :: ms, Γ, i, h => by unfold putArgs; exact putArgs_ne h
  | .raw _ :: rs, m :: ms, Γ, i, h => by unfold putArgs; exact putArgs_ne h
  | .al i :: rs, [], Γ, _, _ => rfl
  | .d _ :: rs, [], Γ, _, _ => rfl
  | .raw _ :: rs, [], Γ, _, _ => rfl
theorem putArgs_al : ∀ {rs : List R} {ms : List M} {Γ : G}, (alIx rs).Nodup → ms.length = rs.length → ∀ {i j : Nat}, rs[j]? = some (.al i) → i < Γ.length → (putArgs Γ rs ms)[i]? = some ms[j]?
  | [], _, _, _, _, _, _, h, _ => by simp at h
  | r :: rs, [], _, _, hl, _, _, _, _ => by simp at hl
  | r :: rs, m :: ms, Γ, nd, hl, i, 0, h, hi => by
    simp at h
    subst h
    unfold putArgs
    rw [putArgs_ne (List.nodup_cons.mp nd).1, List.getElem?_set_self hi]
    rfl
  | r :: rs, m :: ms, Γ, nd, hl, i, j + 1, h, hi => by
    have nd' : (alIx rs).Nodup := by cases r <;> first | exact nd | exact (List.nodup_cons.mp nd).2
    have hl' : ms.length = rs.length := by simpa using hl
    have h' : rs[j]? = some (.al i) := by simpa using h
    cases r with
    | al k =>
      unfold putArgs
      rw [putArgs_al nd' hl' h' (by rw [List.length_set]; exact hi)]
      rfl
    | d x => unfold putArgs; rw [putArgs_al nd' hl' h' hi]; rfl
    | raw x => unfold putArgs; rw [putArgs_al nd' hl' h' hi]; rfl
theorem argsM_length {Γ : G} : ∀ {rs : List R} {ms : List M}, argsM Γ rs ms → ms.length = rs.length
  | [], [], _ => rfl
  | .d _ :: rs, m :: ms, h => by simp [argsM_length h.2]
  | .raw _ :: rs, m :: ms, h => by simp [argsM_length h.2]
  | .al _ :: rs, m :: ms, h => by simp [argsM_length h.2]
  | [], _ :: _, h => h.elim
  | .d _ :: rs, [], h => h.elim
  | .raw _ :: rs, [], h => h.elim
  | .al _ :: rs, [], h => h.elim
theorem argsM_get {Γ : G} : ∀ {rs : List R} {ms : List M}, argsM Γ rs ms → ∀ {j : Nat} {m : M}, ms[j]? = some m → ∃ r, rs[j]? = some r ∧ (match r with | .d x => m = .d x | .raw v => m = .raw v | .al i => Γ[i]? = some (some m))
  | [], [], _, j, m, e => by simp at e
  | .d _ :: rs, m0 :: ms, h, 0, m, e => by simp at e; subst e; exact ⟨_, rfl, h.1⟩
  | .raw _ :: rs, m0 :: ms, h, 0, m, e => by simp at e; subst e; exact ⟨_, rfl, h.1⟩
  | .al _ :: rs, m0 :: ms, h, 0, m, e => by simp at e; subst e; exact ⟨_, rfl, h.1⟩
  | .d _ :: rs, m0 :: ms, h, j + 1, m, e => by simpa using argsM_get h.2 (j := j) (m := m) (by simpa using e)
  | .raw _ :: rs, m0 :: ms, h, j + 1, m, e => by simpa using argsM_get h.2 (j := j) (m := m) (by simpa using e)
  | .al _ :: rs, m0 :: ms, h, j + 1, m, e => by simpa using argsM_get h.2 (j := j) (m := m) (by simpa using e)
  | [], _ :: _, h, _, _, _ => h.elim
  | .d _ :: rs, [], h, _, _, _ => h.elim
  | .raw _ :: rs, [], h, _, _, _ => h.elim
  | .al _ :: rs, [], h, _, _, _ => h.elim
theorem Paired.at {α β : Type} {F : α → β → Prop} : ∀ {xs : List α} {ys : List β}, Paired F xs ys → ∀ {i : Nat} {x : α}, xs[i]? = some x → ∃ y, ys[i]? = some y ∧ F x y
  | _, _, .nil, i, x, e => by simp at e
  | _, _, .cons r t, 0, x, e => by simp at e; subst e; exact ⟨_, rfl, r⟩
  | _, _, .cons r t, i + 1, x, e => by simpa using Paired.at t (i := i) (x := x) (by simpa using e)
section
variable {K : PySem.W.Frag} {B : Base} {Γ : G} {σ : L2.St} {F H : Hp} {fp : Nat → AS} {rs : List DL.R} {vs : List V} {ms : List M}
/-- the places that go with the arguments -/
def fpA (fp : Nat → AS) (rs : List DL.R) : Nat → AS := fun j a => ∃ i, rs[j]? = some (DL.R.al i) ∧ fp i a
/-- .. those that are owned by the callee -/
def fpO (fp : Nat → AS) (rs : List DL.R) (ms : List M) : Nat → AS := fun j a => fpA fp rs j a ∧ ∃ m, ms[j]? = some m ∧ m.isOwn = true
theorem Rel.args (R : Rel K B Γ σ F H fp) (o : Paired (ROk K F σ) rs vs) (ha : argsM Γ rs ms) (nd : (alIx rs).Nodup) :
    Rel K ⟨F, H, fpO fp rs ms, lsOf ms vs⟩ (ms.map some) (vs.map some) F H (fpO fp rs ms) where
  len := by rw [List.length_map, List.length_map, argsM_length ha, o.length]
  own := fun j m e => by
    rw [List.getElem?_map] at e
    have em : ms[j]? = some m := by
      cases q : ms[j]? with
      | none => rw [q] at e; cases e
      | some z => rw [q] at e; cases e; rfl
    obtain ⟨r, er, h⟩ := argsM_get ha em
    obtain ⟨v, ev, ok⟩ := Paired.at o er
    refine ⟨v, by rw [List.getElem?_map, ev]; rfl, ?_⟩
    cases r with
    | d x =>
      have h : m = .d x := h
      subst h
      exact .d ok fun a z => by obtain ⟨i, q, _⟩ := z.1; rw [er] at q; cases q
    | raw u =>
      have h : m = .raw u := h
      subst h
      have ok : v = u := ok
      subst ok
      exact .raw fun a z => by obtain ⟨i, q, _⟩ := z.1; rw [er] at q; cases q
    | al i =>
      obtain ⟨v2, e2, o2⟩ := R.own i m h
      have ok : σ[i]? = some (some v) := ok
      rw [ok] at e2
      cases e2
      cases hm : m.isOwn with
      | true => exact o2.cong fun a => ⟨fun z => by obtain ⟨i', q, z⟩ := z.1; rw [er] at q; cases q; exact z, fun z => ⟨⟨i, er, z⟩, m, em, hm⟩⟩
      | false =>
        have nf : ∀ a, ¬ fpO fp rs ms j a := fun a z => by
          obtain ⟨m', q, z⟩ := z.2
          rw [em] at q; cases q
          rw [hm] at z; cases z
        cases o2 with
        | d q _ => exact .d q nf
        | raw _ => exact .raw nf
        | scr q _ => exact .scr q nf
        | lst _ _ _ _ => cases hm
        | dK _ _ _ _ _ => cases hm
        | dT _ _ _ _ _ => cases hm
        | ins _ _ _ _ _ _ _ _ => cases hm
  dis := fun j k a hjk h1 h2 => by
    obtain ⟨⟨i, q1, z1⟩, _⟩ := h1
    obtain ⟨⟨i', q2, z2⟩, _⟩ := h2
    by_cases hi : i = i'
    · subst hi; exact hjk (alIx_inj nd q1 q2)
    · exact R.dis i i' a hi z1 z2
  out := fun j a h => by
    obtain ⟨i, q, z⟩ := h.1
    exact ⟨(R.out i a z).1, (R.out i a z).2.1, .inr h⟩
  sub := R.sub
  ext := Same.refl _
  new := fun a h => .inl h
  keep := fun a o e _ => e
  there := fun a h => h
  lent := fun j v e => by
    obtain ⟨m, _, _, q⟩ := lsOf_get e
    rw [List.getElem?_map, q]; rfl
/-- behind the call -/
theorem Rel.back (R : Rel K B Γ σ F H fp) (o : Paired (ROk K F σ) rs vs) (ha : argsM Γ rs ms) (nd : (alIx rs).Nodup) {ms' : List M} {F' H' : Hp} {fp' : Nat → AS} (S : Rel K ⟨F, H, fpO fp rs ms, lsOf ms vs⟩ (ms'.map some) (vs.map some) F' H' fp') :
    ∃ fp2, Rel K B (putArgs Γ rs ms') σ F' H' fp2 ∧ ∀ fr, Fresh ⟨F, H, fpO fp rs ms, lsOf ms vs⟩ F' H' fp' fr → Fresh B F' H' fp2 fr := by
  have hl : ms'.length = rs.length := by
    have := S.len
    rw [List.length_map, List.length_map] at this
    rw [this, ← o.length]
  have h0 : ∀ a, H a = none → B.H0 a = none := fun a e => by
    cases q : B.H0 a with
    | none => rfl
    | some u => exact absurd e (R.there a (by rw [q]; exact fun z => nomatch z))
  have cov : ∀ j a, fp' j a → (H a = none ∨ ∃ i, rs[j]? = some (DL.R.al i) ∧ fp i a) := fun j a z => by
    rcases (S.out j a z).2.2 with q | q
    · exact .inl q
    · exact .inr q.1
  have stay : ∀ i a, fp i a → (∀ j : Nat, rs[j]? ≠ some (DL.R.al i)) → H' a = H a ∧ F' a = none := fun i a z n => by
    obtain ⟨q1, q2, _⟩ := R.out i a z
    refine ⟨?_, ?_⟩
    · cases q : H a with
      | none => exact absurd q q2
      | some u =>
        refine S.keep a u q fun j y => ?_
        obtain ⟨i', e', y⟩ := y.1
        by_cases hi : i = i'
        · subst hi; exact n j e'
        · exact R.dis i i' a hi z y
    · cases q : F' a with
      | none => rfl
      | some u =>
        rcases S.new a (by rw [q]; exact fun z => nomatch z) with y | y
        · exact absurd q1 y
        · exact absurd y q2
  refine ⟨fun i a => (∃ j : Nat, rs[j]? = some (DL.R.al i) ∧ fp' j a) ∨ ((∀ j : Nat, rs[j]? ≠ some (DL.R.al i)) ∧ fp i a), ⟨?_, ?_, ?_, ?_, S.sub, R.ext.trans S.ext, ?_, ?_, fun a e => S.there a (R.there a e), R.lent⟩, fun fr f => ⟨fun a z => ⟨(f.out a z).1, (f.out a z).2.1, h0 a (f.out a z).2.2⟩, fun a i z y => ?_⟩⟩
  · rw [putArgs_length]; exact R.len
  · intro i m e
    by_cases hi : i ∈ alIx rs
    · have hj : ∃ j : Nat, rs[j]? = some (DL.R.al i) := by
        have gen : ∀ {rs : List DL.R}, i ∈ alIx rs → ∃ j : Nat, rs[j]? = some (DL.R.al i) := fun {rs} => by
          induction rs with
          | nil => intro z; cases z
          | cons r rs ih =>
            intro z
            cases r with
            | al k =>
              rcases List.mem_cons.mp z with z | z
              · subst z; exact ⟨0, rfl⟩
              · obtain ⟨j, q⟩ := ih z; exact ⟨j + 1, by simpa using q⟩
            | d x => obtain ⟨j, q⟩ := ih z; exact ⟨j + 1, by simpa using q⟩
            | raw x => obtain ⟨j, q⟩ := ih z; exact ⟨j + 1, by simpa using q⟩
        exact gen hi
      obtain ⟨j, hj⟩ := hj
      have hlt : i < Γ.length := by
        have := (List.getElem?_eq_some_iff.mp e).1
        rwa [putArgs_length] at this
      rw [putArgs_al nd hl hj hlt] at e
      have em : ms'[j]? = some m := Option.some.inj e
      obtain ⟨v, ev, ow⟩ := S.own j m (by rw [List.getElem?_map, em]; rfl)
      obtain ⟨v2, ev2, ok⟩ := Paired.at o hj
      rw [List.getElem?_map, ev2] at ev
      cases ev
      refine ⟨v, ok, ow.cong fun a => ⟨fun z => ?_, fun z => .inl ⟨j, hj, z⟩⟩⟩
      rcases z with ⟨k, hk, z⟩ | ⟨n, _⟩
      · rw [alIx_inj nd hj hk]; exact z
      · exact absurd hj (n j)
    · rw [putArgs_ne hi] at e
      obtain ⟨v, ev, ow⟩ := R.own i m e
      have n : ∀ j : Nat, rs[j]? ≠ some (DL.R.al i) := fun j z => hi (alIx_mem z)
      refine ⟨v, ev, (ow.mono S.ext fun a z => (stay i a z n).1).cong fun a => ⟨fun z => ?_, fun z => .inr ⟨n, z⟩⟩⟩
      rcases z with ⟨k, hk, z⟩ | ⟨_, z⟩
      · exact absurd hk (n k)
      · exact z
  · intro i i' a hii h1 h2
    rcases h1 with ⟨j, hj, h1⟩ | ⟨n1, h1⟩
    · rcases h2 with ⟨k, hk, h2⟩ | ⟨n2, h2⟩
      · by_cases hjk : j = k
        · subst hjk; rw [hj] at hk; cases hk; exact hii rfl
        · exact S.dis j k a hjk h1 h2
      · rcases cov j a h1 with q | ⟨i2, q, z⟩
        · exact (R.out i' a h2).2.1 q
        · rw [hj] at q; cases q; exact R.dis i i' a hii z h2
    · rcases h2 with ⟨k, hk, h2⟩ | ⟨n2, h2⟩
      · rcases cov k a h2 with q | ⟨i2, q, z⟩
        · exact (R.out i a h1).2.1 q
        · rw [hk] at q; cases q; exact R.dis i i' a hii h1 z
      · exact R.dis i i' a hii h1 h2
  · intro i a h
    rcases h with ⟨j, hj, h⟩ | ⟨n1, h⟩
    · refine ⟨(S.out j a h).1, (S.out j a h).2.1, ?_⟩
      rcases cov j a h with q | ⟨i2, q, z⟩
      · exact .inl (h0 a q)
      · rw [hj] at q; cases q; exact (R.out i a z).2.2
    · obtain ⟨q1, q2⟩ := stay i a h n1
      exact ⟨q2, by rw [q1]; exact (R.out i a h).2.1, (R.out i a h).2.2⟩
  · intro a h
    rcases S.new a h with z | z
    · exact R.new a z
    · exact .inr (h0 a z)
  · intro a u e n
    refine S.keep a u (R.keep a u e n) fun j y => ?_
    obtain ⟨i, _, y⟩ := y.1
    rcases (R.out i a y).2.2 with q | q
    · rw [q] at e; cases e
    · exact n i q
  · rcases y with ⟨j, hj, y⟩ | ⟨_, y⟩
    · exact f.dis a j z y
    · exact (R.out i a y).2.1 (f.out a z).2.2
end
section
variable {Y : DC} {Γ : G} {x : Str} {p pos : Pos} {e : Expr} {es : List Expr} {Q : M → G → Prop} {C : Ct} {j : Nat}
theorem dO_call (Df : Def Y.X.prog Y.X.w Y.X.K Y.X.mg Y.X.base x j C) (hr : Room j Y.X.A) (hg : Gl Y.X x) (he : starEach (e :: es) Y.X.env = (false, eval e Y.X.env) :: starEach es Y.X.env) (hpl : (backTo pos (starEach es Y.X.env)).any (·.1) = false)
    (h : dA Y (e :: es) Γ fun rs Γ1 => (alIx rs).Nodup ∧ ∃ ms, argsM Γ1 rs ms ∧ C ms (fun m ms' => Q m (putArgs Γ1 rs ms')) (fun ex ms' => Y.EX ex (putArgs Γ1 rs ms'))) (hdb : (x == ("__debug__" : Str)) = false := by decide) : dO Y (.Call (.Name x p) (e :: es) [] pos) Γ Q := by
  obtain ⟨f, fd, ps, gl, kp, hb, Fn⟩ := Df.ex
  refine ⟨fun B σ F H fp n R QV k => wE.of (pe_callG Fn hr Y.gd hg gl kp hb n.tk pa_w he hpl hdb) ?_⟩
  refine h.run B σ F H fp n R _ fun rs Γ1 vs F1 H1 fp1 q R1 s1 o1 => ?_
  obtain ⟨nd, ms, ha, c⟩ := q
  refine ⟨F1, ms, fpO fp1 rs ms, R1.args o1 ha nd, fun i a z => z.2, ?_⟩
  refine ⟨_, _, c, fun m ms' q v F' H' fp' fr S ow fre => ?_, fun ex ms' q cls d F' H' fp' S xo => ?_⟩
  · obtain ⟨fp2, R2, f2⟩ := R1.back o1 ha nd S
    exact k m _ v F' H' fp2 fr q R2 (s1.trans S.ext) ow (f2 fr fre)
  · obtain ⟨fp2, R2, f2⟩ := R1.back o1 ha nd S
    exact ⟨_, F', fp2, ex, q, R2, xo⟩
theorem dO_call0 (Df : Def Y.X.prog Y.X.w Y.X.K Y.X.mg Y.X.base x j C) (hr : Room j Y.X.A) (hg : Gl Y.X x) (h : C [] (fun m _ => Q m Γ) (fun ex _ => Y.EX ex Γ)) (hdb : (x == ("__debug__" : Str)) = false := by decide) : dO Y (.Call (.Name x p) [] [] pos) Γ Q := by
  obtain ⟨f, fd, ps, gl, kp, hb, Fn⟩ := Df.ex
  refine ⟨fun B σ F H fp n R QV k => wE.of (pe_callG0 Fn hr Y.gd hg gl kp hb n.tk hdb) ?_⟩
  have o1 : Paired (ROk Y.X.K F σ) [] [] := .nil
  have ha : argsM Γ [] [] := trivial
  have nd : (alIx []).Nodup := List.nodup_nil
  refine ⟨F, [], fpO fp [] [], R.args o1 ha nd, fun i a z => z.2, ?_⟩
  refine ⟨_, _, h, fun m ms' q v F' H' fp' fr S ow fre => ?_, fun ex ms' q cls d F' H' fp' S xo => ?_⟩
  · obtain ⟨fp2, R2, f2⟩ := R.back o1 ha nd S
    have e : putArgs Γ [] ms' = Γ := by cases ms' <;> rfl
    rw [e] at R2
    exact k m _ v F' H' fp2 fr q R2 S.ext ow (f2 fr fre)
  · obtain ⟨fp2, R2, f2⟩ := R.back o1 ha nd S
    have e : putArgs Γ [] ms' = Γ := by cases ms' <;> rfl
    rw [e] at R2
    exact ⟨_, F', fp2, ex, q, R2, xo⟩
end
end DL

set_option Elab.async false
set_option linter.all false
set_option maxRecDepth 100000
set_option maxHeartbeats 4000000
namespace DL
open PySem PySem.Spec PyProof.Rows L2

/-! ### exceptions -/
/-- what is known of an own exception class without own __init__ -/
structure ExcF (K : PySem.W.Frag) (mg : Str → Option Value) (x : Str) (C : Addr) : Prop where
  gl : mg x = some (.ref C)
  kp : PySem.W.keepIn K (.ref C) = true
  ex : PySem.W.excIn K C [.type "ValueError", .type "Exception", .type "BaseException", .type "object"] "ValueError.__new__" = true
  sb : PySem.W.subIn K (.ref C) (.type "BaseException") = some true
  ty : PySem.W.typeIn K (.ref C) = some (.type "type")
section
variable {Y : DC} {Γ : G} {D : DE} {x m n : Str} {C : Addr} {p p2 p3 pos pos' np : Pos} {j : Nat}
theorem dS_raise (hc : Y.X.calm = true) (f : ExcF Y.X.K Y.X.mg x C) (hg : Gl Y.X x) (q : Y.EX ⟨.ref C, []⟩ Γ) (hdb : (x == ("__debug__" : Str)) = false := by decide) :
    dS Y (.Raise (some (.Call (.Name x p) [.Constant (.str m) j p2] [] p3)) none pos) Γ D := by
  refine ⟨fun B σ F H fp n R DV k => wS.of (ps_raise hc n.tk (pmk_own PySem.F.excBase_ValueError f.ex f.gl f.kp (raises_own f.sb f.ty) hg hdb)) ?_⟩
  exact ⟨Γ, F, fp, ⟨.ref C, []⟩, q, R, rfl, .inl ⟨rfl, rfl⟩⟩
abbrev DC.tr (Y : DC) (pn : List (Addr × Obj)) (xe : Value → Shared → Prop) (EX : Ex → G → Prop) (po : PassesOwn (model Y.X.prog Y.X.w) Y.X.A Y.X.env xe) : DC :=
  { X := Y.X.tr pn xe, ln := Y.ln, EX := EX, hu := Y.hu, nd := Y.nd, gd := Y.gd, po := po }
abbrev DC.suite (Y : DC) (a : Addr) (pn : List (Addr × Obj)) : DC :=
  { X := Y.X.suite a pn, ln := Y.ln, EX := fun _ _ => False, hu := Y.hu, nd := Y.nd, gd := Y.gd, po := PassesOwn.never }
/-- what the clause makes of an exception -/
def catchAs (Y : DC) (c : Value) (i : Nat) (sts : List Stmt) (D : DE) : Ex → G → Prop := fun ex Γ =>
  ∃ b, PySem.W.exmOne Y.X.K ex.cls c = some b ∧ (b = true → ∀ (a : Addr) (oe : Obj) (pn : List (Addr × Obj)), (ex.at_ = [] → Zc ex.cls none oe) → (∃ vs, oe.data = .fields vs) →
    dSs (Y.suite a ((a, oe) :: pn)) sts (Γ.set i (some (.raw (.ref a)))) { nx := fun Γ' => D.nx (Γ'.set i none), rt := D.rt, bk := fun Γ' => D.bk (Γ'.set i none), ct := fun Γ' => D.ct (Γ'.set i none) }) ∧ (b = false → Y.EX ex Γ)
theorem Rel.drop {K : PySem.W.Frag} {B : Base} {Γ : G} {σ : L2.St} {F H : Hp} {fp : Nat → AS} (R : Rel K B Γ σ F H fp) (i : Nat) (hl : ∀ u, B.ls[i]? ≠ some (some u)) : Rel K B (Γ.set i none) (σ.set i none) F H fp where
  len := by rw [List.length_set, List.length_set]; exact R.len
  own := fun k m e => by
    by_cases hk : i = k
    · subst hk
      by_cases hv : i < Γ.length
      · rw [List.getElem?_set_self hv] at e; cases e
      · rw [List.getElem?_eq_none (by simpa using hv)] at e; cases e
    · rw [List.getElem?_set_ne hk] at e ⊢
      exact R.own k m e
  dis := R.dis
  out := R.out
  sub := R.sub
  ext := R.ext
  new := R.new
  keep := R.keep
  there := R.there
  lent := fun k v e => by
    by_cases hk : i = k
    · subst hk; exact absurd e (hl v)
    · rw [List.getElem?_set_ne hk]; exact R.lent k v e
theorem dS_tryAs {c : Value} {i : Nat} {body suite : List Stmt} {b₀ : Stmt} (hs : Y.X.stack = Y.X.env :: Y.X.outer) (hf : Y.X.env.frame = some Y.X.env.locals) (hi : Y.X.N[i]? = some n) (hln : Y.X.env.kindOf n = some .local) (hl : Y.ln i = false) (hc : Names Y.X x c)
    (h : ∀ (pn : List (Addr × Obj)) (xe : Value → Shared → Prop) (po : PassesOwn (model Y.X.prog Y.X.w) Y.X.A Y.X.env xe), dSs (Y.tr pn xe (catchAs Y c i (b₀ :: suite) D) po) body Γ D) :
    dS Y (.Try body [.ExceptHandler (some (.Name x np)) (some n) (b₀ :: suite) pos'] [] [] pos) Γ D := by
  refine ⟨fun B σ F H fp nn R DV k => wS.of (ps_try_as (tb := fun W D σ H => ∀ (pn : List (Addr × Obj)) (xe : Value → Shared → Prop), Takes (Y.X.tr pn xe) W → PassesOwn (model Y.X.prog Y.X.w) Y.X.A Y.X.env xe → wSs (Y.X.tr pn xe) body D σ H)
    (ts := fun a cls d D σ H => ∀ (oe : Obj) (pn : List (Addr × Obj)), Zc cls d oe → (∃ vs, oe.data = .fields vs) → wSs (Y.X.suite a ((a, oe) :: pn)) (b₀ :: suite) D σ H)
    hs hf Y.nd hi hln hc nn.tk (fun W pn xe tk po => ⟨fun pins s σ H D I h => h pn xe tk po pins s I⟩) (fun a oe cls d pn hz hv => ⟨fun pins s σ H D I h => h oe pn hz hv pins s I⟩)) ?_⟩
  intro pn xe tk po
  refine (h pn xe po).run B σ F H fp ⟨nn.ln, nn.lL, tk.imp fun cls d σ' H' ⟨Γ', F', fp', ex, ⟨b, hb, yes, no⟩, R', xo⟩ => ?_⟩ R DV ⟨k.nx, k.rt, k.bk, k.ct⟩
  obtain ⟨rfl, xo2⟩ := xo
  refine ⟨b, hb, fun z a na oe pn hz hv => ?_, fun z => ⟨Γ', F', fp', ex, no z, R', rfl, xo2⟩⟩
  have hz' : ex.at_ = [] → Zc ex.cls none oe := fun e => by
    rcases xo2 with ⟨_, q⟩ | ⟨q, _⟩
    · rw [q] at hz; exact hz
    · exact absurd e q
  have R2 : ∃ fp2, Rel Y.X.K B (Γ'.set i (some (.raw (.ref a)))) (σ'.set i (some (.ref a))) F' H' fp2 := by
    by_cases hi : i < Γ'.length
    · exact ⟨_, R'.set hi (.raw (fp := fun _ => False) fun _ z => z) (.none fun _ z => z) (nn.nl hl)⟩
    · rw [List.set_eq_of_length_le (by omega), List.set_eq_of_length_le (by have := R'.len; omega)]
      exact ⟨fp', R'⟩
  obtain ⟨fp2, R2⟩ := R2
  exact (yes z a oe pn hz' hv).run B _ F' H' fp2 ⟨nn.ln, nn.lL, (takes0 (X := Y.X.suite a ((a, oe) :: pn))).imp fun c d σ H ⟨_, _, _, _, z, _⟩ => z⟩ R2 _
    ⟨fun Γ2 σ2 F2 H2 fp3 q R3 => k.nx _ _ F2 H2 fp3 q (R3.drop i (nn.nl hl)), k.rt, fun Γ2 σ2 F2 H2 fp3 q R3 => k.bk _ _ F2 H2 fp3 q (R3.drop i (nn.nl hl)), fun Γ2 σ2 F2 H2 fp3 q R3 => k.ct _ _ F2 H2 fp3 q (R3.drop i (nn.nl hl))⟩
end

/-! ### isinstance -/
def IsiOk (X : Cx) (rs : List R) (b : Bool) : Prop := ∀ (σ : L2.St) (F H : Hp) (vs : List V), Same F H → Paired (ROk X.K F σ) rs vs → ∃ r, CallR X (.builtin "isinstance") r ∧ ∀ Q : VK, Q (.bl b) H → r vs H Q
section
variable {Y : DC} {Γ : G} {p pos tp : Pos} {e e2 : Expr} {es : List Expr} {Q : M → G → Prop} {n1 : Nat}
theorem dO_isi (hg : Gl Y.X "isinstance") (hm : Y.X.mg "isinstance" = none) (he : starEach [e, e2] Y.X.env = (false, eval e Y.X.env) :: starEach [e2] Y.X.env) (hpl : (backTo pos (starEach [e2] Y.X.env)).any (·.1) = false)
    (h : dA Y [e, e2] Γ fun rs Γ' => ∃ b, IsiOk Y.X rs b ∧ Q (.d (.bool b)) Γ') : dO Y (.Call (.Name "isinstance" p) [e, e2] [] pos) Γ Q := by
  refine ⟨fun B σ F H fp n R QV k => wE.of (pe_callB (id := "isinstance") call_w hg hm (by decide +kernel) pa_w (by decide) (by decide) he hpl) ?_⟩
  refine h.run B σ F H fp n R _ fun rs Γ1 vs F1 H1 fp1 q R1 s1 o1 => ?_
  obtain ⟨b, io, q⟩ := q
  obtain ⟨r, hr, hq⟩ := io σ F1 H1 vs R1.sub o1
  exact ⟨r, hr, hq _ (k _ Γ1 _ F1 H1 fp1 (fun _ => False) q R1 s1 (.d (.bl b) fun _ z => z) (.none fun _ z => z))⟩
/-- isinstance(x, (A, B, ..)) -/
def IsiTOk (X : Cx) (r : R) (rs : List R) (b : Bool) : Prop := ∀ (σ : L2.St) (F H : Hp) (v : V) (vs : List V), Same F H → ROk X.K F σ r v → Paired (ROk X.K F σ) rs vs → rs.length ≤ sizeLine ∧ ∀ p, H p = none → ∃ r, CallR X (.builtin "isinstance") r ∧ ∀ Q : VK, Q (.bl b) (upd H p (.tup vs)) → r [v, .ref p] (upd H p (.tup vs)) Q
theorem dO_isiT (hg : Gl Y.X "isinstance") (hm : Y.X.mg "isinstance" = none) (he : starEach [e, .Tuple es n1 tp] Y.X.env = (false, eval e Y.X.env) :: starEach [.Tuple es n1 tp] Y.X.env) (hpl : (backTo pos (starEach [.Tuple es n1 tp] Y.X.env)).any (·.1) = false)
    (he2 : starEach [.Tuple es n1 tp] Y.X.env = (false, eval (.Tuple es n1 tp) Y.X.env) :: starEach [] Y.X.env)
    (h : dE Y e Γ fun r Γ1 => dA Y es Γ1 fun rs Γ' => ∃ b, IsiTOk Y.X r rs b ∧ Q (.d (.bool b)) Γ') : dO Y (.Call (.Name "isinstance" p) [e, .Tuple es n1 tp] [] pos) Γ Q := by
  refine ⟨fun B σ F H fp n R QV k => wE.of (pe_callB (id := "isinstance") call_w hg hm (by decide +kernel) (pa_cons pe_w (pa_cons (pe_tup pa_w) pa_nil he2) he) (by decide) (by decide) he hpl) ?_⟩
  refine h.run B σ F H fp n R _ fun r Γ1 v F1 H1 fp1 q R1 s1 o1 => ?_
  refine q.run B σ F1 H1 fp1 n R1 _ fun rs Γ2 vs F2 H2 fp2 q R2 s2 o2 => ?_
  obtain ⟨b, io, q⟩ := q
  obtain ⟨hl, io⟩ := io σ F2 H2 v vs R2.sub (o1.up s2) o2
  refine ⟨by rw [← o2.length]; exact hl, fun tp np => ?_⟩
  obtain ⟨r', hr, hq⟩ := io tp np
  have g : Grow F2 H2 F2 (upd H2 tp (.tup vs)) := ⟨Same.refl _, same_upd np, fun a o e => same_upd np a o (R2.sub a o e), fun a h => .inl h⟩
  exact ⟨r', hr, hq _ (k _ Γ2 _ F2 _ fp2 (fun _ => False) q (R2.grow g) (s1.trans s2) (.d (.bl b) fun _ z => z) (.none fun _ z => z))⟩
def tyNm : PyData → String
  | .none => "NoneType"
  | .bool _ => "bool"
  | .int _ => "int"
  | .str _ => "str"
  | .list _ => "list"
  | .tuple _ => "tuple"
  | .dict _ => "dict"
theorem Dq.ty {K : PySem.W.Frag} {H : Hp} {v : V} {x : PyData} (h : Dq K H v x) : TyX K H v (.type (tyNm x)) := by
  cases h with
  | non => exact .base .non
  | bl b => exact .base (.bl b)
  | int i => exact .base (.int i)
  | str s => exact .base (.str s)
  | lst h _ => exact .base (.lst h)
  | tup h _ =>
    rcases h with (h | ⟨o, h⟩) | ⟨o, its, n, h, c, _⟩
    · exact .base (.tup h)
    · exact .fTuple h
    · exact .kTuple h c
theorem isi_data {X : Cx} {x : PyData} {T : String} {b : Bool} (h : kitB (tyNm x) T = some b) : IsiOk X [.d x, .raw (.ty T)] b := by
  intro σ F H vs s o
  cases o with
  | cons o1 o =>
    cases o with
    | cons o2 o =>
      cases o
      have o2 : _ = V.ty T := o2
      subst o2
      exact ⟨_, call_isi, fun Q q => ⟨_, _, _, _, b, rfl, .ty T, (Dq.up (show Dq X.K F _ x from o1) s).ty, kit_ty h, q⟩⟩
theorem tyNm_tuple (x : PyData) : kitB (tyNm x) "tuple" = some (match x with | .tuple _ => true | _ => false) := by
  cases x
  · exact (show kitB "NoneType" "tuple" = some false by decide +kernel)
  · exact (show kitB "bool" "tuple" = some false by decide +kernel)
  · exact (show kitB "int" "tuple" = some false by decide +kernel)
  · exact (show kitB "str" "tuple" = some false by decide +kernel)
  · exact (show kitB "list" "tuple" = some false by decide +kernel)
  · exact (show kitB "tuple" "tuple" = some true by decide +kernel)
  · exact (show kitB "dict" "tuple" = some false by decide +kernel)
theorem tyNm_str (x : PyData) : kitB (tyNm x) "str" = some (match x with | .str _ => true | _ => false) := by
  cases x
  · exact (show kitB "NoneType" "str" = some false by decide +kernel)
  · exact (show kitB "bool" "str" = some false by decide +kernel)
  · exact (show kitB "int" "str" = some false by decide +kernel)
  · exact (show kitB "str" "str" = some true by decide +kernel)
  · exact (show kitB "list" "str" = some false by decide +kernel)
  · exact (show kitB "tuple" "str" = some false by decide +kernel)
  · exact (show kitB "dict" "str" = some false by decide +kernel)
/-- a caught exception -/
theorem isi_exc {X : Cx} {a D C : Addr} {oe : Obj} {pn : List (Addr × Obj)} {b : Bool} (c : ExcC X.K D) (hz : Zc (.ref D) none oe) (hv : ∃ vs, oe.data = .fields vs) (h : PySem.W.kitOne X.K (.ref D) (.ref C) = some b) : IsiOk (X.suite a ((a, oe) :: pn)) [.raw (.ref a), .raw (.ref C)] b := by
  intro σ F H vs s o
  cases o with
  | cons o1 o =>
    cases o with
    | cons o2 o =>
      cases o
      have o1 : _ = V.ref a := o1
      have o2 : _ = V.ref C := o2
      subst o1 o2
      exact ⟨_, call_isE c hz hv, fun Q q => ⟨_, .ref C, b, rfl, fun u r => r, h, q⟩⟩
theorem call_isET {X : Cx} {a D : Addr} {oe : Obj} {pn : List (Addr × Obj)} (C : ExcC X.K D) (hz : Zc (.ref D) none oe) (hf : ∃ vs, oe.data = .fields vs) : CallR (X.suite a ((a, oe) :: pn)) (.builtin "isinstance")
    (fun xs H Q => ∃ (tp : Addr) (cs : List V) (us : List Value) (b : Bool), xs = [.ref a, .ref tp] ∧ H tp = some (.tup cs) ∧ Paired ClsV cs us ∧ PySem.W.kitAny X.K (.ref D) us = some b ∧ Q (.bl b) H) := by
  rintro pins s σ H xs us Q I r ⟨tp, cs, ws, b, rfl, hT, kk, e, q⟩
  obtain ⟨u1, u2, rfl, r1, r2⟩ := vals2 r
  have e1 : u1 = Value.ref a := r1
  have e2 : u2 = Value.ref tp := r2
  subst e1 e2
  have J : PySem.W.InstAt s.heap a oe D none := by
    have hget := (I.pin (a, oe) (List.mem_append.mpr (.inl List.mem_cons_self))).1
    obtain ⟨vs, hv⟩ := hf
    obtain ⟨c1, c2, c3, c4⟩ := oe
    obtain ⟨h1, h2⟩ := hz
    dsimp only at h1 h2 hv
    subst h1 h2 hv
    exact ⟨hget, rfl, rfl, trivial⟩
  have hx : (Value.ref a) ≠ .builtin "__main__.__loader__#opaque" := fun z => nomatch z
  obtain ⟨_, its, rv, ob, h1, h2, nn, h3⟩ : ObjOk X.prog X.w H s.heap tp (.tup cs) := I.hok tp _ hT
  cases ClsV.all kk rv
  obtain ⟨c1, c2, c3, c4⟩ := ob
  simp only at h2 h3
  subst h2 h3
  exact PySem.W.kia_tup (PySem.W.handS_kitx_exc C.hg C.hk C.hs C.hd C.ha C.hn C.ht C.hm) I.kIn J h1 e hx fun tk => ⟨V.bl b, H, I.tok tk, rfl, q⟩
theorem isi_excT {X : Cx} {a D : Addr} {oe : Obj} {pn : List (Addr × Obj)} {b : Bool} {cs : List Addr} (c : ExcC X.K D) (hz : Zc (.ref D) none oe) (hv : ∃ vs, oe.data = .fields vs) (hl : cs.length ≤ sizeLine) (h : PySem.W.kitAny X.K (.ref D) (cs.map Value.ref) = some b) :
    IsiTOk (X.suite a ((a, oe) :: pn)) (.raw (.ref a)) (cs.map fun C => .raw (.ref C)) b := by
  intro σ F H v vs s o1 o
  have o1 : v = V.ref a := o1
  subst o1
  have ev : vs = cs.map V.ref := by
    have gen : ∀ {cs : List Addr} {vs : List V}, Paired (ROk (X.suite a ((a, oe) :: pn)).K F σ) (cs.map fun C => .raw (.ref C)) vs → vs = cs.map V.ref := fun {cs} => by
      induction cs with
      | nil => intro vs o; cases o; rfl
      | cons c cs ih =>
        intro vs o
        cases o with
        | cons o1 o =>
          have o1 : _ = V.ref c := o1
          rw [o1, ih o]; rfl
    exact gen o
  subst ev
  have pc : Paired ClsV (cs.map V.ref) (cs.map Value.ref) := by
    clear o h hl
    induction cs with
    | nil => exact .nil
    | cons c cs ih => exact .cons (.own c) ih
  exact ⟨by rw [List.length_map]; exact hl, fun p np => ⟨_, call_isET c hz hv, fun Q q => ⟨p, _, _, b, rfl, upd_same, pc, h, q⟩⟩⟩
end
end DL

set_option Elab.async false
set_option linter.all false
set_option maxRecDepth 100000
set_option maxHeartbeats 4000000
namespace DL
open PySem PySem.Spec PyProof.Rows L2

/-! ### the law's end -/
/-- what the law's own def promises -/
def cLaw : Ct := fun ms Q _ => ∃ ns : List Int, ms = [.scr ns] ∧ ns.length ≤ 63 ∧ Q (.d (.bool true)) ms
theorem low_law {K : PySem.W.Frag} {H : Hp} {a : Addr} {ns : List Int} (hS : SqL K H a (ns.map V.int)) (hl : ns.length ≤ 63) : low K cLaw [.ref a] H (fun v _ => v = .bl true) (fun _ _ _ => False) := by
  refine ⟨H, [.scr ns], fun _ _ => False, ⟨rfl, fun i m e => ?_, fun _ _ _ _ z => z.elim, fun _ _ z => z.elim, Same.refl _, Same.refl _, fun _ h => .inl h, fun _ _ e _ => e, fun _ h => h, fun i v e => ?_⟩, fun _ _ z => z.elim, fun m _ => m = .d (.bool true), fun _ _ => False, ⟨ns, rfl, hl, rfl⟩, fun m ms' e v F' H' fp' fr _ o _ => ?_, fun _ _ z => z.elim⟩
  · match i, e with
    | 0, e =>
      have e : some (some (M.scr ns)) = some (some m) := e
      cases e
      exact ⟨_, rfl, .scr hS fun _ z => z⟩
  · obtain ⟨m, e1, e2, _⟩ := lsOf_get e
    match i, e1 with
    | 0, e1 =>
      have e1 : some (M.scr ns) = some m := e1
      cases e1
      cases e2
  · subst e
    cases o with
    | d h _ => exact h.blI
section
variable {P : Program} {w : World} {K : PySem.W.Frag} {mg mb : Str → Option Value} {k : Nat} {fa a : Addr} {s : Shared} {vs : List Value} {ns : List Int}
/-- the call by the claim's own caller, where its guards are known -/
theorem law_callG (kin : K.In s.heap) (glob : s.heap.Ns mainGlobals mg) (blt : s.heap.Ns builtinsNs mb) (bltB : ∀ x : Str, x ≠ "__name__" → mb x = bootBuiltins x) (few : s.heap.NoLimit) (nogen : s.gens = #[])
    (obj : s.heap.get? a = some { cls := .type "list", data := .seq vs.toArray }) (areInts : IntsAre vs ns) (hl : ns.length ≤ 63) (room : Room k callerA) (hfa : mg "law" = some (.ref fa))
    (D : ∀ base : Heap, K.In base → base.Ns mainGlobals mg → Def P w K mg base "law" k cLaw) :
    codeAny (model P w) callerA (.call (.ref fa) ⟨[.ref a], []⟩) (fun r s' => r = .ok (.ret (.bool true)) ∧ OldK s.heap s'.heap ∧ s'.os = s.os ∧ AllBare s'.gens) s := by
  have rv := vals_ints areInts
  have small : ns.length ≤ sizeLine := Nat.le_trans hl (by decide)
  -- with an abstract heap that knows the script at most
  have run : ∀ H : Hp, (∀ b o, H b = some o → b = a ∧ ∃ ob xs, o = .frz ob (.lst xs)) → SqL K H a (ns.map V.int) → HOk P w H s.heap → (H a ≠ none → K.lookup a = none) →
      codeAny (model P w) callerA (.call (.ref fa) ⟨[.ref a], []⟩) (fun r s' => r = .ok (.ret (.bool true)) ∧ OldK s.heap s'.heap ∧ s'.os = s.os ∧ AllBare s'.gens) s := fun H only sq hok far => by
    have free : ∀ {b : Addr} {o : Obj}, s.heap.get? b = some o → (∃ es ep, o.data = .dict es ep) → H b = none := fun {b o} e ⟨es, ep, d⟩ => by
      cases q : H b with
      | none => rfl
      | some u =>
        have := (only b u q).1
        subst this
        rw [obj] at e
        cases e
        cases (show Data.seq vs.toArray _ = Data.dict es ep from d)
    have ns' : ∀ {b : Addr} {m : Str → Option Value}, s.heap.Ns b m → (hidT s.heap H).Ns b m := fun {b m} ⟨o, es, ep, e, d, r⟩ => ⟨o, es, ep, hidT_get e (free e ⟨es, ep, d⟩), d, r⟩
    have kb : K.In (hidT s.heap H) := fun b o e => by
      refine hidT_get (kin b o e) ?_
      cases q : H b with
      | none => rfl
      | some u =>
        have := (only b u q).1
        subst this
        have := far (by rw [q]; exact fun z => nomatch z)
        rw [this] at e
        cases e
    obtain ⟨ml, l1, l2⟩ := few
    have env : Env0 P w K mg (hidT s.heap H) callerA [] s H :=
      { frames := rfl, mod := ⟨kb, ns' glob, ⟨mb, ns' blt, bltB⟩, ⟨ml, ns' l1, l2⟩⟩, bs := fun b o e => of_hidT e, bsz := Nat.le_of_eq (hidT_size s.heap H), funs := trivial, frf := (fun b hb => absurd hb (by simp [frs])), hok := hok, bare := .of_eq nogen }
    obtain ⟨f, fd, ps, gl, _, hb, Fn⟩ := (D _ kb (ns' glob)).ex
    rw [hfa] at gl
    cases gl
    have want := low_law (K := K) sq hl
    have n1 : 1 = ps.length := Fn.len _ _ _ _ want
    have bind : BindsTo s fd ⟨[.ref a], []⟩ (ps.zip [.ref a]) := by simpa using hb s [.ref a] kin (by simpa using n1)
    refine codeAny_mono (Fn.go callerA [] s H ⟨[.ref a], []⟩ [.ref a] [.ref a] _ _ room rfl env bind (.cons rfl .nil) want) fun r s' done => ?_
    match r, done with
    | .error _, done =>
      obtain ⟨_, _, _, _, _, _, _, _, _, _, _, _, z⟩ := done
      exact z.elim
    | .ok .next, done => exact False.elim done
    | .ok .brk, done => exact False.elim done
    | .ok .cont, done => exact False.elim done
    | .ok (.ret u), ⟨v, H', os, bare, un, hok', r, q⟩ =>
      have q : v = V.bl true := q
      subst q
      have r : u = Value.bool true := r
      subst r
      refine ⟨rfl, OldK.of_keep fun b o e => ?_, os, bare⟩
      cases q : H b with
      | none => exact un.keep b o e q (fun z => nomatch z) (fun z => nomatch z)
      | some u =>
        obtain ⟨_, ob, xs, rfl⟩ := only b u q
        have old := (hok b _ q).1
        have new := (hok' b _ (un.frzs b ob _ q)).1
        rw [e] at old
        cases old
        exact new
  cases kl : K.lookup a with
  | some o =>
    have e := kin a o kl
    rw [obj] at e
    cases e
    exact run (fun _ => none) (fun b o z => nomatch z) (.inr ⟨_, vs.toArray, _, kl, rfl, rfl, rfl, by rw [List.size_toArray, areInts.length]; exact small, by simpa using rv⟩) (fun b u z => nomatch z) (fun z => absurd rfl z)
  | none =>
    have at_ : ∀ {b : Addr} {o : HO}, (if b = a then some (HO.frz { cls := .type "list", data := .seq vs.toArray } (.lst (ns.map V.int))) else none) = some o → b = a ∧ o = HO.frz { cls := .type "list", data := .seq vs.toArray } (.lst (ns.map V.int)) := fun {b o} z => by
      by_cases hb : b = a
      · rw [if_pos hb] at z; cases z; exact ⟨hb, rfl⟩
      · rw [if_neg hb] at z; cases z
    refine run (fun b => if b = a then some (.frz { cls := .type "list", data := .seq vs.toArray } (.lst (ns.map V.int))) else none) (fun b o z => ?_) (.inl (.inr ⟨_, if_pos rfl⟩)) (fun b u z => ?_) fun _ => kl
    · obtain ⟨h1, h2⟩ := at_ z
      exact ⟨h1, _, _, h2⟩
    · obtain ⟨rfl, rfl⟩ := at_ z
      exact ⟨obj, by rw [List.length_map]; exact small, vs, _, rv, obj⟩
end
/-- the goal that k_head leaves -/
theorem walk_ofG {l : PySem.W.OpenLaw} {k : Nat} {q : Program} {loose : List Str} {XP : (Str → Option Value) → Heap → Prop} {YP : World → Heap → Prop} {d : DefRec} {K : Params → PySem.W.Frag}
    (hn : l.most = some 63) (hdf : d.params.defaults = []) (hname : d.name = "law") (hr : Room k callerA) (hY : ∀ (w : World) (h : Heap), YP w h → (K w.params).In h)
    (F : ∀ (w : World) (mg : Str → Option Value) (h : Heap), (K w.params).In h → h.Ns mainGlobals mg → ∀ base : Heap, (K w.params).In base → base.Ns mainGlobals mg → Def l.prog w (K w.params) mg base "law" k cLaw) :
    PySem.W.WalkO q loose XP YP l.row.toRowW d [] (fun f vs => PySem.call f vs) := by
  refine Att.attach_call hn hdf ?_
  intro w s₀ s₁ mg mb fa o pm cd doc a vs ns G Y ho hd hcd hmg obj areInts len nogen
  have kin := hY w _ Y
  rw [hname] at hmg
  exact law_callG kin G.T.g G.T.b G.T.builtins G.T.nolimit nogen obj areInts len hr hmg (F w mg _ kin G.T.g)
end DL

set_option Elab.async false
set_option linter.all false
set_option maxRecDepth 100000
set_option maxHeartbeats 4000000
namespace DL
open PySem PySem.Spec PyProof.Rows L2

/-! ### forms for the walk -/
theorem ix_of {N : List Str} {x : Str} {i : Nat} (h : N.findIdx? (fun y => decide (y = x)) = some i) : N[i]? = some x := by
  obtain ⟨hl, e, _⟩ := List.findIdx?_eq_some_iff_getElem.mp h
  rw [List.getElem?_eq_getElem hl, of_decide_eq_true e]
section
variable {Y : DC} {Γ : G} {D : DE} {x : Str} {i j : Nat} {m : M} {p pos : Pos} {e : Expr} {es : List Expr}
theorem dE_nm {Q : R → G → Prop} (hN : Y.X.N.findIdx? (fun y => decide (y = x)) = some i) (hv : Vis Y.X.env.scope x) (hm : Γ[i]? = some (some m)) (q : Q (rOf i m) Γ)
    (hd : (x == ("__debug__" : Str)) = false := by decide) (hcd : (x == ("__classdict__" : Str)) = false := by decide) : dE Y (.Name x pos) Γ Q := dE_name (ix_of hN) hv hm q hd hcd
/-- what a slot owns goes out of it -/
theorem dO_mv {Q : M → G → Prop} (hN : Y.X.N.findIdx? (fun y => decide (y = x)) = some i) (hv : Vis Y.X.env.scope x) (hm : Γ[i]? = some (some m)) (hl : Y.ln i = false) (q : Q m (Γ.set i none))
    (hd : (x == ("__debug__" : Str)) = false := by decide) (hcd : (x == ("__classdict__" : Str)) = false := by decide) : dO Y (.Name x pos) Γ Q := by
  refine ⟨fun B σ F H fp n R QV k => wE.of (pe_var (ix_of hN) hv hd hcd) ?_⟩
  obtain ⟨v, ev, o⟩ := R.own i m hm
  refine ⟨v, ev, ?_⟩
  have hi : i < Γ.length := (List.getElem?_eq_some_iff.mp hm).1
  have R1 : Rel Y.X.K B (Γ.set i Option.none) σ F H (fun j => if j = i then (fun _ => False) else fp j) := {
    len := by rw [List.length_set]; exact R.len
    own := fun j m' e' => by
      by_cases hj : j = i
      · subst hj
        rw [List.getElem?_set_self hi] at e'
        cases e'
      · rw [List.getElem?_set_ne (Ne.symm hj)] at e'
        obtain ⟨v', q1, q2⟩ := R.own j m' e'
        exact ⟨v', q1, by rw [if_neg hj]; exact q2⟩
    dis := fun j k a hjk h1 h2 => by
      by_cases hj : j = i
      · rw [if_pos hj] at h1; exact h1
      · by_cases hk : k = i
        · rw [if_pos hk] at h2; exact h2
        · rw [if_neg hj] at h1; rw [if_neg hk] at h2; exact R.dis j k a hjk h1 h2
    out := fun j a h => by
      by_cases hj : j = i
      · rw [if_pos hj] at h; exact h.elim
      · rw [if_neg hj] at h; exact R.out j a h
    sub := R.sub, ext := R.ext, new := R.new, keep := R.keep, there := R.there, lent := R.lent }
  refine k m _ v F H _ (fp i) q R1 (Same.refl _) o ⟨fun a z => ⟨(R.out i a z).1, (R.out i a z).2.1, ?_⟩, fun a j z y => ?_⟩
  · rcases (R.out i a z).2.2 with h | h
    · exact h
    · rw [n.lL i a h] at hl; cases hl
  · by_cases hj : j = i
    · rw [if_pos hj] at y; exact y
    · rw [if_neg hj] at y; exact R.dis i j a (Ne.symm hj) z y
@[reducible] def argF (Γ : G) : R → Option M
  | .d x => some (.d x)
  | .raw v => some (.raw v)
  | .al i => match Γ[i]? with
    | some (some m) => some m
    | _ => none
@[reducible] def argsF (Γ : G) : List R → Option (List M)
  | [] => some []
  | r :: rs => match argF Γ r, argsF Γ rs with
    | some m, some ms => some (m :: ms)
    | _, _ => none
theorem argsF_M {Γ : G} : ∀ {rs : List R} {ms : List M}, argsF Γ rs = some ms → argsM Γ rs ms
  | [], ms, h => by
    cases (Option.some.inj h)
    trivial
  | r :: rs, ms, h => by
    unfold argsF at h
    split at h
    · rename_i m ms' e1 e2
      cases (Option.some.inj h)
      cases r with
      | d x => cases (Option.some.inj e1); exact ⟨rfl, argsF_M e2⟩
      | raw x => cases (Option.some.inj e1); exact ⟨rfl, argsF_M e2⟩
      | al i =>
        refine ⟨?_, argsF_M e2⟩
        unfold argF at e1
        simp only at e1
        split at e1
        · rename_i m0 e3
          cases e1
          exact e3
        · cases e1
    · cases h
theorem dO_fn {Q : M → G → Prop} {C : Ct} (Df : Def Y.X.prog Y.X.w Y.X.K Y.X.mg Y.X.base x j C) (hr : Room j Y.X.A) (hg : Gl Y.X x) (he : starEach (e :: es) Y.X.env = (false, eval e Y.X.env) :: starEach es Y.X.env) (hpl : (backTo pos (starEach es Y.X.env)).any (·.1) = false)
    (h : dA Y (e :: es) Γ fun rs Γ1 => (alIx rs).Nodup ∧ ∃ ms, argsF Γ1 rs = some ms ∧ C ms (fun m ms' => Q m (putArgs Γ1 rs ms')) (fun ex ms' => Y.EX ex (putArgs Γ1 rs ms'))) (hdb : (x == ("__debug__" : Str)) = false := by decide) : dO Y (.Call (.Name x p) (e :: es) [] pos) Γ Q :=
  dO_call Df hr hg he hpl ⟨fun B σ F H fp n R QV k => h.run B σ F H fp n R QV fun rs Γ' vs F' H' fp' ⟨q1, ms, q2, q3⟩ => k rs Γ' vs F' H' fp' ⟨q1, ms, argsF_M q2, q3⟩⟩ hdb
theorem dS_st {p : Pos} (hi : Y.X.N.findIdx? (fun y => decide (y = x)) = some i) (hx : Loc Y.X.env.scope x) (hl : Y.ln i = false) (h : dO Y e Γ fun m Γ' => D.nx (Γ'.set i (some m)))
    (hs : swapsWith e (some (.Name x p)) pos.line Y.X.env = pure false) (hf : Y.X.fn x = true ∨ Y.X.env.scope.names.lookup x = some .local) : dS Y (.Assign [.Name x p] e pos) Γ D := dS_set (ix_of hi) hx hl h hs hf
theorem dG_nm {T : List Nat} {Q : G → Prop} {y : PyData} (hi : Y.X.N.findIdx? (fun y => decide (y = x)) = some i) (hx : Loc Y.X.env.scope x) (hl : Y.ln i = false) (hT : i ∈ T) (hf : Y.X.fn x = true ∨ Y.X.env.scope.names.lookup x = some .local) (q : Q (Γ.set i (some (.d y)))) : dG Y (.Name x pos) T y Γ Q := dG_name (ix_of hi) hx hl hT hf q
theorem ixR_al {Γ : G} {i : Nat} {ms : List M} {n : Int} {y : PyData} {k : PyData → Prop} (e : Γ[i]? = some (some (.lst ms))) (a : atI ms n = some (.d y)) (h : k y) : onD (.d (.int n)) fun j => ixR Γ (.al i) j k := ⟨ms, n, y, e, rfl, a, h⟩
theorem ixR_t {xs : List PyData} {n : Int} {y : PyData} {k : PyData → Prop} (a : atI xs n = some y) (h : k y) : onD (.d (.int n)) fun j => ixQ (.tuple xs) j k := ⟨y, a, h⟩
theorem ixR_l {xs : List PyData} {n : Int} {y : PyData} {k : PyData → Prop} (a : atI xs n = some y) (h : k y) : onD (.d (.int n)) fun j => ixQ (.list xs) j k := ⟨y, a, h⟩
theorem ixR_s {z : Str} {n : Int} {c : Nat} {k : PyData → Prop} (hz : z.length ≤ sizeLine) (a : atI z.cps.toList n = some c) (h : k (.str ⟨#[c]⟩)) : onD (.d (.int n)) fun j => ixQ (.str z) j k := ⟨hz, c, a, h⟩
theorem atI_map {α β : Type} (f : α → β) {xs : List α} {n : Int} (h0 : 0 ≤ n) (h1 : n < xs.length) : ∃ x, x ∈ xs ∧ xs[n.toNat]? = some x ∧ atI (xs.map f) n = some (f x) := by
  have h2 : n.toNat < xs.length := by omega
  refine ⟨xs[n.toNat], List.getElem_mem h2, List.getElem?_eq_getElem h2, ?_⟩
  have q : atI (xs.map f) ((n.toNat : Nat) : Int) = some (f xs[n.toNat]) := atI_nat (by rw [List.getElem?_map, List.getElem?_eq_getElem h2]; rfl)
  rwa [Int.toNat_of_nonneg h0] at q
theorem atI_mem {α : Type} {xs : List α} {n : Int} (h0 : 0 ≤ n) (h1 : n < xs.length) : ∃ x, x ∈ xs ∧ xs[n.toNat]? = some x ∧ atI xs n = some x := by
  have h2 : n.toNat < xs.length := by omega
  refine ⟨xs[n.toNat], List.getElem_mem h2, List.getElem?_eq_getElem h2, ?_⟩
  have q : atI xs ((n.toNat : Nat) : Int) = some xs[n.toNat] := atI_nat (List.getElem?_eq_getElem h2)
  rwa [Int.toNat_of_nonneg h0] at q
theorem cdiv_small {i j : Int} (h : 0 < j) (h2 : j < 1073741824) : CDivW i j := wide_div (b := 30) h (by omega) (by decide) (by decide)
theorem cmul_small {i j : Int} (h1 : -(2 ^ 64) < i) (h2 : i < 2 ^ 64) (h3 : -(2 ^ 64) < j) (h4 : j < 2 ^ 64) : CMulW i j := wide_mul (a := 64) (b := 64) (by omega) (by omega) (by decide) (by decide) (by decide)
/-- a test's two ways -/
theorem ite_d {c A B : Prop} [Decidable c] (h1 : c → A) (h2 : ¬ c → B) : if decide c = true then A else B := by
  by_cases h : c
  · rw [decide_eq_true h, if_pos rfl]; exact h1 h
  · rw [decide_eq_false h, if_neg Bool.false_ne_true]; exact h2 h
theorem ite_nd {c A B : Prop} [Decidable c] (h1 : ¬ c → A) (h2 : c → B) : if (!decide c) = true then A else B := by
  by_cases h : c
  · rw [decide_eq_true h]; exact h2 h
  · rw [decide_eq_false h]; exact h1 h
theorem ite_b {c : Bool} {A B : Prop} (h1 : c = true → A) (h2 : c = false → B) : if c = true then A else B := by
  cases c
  · exact h2 rfl
  · exact h1 rfl
theorem ite_nb {c : Bool} {A B : Prop} (h1 : c = false → A) (h2 : c = true → B) : if (!c) = true then A else B := by
  cases c
  · exact h1 rfl
  · exact h2 rfl
end
end DL

set_option Elab.async false
set_option linter.all false
set_option maxRecDepth 100000
set_option maxHeartbeats 4000000
namespace DL
open PySem PySem.Spec PyProof.Rows L2
theorem nd1 (a : Nat) : [a].Nodup := .cons (fun _ h => nomatch h) .nil
theorem nd2 {a b : Nat} (h : a ≠ b) : [a, b].Nodup := .cons (fun c hc => by cases hc with | head => exact h | tail _ h => exact nomatch h) (nd1 b)
theorem nd3 {a b c : Nat} (h : a ≠ b) (h1 : a ≠ c) (h2 : b ≠ c) : [a, b, c].Nodup := .cons (fun d hd => by cases hd with | head => exact h | tail _ hd => exact (by cases hd with | head => exact h1 | tail _ h => exact nomatch h)) (nd2 h2)
theorem nd1' {α : Type} (a : α) : [a].Nodup := .cons (fun _ h => nomatch h) .nil
theorem onX_al {Γ : G} {i : Nat} {xs : List PyData} {k : Bool → PyData → Prop} (e : Γ[i]? = some (some (.lst (xs.map M.d)))) (h : k true (.list xs)) : onX Γ (.al i) k := ⟨_, _, e, Frz.list xs, h⟩
theorem onX_d {Γ : G} {x : PyData} {k : Bool → PyData → Prop} (h : k false x) : onX Γ (.d x) k := h
theorem flat_d {x : PyData} {q : Prop} (f : Flat x) (h : q) : flatB true (.d x) q := ⟨⟨_, rfl, f⟩, h⟩
/-- == and in: the data has whole texts and is not deep -/
theorem shp_of {x : PyData} (h : x.canLay0 = true) (hd : x.depth ≤ 64) : shp x := by
  show SeqAt.shaped x = true
  unfold SeqAt.shaped
  rw [h, Bool.true_and]
  exact decide_eq_true hd
theorem canLay_all : ∀ {xs : List PyData}, (∀ x ∈ xs, x.canLay0 = true) → PyData.canLayAll0 xs = true
  | [], _ => by rw [PyData.canLayAll0]
  | x :: xs, h => by rw [PyData.canLayAll0, h x (List.mem_cons_self), canLay_all fun y hy => h y (List.mem_cons_of_mem _ hy)]; rfl
theorem depth_all {n : Nat} : ∀ {xs : List PyData}, (∀ x ∈ xs, x.depth ≤ n) → PyData.depthAll xs ≤ n
  | [], _ => by rw [PyData.depthAll]; exact Nat.zero_le _
  | x :: xs, h => by rw [PyData.depthAll]; exact Nat.max_le.mpr ⟨h x (List.mem_cons_self), depth_all fun y hy => h y (List.mem_cons_of_mem _ hy)⟩
theorem strOk_of {s : Str} (h : ∀ c ∈ s.cps.toList, c < 1114112) : PyData.strOk s = true := by
  unfold PyData.strOk
  rw [← Array.all_toList]
  exact List.all_eq_true.mpr fun c hc => decide_eq_true (h c hc)
theorem shp_str {s : Str} (h : ∀ c ∈ s.cps.toList, c < 1114112) : shp (.str s) := shp_of (by rw [PyData.canLay0]; exact strOk_of h) (by rw [PyData.depth]; decide)
theorem shp_strs {ws : List Str} (h : ∀ w ∈ ws, ∀ c ∈ w.cps.toList, c < 1114112) : shp (.list (ws.map PyData.str)) ∧ shp (.tuple (ws.map PyData.str)) := by
  have a : PyData.canLayAll0 (ws.map PyData.str) = true := canLay_all fun x hx => by
    obtain ⟨w, hw, rfl⟩ := List.mem_map.mp hx
    rw [PyData.canLay0]
    exact strOk_of (h w hw)
  have b : PyData.depthAll (ws.map PyData.str) ≤ 0 := depth_all fun x hx => by
    obtain ⟨w, hw, rfl⟩ := List.mem_map.mp hx
    rw [PyData.depth]
    exact Nat.le_refl 0
  exact ⟨shp_of (by rw [PyData.canLay0]; exact a) (by rw [PyData.depth]; omega), shp_of (by rw [PyData.canLay0]; exact a) (by rw [PyData.depth]; omega)⟩
theorem eqv_str (a b : Str) : PyData.eqv (.str a) (.str b) = decide (a = b) := by
  rw [PyData.eqv, Bool.eq_iff_iff, beq_iff_eq, decide_eq_true_eq]
theorem eqv_int (a b : Int) : PyData.eqv (.int a) (.int b) = decide (a = b) := by
  rw [PyData.eqv, Bool.eq_iff_iff, beq_iff_eq, decide_eq_true_eq]
theorem any_strs (ws : List Str) (v : Str) : ((ws.map PyData.str).any fun z => PyData.eqv z (.str v)) = decide (v ∈ ws) := by
  rw [Bool.eq_iff_iff, List.any_eq_true, decide_eq_true_eq]
  constructor
  · rintro ⟨x, hx, h⟩
    obtain ⟨w, hw, rfl⟩ := List.mem_map.mp hx
    rw [eqv_str, decide_eq_true_eq] at h
    rw [← h]; exact hw
  · intro h
    exact ⟨.str v, List.mem_map.mpr ⟨v, h, rfl⟩, by rw [eqv_str]; exact decide_eq_true rfl⟩
theorem dC_lenL {X : Cx} {P : M → Prop} {xs : List PyData} (h : P (.d (.int xs.length))) : dC X (.builtin "len") [.list xs] P := dC_len h
theorem dC_lenT {X : Cx} {P : M → Prop} {xs : List PyData} (h : P (.d (.int xs.length))) : dC X (.builtin "len") [.tuple xs] P := dC_len h
theorem dC_lenS {X : Cx} {P : M → Prop} {z : Str} (hz : z.length ≤ sizeLine) (h : P (.d (.int z.length))) : dC X (.builtin "len") [.str z] P := dC_len ⟨hz, h⟩
theorem dC_intI {X : Cx} {P : M → Prop} {i : Int} (h : P (.d (.int i))) : dC X (.type "int") [.int i] P := dC_int h
theorem dC_intB {X : Cx} {P : M → Prop} {b : Bool} (h : P (.d (.int (if b then 1 else 0)))) : dC X (.type "int") [.bool b] P := dC_int h
theorem dC_tupT {X : Cx} {P : M → Prop} {xs : List PyData} (h : P (.d (.tuple xs))) : dC X (.type "tuple") [.tuple xs] P := dC_tuple h
theorem dC_tupL {X : Cx} {P : M → Prop} {xs : List PyData} (h : P (.d (.tuple xs))) : dC X (.type "tuple") [.list xs] P := dC_tuple h
theorem dC_lisT {X : Cx} {P : M → Prop} {xs : List PyData} (h : P (.lst (xs.map M.d))) : dC X (.type "list") [.tuple xs] P := dC_list h
theorem dC_lisL {X : Cx} {P : M → Prop} {xs : List PyData} (h : P (.lst (xs.map M.d))) : dC X (.type "list") [.list xs] P := dC_list h
theorem onD_d {x : PyData} {k : PyData → Prop} (h : k x) : onD (.d x) k := h
theorem frzQ_d {x : PyData} {k : PyData → Prop} (h : k x) : frzQ (.d x) k := h
section
variable {Y : DC} {Γ : G} {D : DE} {e : Expr} {pos : Pos}
theorem dS_appN {i : Nat} {x : Str} {p p2 p3 : Pos} {ms0 : List M} (hN : Y.X.N.findIdx? (fun y => decide (y = x)) = some i) (hv : Vis Y.X.env.scope x) (hm : Γ[i]? = some (some (.lst ms0)))
    (h : dO Y e Γ fun m Γ' => ∃ ms, Γ'[i]? = some (some (.lst ms)) ∧ ms.length < sizeLine ∧ D.nx (Γ'.set i (some (.lst (ms ++ [m])))))
    (hbase : attributeBase (.Name x p) "append" Y.X.env (eval (.Name x p) Y.X.env) = eval (.Name x p) Y.X.env)
    (hfew : ((backTo p3 (starEach [e] Y.X.env)).all (fun x => !x.1) && (backToKw p3 (keywordEach [] Y.X.env)).all (fun x => x.1.isSome)
      && decide ([e].length + ([] : List Keyword).length + (if ([] : List Keyword).isEmpty then 0 else 1) < 30)) = true)
    (hline : (p2.endLine == p3.line) = true) (hs1 : starEach [e] Y.X.env = (false, eval e Y.X.env) :: starEach [] Y.X.env)
    (hs : swapsWith (.Call (.Attribute (.Name x p) "append" p2) [e] [] p3) none pos.line Y.X.env = pure false)
    (hd : (x == ("__debug__" : Str)) = false := by decide) (hcd : (x == ("__classdict__" : Str)) = false := by decide) : dS Y (.Expr (.Call (.Attribute (.Name x p) "append" p2) [e] [] p3) pos) Γ D :=
  dS_app (ix_of hN) hv hm h hbase hfew hline hs1 hs hd hcd
end
/-! ### isinstance of data -/
theorem isi_tup {X : Cx} {xs : List PyData} : IsiOk X [.d (.tuple xs), .raw (.ty "tuple")] true := isi_data (tyNm_tuple _)
theorem isi_ntup {X : Cx} {x : PyData} (h : ∀ xs, x ≠ .tuple xs) : IsiOk X [.d x, .raw (.ty "tuple")] false := isi_data (by
  rw [tyNm_tuple]
  cases x <;> first | rfl | exact absurd rfl (h _))
theorem isi_str {X : Cx} {s : Str} : IsiOk X [.d (.str s), .raw (.ty "str")] true := isi_data (tyNm_str _)
theorem isi_nstr {X : Cx} {x : PyData} (h : ∀ s, x ≠ .str s) : IsiOk X [.d x, .raw (.ty "str")] false := isi_data (by
  rw [tyNm_str]
  cases x <;> first | rfl | exact absurd rfl (h _))
/-! ### constants of the module -/
structure Con (K : PySem.W.Frag) (mg : Str → Option Value) (x : Str) (y : PyData) : Prop where
  ex : ∃ u v, mg x = some u ∧ RelV v u ∧ Dq K (fun _ => none) v y
theorem dE_con {Y : DC} {Γ : G} {x : Str} {y : PyData} {pos : Pos} {Q : R → G → Prop} (c : Con Y.X.K Y.X.mg x y) (hg : Gl Y.X x) (q : Q (.d y) Γ) (hdb : (x == ("__debug__" : Str)) = false := by decide) : dE Y (.Name x pos) Γ Q := by
  obtain ⟨u, v, e, r, d⟩ := c.ex
  exact dE_glob hg e r d q hdb
theorem dE_ty {Y : DC} {Γ : G} {x : Str} {T : String} {pos : Pos} {Q : R → G → Prop} (hg : Gl Y.X x) (hm : Y.X.mg x = none) (hv : bootBuiltins x = some (.type T)) (q : Q (.raw (.ty T)) Γ) (hn : x ≠ "__name__" := by decide) (hdb : (x == ("__debug__" : Str)) = false := by decide) : dE Y (.Name x pos) Γ Q :=
  dE_bltnV (v := .ty T) hg hm hv rfl q hn hdb
theorem eqv_str_of {x : PyData} {b : Str} (h : ∀ s, x ≠ .str s) : PyData.eqv x (.str b) = false := by
  cases x <;> first | exact absurd rfl (h _) | (rw [PyData.eqv])
theorem ite_T {b : Bool} {A B : Prop} (e : b = true) (h : A) : if b = true then A else B := by rw [if_pos e]; exact h
theorem ite_F {b : Bool} {A B : Prop} (e : b = false) (h : B) : if b = true then A else B := by rw [if_neg (by rw [e]; exact Bool.false_ne_true)]; exact h
theorem onB_b {b : Bool} {k : Bool → Prop} (h : k b) : onB (.d (.bool b)) k := h
/-! ### comparisons -/
theorem shp_int {i : Int} : shp (.int i) := shp_of (by rw [PyData.canLay0]) (by rw [PyData.depth]; decide)
theorem shp_lit {s : Str} (h : PyData.strOk s = true) : shp (.str s) := shp_of (by rw [PyData.canLay0]; exact h) (by rw [PyData.depth]; decide)
theorem cmp_eqI {i j : Int} {P : Bool → Prop} (h : P (decide (i = j))) : cmpQ .Eq (.int i) (.int j) P := ⟨shp_int, shp_int, by rw [eqv_int]; exact h⟩
theorem cmp_neI {i j : Int} {P : Bool → Prop} (h : P (!decide (i = j))) : cmpQ .NotEq (.int i) (.int j) P := ⟨shp_int, shp_int, by rw [eqv_int]; exact h⟩
theorem cmp_eqS {i j : Str} {P : Bool → Prop} (a : shp (.str i)) (b : shp (.str j)) (h : P (decide (i = j))) : cmpQ .Eq (.str i) (.str j) P := ⟨a, b, by rw [eqv_str]; exact h⟩
theorem cmp_neS {i j : Str} {P : Bool → Prop} (a : shp (.str i)) (b : shp (.str j)) (h : P (!decide (i = j))) : cmpQ .NotEq (.str i) (.str j) P := ⟨a, b, by rw [eqv_str]; exact h⟩
theorem cmp_inT {v : Str} {ws : List Str} {P : Bool → Prop} (a : shp (.str v)) (b : shp (.tuple (ws.map PyData.str))) (h : P (decide (v ∈ ws))) : cmpQ .In (.str v) (.tuple (ws.map PyData.str)) P := ⟨a, b, by rw [any_strs]; exact h⟩
theorem cmp_inL {v : Str} {ws : List Str} {P : Bool → Prop} (a : shp (.str v)) (b : shp (.list (ws.map PyData.str))) (h : P (decide (v ∈ ws))) : cmpQ .In (.str v) (.list (ws.map PyData.str)) P := ⟨a, b, by rw [any_strs]; exact h⟩
theorem atI_0 {α : Type} {y : α} {ys : List α} : atI (y :: ys) 0 = some y := by
  unfold atI ixN
  rw [if_pos (by decide), if_pos (by rw [List.length_cons]; omega)]
  rfl
theorem atI_1 {α : Type} {x y : α} {ys : List α} : atI (x :: y :: ys) 1 = some y := by
  unfold atI ixN
  rw [if_pos (by decide), if_pos (by rw [List.length_cons, List.length_cons]; omega)]
  rfl
theorem atI_2 {α : Type} {x y z : α} {ys : List α} : atI (x :: y :: z :: ys) 2 = some z := by
  unfold atI ixN
  rw [if_pos (by decide), if_pos (by rw [List.length_cons, List.length_cons, List.length_cons]; omega)]
  rfl
/-! ### slices -/
theorem slR_t {Γ : G} {xs : List PyData} {lo hi : Option Int} {k : M → Prop} (h : k (.d (.tuple (cutD xs lo hi)))) : slR Γ (.d (.tuple xs)) lo hi k := h
theorem slR_l {Γ : G} {xs : List PyData} {lo hi : Option Int} {k : M → Prop} (h : k (.lst ((cutD xs lo hi).map M.d))) : slR Γ (.d (.list xs)) lo hi k := h
theorem cutD_from {α : Type} {xs : List α} {k : Nat} : cutD xs (some (k : Int)) none = xs.drop k := by
  unfold cutD
  rw [HT.sIx_nat, HT.sIx_none]
  by_cases h : k ≤ xs.length
  · rw [Nat.min_eq_left h, List.take_of_length_le (by rw [List.length_drop]; exact Nat.le_refl _)]
  · rw [Nat.min_eq_right (by omega), Nat.sub_self, List.take_zero, List.drop_eq_nil_of_le (by omega)]
theorem cutD_to {α : Type} {xs : List α} {k : Nat} : cutD xs none (some (k : Int)) = xs.take k := by
  unfold cutD
  rw [HT.sIx_nat, HT.sIx_none, List.drop_zero, Nat.sub_zero]
  by_cases h : k ≤ xs.length
  · rw [Nat.min_eq_left h]
  · rw [Nat.min_eq_right (by omega), List.take_of_length_le (Nat.le_refl _), List.take_of_length_le (by omega)]
theorem cutD_from1 {α : Type} {x : α} {xs : List α} : cutD (x :: xs) (some 1) none = xs := cutD_from (k := 1)
end DL

set_option Elab.async false
set_option linter.all false
set_option maxRecDepth 100000
set_option maxHeartbeats 4000000
namespace DL
open PySem PySem.Spec PyProof.Rows L2
/-! ### {"a": 1, ..}.get(w, z) -/
abbrev kvsI (kvs : List (Str × Int)) : List (Key × V) := kvs.map fun p => (Sum.inr p.1, V.int p.2)
def dgetD (kvs : List (Str × Int)) (w : Str) (z : PyData) : PyData := match valV (mergeK [] (kvsI kvs)) (.inr w) with
  | some (.int i) => .int i
  | some _ => .none
  | none => z
theorem valV_all {p : V → Bool} {kvs : List (Key × V)} (h : (kvs.all fun kv => p kv.2) = true) {k : Key} {v : V} (e : valV kvs k = some v) : p v = true := by
  unfold valV at e
  cases q : kvs.find? fun kv => decide (kv.1 = k) with
  | none => rw [q] at e; cases e
  | some kv =>
    rw [q] at e
    cases e
    exact List.all_eq_true.mp h kv (List.mem_of_find?_eq_some q)
def isI : V → Bool
  | .int _ => true
  | _ => false
section
variable {Y : DC} {Γ : G} {e f : Expr} {p1 apos pos : Pos} {keys : List (Option Expr)} {vals : List Expr} {Q : M → G → Prop}
theorem dO_dget2 (kvs : List (Str × Int)) (hp : PPs Y.X p1 keys vals (kvs.map fun kv => (tC (.str kv.1), tC (.int kv.2)))) (hall : keys.all (·.isSome) = true) (hl : keys.length = vals.length) (h0 : keys ≠ [])
    (h15 : keys.length ≤ 15) (hk : kvs.length ≤ 15) (m : M2 Y.X (.Dict keys vals p1) "get" apos e f pos) (hi : ((mergeK [] (kvsI kvs)).all fun kv => isI kv.2) = true)
    (h : dE Y e Γ fun r1 Γ1 => dE Y f Γ1 fun r2 Γ2 => onD r1 fun x => onD r2 fun z => ∃ w, x = .str w ∧ Q (.d (dgetD kvs w z)) Γ2) : dO Y (.Call (.Attribute (.Dict keys vals p1) "get" apos) [e, f] [] pos) Γ Q := by
  refine ⟨fun B σ F H fp n R QV k => wE.of (pe_dget2 (Nat.lt_of_le_of_lt (by omega) Y.hu) (pe_disp hp hall hl h0 h15) pe_w pe_w m) ?_⟩
  show tDisp _ σ H _
  intro p np
  have hps : ∀ (l : List (Str × Int)) (H : Hp) (Q : List (V × V) → Hp → Prop), Q (l.map fun kv => (V.str kv.1, V.int kv.2)) H → tPairs (l.map fun kv => (tC (.str kv.1), tC (.int kv.2))) σ H Q := by
    intro l
    induction l with
    | nil => intro H Q q; exact q
    | cons a l ih =>
      intro H Q q
      exact ih H _ q
  refine hps kvs _ _ ⟨upd_same, kvsI kvs, by rw [List.map_map]; rfl, by rw [List.length_map]; exact hk, ?_⟩
  rw [upd_upd]
  have g := Grow.laid (o := .dK (mergeK [] (kvsI kvs))) R.sub np
  refine ⟨p, rfl, .inl ⟨_, .of upd_same⟩, ?_⟩
  refine h.run B σ _ _ fp n (R.grow g) _ fun r1 Γ1 v1 F1 H1 fp1 q R1 s1 o1 => ?_
  refine q.run B σ F1 H1 fp1 n R1 _ fun r2 Γ2 v2 F2 H2 fp2 q R2 s2 o2 => ?_
  obtain ⟨x, rfl, qa⟩ := onD.ex q
  obtain ⟨z, rfl, qb⟩ := onD.ex qa
  obtain ⟨w, rfl, qc⟩ := qb
  have e1 : v1 = .str w := Dq.strI o1
  have hpF : F2 p = some (.dK (mergeK [] (kvsI kvs))) := s2 p _ (s1 p _ upd_same)
  refine ⟨valV (mergeK [] (kvsI kvs)) (.inr w), .inl ⟨_, .inr w, .of (R2.sub p _ hpF), e1, rfl⟩, ?_⟩
  refine k _ Γ2 _ F2 H2 fp2 (fun _ => False) qc R2 (g.f.trans (s1.trans s2)) (.d ?_ fun _ z => z) (.none fun _ z => z)
  unfold dgetD
  cases ev : valV (mergeK [] (kvsI kvs)) (.inr w) with
  | none => exact o2
  | some v =>
    have := valV_all hi ev
    cases v with
    | int i => exact .int i
    | non => cases this
    | bl _ => cases this
    | str _ => cases this
    | byt _ => cases this
    | flt _ => cases this
    | ref _ => cases this
    | ty _ => cases this
end
theorem any_nostr {ws : List Str} {x : PyData} (h : ∀ s, x ≠ .str s) : ((ws.map PyData.str).any fun z => PyData.eqv z x) = false := by
  rw [List.any_eq_false]
  intro z hz
  obtain ⟨w, _, rfl⟩ := List.mem_map.mp hz
  cases x <;> first | exact absurd rfl (h _) | (rw [PyData.eqv]; exact Bool.false_ne_true)
theorem cmp_ltI {i j : Int} {P : Bool → Prop} (h : P (decide (i < j))) : cmpQ .Lt (.int i) (.int j) P := h
theorem cmp_leI {i j : Int} {P : Bool → Prop} (h : P (decide (i ≤ j))) : cmpQ .LtE (.int i) (.int j) P := h
theorem cmp_gtI {i j : Int} {P : Bool → Prop} (h : P (decide (j < i))) : cmpQ .Gt (.int i) (.int j) P := h
theorem cmp_geI {i j : Int} {P : Bool → Prop} (h : P (decide (j ≤ i))) : cmpQ .GtE (.int i) (.int j) P := h
/-- [x, y][int(b)] -/
theorem ixR_b {b : Bool} {x y : PyData} {k : PyData → Prop} (h1 : b = true → k y) (h2 : b = false → k x) : onD (.d (.int (if b = true then 1 else 0))) fun j => ixQ (.list [x, y]) j k := by
  cases b with
  | true => rw [if_pos rfl]; exact ⟨y, atI_1, h1 rfl⟩
  | false => rw [if_neg Bool.false_ne_true]; exact ⟨x, atI_0, h2 rfl⟩
end DL

set_option Elab.async false
set_option linter.all false
set_option maxRecDepth 100000
set_option maxHeartbeats 4000000
namespace DL
open PySem PySem.Spec PyProof.Rows L2
theorem dO_mvL {Y : DC} {Γ : G} {x : Str} {i : Nat} {ms : List M} {pos : Pos} {Q : M → G → Prop} (hN : Y.X.N.findIdx? (fun y => decide (y = x)) = some i) (hv : Vis Y.X.env.scope x) (hm : Γ[i]? = some (some (.lst ms))) (hl : Y.ln i = false) (q : Q (.lst ms) (Γ.set i none))
    (hd : (x == ("__debug__" : Str)) = false := by decide) (hcd : (x == ("__classdict__" : Str)) = false := by decide) : dO Y (.Name x pos) Γ Q := dO_mv hN hv hm hl q hd hcd
theorem dE_neg {Y : DC} {Γ : G} {e : Expr} {pos : Pos} {Q : R → G → Prop} (h : dE Y e Γ fun r Γ' => onI r fun i => Q (.d (.int (-i))) Γ') : dE Y (.UnaryOp .USub e pos) Γ Q := by
  refine ⟨fun B σ F H fp n R QV k => wE.of (pe_un un_neg pe_w) ?_⟩
  refine h.run B σ F H fp n R _ fun r Γ1 v F1 H1 fp1 q R1 s1 o1 => ?_
  obtain ⟨i, rfl, q⟩ := onI.ex q
  exact ⟨i, Dq.intI o1, k _ Γ1 _ F1 H1 fp1 q R1 s1 (.int _)⟩
theorem wd_all {d : Nat} {xs : List PyData} (h : (xs.all fun x => x.canLay0 && decide (x.depth ≤ d)) = true) : ∀ x ∈ xs, x.canLay0 = true ∧ x.depth ≤ d := fun x hx => by
  have := List.all_eq_true.mp h x hx
  rw [Bool.and_eq_true, decide_eq_true_eq] at this
  exact this
/-- texts that == compares, whatever their signs -/
theorem dOp_eqS {X : Cx} {P : M → Prop} {a b : Str} (h : P (.d (.bool (decide (a = b))))) : dOp X (compareOp .Eq) (.str a) (.str b) P := dOp_data op_eq (fun u v H Q dx dy q => by
  cases dx; cases dy
  refine ⟨rfl, ?_⟩
  have e : decide (V.str a = V.str b) = decide (a = b) := decide_eq_decide.mpr ⟨fun e => by injection e, fun e => by rw [e]⟩
  rw [e]; exact q) h
theorem dOp_neS {X : Cx} {P : M → Prop} {a b : Str} (h : P (.d (.bool (!decide (a = b))))) : dOp X (compareOp .NotEq) (.str a) (.str b) P := dOp_data op_ne (fun u v H Q dx dy q => by
  cases dx; cases dy
  refine ⟨rfl, ?_⟩
  have e : decide (V.str a = V.str b) = decide (a = b) := decide_eq_decide.mpr ⟨fun e => by injection e, fun e => by rw [e]⟩
  rw [e]; exact q) h
theorem slR_scr {Γ : G} {i : Nat} {ns : List Int} {lo hi : Option Int} {k : M → Prop} (e : Γ[i]? = some (some (.scr ns))) (h : k (.lst (((DL.cutD ns lo hi).map PyData.int).map M.d))) : slR Γ (.al i) lo hi k := .inr ⟨ns, e, h⟩
theorem if_abs {r : Int} : 0 ≤ (if r < 0 then -r else r) := by split <;> omega
end DL

set_option Elab.async false
set_option linter.all false
set_option maxRecDepth 100000
set_option maxHeartbeats 4000000
namespace DL
open PySem PySem.Spec PyProof.Rows L2
theorem onI_i {i : Int} {k : Int → Prop} (h : k i) : onI (.d (.int i)) k := h
end DL

set_option Elab.async false
set_option linter.all false
set_option maxRecDepth 100000
set_option maxHeartbeats 4000000
namespace K01
open PySem PySem.Spec PyProof.Rows L2 DL
local macro_rules | `(tactic| walk_at "nd") => `(tactic| first | exact List.nodup_nil | exact nd1 _ | exact nd2 (by decide) | exact nd3 (by decide) (by decide) (by decide))
local macro_rules | `(tactic| walk_at "vis") => `(tactic| first | exact Or.inl rfl | exact Or.inr (Or.inl rfl) | exact Or.inr (Or.inr rfl))
local macro_rules | `(tactic| walk_at "loc") => `(tactic| first | exact Or.inl rfl | exact Or.inr rfl)
local macro_rules | `(tactic| walk_at "room") => `(tactic| first | assumption | exact Room.mono (by assumption) (by decide))
local macro_rules | `(tactic| walk_at "nrm") => `(tactic| first
  | show dSs _ _ [_] _ | show dSs _ _ [_, _] _ | show dSs _ _ [_, _, _] _ | show dSs _ _ [_, _, _, _] _ | show dSs _ _ [_, _, _, _, _] _ | show dSs _ _ [_, _, _, _, _, _] _
  | show dSs _ _ [_, _, _, _, _, _, _] _ | show dSs _ _ [_, _, _, _, _, _, _, _] _ | show dSs _ _ [_, _, _, _, _, _, _, _, _] _ | show dSs _ _ [_, _, _, _, _, _, _, _, _, _] _
  | show dSs _ _ [_, _, _, _, _, _, _, _, _, _, _] _ | show dSs _ _ [_, _, _, _, _, _, _, _, _, _, _, _] _)
local macro_rules | `(tactic| walk_at "dE") => `(tactic| first
  | refine dE_nm rfl (by walk_at "vis") rfl ?_
  | refine dE_int ?_ | refine dE_str ?_ | refine dE_bl ?_ | refine dE_non ?_
  | refine dE_con (by assumption) rfl ?_
  | ((with_reducible show dE _ (.Name (Str.ofString "tuple") _) _ _); refine dE_ty (T := "tuple") rfl (by assumption) (by decide +kernel) ?_)
  | ((with_reducible show dE _ (.Name (Str.ofString "str") _) _ _); refine dE_ty (T := "str") rfl (by assumption) (by decide +kernel) ?_)
  | refine dE_ix (fun _ _ => rfl) ?_
  | refine dE_of_dO ?_)
local macro_rules | `(tactic| walk_at "dO") => `(tactic| first
  | refine dO_op ?_
  | refine dO_cmp (nomark _) ?_
  | refine dO_cmp (by rfl) ?_
  | refine dO_tup ?_ | refine dO_lst ?_
  | refine dO_and ?_ | refine dO_or ?_ | refine dO_one ?_ | refine dO_not ?_
  | refine dO_sl ?_
  | ((with_reducible show dO _ (.Call (.Name (Str.ofString "len") _) _ _ _) _ _); refine dO_callB (x := "len") (id := "len") rfl (by assumption) (by decide +kernel) rfl rfl ?_)
  | ((with_reducible show dO _ (.Call (.Name (Str.ofString "int") _) _ _ _) _ _); refine dO_callTy (x := "int") (T := "int") rfl (by assumption) (by decide +kernel) rfl rfl ?_)
  | ((with_reducible show dO _ (.Call (.Name (Str.ofString "tuple") _) _ _ _) _ _); refine dO_callTy (x := "tuple") (T := "tuple") rfl (by assumption) (by decide +kernel) rfl rfl ?_)
  | ((with_reducible show dO _ (.Call (.Name (Str.ofString "abs") _) _ _ _) _ _); refine dO_callB (x := "abs") (id := "abs") rfl (by assumption) (by decide +kernel) rfl rfl ?_)
  | ((with_reducible show dO _ (.Call (.Name (Str.ofString "max") _) _ _ _) _ _); refine dO_callB (x := "max") (id := "max") rfl (by assumption) (by decide +kernel) rfl rfl ?_)
  | ((with_reducible show dO _ (.Call (.Name (Str.ofString "sum") _) _ _ _) _ _); refine dO_callB (x := "sum") (id := "sum") rfl (by assumption) (by decide +kernel) rfl rfl ?_)
  | ((with_reducible show dO _ (.Call (.Name (Str.ofString "all") _) _ _ _) _ _); refine dO_callB (x := "all") (id := "all") rfl (by assumption) (by decide +kernel) rfl rfl ?_)
  | ((with_reducible show dO _ (.Call (.Name (Str.ofString "repr") _) _ _ _) _ _); refine dO_callB (x := "repr") (id := "repr") rfl (by assumption) (by decide +kernel) rfl rfl ?_)
  | ((with_reducible show dO _ (.Call (.Name (Str.ofString "isinstance") _) _ _ _) _ _); refine dO_isi rfl (by assumption) rfl rfl ?_)
  | refine dO_fn (by assumption) (by walk_at "room") rfl rfl rfl ?_
  | ((with_reducible show dO _ (.Name _ _) _ _); refine dO_of_dE ?_)
  | ((with_reducible show dO _ (.Constant _ _ _) _ _); refine dO_of_dE ?_)
  | ((with_reducible show dO _ (.Subscript _ _ _) _ _); refine dO_of_dE ?_))
local macro_rules | `(tactic| walk_at "dS") => `(tactic| first
  | refine dS_if ?_ | refine dS_ret ?_ | refine dS_retN ?_ | refine dS_pass ?_ | refine dS_break ?_ | refine dS_cont ?_
  | refine dS_st rfl (by walk_at "loc") rfl ?_ rfl (Or.inl rfl)
  | refine dS_appN rfl (by walk_at "vis") rfl ?_ rfl rfl rfl rfl rfl
  | refine dS_setix (i := 0) rfl (by walk_at "vis") ?_ (by intro _; rfl) rfl rfl rfl)
local macro_rules | `(tactic| walk_at "dT") => `(tactic| first
  | refine dT_not ?_ | refine dT_cmp (nomark _) ?_ | refine dT_cmp (by rfl) ?_ | (show dT _ (.BoolOp _ _ _) _ _; refine dT_W ?_) | refine dT_val (by intro _; rfl) ?_)
local macro_rules | `(tactic| walk_at "shp") => `(tactic| first | assumption | exact shp_lit (by decide +kernel) | exact (shp_strs (by assumption)).1 | exact (shp_strs (by assumption)).2)
local macro_rules | `(tactic| walk_at "dl") => `(tactic| first
  | (with_reducible show dE _ _ _ _); walk_at "dE"
  | (with_reducible show dO _ _ _ _); walk_at "dO"
  | (with_reducible show dA _ _ _ _); (first | refine dA_cons rfl ?_ | refine dA_nil ?_)
  | (with_reducible show dT _ _ _ _); walk_at "dT"
  | (with_reducible show dS _ _ _ _); walk_at "dS"
  | (with_reducible show dSs _ _ _ _); walk_at "nrm"; (first | refine dSs_cons ?_ | refine dSs_nil ?_)
  | (with_reducible show dOp _ _ _ _ _); (first | refine dOp_of ?_ | refine dOp_cmp (DC.hu _) ?_)
  | (with_reducible show dW _ _ _ _); (first | refine dW_and ?_ | refine dW_or ?_ | refine dW_and1 ?_ | refine dW_or1 ?_)
  | (with_reducible show dB _ _ _ _); (first | refine dB_none ?_ | refine dB_some ?_)
  | (with_reducible show dC _ _ _ _); (first | refine dC_lenL ?_ | refine dC_lenT ?_ | refine dC_lenS (Nat.le_of_ble_eq_true rfl) ?_ | refine dC_intI ?_ | refine dC_intB ?_ | refine dC_tupT ?_ | refine dC_tupL ?_ | refine dC_lisT ?_ | refine dC_lisL ?_ | refine dC_len ?_ | refine dC_sum rfl ?_ | refine dC_all rfl ?_ | refine dC_int ?_ | refine dC_tuple ?_ | refine dC_abs ?_ | refine dC_max rfl ?_)
  | refine ixR_t atI_0 ?_ | refine ixR_t atI_1 ?_ | refine ixR_t atI_2 ?_ | refine ixR_l atI_0 ?_ | refine ixR_l atI_1 ?_ | refine ixR_al rfl rfl ?_ | refine ixR_t rfl ?_ | refine ixR_l rfl ?_
  | refine ⟨show List.length _ ≤ sizeLine from Nat.le_of_ble_eq_true rfl, ?_⟩
  | refine cmp_eqI ?_ | refine cmp_neI ?_ | refine cmp_eqS (by walk_at "shp") (by walk_at "shp") ?_ | refine cmp_neS (by walk_at "shp") (by walk_at "shp") ?_ | refine cmp_inT (by walk_at "shp") (by walk_at "shp") ?_ | refine cmp_inL (by walk_at "shp") (by walk_at "shp") ?_
  | refine slR_t ?_ | refine slR_l ?_
  | refine onB_b ?_ | refine ite_T rfl ?_ | refine ite_F rfl ?_ | refine onD_d ?_ | refine frzQ_d ?_ | refine flat_d trivial ?_ | refine onX_d ?_ | refine onX_al rfl ?_
  | refine frzQ.list ?_
  | refine ⟨⟨_, rfl⟩, ?_⟩ | refine ⟨_, _, rfl, rfl, ?_⟩)

def topS (i : Nat) : Stmt := PySem.Challenge.pw_scarp_k01_patterns_checked.main.body.getD i (.Pass ⟨0, 0, 0, 0⟩)
abbrev sNext : Stmt := topS 19
theorem scNext : FnScope ["state", "many", "turn"] ["state", "many"] (defScope sNext) := ⟨rfl, rfl, rfl, by decide +kernel, rfl, by decide +kernel, by decide +kernel⟩
/-- the stream of numbers and how many were taken -/
abbrev StM (ns : List Int) (i : Int) : M := .lst [.d (.list (ns.map PyData.int)), .d (.int i)]
structure GoodN (ns : List Int) : Prop where
  pos : 0 < ns.length
  few : ns.length ≤ 4000
  lo : ∀ x ∈ ns, 0 ≤ x
  hi : ∀ x ∈ ns, x < 1009
def cNext (ns : List Int) : Ct := fun ms Q _ => ∃ i many : Int, ms = [StM ns i, .d (.int many)] ∧ 0 ≤ i ∧ i < 1000000000 ∧ 0 < many ∧ ∀ r, 0 ≤ r → r < many → Q (.d (.int r)) [StM ns (i + 1), .d (.int many)]
section
variable {P : Program} {w : World} {K : PySem.W.Frag} {mg : Str → Option Value} {base : Heap}
theorem d_next {ns : List Int} (gn : GoodN ns) {f : Addr} {fd : FuncData} (F : Fun K "_law_next" "_law_next" sNext f fd) (gl : mg "_law_next" = some (.ref f)) (hb : Binds K fd ["state", "many"] []) (mLen : mg "len" = none) (mInt : mg "int" = none) : Def P w K mg base "_law_next" 1 (cNext ns) := by
  refine Def.mk' F scNext gl hb (fun ms Q E ⟨i, many, h, _⟩ => by rw [h]; rfl) fun cdv A outer s H E hr hg ms Q Ed h => ?_
  obtain ⟨i, many, rfl, i0, i1, m0, q⟩ := h
  have len0 : (0 : Int) < ((ns.map PyData.int).length : Int) := by rw [List.length_map]; have := gn.pos; omega
  have len1 : ((ns.map PyData.int).length : Int) ≤ 4000 := by rw [List.length_map]; have := gn.few; omega
  repeat walk_at "dl"
  refine ⟨cdiv_small len0 (by omega), ?_⟩
  repeat walk_at "dl"
  refine ⟨len0, ?_⟩
  repeat walk_at "dl"
  have r0 := Int.emod_nonneg (i + 1) (Int.ne_of_gt len0)
  have r1 := Int.emod_lt_of_pos (i + 1) len0
  obtain ⟨y, hy, _, hat⟩ := atI_map PyData.int (xs := ns) r0 (by have := r1; rw [List.length_map] at this ⊢; exact this)
  refine ixR_l hat ?_
  have t0 : 0 ≤ (i + 1) / ((ns.map PyData.int).length : Int) := Int.ediv_nonneg (by omega) (by omega)
  have t1 : (i + 1) / ((ns.map PyData.int).length : Int) ≤ i + 1 := Int.ediv_le_self _ (by omega)
  generalize (i + 1) / ((ns.map PyData.int).length : Int) = tn at t0 t1 ⊢
  repeat walk_at "dl"
  refine ⟨cmul_small (by omega) (by omega) (by omega) (by omega), ?_⟩
  repeat walk_at "dl"
  refine ⟨cmul_small (by omega) (by omega) (by omega) (by omega), ?_⟩
  repeat walk_at "dl"
  have p1 : 0 ≤ (i + 1) * tn := Int.mul_nonneg (by omega) t0
  have p2 : (i + 1) * tn ≤ 1000000000 * 1000000000 := Int.mul_le_mul (by omega) (by omega) t0 (by omega)
  refine ⟨cmul_small (by omega) (by omega) (by omega) (by omega), ?_⟩
  repeat walk_at "dl"
  refine ⟨m0, ?_⟩
  exact ⟨_, rfl, q _ (Int.emod_nonneg _ (by omega)) (Int.emod_lt_of_pos _ m0)⟩
end
end K01

set_option Elab.async false
set_option linter.all false
set_option maxRecDepth 100000
set_option maxHeartbeats 4000000
namespace K01
open PySem PySem.Spec PyProof.Rows L2 DL
local macro_rules | `(tactic| walk_at "nd") => `(tactic| first | exact List.nodup_nil | exact nd1 _ | exact nd2 (by decide) | exact nd3 (by decide) (by decide) (by decide))
local macro_rules | `(tactic| walk_at "vis") => `(tactic| first | exact Or.inl rfl | exact Or.inr (Or.inl rfl) | exact Or.inr (Or.inr rfl))
local macro_rules | `(tactic| walk_at "loc") => `(tactic| first | exact Or.inl rfl | exact Or.inr rfl)
local macro_rules | `(tactic| walk_at "room") => `(tactic| first | assumption | exact Room.mono (by assumption) (by decide))
local macro_rules | `(tactic| walk_at "nrm") => `(tactic| first
  | show dSs _ _ [_] _ | show dSs _ _ [_, _] _ | show dSs _ _ [_, _, _] _ | show dSs _ _ [_, _, _, _] _ | show dSs _ _ [_, _, _, _, _] _ | show dSs _ _ [_, _, _, _, _, _] _
  | show dSs _ _ [_, _, _, _, _, _, _] _ | show dSs _ _ [_, _, _, _, _, _, _, _] _ | show dSs _ _ [_, _, _, _, _, _, _, _, _] _ | show dSs _ _ [_, _, _, _, _, _, _, _, _, _] _
  | show dSs _ _ [_, _, _, _, _, _, _, _, _, _, _] _ | show dSs _ _ [_, _, _, _, _, _, _, _, _, _, _, _] _)
local macro_rules | `(tactic| walk_at "dE") => `(tactic| first
  | refine dE_nm rfl (by walk_at "vis") rfl ?_
  | refine dE_int ?_ | refine dE_str ?_ | refine dE_bl ?_ | refine dE_non ?_
  | refine dE_con (by assumption) rfl ?_
  | ((with_reducible show dE _ (.Name (Str.ofString "tuple") _) _ _); refine dE_ty (T := "tuple") rfl (by assumption) (by decide +kernel) ?_)
  | ((with_reducible show dE _ (.Name (Str.ofString "str") _) _ _); refine dE_ty (T := "str") rfl (by assumption) (by decide +kernel) ?_)
  | refine dE_ix (fun _ _ => rfl) ?_
  | refine dE_of_dO ?_)
local macro_rules | `(tactic| walk_at "dO") => `(tactic| first
  | refine dO_op ?_
  | refine dO_cmp (nomark _) ?_
  | refine dO_cmp (by rfl) ?_
  | refine dO_tup ?_ | refine dO_lst ?_
  | refine dO_and ?_ | refine dO_or ?_ | refine dO_one ?_ | refine dO_not ?_
  | refine dO_sl ?_
  | ((with_reducible show dO _ (.Call (.Name (Str.ofString "len") _) _ _ _) _ _); refine dO_callB (x := "len") (id := "len") rfl (by assumption) (by decide +kernel) rfl rfl ?_)
  | ((with_reducible show dO _ (.Call (.Name (Str.ofString "int") _) _ _ _) _ _); refine dO_callTy (x := "int") (T := "int") rfl (by assumption) (by decide +kernel) rfl rfl ?_)
  | ((with_reducible show dO _ (.Call (.Name (Str.ofString "tuple") _) _ _ _) _ _); refine dO_callTy (x := "tuple") (T := "tuple") rfl (by assumption) (by decide +kernel) rfl rfl ?_)
  | ((with_reducible show dO _ (.Call (.Name (Str.ofString "abs") _) _ _ _) _ _); refine dO_callB (x := "abs") (id := "abs") rfl (by assumption) (by decide +kernel) rfl rfl ?_)
  | ((with_reducible show dO _ (.Call (.Name (Str.ofString "max") _) _ _ _) _ _); refine dO_callB (x := "max") (id := "max") rfl (by assumption) (by decide +kernel) rfl rfl ?_)
  | ((with_reducible show dO _ (.Call (.Name (Str.ofString "sum") _) _ _ _) _ _); refine dO_callB (x := "sum") (id := "sum") rfl (by assumption) (by decide +kernel) rfl rfl ?_)
  | ((with_reducible show dO _ (.Call (.Name (Str.ofString "all") _) _ _ _) _ _); refine dO_callB (x := "all") (id := "all") rfl (by assumption) (by decide +kernel) rfl rfl ?_)
  | ((with_reducible show dO _ (.Call (.Name (Str.ofString "repr") _) _ _ _) _ _); refine dO_callB (x := "repr") (id := "repr") rfl (by assumption) (by decide +kernel) rfl rfl ?_)
  | ((with_reducible show dO _ (.Call (.Name (Str.ofString "isinstance") _) _ _ _) _ _); refine dO_isi rfl (by assumption) rfl rfl ?_)
  | refine dO_fn (by assumption) (by walk_at "room") rfl rfl rfl ?_
  | ((with_reducible show dO _ (.Name _ _) _ _); refine dO_of_dE ?_)
  | ((with_reducible show dO _ (.Constant _ _ _) _ _); refine dO_of_dE ?_)
  | ((with_reducible show dO _ (.Subscript _ _ _) _ _); refine dO_of_dE ?_))
local macro_rules | `(tactic| walk_at "dS") => `(tactic| first
  | refine dS_if ?_ | refine dS_ret ?_ | refine dS_retN ?_ | refine dS_pass ?_ | refine dS_break ?_ | refine dS_cont ?_
  | refine dS_st rfl (by walk_at "loc") rfl ?_ rfl (Or.inl rfl)
  | refine dS_appN rfl (by walk_at "vis") rfl ?_ rfl rfl rfl rfl rfl
  | refine dS_setix (i := 0) rfl (by walk_at "vis") ?_ (by intro _; rfl) rfl rfl rfl)
local macro_rules | `(tactic| walk_at "dT") => `(tactic| first
  | refine dT_not ?_ | refine dT_cmp (nomark _) ?_ | refine dT_cmp (by rfl) ?_ | (show dT _ (.BoolOp _ _ _) _ _; refine dT_W ?_) | refine dT_val (by intro _; rfl) ?_)
local macro_rules | `(tactic| walk_at "shp") => `(tactic| first | assumption | exact shp_lit (by decide +kernel) | exact (shp_strs (by assumption)).1 | exact (shp_strs (by assumption)).2)
local macro_rules | `(tactic| walk_at "dl") => `(tactic| first
  | (with_reducible show dE _ _ _ _); walk_at "dE"
  | (with_reducible show dO _ _ _ _); walk_at "dO"
  | (with_reducible show dA _ _ _ _); (first | refine dA_cons rfl ?_ | refine dA_nil ?_)
  | (with_reducible show dT _ _ _ _); walk_at "dT"
  | (with_reducible show dS _ _ _ _); walk_at "dS"
  | (with_reducible show dSs _ _ _ _); walk_at "nrm"; (first | refine dSs_cons ?_ | refine dSs_nil ?_)
  | (with_reducible show dOp _ _ _ _ _); (first | refine dOp_of ?_ | refine dOp_cmp (DC.hu _) ?_)
  | (with_reducible show dW _ _ _ _); (first | refine dW_and ?_ | refine dW_or ?_ | refine dW_and1 ?_ | refine dW_or1 ?_)
  | (with_reducible show dB _ _ _ _); (first | refine dB_none ?_ | refine dB_some ?_)
  | (with_reducible show dC _ _ _ _); (first | refine dC_lenL ?_ | refine dC_lenT ?_ | refine dC_lenS (Nat.le_of_ble_eq_true rfl) ?_ | refine dC_intI ?_ | refine dC_intB ?_ | refine dC_tupT ?_ | refine dC_tupL ?_ | refine dC_lisT ?_ | refine dC_lisL ?_ | refine dC_len ?_ | refine dC_sum rfl ?_ | refine dC_all rfl ?_ | refine dC_int ?_ | refine dC_tuple ?_ | refine dC_abs ?_ | refine dC_max rfl ?_)
  | refine ixR_t atI_0 ?_ | refine ixR_t atI_1 ?_ | refine ixR_t atI_2 ?_ | refine ixR_l atI_0 ?_ | refine ixR_l atI_1 ?_ | refine ixR_al rfl rfl ?_ | refine ixR_t rfl ?_ | refine ixR_l rfl ?_
  | refine ⟨show List.length _ ≤ sizeLine from Nat.le_of_ble_eq_true rfl, ?_⟩
  | refine cmp_eqI ?_ | refine cmp_neI ?_ | refine cmp_eqS (by walk_at "shp") (by walk_at "shp") ?_ | refine cmp_neS (by walk_at "shp") (by walk_at "shp") ?_ | refine cmp_inT (by walk_at "shp") (by walk_at "shp") ?_ | refine cmp_inL (by walk_at "shp") (by walk_at "shp") ?_
  | refine slR_t ?_ | refine slR_l ?_
  | refine onB_b ?_ | refine ite_T rfl ?_ | refine ite_F rfl ?_ | refine onD_d ?_ | refine frzQ_d ?_ | refine flat_d trivial ?_ | refine onX_d ?_ | refine onX_al rfl ?_
  | refine frzQ.list ?_
  | refine ⟨⟨_, rfl⟩, ?_⟩ | refine ⟨_, _, rfl, rfl, ?_⟩)

abbrev sWord : Stmt := topS 20
theorem scWord : FnScope ["state", "taken", "word", "k"] ["state", "taken"] (defScope sWord) := ⟨rfl, rfl, rfl, by decide +kernel, rfl, by decide +kernel, by decide +kernel⟩
/-- words of a law's letters: over abyz, up to eight; or c with one more -/
def Abyz (w : Str) : Prop := 1 ≤ w.length ∧ w.length ≤ 8 ∧ ∀ c ∈ w.cps.toList, c = 97 ∨ c = 98 ∨ c = 121 ∨ c = 122
/-- the word at a place of the letters -/
def WordAt (j : Nat) (w : Str) : Prop := Abyz w ∨ (j < 26 ∧ w = ("c" : Str) ++ ⟨#[97 + j]⟩)
structure WsOk (ws : List Str) : Prop where
  at' : ∀ j w, ws[j]? = some w → WordAt j w
  nodup : ws.Nodup
structure WordOk (w : Str) : Prop where
  one : 1 ≤ w.length
  few : w.length ≤ 8
  low : ∀ c ∈ w.cps.toList, 97 ≤ c ∧ c ≤ 122
theorem WordAt.ok {j : Nat} {w : Str} (h : WordAt j w) : WordOk w := by
  rcases h with ⟨a, b, c⟩ | ⟨h, rfl⟩
  · exact ⟨a, b, fun d hd => by rcases c d hd with h | h | h | h <;> omega⟩
  · refine ⟨by show 1 ≤ 2; decide, by show 2 ≤ 8; decide, fun d hd => ?_⟩
    have e : (("c" : Str) ++ (⟨#[97 + j]⟩ : Str)).cps.toList = [99, 97 + j] := rfl
    rw [e] at hd
    simp only [List.mem_cons, List.not_mem_nil, or_false] at hd
    omega
theorem WsOk.ok {ws : List Str} (h : WsOk ws) : ∀ w ∈ ws, WordOk w := fun w hw => by
  obtain ⟨j, e⟩ := List.mem_iff_getElem?.mp hw
  exact (h.at' j w e).ok
theorem WordOk.shp {w : Str} (h : WordOk w) : ∀ c ∈ w.cps.toList, c < 1114112 := fun c hc => by have := h.low c hc; omega
theorem WsOk.nil : WsOk [] := ⟨fun j w h => (nomatch h), .nil⟩
theorem WsOk.snoc {ws : List Str} {v : Str} (h : WsOk ws) (n : v ∉ ws) (k : WordAt ws.length v) : WsOk (ws ++ [v]) where
  at' := fun j w e => by
    rcases Nat.lt_trichotomy j ws.length with l | l | l
    · rw [List.getElem?_append_left l] at e; exact h.at' j w e
    · subst l
      rw [List.getElem?_append_right (Nat.le_refl _), Nat.sub_self] at e
      cases e; exact k
    · rw [List.getElem?_eq_none (by rw [List.length_append]; show ws.length + 1 ≤ j; omega)] at e; cases e
  nodup := List.nodup_append.mpr ⟨h.nodup, nd1' v, fun a ha b hb => by rw [List.mem_singleton.mp hb]; rintro rfl; exact n ha⟩
theorem WsOk.new {ws : List Str} (h : WsOk ws) : (("c" : Str) ++ (⟨#[97 + ws.length]⟩ : Str)) ∉ ws := fun hm => by
  obtain ⟨j, e⟩ := List.mem_iff_getElem?.mp hm
  have hj : j < ws.length := by
    rcases Nat.lt_or_ge j ws.length with l | l
    · exact l
    · rw [List.getElem?_eq_none l] at e; cases e
  rcases h.at' j _ e with a | ⟨a, b⟩
  · have := a.2.2 99 (by show 99 ∈ [99, 97 + ws.length]; exact List.mem_cons_self)
    omega
  · have e2 : [99, 97 + ws.length] = [99, 97 + j] := congrArg (fun s : Str => s.cps.toList) b
    injection e2 with _ e3
    injection e3 with e4
    omega
theorem atI_range {j : Nat} (h : j < 26) : atI (List.range' 97 26) (j : Int) = some (97 + j) := by
  have := (by decide +kernel : ∀ j : Fin 26, atI (List.range' 97 26) ((j.val : Nat) : Int) = some (97 + j.val)) ⟨j, h⟩
  exact this
def cWord (ns : List Int) : Ct := fun ms Q _ => ∃ (i : Int) (ws : List Str), ms = [StM ns i, .lst ((ws.map PyData.str).map M.d)] ∧ 0 ≤ i ∧ i < 900000000 ∧ ws.length < 26 ∧ WsOk ws ∧
  ∀ (v : Str) (i' : Int), i ≤ i' → i' ≤ i + 20 → v ∉ ws → WordAt ws.length v → Q (.d (.str v)) [StM ns i', .lst ((ws.map PyData.str).map M.d)]
section
variable {P : Program} {w : World} {K : PySem.W.Frag} {mg : Str → Option Value} {base : Heap}
theorem d_word {ns : List Int} (gn : GoodN ns) {f : Addr} {fd : FuncData} (F : Fun K "_law_word" "_law_word" sWord f fd) (gl : mg "_law_word" = some (.ref f)) (hb : Binds K fd ["state", "taken"] []) (mLen : mg "len" = none) (mRange : mg "range" = none)
    (D1 : Def P w K mg base "_law_next" 1 (cNext ns)) : Def P w K mg base "_law_word" 2 (cWord ns) := by
  refine Def.mk' F scWord gl hb (fun ms Q E ⟨i, many, h, _⟩ => by rw [h]; rfl) fun cdv A outer s H E hr hg ms Q Ed h => ?_
  obtain ⟨i, ws, rfl, i0, i1, wl, wok, q⟩ := h
  repeat walk_at "dl"
  refine dS_for [3] rfl (by intro _; rfl) (dI_range1 rfl mRange rfl rfl ?_)
  repeat walk_at "dl"
  refine ⟨by walk_at "nd", _, rfl, _, _, rfl, i0, by omega, by decide, fun r8 a0 a1 => ?_⟩
  repeat walk_at "dl"
  refine ⟨by walk_at "nd", _, rfl, _, _, rfl, by omega, by omega, by decide, fun r3 b0 b1 => ?_⟩
  repeat walk_at "dl"
  repeat walk_at "dl"
  obtain ⟨n, hn, _, hat⟩ := atI_map PyData.int (xs := [1, 2, 1 + r8]) b0 b1
  have n01 : 1 ≤ n ∧ n ≤ 8 := by
    simp only [List.mem_cons, List.not_mem_nil, or_false] at hn
    omega
  refine ixR_l hat ?_
  refine ⟨⟨by omega, by omega⟩, fun k Γ => ∃ i' v g, Γ = [some (StM ns i'), some (.lst ((ws.map PyData.str).map M.d)), some (.d (.str v)), g] ∧ i' = i + 2 + k ∧ v.length = k ∧ ∀ c ∈ v.cps.toList, c = 97 ∨ c = 98 ∨ c = 121 ∨ c = 122,
    ⟨i + 1 + 1, "", none, rfl, by omega, rfl, fun c hc => nomatch hc⟩, fun k x Γk hx hI => ?_, fun Γn hI => ?_⟩
  · obtain ⟨i', v, g, hΓ, hi, hv, hc⟩ := hI
    subst hΓ
    obtain ⟨hk, rfl⟩ := rngD_get hx
    refine dG_nm rfl (by walk_at "loc") rfl (by decide) (by first | exact Or.inl rfl | exact Or.inr rfl) ?_
    repeat walk_at "dl"
    refine ⟨by walk_at "nd", _, rfl, _, _, rfl, by omega, by omega, by decide, fun r4 c0 c1 => ?_⟩
    repeat walk_at "dl"
    obtain ⟨c, hc2, _, hat2⟩ := atI_mem (xs := ("abyz" : Str).cps.toList) c0 c1
    refine ⟨c, hat2, ?_⟩
    repeat walk_at "dl"
    show _ ∧ _
    refine ⟨?_, ?_⟩
    · show v.length + 1 ≤ sizeLine
      exact Nat.le_trans (show v.length + 1 ≤ 100 by omega) (by decide)
    repeat walk_at "dl"
    refine ⟨i' + 1, v ++ ⟨#[c]⟩, _, rfl, by omega, ?_, ?_⟩
    · rw [Str.length_append]; show v.length + 1 = _; omega
    · intro d hd
      rw [Str.cps_append, Array.toList_append, List.mem_append] at hd
      rcases hd with hd | hd
      · exact hc d hd
      · rw [List.mem_singleton.mp hd]
        rw [(by decide +kernel : ("abyz" : Str).cps.toList = [97, 98, 121, 122])] at hc2
        simpa only [List.mem_cons, List.not_mem_nil, or_false] using hc2
  · obtain ⟨i', v, g, hΓ, hi, hv, hc⟩ := hI
    subst hΓ
    rw [rngD_length] at hi hv
    repeat walk_at "dl"
    refine ⟨shp_str fun c h => by rcases hc c h with h | h | h | h <;> omega, (shp_strs fun w hw => (wok.ok w hw).shp).1, ?_⟩
    rw [any_strs]
    refine flat_d trivial (ite_d (fun hin => ?_) fun hin => ?_)
    · repeat walk_at "dl"
      have hl : ("abcdefghijklmnopqrstuvwxyz" : Str).cps.toList = List.range' 97 26 := by decide +kernel
      refine ⟨97 + ws.length, ?_, ?_⟩
      · rw [List.length_map, hl]
        exact (atI_range wl)
      · repeat walk_at "dl"
        show _ ∧ _
        refine ⟨by show 2 ≤ _; decide, ?_⟩
        exact ⟨_, rfl, q _ _ (by omega) (by omega) wok.new (Or.inr ⟨wl, rfl⟩)⟩
    · repeat walk_at "dl"
      exact ⟨_, rfl, q _ _ (by omega) (by omega) hin (Or.inl ⟨by omega, by omega, hc⟩)⟩
end
end K01

set_option Elab.async false
set_option linter.all false
set_option maxRecDepth 100000
set_option maxHeartbeats 4000000
namespace K01
open PySem PySem.Spec PyProof.Rows L2 DL
local macro_rules | `(tactic| walk_at "nd") => `(tactic| first | exact List.nodup_nil | exact nd1 _ | exact nd2 (by decide) | exact nd3 (by decide) (by decide) (by decide))
local macro_rules | `(tactic| walk_at "vis") => `(tactic| first | exact Or.inl rfl | exact Or.inr (Or.inl rfl) | exact Or.inr (Or.inr rfl))
local macro_rules | `(tactic| walk_at "loc") => `(tactic| first | exact Or.inl rfl | exact Or.inr rfl)
local macro_rules | `(tactic| walk_at "room") => `(tactic| first | assumption | exact Room.mono (by assumption) (by decide))
local macro_rules | `(tactic| walk_at "nrm") => `(tactic| first
  | show dSs _ _ [_] _ | show dSs _ _ [_, _] _ | show dSs _ _ [_, _, _] _ | show dSs _ _ [_, _, _, _] _ | show dSs _ _ [_, _, _, _, _] _ | show dSs _ _ [_, _, _, _, _, _] _
  | show dSs _ _ [_, _, _, _, _, _, _] _ | show dSs _ _ [_, _, _, _, _, _, _, _] _ | show dSs _ _ [_, _, _, _, _, _, _, _, _] _ | show dSs _ _ [_, _, _, _, _, _, _, _, _, _] _
  | show dSs _ _ [_, _, _, _, _, _, _, _, _, _, _] _ | show dSs _ _ [_, _, _, _, _, _, _, _, _, _, _, _] _)
local macro_rules | `(tactic| walk_at "dE") => `(tactic| first
  | refine dE_nm rfl (by walk_at "vis") rfl ?_
  | refine dE_int ?_ | refine dE_str ?_ | refine dE_bl ?_ | refine dE_non ?_
  | refine dE_con (by assumption) rfl ?_
  | ((with_reducible show dE _ (.Name (Str.ofString "tuple") _) _ _); refine dE_ty (T := "tuple") rfl (by assumption) (by decide +kernel) ?_)
  | ((with_reducible show dE _ (.Name (Str.ofString "str") _) _ _); refine dE_ty (T := "str") rfl (by assumption) (by decide +kernel) ?_)
  | refine dE_ix (fun _ _ => rfl) ?_
  | refine dE_of_dO ?_)
local macro_rules | `(tactic| walk_at "dO") => `(tactic| first
  | refine dO_op ?_
  | refine dO_cmp (nomark _) ?_
  | refine dO_cmp (by rfl) ?_
  | refine dO_tup ?_ | refine dO_lst ?_
  | refine dO_and ?_ | refine dO_or ?_ | refine dO_one ?_ | refine dO_not ?_
  | refine dO_sl ?_
  | ((with_reducible show dO _ (.Call (.Name (Str.ofString "len") _) _ _ _) _ _); refine dO_callB (x := "len") (id := "len") rfl (by assumption) (by decide +kernel) rfl rfl ?_)
  | ((with_reducible show dO _ (.Call (.Name (Str.ofString "int") _) _ _ _) _ _); refine dO_callTy (x := "int") (T := "int") rfl (by assumption) (by decide +kernel) rfl rfl ?_)
  | ((with_reducible show dO _ (.Call (.Name (Str.ofString "tuple") _) _ _ _) _ _); refine dO_callTy (x := "tuple") (T := "tuple") rfl (by assumption) (by decide +kernel) rfl rfl ?_)
  | ((with_reducible show dO _ (.Call (.Name (Str.ofString "abs") _) _ _ _) _ _); refine dO_callB (x := "abs") (id := "abs") rfl (by assumption) (by decide +kernel) rfl rfl ?_)
  | ((with_reducible show dO _ (.Call (.Name (Str.ofString "max") _) _ _ _) _ _); refine dO_callB (x := "max") (id := "max") rfl (by assumption) (by decide +kernel) rfl rfl ?_)
  | ((with_reducible show dO _ (.Call (.Name (Str.ofString "sum") _) _ _ _) _ _); refine dO_callB (x := "sum") (id := "sum") rfl (by assumption) (by decide +kernel) rfl rfl ?_)
  | ((with_reducible show dO _ (.Call (.Name (Str.ofString "all") _) _ _ _) _ _); refine dO_callB (x := "all") (id := "all") rfl (by assumption) (by decide +kernel) rfl rfl ?_)
  | ((with_reducible show dO _ (.Call (.Name (Str.ofString "repr") _) _ _ _) _ _); refine dO_callB (x := "repr") (id := "repr") rfl (by assumption) (by decide +kernel) rfl rfl ?_)
  | ((with_reducible show dO _ (.Call (.Name (Str.ofString "isinstance") _) _ _ _) _ _); refine dO_isi rfl (by assumption) rfl rfl ?_)
  | refine dO_fn (by assumption) (by walk_at "room") rfl rfl rfl ?_
  | ((with_reducible show dO _ (.Name _ _) _ _); refine dO_of_dE ?_)
  | ((with_reducible show dO _ (.Constant _ _ _) _ _); refine dO_of_dE ?_)
  | ((with_reducible show dO _ (.Subscript _ _ _) _ _); refine dO_of_dE ?_))
local macro_rules | `(tactic| walk_at "dS") => `(tactic| first
  | refine dS_if ?_ | refine dS_ret ?_ | refine dS_retN ?_ | refine dS_pass ?_ | refine dS_break ?_ | refine dS_cont ?_
  | refine dS_st rfl (by walk_at "loc") rfl ?_ rfl (Or.inl rfl)
  | refine dS_appN rfl (by walk_at "vis") rfl ?_ rfl rfl rfl rfl rfl
  | refine dS_setix (i := 0) rfl (by walk_at "vis") ?_ (by intro _; rfl) rfl rfl rfl)
local macro_rules | `(tactic| walk_at "dT") => `(tactic| first
  | refine dT_not ?_ | refine dT_cmp (nomark _) ?_ | refine dT_cmp (by rfl) ?_ | (show dT _ (.BoolOp _ _ _) _ _; refine dT_W ?_) | refine dT_val (by intro _; rfl) ?_)
local macro_rules | `(tactic| walk_at "shp") => `(tactic| first | assumption | exact shp_lit (by decide +kernel) | exact (shp_strs (by assumption)).1 | exact (shp_strs (by assumption)).2)
local macro_rules | `(tactic| walk_at "dl") => `(tactic| first
  | (with_reducible show dE _ _ _ _); walk_at "dE"
  | (with_reducible show dO _ _ _ _); walk_at "dO"
  | (with_reducible show dA _ _ _ _); (first | refine dA_cons rfl ?_ | refine dA_nil ?_)
  | (with_reducible show dT _ _ _ _); walk_at "dT"
  | (with_reducible show dS _ _ _ _); walk_at "dS"
  | (with_reducible show dSs _ _ _ _); walk_at "nrm"; (first | refine dSs_cons ?_ | refine dSs_nil ?_)
  | (with_reducible show dOp _ _ _ _ _); (first | refine dOp_of ?_ | refine dOp_cmp (DC.hu _) ?_)
  | (with_reducible show dW _ _ _ _); (first | refine dW_and ?_ | refine dW_or ?_ | refine dW_and1 ?_ | refine dW_or1 ?_)
  | (with_reducible show dB _ _ _ _); (first | refine dB_none ?_ | refine dB_some ?_)
  | (with_reducible show dC _ _ _ _); (first | refine dC_lenL ?_ | refine dC_lenT ?_ | refine dC_lenS (Nat.le_of_ble_eq_true rfl) ?_ | refine dC_intI ?_ | refine dC_intB ?_ | refine dC_tupT ?_ | refine dC_tupL ?_ | refine dC_lisT ?_ | refine dC_lisL ?_ | refine dC_len ?_ | refine dC_sum rfl ?_ | refine dC_all rfl ?_ | refine dC_int ?_ | refine dC_tuple ?_ | refine dC_abs ?_ | refine dC_max rfl ?_)
  | refine ixR_t atI_0 ?_ | refine ixR_t atI_1 ?_ | refine ixR_t atI_2 ?_ | refine ixR_l atI_0 ?_ | refine ixR_l atI_1 ?_ | refine ixR_al rfl rfl ?_ | refine ixR_t rfl ?_ | refine ixR_l rfl ?_
  | refine ⟨show List.length _ ≤ sizeLine from Nat.le_of_ble_eq_true rfl, ?_⟩
  | refine cmp_eqI ?_ | refine cmp_neI ?_ | refine cmp_eqS (by walk_at "shp") (by walk_at "shp") ?_ | refine cmp_neS (by walk_at "shp") (by walk_at "shp") ?_ | refine cmp_inT (by walk_at "shp") (by walk_at "shp") ?_ | refine cmp_inL (by walk_at "shp") (by walk_at "shp") ?_
  | refine slR_t ?_ | refine slR_l ?_
  | refine onB_b ?_ | refine ite_T rfl ?_ | refine ite_F rfl ?_ | refine onD_d ?_ | refine frzQ_d ?_ | refine flat_d trivial ?_ | refine onX_d ?_ | refine onX_al rfl ?_
  | refine frzQ.list ?_
  | refine ⟨⟨_, rfl⟩, ?_⟩ | refine ⟨_, _, rfl, rfl, ?_⟩)

abbrev sLetters : Stmt := topS 21
theorem scLetters : FnScope ["state", "many", "found", "k"] ["state", "many"] (defScope sLetters) := ⟨rfl, rfl, rfl, by decide +kernel, rfl, by decide +kernel, by decide +kernel⟩
def cLetters (ns : List Int) : Ct := fun ms Q _ => ∃ (i : Int) (many : Nat), ms = [StM ns i, .d (.int many)] ∧ 0 ≤ i ∧ i < 800000000 ∧ many ≤ 26 ∧
  ∀ (ws : List Str) (i' : Int), i ≤ i' → i' ≤ i + 20 * many → ws.length = many → WsOk ws → Q (.d (.tuple (ws.map PyData.str))) [StM ns i', .d (.int many)]
section
variable {P : Program} {w : World} {K : PySem.W.Frag} {mg : Str → Option Value} {base : Heap}
theorem d_letters {ns : List Int} {f : Addr} {fd : FuncData} (F : Fun K "_law_letters" "_law_letters" sLetters f fd) (gl : mg "_law_letters" = some (.ref f)) (hb : Binds K fd ["state", "many"] []) (mRange : mg "range" = none) (mTuple : mg "tuple" = none)
    (D1 : Def P w K mg base "_law_word" 2 (cWord ns)) : Def P w K mg base "_law_letters" 3 (cLetters ns) := by
  refine Def.mk' F scLetters gl hb (fun ms Q E ⟨i, many, h, _⟩ => by rw [h]; rfl) fun cdv A outer s H E hr hg ms Q Ed h => ?_
  obtain ⟨i, many, rfl, i0, i1, wl, q⟩ := h
  repeat walk_at "dl"
  refine dS_for [3] rfl (by intro _; rfl) (dI_range1 rfl mRange rfl rfl ?_)
  repeat walk_at "dl"
  refine ⟨⟨by omega, by omega⟩, fun k Γ => ∃ i' ws g, Γ = [some (StM ns i'), some (.d (.int many)), some (.lst ((ws.map PyData.str).map M.d)), g] ∧ i ≤ i' ∧ i' ≤ i + 20 * k ∧ ws.length = k ∧ k ≤ many ∧ WsOk ws,
    ⟨i, [], none, rfl, by omega, by omega, rfl, by omega, WsOk.nil⟩, fun k x Γk hx hI => ?_, fun Γn hI => ?_⟩
  · obtain ⟨i', ws, g, hΓ, hi, hi2, hl, hk, wok⟩ := hI
    subst hΓ
    obtain ⟨hk, rfl⟩ := rngD_get hx
    refine dG_nm rfl (by walk_at "loc") rfl (by decide) (by first | exact Or.inl rfl | exact Or.inr rfl) ?_
    repeat walk_at "dl"
    refine ⟨by walk_at "nd", _, rfl, _, _, rfl, by omega, by omega, by omega, wok, fun v i2 a0 a1 a2 a3 => ?_⟩
    repeat walk_at "dl"
    refine ⟨_, rfl, Nat.lt_of_le_of_lt (m := 26) (by rw [List.length_map, List.length_map]; omega) (by decide), ?_⟩
    repeat walk_at "dl"
    refine ⟨i2, ws ++ [v], some (.d (.int (0 + k))), ?_, by omega, by omega, by rw [List.length_append]; show ws.length + 1 = _; omega, by omega, wok.snoc a2 a3⟩
    rw [List.map_append, List.map_append]
    rfl
  · obtain ⟨i', ws, g, hΓ, hi, hi2, hl, hk, wok⟩ := hI
    subst hΓ
    rw [rngD_length] at hi2 hl
    refine dSs_frz 2 rfl (Frz.list _) rfl ?_
    repeat walk_at "dl"
    exact ⟨_, rfl, q ws i' (by omega) (by omega) (by omega) wok⟩
end
end K01

set_option Elab.async false
set_option linter.all false
set_option maxRecDepth 100000
set_option maxHeartbeats 4000000
namespace K01
open PySem PySem.Spec PyProof.Rows L2 DL
local macro_rules | `(tactic| walk_at "nd") => `(tactic| first | exact List.nodup_nil | exact nd1 _ | exact nd2 (by decide) | exact nd3 (by decide) (by decide) (by decide))
local macro_rules | `(tactic| walk_at "vis") => `(tactic| first | exact Or.inl rfl | exact Or.inr (Or.inl rfl) | exact Or.inr (Or.inr rfl))
local macro_rules | `(tactic| walk_at "loc") => `(tactic| first | exact Or.inl rfl | exact Or.inr rfl)
local macro_rules | `(tactic| walk_at "room") => `(tactic| first | assumption | exact Room.mono (by assumption) (by decide))
local macro_rules | `(tactic| walk_at "nrm") => `(tactic| first
  | show dSs _ _ [_] _ | show dSs _ _ [_, _] _ | show dSs _ _ [_, _, _] _ | show dSs _ _ [_, _, _, _] _ | show dSs _ _ [_, _, _, _, _] _ | show dSs _ _ [_, _, _, _, _, _] _
  | show dSs _ _ [_, _, _, _, _, _, _] _ | show dSs _ _ [_, _, _, _, _, _, _, _] _ | show dSs _ _ [_, _, _, _, _, _, _, _, _] _ | show dSs _ _ [_, _, _, _, _, _, _, _, _, _] _
  | show dSs _ _ [_, _, _, _, _, _, _, _, _, _, _] _ | show dSs _ _ [_, _, _, _, _, _, _, _, _, _, _, _] _)
local macro_rules | `(tactic| walk_at "dE") => `(tactic| first
  | refine dE_nm rfl (by walk_at "vis") rfl ?_
  | refine dE_int ?_ | refine dE_str ?_ | refine dE_bl ?_ | refine dE_non ?_
  | refine dE_con (by assumption) rfl ?_
  | ((with_reducible show dE _ (.Name (Str.ofString "tuple") _) _ _); refine dE_ty (T := "tuple") rfl (by assumption) (by decide +kernel) ?_)
  | ((with_reducible show dE _ (.Name (Str.ofString "str") _) _ _); refine dE_ty (T := "str") rfl (by assumption) (by decide +kernel) ?_)
  | refine dE_ix (fun _ _ => rfl) ?_
  | refine dE_of_dO ?_)
local macro_rules | `(tactic| walk_at "dO") => `(tactic| first
  | refine dO_op ?_
  | refine dO_cmp (nomark _) ?_
  | refine dO_cmp (by rfl) ?_
  | refine dO_tup ?_ | refine dO_lst ?_
  | refine dO_and ?_ | refine dO_or ?_ | refine dO_one ?_ | refine dO_not ?_
  | refine dO_sl ?_
  | ((with_reducible show dO _ (.Call (.Name (Str.ofString "len") _) _ _ _) _ _); refine dO_callB (x := "len") (id := "len") rfl (by assumption) (by decide +kernel) rfl rfl ?_)
  | ((with_reducible show dO _ (.Call (.Name (Str.ofString "int") _) _ _ _) _ _); refine dO_callTy (x := "int") (T := "int") rfl (by assumption) (by decide +kernel) rfl rfl ?_)
  | ((with_reducible show dO _ (.Call (.Name (Str.ofString "tuple") _) _ _ _) _ _); refine dO_callTy (x := "tuple") (T := "tuple") rfl (by assumption) (by decide +kernel) rfl rfl ?_)
  | ((with_reducible show dO _ (.Call (.Name (Str.ofString "abs") _) _ _ _) _ _); refine dO_callB (x := "abs") (id := "abs") rfl (by assumption) (by decide +kernel) rfl rfl ?_)
  | ((with_reducible show dO _ (.Call (.Name (Str.ofString "max") _) _ _ _) _ _); refine dO_callB (x := "max") (id := "max") rfl (by assumption) (by decide +kernel) rfl rfl ?_)
  | ((with_reducible show dO _ (.Call (.Name (Str.ofString "sum") _) _ _ _) _ _); refine dO_callB (x := "sum") (id := "sum") rfl (by assumption) (by decide +kernel) rfl rfl ?_)
  | ((with_reducible show dO _ (.Call (.Name (Str.ofString "all") _) _ _ _) _ _); refine dO_callB (x := "all") (id := "all") rfl (by assumption) (by decide +kernel) rfl rfl ?_)
  | ((with_reducible show dO _ (.Call (.Name (Str.ofString "repr") _) _ _ _) _ _); refine dO_callB (x := "repr") (id := "repr") rfl (by assumption) (by decide +kernel) rfl rfl ?_)
  | ((with_reducible show dO _ (.Call (.Name (Str.ofString "isinstance") _) _ _ _) _ _); refine dO_isi rfl (by assumption) rfl rfl ?_)
  | refine dO_fn (by assumption) (by walk_at "room") rfl rfl rfl ?_
  | ((with_reducible show dO _ (.Name _ _) _ _); refine dO_of_dE ?_)
  | ((with_reducible show dO _ (.Constant _ _ _) _ _); refine dO_of_dE ?_)
  | ((with_reducible show dO _ (.Subscript _ _ _) _ _); refine dO_of_dE ?_))
local macro_rules | `(tactic| walk_at "dS") => `(tactic| first
  | refine dS_if ?_ | refine dS_ret ?_ | refine dS_retN ?_ | refine dS_pass ?_ | refine dS_break ?_ | refine dS_cont ?_
  | refine dS_st rfl (by walk_at "loc") rfl ?_ rfl (Or.inl rfl)
  | refine dS_appN rfl (by walk_at "vis") rfl ?_ rfl rfl rfl rfl rfl
  | refine dS_setix (i := 0) rfl (by walk_at "vis") ?_ (by intro _; rfl) rfl rfl rfl)
local macro_rules | `(tactic| walk_at "dT") => `(tactic| first
  | refine dT_not ?_ | refine dT_cmp (nomark _) ?_ | refine dT_cmp (by rfl) ?_ | (show dT _ (.BoolOp _ _ _) _ _; refine dT_W ?_) | refine dT_val (by intro _; rfl) ?_)
local macro_rules | `(tactic| walk_at "shp") => `(tactic| first | assumption | exact shp_lit (by decide +kernel) | exact (shp_strs (by assumption)).1 | exact (shp_strs (by assumption)).2)
local macro_rules | `(tactic| walk_at "dl") => `(tactic| first
  | (with_reducible show dE _ _ _ _); walk_at "dE"
  | (with_reducible show dO _ _ _ _); walk_at "dO"
  | (with_reducible show dA _ _ _ _); (first | refine dA_cons rfl ?_ | refine dA_nil ?_)
  | (with_reducible show dT _ _ _ _); walk_at "dT"
  | (with_reducible show dS _ _ _ _); walk_at "dS"
  | (with_reducible show dSs _ _ _ _); walk_at "nrm"; (first | refine dSs_cons ?_ | refine dSs_nil ?_)
  | (with_reducible show dOp _ _ _ _ _); (first | refine dOp_of ?_ | refine dOp_cmp (DC.hu _) ?_)
  | (with_reducible show dW _ _ _ _); (first | refine dW_and ?_ | refine dW_or ?_ | refine dW_and1 ?_ | refine dW_or1 ?_)
  | (with_reducible show dB _ _ _ _); (first | refine dB_none ?_ | refine dB_some ?_)
  | (with_reducible show dC _ _ _ _); (first | refine dC_lenL ?_ | refine dC_lenT ?_ | refine dC_lenS (Nat.le_of_ble_eq_true rfl) ?_ | refine dC_intI ?_ | refine dC_intB ?_ | refine dC_tupT ?_ | refine dC_tupL ?_ | refine dC_lisT ?_ | refine dC_lisL ?_ | refine dC_len ?_ | refine dC_sum rfl ?_ | refine dC_all rfl ?_ | refine dC_int ?_ | refine dC_tuple ?_ | refine dC_abs ?_ | refine dC_max rfl ?_)
  | refine ixR_t atI_0 ?_ | refine ixR_t atI_1 ?_ | refine ixR_t atI_2 ?_ | refine ixR_l atI_0 ?_ | refine ixR_l atI_1 ?_ | refine ixR_al rfl rfl ?_ | refine ixR_t rfl ?_ | refine ixR_l rfl ?_
  | refine ⟨show List.length _ ≤ sizeLine from Nat.le_of_ble_eq_true rfl, ?_⟩
  | refine cmp_eqI ?_ | refine cmp_neI ?_ | refine cmp_eqS (by walk_at "shp") (by walk_at "shp") ?_ | refine cmp_neS (by walk_at "shp") (by walk_at "shp") ?_ | refine cmp_inT (by walk_at "shp") (by walk_at "shp") ?_ | refine cmp_inL (by walk_at "shp") (by walk_at "shp") ?_
  | refine slR_t ?_ | refine slR_l ?_
  | refine onB_b ?_ | refine ite_T rfl ?_ | refine ite_F rfl ?_ | refine onD_d ?_ | refine frzQ_d ?_ | refine flat_d trivial ?_ | refine onX_d ?_ | refine onX_al rfl ?_
  | refine frzQ.list ?_
  | refine ⟨⟨_, rfl⟩, ?_⟩ | refine ⟨_, _, rfl, rfl, ?_⟩)

/-! ### patterns as data -/
def plainW : List Str := ["any", "empty", "none"]
def singleW : List Str := ["not", "again"]
def doubleW : List Str := ["row", "and", "or"]
def isLet (ls : List Str) : PyData → Bool
  | .str s => decide (s ∈ ls)
  | _ => false
def isP (ls : List Str) : PyData → Bool
  | .tuple [.str w] => decide (w ∈ plainW)
  | .tuple [.str w, b] => if w = "letter" then isLet ls b else decide (w ∈ singleW) && isP ls b
  | .tuple [.str w, b, c] => decide (w ∈ doubleW) && (isP ls b && isP ls c)
  | _ => false
/-- how many nodes, of a pattern -/
def cntP : PyData → Nat
  | .tuple [.str w, b] => if w = "letter" then 1 else 1 + cntP b
  | .tuple [_, b, c] => 1 + (cntP b + cntP c)
  | _ => 1
/-- whole texts, no dict, so deep -/
structure Wd (d : Nat) (x : PyData) : Prop where
  lay : x.canLay0 = true
  dep : x.depth ≤ d
theorem Wd.mono {d e : Nat} {x : PyData} (h : Wd d x) (k : d ≤ e) : Wd e x := ⟨h.lay, Nat.le_trans h.dep k⟩
theorem lay_mem : ∀ {xs : List PyData} {x : PyData}, PyData.canLayAll0 xs = true → x ∈ xs → x.canLay0 = true
  | y :: ys, x, h, hx => by
    rw [PyData.canLayAll0, Bool.and_eq_true] at h
    rcases List.mem_cons.mp hx with rfl | hx
    · exact h.1
    · exact lay_mem h.2 hx
theorem dep_mem : ∀ {xs : List PyData} {x : PyData}, x ∈ xs → x.depth ≤ PyData.depthAll xs
  | y :: ys, x, hx => by
    rw [PyData.depthAll]
    rcases List.mem_cons.mp hx with rfl | hx
    · exact Nat.le_max_left _ _
    · exact Nat.le_trans (dep_mem hx) (Nat.le_max_right _ _)
theorem Wd.part {d : Nat} {xs : List PyData} {x : PyData} (h : Wd (d + 1) (.tuple xs)) (hx : x ∈ xs) : Wd d x where
  lay := lay_mem (by have := h.lay; rw [PyData.canLay0] at this; exact this) hx
  dep := by have := h.dep; rw [PyData.depth] at this; have := dep_mem hx; omega
theorem Wd.pos {d : Nat} {xs : List PyData} (h : Wd d (.tuple xs)) : ∃ e, d = e + 1 := by
  have := h.dep; rw [PyData.depth] at this
  exact ⟨d - 1, by omega⟩
theorem Wd.tup {d : Nat} {xs : List PyData} (h : ∀ x ∈ xs, Wd d x) : Wd (d + 1) (.tuple xs) where
  lay := by rw [PyData.canLay0]; exact canLay_all fun x hx => (h x hx).lay
  dep := by rw [PyData.depth]; exact Nat.succ_le_succ (depth_all fun x hx => (h x hx).dep)
theorem Wd.shp {d : Nat} {x : PyData} (h : Wd d x) (k : d ≤ 64) : shp x := shp_of h.lay (Nat.le_trans h.dep k)
theorem Wd.str {w : Str} {d : Nat} (h : ∀ c ∈ w.cps.toList, c < 1114112) : Wd d (.str w) := ⟨by rw [PyData.canLay0]; exact strOk_of h, by rw [PyData.depth]; exact Nat.zero_le _⟩
theorem wd_str {w : Str} {d : Nat} (h : Wd d (.str w)) : shp (.str w) := shp_of h.lay (by rw [PyData.depth]; decide)
abbrev sIs : Stmt := topS 13
theorem scIs : FnScope ["letters", "value", "word"] ["letters", "value"] (defScope sIs) := ⟨rfl, rfl, rfl, by decide +kernel, rfl, by decide +kernel, by decide +kernel⟩
abbrev lets (ls : List Str) : PyData := .tuple (ls.map PyData.str)
def LsOk (ls : List Str) : Prop := ∀ w ∈ ls, ∀ c ∈ w.cps.toList, c < 1114112
theorem plain_ok : ∀ w ∈ plainW, ∀ c ∈ w.cps.toList, c < 1114112 := by decide +kernel
theorem single_ok : ∀ w ∈ singleW, ∀ c ∈ w.cps.toList, c < 1114112 := by decide +kernel
theorem double_ok : ∀ w ∈ doubleW, ∀ c ∈ w.cps.toList, c < 1114112 := by decide +kernel
theorem isP_nostr {ls : List Str} {y : PyData} {ys : List PyData} (h : ∀ s, y ≠ .str s) : isP ls (.tuple (y :: ys)) = false := by
  unfold isP
  split <;> first | rfl | (rename_i e; injection e with e; injection e with e1 e2; exact absurd e1 (h _))
theorem isP_plain {ls : List Str} {w : Str} (h : w ∈ plainW) : ∀ (ys : List PyData), isP ls (.tuple (.str w :: ys)) = decide ((((.str w :: ys : List PyData).length : Nat) : Int) = 1)
  | [] => by unfold isP; rw [decide_eq_true h]; rfl
  | [y] => by
    have a : ¬ w = "letter" := by rintro rfl; revert h; decide +kernel
    have b : decide (w ∈ singleW) = false := decide_eq_false (by intro k; revert w; decide +kernel)
    unfold isP; rw [if_neg a, b, Bool.false_and]; rfl
  | [y, z] => by
    have b : decide (w ∈ doubleW) = false := decide_eq_false (by intro k; revert w; decide +kernel)
    unfold isP; rw [b, Bool.false_and]; rfl
  | x :: y :: z :: ys => by
    unfold isP
    refine (decide_eq_false ?_).symm
    simp only [List.length_cons]
    omega
theorem isP_letter {ls : List Str} : ∀ (ys : List PyData), isP ls (.tuple (.str "letter" :: ys)) = match ys with | [b] => isLet ls b | _ => false
  | [] => by unfold isP; rw [decide_eq_false (by decide +kernel)]
  | [y] => by unfold isP; rw [if_pos rfl]
  | [y, z] => by unfold isP; rw [decide_eq_false (by decide +kernel), Bool.false_and]
  | x :: y :: z :: ys => by unfold isP; rfl
theorem isP_single {ls : List Str} {w : Str} (h : w ∈ singleW) : ∀ (ys : List PyData), isP ls (.tuple (.str w :: ys)) = match ys with | [b] => isP ls b | _ => false
  | [] => by unfold isP; exact decide_eq_false (by intro k; revert w; decide +kernel)
  | [y] => by
    have a : ¬ w = "letter" := by rintro rfl; revert h; decide +kernel
    rw [isP, if_neg a, decide_eq_true h, Bool.true_and]
  | [y, z] => by
    have b : decide (w ∈ doubleW) = false := decide_eq_false (by intro k; revert w; decide +kernel)
    unfold isP; rw [b, Bool.false_and]
  | x :: y :: z :: ys => by unfold isP; rfl
theorem isP_double {ls : List Str} {w : Str} (h : w ∈ doubleW) : ∀ (ys : List PyData), isP ls (.tuple (.str w :: ys)) = match ys with | [b, c] => isP ls b && isP ls c | _ => false
  | [] => by unfold isP; exact decide_eq_false (by intro k; revert w; decide +kernel)
  | [y] => by
    have a : ¬ w = "letter" := by rintro rfl; revert h; decide +kernel
    have b : decide (w ∈ singleW) = false := decide_eq_false (by intro k; revert w; decide +kernel)
    unfold isP; rw [if_neg a, b, Bool.false_and]
  | [y, z] => by rw [isP, decide_eq_true h, Bool.true_and]
  | x :: y :: z :: ys => by unfold isP; rfl
theorem isP_other {ls : List Str} {w : Str} (h1 : w ∉ plainW) (h2 : w ≠ "letter") (h3 : w ∉ singleW) (h4 : w ∉ doubleW) : ∀ (ys : List PyData), isP ls (.tuple (.str w :: ys)) = false
  | [] => by unfold isP; exact decide_eq_false h1
  | [y] => by unfold isP; rw [if_neg h2, decide_eq_false h3, Bool.false_and]
  | [y, z] => by unfold isP; rw [decide_eq_false h4, Bool.false_and]
  | x :: y :: z :: ys => by unfold isP; rfl
def cIs (ls : List Str) (d : Nat) : Ct := fun ms Q _ => ∃ x, ms = [.d (lets ls), .d x] ∧ Wd d x ∧ Q (.d (.bool (isP ls x))) ms
section
variable {P : Program} {w : World} {K : PySem.W.Frag} {mg : Str → Option Value} {base : Heap}
theorem d_is {ls : List Str} (hls : LsOk ls) {f : Addr} {fd : FuncData} (F : Fun K "is_pattern" "is_pattern" sIs f fd) (gl : mg "is_pattern" = some (.ref f)) (hb : Binds K fd ["letters", "value"] []) (mLen : mg "len" = none) (mIsi : mg "isinstance" = none) (mTuple : mg "tuple" = none) (mStr : mg "str" = none)
    (cP : Con K mg "PLAIN" (.tuple (plainW.map PyData.str))) (cS : Con K mg "SINGLE" (.tuple (singleW.map PyData.str))) (cD : Con K mg "DOUBLE" (.tuple (doubleW.map PyData.str)))
    (d : Nat) (ih : ∀ e, d = e + 1 → Def P w K mg base "is_pattern" (e + 1) (cIs ls e)) : Def P w K mg base "is_pattern" (d + 1) (cIs ls d) := by
  refine Def.mk' F scIs gl hb (fun ms Q E ⟨x, h, _⟩ => by rw [h]; rfl) fun cdv A outer s H E hr hg ms Q Ed h => ?_
  obtain ⟨x, rfl, wx, q⟩ := h
  repeat walk_at "dl"
  by_cases ht : ∃ xs, x = .tuple xs
  · obtain ⟨xs, rfl⟩ := ht
    refine ⟨true, isi_tup, ?_⟩
    obtain ⟨e, rfl⟩ := wx.pos
    have ih := ih e rfl
    cases xs with
    | nil =>
      repeat walk_at "dl"
      exact ⟨_, rfl, q⟩
    | cons y ys =>
    repeat walk_at "dl"
    by_cases hy : ∃ w, y = .str w
    · obtain ⟨w, rfl⟩ := hy
      have sw : shp (.str w) := wd_str (wx.part List.mem_cons_self)
      have sp := plain_ok
      have ss := single_ok
      have sd := double_ok
      have hls2 : ∀ w ∈ ls, ∀ c ∈ w.cps.toList, c < 1114112 := hls
      refine ⟨true, isi_str, ?_⟩
      repeat walk_at "dl"
      refine ite_d (fun hp => ?_) (fun hp => ?_)
      · rw [isP_plain hp] at q
        repeat walk_at "dl"
        exact ⟨_, rfl, q⟩
      · repeat walk_at "dl"
        refine ite_d (fun hl => ?_) (fun hl => ?_)
        · subst hl
          rw [isP_letter] at q
          rcases ys with _ | ⟨b, _ | ⟨c, ys⟩⟩
          · repeat walk_at "dl"
            exact ⟨_, rfl, q⟩
          · repeat walk_at "dl"
            by_cases hb : ∃ l, b = .str l
            · obtain ⟨l, rfl⟩ := hb
              have sl : shp (.str l) := wd_str (wx.part (List.mem_cons_of_mem _ List.mem_cons_self))
              refine ⟨true, isi_str, ?_⟩
              repeat walk_at "dl"
              exact ⟨_, rfl, q⟩
            · have e0 : isLet ls b = false := by cases b <;> first | rfl | exact absurd ⟨_, rfl⟩ hb
              have q : Q (M.d (PyData.bool (isLet ls b))) _ := q
              rw [e0] at q
              refine ⟨false, isi_nstr fun xs e => hb ⟨xs, e⟩, ?_⟩
              repeat walk_at "dl"
              exact ⟨_, rfl, q⟩
          · repeat walk_at "dl"
            exact ⟨_, rfl, q⟩
        · repeat walk_at "dl"
          refine ite_d (fun hs => ?_) (fun hs => ?_)
          · rw [isP_single hs] at q
            rcases ys with _ | ⟨b, _ | ⟨c, ys⟩⟩
            · repeat walk_at "dl"
              exact ⟨_, rfl, q⟩
            · repeat walk_at "dl"
              refine ⟨by walk_at "nd", _, rfl, b, rfl, wx.part (List.mem_cons_of_mem _ List.mem_cons_self), ?_⟩
              repeat walk_at "dl"
              exact ⟨_, rfl, q⟩
            · repeat walk_at "dl"
              exact ⟨_, rfl, q⟩
          · repeat walk_at "dl"
            refine ite_d (fun hd => ?_) (fun hd => ?_)
            · rw [isP_double hd] at q
              rcases ys with _ | ⟨b, _ | ⟨c, _ | ⟨d, ys⟩⟩⟩
              · repeat walk_at "dl"
                exact ⟨_, rfl, q⟩
              · repeat walk_at "dl"
                exact ⟨_, rfl, q⟩
              · repeat walk_at "dl"
                refine ⟨by walk_at "nd", _, rfl, b, rfl, wx.part (List.mem_cons_of_mem _ List.mem_cons_self), ?_⟩
                repeat walk_at "dl"
                have q : Q (M.d (PyData.bool (isP ls b && isP ls c))) _ := q
                refine ite_b (fun hb => ?_) (fun hb => ?_)
                · rw [hb, Bool.true_and] at q
                  repeat walk_at "dl"
                  refine ⟨by walk_at "nd", _, rfl, c, rfl, wx.part (List.mem_cons_of_mem _ (List.mem_cons_of_mem _ List.mem_cons_self)), ?_⟩
                  repeat walk_at "dl"
                  exact ⟨_, rfl, q⟩
                · rw [hb, Bool.false_and] at q
                  repeat walk_at "dl"
                  exact ⟨_, rfl, q⟩
              · repeat walk_at "dl"
                exact ⟨_, rfl, q⟩
            · rw [isP_other hp hl hs hd] at q
              repeat walk_at "dl"
              exact ⟨_, rfl, q⟩
    · refine ⟨false, isi_nstr fun xs e => hy ⟨xs, e⟩, ?_⟩
      rw [isP_nostr fun xs e => hy ⟨xs, e⟩] at q
      repeat walk_at "dl"
      exact ⟨_, rfl, q⟩
  · refine ⟨false, isi_ntup fun xs e => ht ⟨xs, e⟩, ?_⟩
    have e0 : isP ls x = false := by unfold isP; split <;> first | rfl | exact absurd ⟨_, rfl⟩ ht
    rw [e0] at q
    repeat walk_at "dl"
    exact ⟨_, rfl, q⟩
end
end K01

set_option Elab.async false
set_option linter.all false
set_option maxRecDepth 100000
set_option maxHeartbeats 4000000
namespace K01
open PySem PySem.Spec PyProof.Rows L2 DL
local macro_rules | `(tactic| walk_at "nd") => `(tactic| first | exact List.nodup_nil | exact nd1 _ | exact nd2 (by decide) | exact nd3 (by decide) (by decide) (by decide))
local macro_rules | `(tactic| walk_at "vis") => `(tactic| first | exact Or.inl rfl | exact Or.inr (Or.inl rfl) | exact Or.inr (Or.inr rfl))
local macro_rules | `(tactic| walk_at "loc") => `(tactic| first | exact Or.inl rfl | exact Or.inr rfl)
local macro_rules | `(tactic| walk_at "room") => `(tactic| first | assumption | exact Room.mono (by assumption) (by decide))
local macro_rules | `(tactic| walk_at "nrm") => `(tactic| first
  | show dSs _ _ [_] _ | show dSs _ _ [_, _] _ | show dSs _ _ [_, _, _] _ | show dSs _ _ [_, _, _, _] _ | show dSs _ _ [_, _, _, _, _] _ | show dSs _ _ [_, _, _, _, _, _] _
  | show dSs _ _ [_, _, _, _, _, _, _] _ | show dSs _ _ [_, _, _, _, _, _, _, _] _ | show dSs _ _ [_, _, _, _, _, _, _, _, _] _ | show dSs _ _ [_, _, _, _, _, _, _, _, _, _] _
  | show dSs _ _ [_, _, _, _, _, _, _, _, _, _, _] _ | show dSs _ _ [_, _, _, _, _, _, _, _, _, _, _, _] _)
local macro_rules | `(tactic| walk_at "dE") => `(tactic| first
  | refine dE_nm rfl (by walk_at "vis") rfl ?_
  | refine dE_int ?_ | refine dE_str ?_ | refine dE_bl ?_ | refine dE_non ?_
  | refine dE_con (by assumption) rfl ?_
  | ((with_reducible show dE _ (.Name (Str.ofString "tuple") _) _ _); refine dE_ty (T := "tuple") rfl (by assumption) (by decide +kernel) ?_)
  | ((with_reducible show dE _ (.Name (Str.ofString "str") _) _ _); refine dE_ty (T := "str") rfl (by assumption) (by decide +kernel) ?_)
  | refine dE_ix (fun _ _ => rfl) ?_
  | refine dE_of_dO ?_)
local macro_rules | `(tactic| walk_at "dO") => `(tactic| first
  | refine dO_op ?_
  | refine dO_cmp (nomark _) ?_
  | refine dO_cmp (by rfl) ?_
  | refine dO_tup ?_ | refine dO_lst ?_
  | refine dO_and ?_ | refine dO_or ?_ | refine dO_one ?_ | refine dO_not ?_
  | refine dO_sl ?_
  | ((with_reducible show dO _ (.Call (.Name (Str.ofString "len") _) _ _ _) _ _); refine dO_callB (x := "len") (id := "len") rfl (by assumption) (by decide +kernel) rfl rfl ?_)
  | ((with_reducible show dO _ (.Call (.Name (Str.ofString "int") _) _ _ _) _ _); refine dO_callTy (x := "int") (T := "int") rfl (by assumption) (by decide +kernel) rfl rfl ?_)
  | ((with_reducible show dO _ (.Call (.Name (Str.ofString "tuple") _) _ _ _) _ _); refine dO_callTy (x := "tuple") (T := "tuple") rfl (by assumption) (by decide +kernel) rfl rfl ?_)
  | ((with_reducible show dO _ (.Call (.Name (Str.ofString "abs") _) _ _ _) _ _); refine dO_callB (x := "abs") (id := "abs") rfl (by assumption) (by decide +kernel) rfl rfl ?_)
  | ((with_reducible show dO _ (.Call (.Name (Str.ofString "max") _) _ _ _) _ _); refine dO_callB (x := "max") (id := "max") rfl (by assumption) (by decide +kernel) rfl rfl ?_)
  | ((with_reducible show dO _ (.Call (.Name (Str.ofString "sum") _) _ _ _) _ _); refine dO_callB (x := "sum") (id := "sum") rfl (by assumption) (by decide +kernel) rfl rfl ?_)
  | ((with_reducible show dO _ (.Call (.Name (Str.ofString "all") _) _ _ _) _ _); refine dO_callB (x := "all") (id := "all") rfl (by assumption) (by decide +kernel) rfl rfl ?_)
  | ((with_reducible show dO _ (.Call (.Name (Str.ofString "repr") _) _ _ _) _ _); refine dO_callB (x := "repr") (id := "repr") rfl (by assumption) (by decide +kernel) rfl rfl ?_)
  | ((with_reducible show dO _ (.Call (.Name (Str.ofString "isinstance") _) _ _ _) _ _); refine dO_isi rfl (by assumption) rfl rfl ?_)
  | refine dO_fn (by assumption) (by walk_at "room") rfl rfl rfl ?_
  | ((with_reducible show dO _ (.Name _ _) _ _); refine dO_of_dE ?_)
  | ((with_reducible show dO _ (.Constant _ _ _) _ _); refine dO_of_dE ?_)
  | ((with_reducible show dO _ (.Subscript _ _ _) _ _); refine dO_of_dE ?_))
local macro_rules | `(tactic| walk_at "dS") => `(tactic| first
  | refine dS_if ?_ | refine dS_ret ?_ | refine dS_retN ?_ | refine dS_pass ?_ | refine dS_break ?_ | refine dS_cont ?_
  | refine dS_st rfl (by walk_at "loc") rfl ?_ rfl (Or.inl rfl)
  | refine dS_appN rfl (by walk_at "vis") rfl ?_ rfl rfl rfl rfl rfl
  | refine dS_setix (i := 0) rfl (by walk_at "vis") ?_ (by intro _; rfl) rfl rfl rfl)
local macro_rules | `(tactic| walk_at "dT") => `(tactic| first
  | refine dT_not ?_ | refine dT_cmp (nomark _) ?_ | refine dT_cmp (by rfl) ?_ | (show dT _ (.BoolOp _ _ _) _ _; refine dT_W ?_) | refine dT_val (by intro _; rfl) ?_)
local macro_rules | `(tactic| walk_at "shp") => `(tactic| first | assumption | exact shp_lit (by decide +kernel) | exact (shp_strs (by assumption)).1 | exact (shp_strs (by assumption)).2)
local macro_rules | `(tactic| walk_at "dl") => `(tactic| first
  | (with_reducible show dE _ _ _ _); walk_at "dE"
  | (with_reducible show dO _ _ _ _); walk_at "dO"
  | (with_reducible show dA _ _ _ _); (first | refine dA_cons rfl ?_ | refine dA_nil ?_)
  | (with_reducible show dT _ _ _ _); walk_at "dT"
  | (with_reducible show dS _ _ _ _); walk_at "dS"
  | (with_reducible show dSs _ _ _ _); walk_at "nrm"; (first | refine dSs_cons ?_ | refine dSs_nil ?_)
  | (with_reducible show dOp _ _ _ _ _); (first | refine dOp_of ?_ | refine dOp_cmp (DC.hu _) ?_)
  | (with_reducible show dW _ _ _ _); (first | refine dW_and ?_ | refine dW_or ?_ | refine dW_and1 ?_ | refine dW_or1 ?_)
  | (with_reducible show dB _ _ _ _); (first | refine dB_none ?_ | refine dB_some ?_)
  | (with_reducible show dC _ _ _ _); (first | refine dC_lenL ?_ | refine dC_lenT ?_ | refine dC_lenS (Nat.le_of_ble_eq_true rfl) ?_ | refine dC_intI ?_ | refine dC_intB ?_ | refine dC_tupT ?_ | refine dC_tupL ?_ | refine dC_lisT ?_ | refine dC_lisL ?_ | refine dC_len ?_ | refine dC_sum rfl ?_ | refine dC_all rfl ?_ | refine dC_int ?_ | refine dC_tuple ?_ | refine dC_abs ?_ | refine dC_max rfl ?_)
  | refine ixR_t atI_0 ?_ | refine ixR_t atI_1 ?_ | refine ixR_t atI_2 ?_ | refine ixR_l atI_0 ?_ | refine ixR_l atI_1 ?_ | refine ixR_al rfl rfl ?_ | refine ixR_t rfl ?_ | refine ixR_l rfl ?_
  | refine ⟨show List.length _ ≤ sizeLine from Nat.le_of_ble_eq_true rfl, ?_⟩
  | refine cmp_eqI ?_ | refine cmp_neI ?_ | refine cmp_eqS (by walk_at "shp") (by walk_at "shp") ?_ | refine cmp_neS (by walk_at "shp") (by walk_at "shp") ?_ | refine cmp_inT (by walk_at "shp") (by walk_at "shp") ?_ | refine cmp_inL (by walk_at "shp") (by walk_at "shp") ?_
  | refine slR_t ?_ | refine slR_l ?_
  | refine onB_b ?_ | refine ite_T rfl ?_ | refine ite_F rfl ?_ | refine onD_d ?_ | refine frzQ_d ?_ | refine flat_d trivial ?_ | refine onX_d ?_ | refine onX_al rfl ?_
  | refine frzQ.list ?_
  | refine ⟨⟨_, rfl⟩, ?_⟩ | refine ⟨_, _, rfl, rfl, ?_⟩)

def cntI (x : PyData) : Int := cntP x
theorem isP_cases {ls : List Str} {x : PyData} (h : isP ls x = true) : ∃ (v : Str) (ys : List PyData), x = .tuple (.str v :: ys) ∧ ys.length ≤ 2 ∧ (v ≠ "letter" → ∀ y ∈ ys, isP ls y = true) := by
  unfold isP at h
  split at h
  · exact ⟨_, [], rfl, by decide, fun _ y hy => nomatch hy⟩
  · rename_i v b
    refine ⟨v, [b], rfl, by show 1 ≤ 2; decide, fun n y hy => ?_⟩
    rw [if_neg n, Bool.and_eq_true] at h
    rw [List.mem_singleton.mp hy]
    exact h.2
  · rename_i v b c
    refine ⟨v, [b, c], rfl, by show 2 ≤ 2; decide, fun n y hy => ?_⟩
    rw [Bool.and_eq_true, Bool.and_eq_true] at h
    rcases List.mem_cons.mp hy with rfl | hy
    · exact h.2.1
    · rw [List.mem_singleton.mp hy]; exact h.2.2
  · cases h
theorem cnt_letter {ls : List Str} {ys : List PyData} (h : isP ls (.tuple (.str "letter" :: ys)) = true) : cntP (.tuple (.str "letter" :: ys)) = 1 := by
  rw [isP_letter] at h
  split at h
  · rw [cntP, if_pos rfl]
  · cases h
theorem cnt_sum {ls : List Str} {v : Str} {ys : List PyData} (h : isP ls (.tuple (.str v :: ys)) = true) (n : ¬ v = "letter") : 1 + (ys.map cntI).sum = ((cntP (.tuple (.str v :: ys)) : Nat) : Int) := by
  obtain ⟨v', ys', e, hl, _⟩ := isP_cases h
  injection e with e
  injection e with e1 e2
  subst e2
  rcases ys with _ | ⟨b, _ | ⟨c, _ | ⟨d, ys⟩⟩⟩
  · unfold cntP; rfl
  · rw [cntP, if_neg n]
    show 1 + ((cntP b : Int) + 0) = _
    omega
  · rw [cntP]
    show 1 + ((cntP b : Int) + ((cntP c : Int) + 0)) = _
    omega
  · simp only [List.length_cons] at hl
    omega
def cCnt (ls : List Str) (d : Nat) : Ct := fun ms Q _ => ∃ x, ms = [.d x] ∧ Wd d x ∧ isP ls x = true ∧ Q (.d (.int (cntP x))) ms

abbrev sCnt1 : Stmt := topS 14
theorem scCnt1 : FnScope ["pattern", "part"] ["pattern"] (defScope sCnt1) := ⟨rfl, rfl, rfl, by decide +kernel, rfl, by decide +kernel, by decide +kernel⟩
section
variable {P : Program} {w : World} {K : PySem.W.Frag} {mg : Str → Option Value} {base : Heap}
theorem d_cnt1 {ls : List Str} {f : Addr} {fd : FuncData} (F : Fun K "count_nodes" "count_nodes" sCnt1 f fd) (gl : mg "count_nodes" = some (.ref f)) (hb : Binds K fd ["pattern"] []) (mSum : mg "sum" = none)
    (d : Nat) (ih : ∀ e, d = e + 1 → Def P w K mg base "count_nodes" (e + 1) (cCnt ls e)) : Def P w K mg base "count_nodes" (d + 1) (cCnt ls d) := by
  refine Def.mk' F scCnt1 gl hb (fun ms Q E ⟨x, h, _⟩ => by rw [h]; rfl) fun cdv A outer s H E hr hg ms Q Ed h => ?_
  obtain ⟨x, rfl, wx, px, q⟩ := h
  obtain ⟨v, ys, rfl, hy, hv⟩ := isP_cases px
  have sw : shp (.str v) := wd_str (d := d) (by obtain ⟨e, rfl⟩ := wx.pos; exact (wx.part List.mem_cons_self).mono (by omega))
  obtain ⟨e, rfl⟩ := wx.pos
  have ih := ih e rfl
  repeat walk_at "dl"
  refine ite_d (fun hl => ?_) (fun hl => ?_)
  · subst hl
    repeat walk_at "dl"
    exact ⟨_, rfl, by rw [cnt_letter px] at q; exact q⟩
  · have hp := hv hl
    repeat walk_at "dl"
    refine dO_lc (own := [("part", 1)]) [1] rfl (blkOk_by (by rfl)) (by intro _; rfl) (by intro i hi; cases hi with | head => rfl | tail _ h => exact nomatch h) (by decide) (dI_tup ?_)
    repeat walk_at "dl"
    rw [cutD_from1]
    refine ⟨_, rfl, fun k ms Γ => ms = (((ys.take k).map cntI).map PyData.int).map M.d ∧ Γ = [some (.d (.tuple (.str v :: ys))), none], ⟨rfl, rfl⟩, fun k x ms Γk hx hI => ?_, fun ms Γn hI => ?_⟩
    · obtain ⟨rfl, rfl⟩ := hI
      intro s2 H2 C2 cl2 fp2
      refine dG_nm rfl (by walk_at "loc") rfl (by decide) (by first | exact Or.inl rfl | exact Or.inr rfl) ?_
      intro s3 H3 C3 cl3 fp3
      refine dTs_nil ?_
      repeat walk_at "dl"
      intro s4 H4 C4 cl4 fp4
      repeat walk_at "dl"
      have hm := List.mem_of_getElem? hx
      refine ⟨by walk_at "nd", _, rfl, x, rfl, wx.part (List.mem_cons_of_mem _ hm), hp x hm, ?_⟩
      refine ⟨Nat.lt_of_le_of_lt (m := 3) (by rw [List.length_map, List.length_map, List.length_map, List.length_take]; omega) (by decide), ?_, rfl⟩
      rw [List.take_add_one, hx, List.map_append, List.map_append, List.map_append]
      rfl
    · obtain ⟨rfl, rfl⟩ := hI
      refine frzQ.list ?_
      repeat walk_at "dl"
      rw [List.take_of_length_le (Nat.le_refl _)]
      rw [← cnt_sum px hl] at q
      exact ⟨_, rfl, q⟩
end

abbrev sCnt2 : Stmt := topS 27
theorem scCnt2 : FnScope ["pattern", "part"] ["pattern"] (defScope sCnt2) := ⟨rfl, rfl, rfl, by decide +kernel, rfl, by decide +kernel, by decide +kernel⟩
section
variable {P : Program} {w : World} {K : PySem.W.Frag} {mg : Str → Option Value} {base : Heap}
theorem d_cnt2 {ls : List Str} {f : Addr} {fd : FuncData} (F : Fun K "_law_nodes" "_law_nodes" sCnt2 f fd) (gl : mg "_law_nodes" = some (.ref f)) (hb : Binds K fd ["pattern"] []) (mSum : mg "sum" = none)
    (d : Nat) (ih : ∀ e, d = e + 1 → Def P w K mg base "_law_nodes" (e + 1) (cCnt ls e)) : Def P w K mg base "_law_nodes" (d + 1) (cCnt ls d) := by
  refine Def.mk' F scCnt2 gl hb (fun ms Q E ⟨x, h, _⟩ => by rw [h]; rfl) fun cdv A outer s H E hr hg ms Q Ed h => ?_
  obtain ⟨x, rfl, wx, px, q⟩ := h
  obtain ⟨v, ys, rfl, hy, hv⟩ := isP_cases px
  have sw : shp (.str v) := wd_str (d := d) (by obtain ⟨e, rfl⟩ := wx.pos; exact (wx.part List.mem_cons_self).mono (by omega))
  obtain ⟨e, rfl⟩ := wx.pos
  have ih := ih e rfl
  repeat walk_at "dl"
  refine ite_d (fun hl => ?_) (fun hl => ?_)
  · subst hl
    repeat walk_at "dl"
    exact ⟨_, rfl, by rw [cnt_letter px] at q; exact q⟩
  · have hp := hv hl
    repeat walk_at "dl"
    refine dO_lc (own := [("part", 1)]) [1] rfl (blkOk_by (by rfl)) (by intro _; rfl) (by intro i hi; cases hi with | head => rfl | tail _ h => exact nomatch h) (by decide) (dI_tup ?_)
    repeat walk_at "dl"
    rw [cutD_from1]
    refine ⟨_, rfl, fun k ms Γ => ms = (((ys.take k).map cntI).map PyData.int).map M.d ∧ Γ = [some (.d (.tuple (.str v :: ys))), none], ⟨rfl, rfl⟩, fun k x ms Γk hx hI => ?_, fun ms Γn hI => ?_⟩
    · obtain ⟨rfl, rfl⟩ := hI
      intro s2 H2 C2 cl2 fp2
      refine dG_nm rfl (by walk_at "loc") rfl (by decide) (by first | exact Or.inl rfl | exact Or.inr rfl) ?_
      intro s3 H3 C3 cl3 fp3
      refine dTs_nil ?_
      repeat walk_at "dl"
      intro s4 H4 C4 cl4 fp4
      repeat walk_at "dl"
      have hm := List.mem_of_getElem? hx
      refine ⟨by walk_at "nd", _, rfl, x, rfl, wx.part (List.mem_cons_of_mem _ hm), hp x hm, ?_⟩
      refine ⟨Nat.lt_of_le_of_lt (m := 3) (by rw [List.length_map, List.length_map, List.length_map, List.length_take]; omega) (by decide), ?_, rfl⟩
      rw [List.take_add_one, hx, List.map_append, List.map_append, List.map_append]
      rfl
    · obtain ⟨rfl, rfl⟩ := hI
      refine frzQ.list ?_
      repeat walk_at "dl"
      rw [List.take_of_length_le (Nat.le_refl _)]
      rw [← cnt_sum px hl] at q
      exact ⟨_, rfl, q⟩
end
end K01

set_option Elab.async false
set_option linter.all false
set_option maxRecDepth 100000
set_option maxHeartbeats 4000000
namespace K01
open PySem PySem.Spec PyProof.Rows L2 DL
local macro_rules | `(tactic| walk_at "nd") => `(tactic| first | exact List.nodup_nil | exact nd1 _ | exact nd2 (by decide) | exact nd3 (by decide) (by decide) (by decide))
local macro_rules | `(tactic| walk_at "vis") => `(tactic| first | exact Or.inl rfl | exact Or.inr (Or.inl rfl) | exact Or.inr (Or.inr rfl))
local macro_rules | `(tactic| walk_at "loc") => `(tactic| first | exact Or.inl rfl | exact Or.inr rfl)
local macro_rules | `(tactic| walk_at "room") => `(tactic| first | assumption | exact Room.mono (by assumption) (by decide) | exact Room.mono (by assumption) (by omega))
local macro_rules | `(tactic| walk_at "nrm") => `(tactic| first
  | show dSs _ _ [_] _ | show dSs _ _ [_, _] _ | show dSs _ _ [_, _, _] _ | show dSs _ _ [_, _, _, _] _ | show dSs _ _ [_, _, _, _, _] _ | show dSs _ _ [_, _, _, _, _, _] _
  | show dSs _ _ [_, _, _, _, _, _, _] _ | show dSs _ _ [_, _, _, _, _, _, _, _] _ | show dSs _ _ [_, _, _, _, _, _, _, _, _] _ | show dSs _ _ [_, _, _, _, _, _, _, _, _, _] _
  | show dSs _ _ [_, _, _, _, _, _, _, _, _, _, _] _ | show dSs _ _ [_, _, _, _, _, _, _, _, _, _, _, _] _)
local macro_rules | `(tactic| walk_at "dE") => `(tactic| first
  | refine dE_nm rfl (by walk_at "vis") rfl ?_
  | refine dE_int ?_ | refine dE_str ?_ | refine dE_bl ?_ | refine dE_non ?_
  | refine dE_con (by assumption) rfl ?_
  | ((with_reducible show dE _ (.Name (Str.ofString "tuple") _) _ _); refine dE_ty (T := "tuple") rfl (by assumption) (by decide +kernel) ?_)
  | ((with_reducible show dE _ (.Name (Str.ofString "str") _) _ _); refine dE_ty (T := "str") rfl (by assumption) (by decide +kernel) ?_)
  | refine dE_ix (fun _ _ => rfl) ?_
  | refine dE_of_dO ?_)
local macro_rules | `(tactic| walk_at "dO") => `(tactic| first
  | refine dO_op ?_
  | refine dO_cmp (nomark _) ?_
  | refine dO_cmp (by rfl) ?_
  | refine dO_tup ?_ | refine dO_lst ?_
  | refine dO_and ?_ | refine dO_or ?_ | refine dO_one ?_ | refine dO_not ?_
  | refine dO_sl ?_
  | ((with_reducible show dO _ (.Call (.Name (Str.ofString "len") _) _ _ _) _ _); refine dO_callB (x := "len") (id := "len") rfl (by assumption) (by decide +kernel) rfl rfl ?_)
  | ((with_reducible show dO _ (.Call (.Name (Str.ofString "int") _) _ _ _) _ _); refine dO_callTy (x := "int") (T := "int") rfl (by assumption) (by decide +kernel) rfl rfl ?_)
  | ((with_reducible show dO _ (.Call (.Name (Str.ofString "tuple") _) _ _ _) _ _); refine dO_callTy (x := "tuple") (T := "tuple") rfl (by assumption) (by decide +kernel) rfl rfl ?_)
  | ((with_reducible show dO _ (.Call (.Name (Str.ofString "abs") _) _ _ _) _ _); refine dO_callB (x := "abs") (id := "abs") rfl (by assumption) (by decide +kernel) rfl rfl ?_)
  | ((with_reducible show dO _ (.Call (.Name (Str.ofString "max") _) _ _ _) _ _); refine dO_callB (x := "max") (id := "max") rfl (by assumption) (by decide +kernel) rfl rfl ?_)
  | ((with_reducible show dO _ (.Call (.Name (Str.ofString "sum") _) _ _ _) _ _); refine dO_callB (x := "sum") (id := "sum") rfl (by assumption) (by decide +kernel) rfl rfl ?_)
  | ((with_reducible show dO _ (.Call (.Name (Str.ofString "all") _) _ _ _) _ _); refine dO_callB (x := "all") (id := "all") rfl (by assumption) (by decide +kernel) rfl rfl ?_)
  | ((with_reducible show dO _ (.Call (.Name (Str.ofString "repr") _) _ _ _) _ _); refine dO_callB (x := "repr") (id := "repr") rfl (by assumption) (by decide +kernel) rfl rfl ?_)
  | ((with_reducible show dO _ (.Call (.Name (Str.ofString "isinstance") _) _ _ _) _ _); refine dO_isi rfl (by assumption) rfl rfl ?_)
  | refine dO_fn (by assumption) (by walk_at "room") rfl rfl rfl ?_
  | ((with_reducible show dO _ (.Name _ _) _ _); refine dO_of_dE ?_)
  | ((with_reducible show dO _ (.Constant _ _ _) _ _); refine dO_of_dE ?_)
  | ((with_reducible show dO _ (.Subscript _ _ _) _ _); refine dO_of_dE ?_))
local macro_rules | `(tactic| walk_at "dS") => `(tactic| first
  | refine dS_if ?_ | refine dS_ret ?_ | refine dS_retN ?_ | refine dS_pass ?_ | refine dS_break ?_ | refine dS_cont ?_
  | refine dS_st rfl (by walk_at "loc") rfl ?_ rfl (Or.inl rfl)
  | refine dS_appN rfl (by walk_at "vis") rfl ?_ rfl rfl rfl rfl rfl
  | refine dS_setix (i := 0) rfl (by walk_at "vis") ?_ (by intro _; rfl) rfl rfl rfl)
local macro_rules | `(tactic| walk_at "dT") => `(tactic| first
  | refine dT_not ?_ | refine dT_cmp (nomark _) ?_ | refine dT_cmp (by rfl) ?_ | (show dT _ (.BoolOp _ _ _) _ _; refine dT_W ?_) | refine dT_val (by intro _; rfl) ?_)
local macro_rules | `(tactic| walk_at "shp") => `(tactic| first | assumption | exact shp_lit (by decide +kernel) | exact (shp_strs (by assumption)).1 | exact (shp_strs (by assumption)).2)
local macro_rules | `(tactic| walk_at "dl") => `(tactic| first
  | (with_reducible show dE _ _ _ _); walk_at "dE"
  | (with_reducible show dO _ _ _ _); walk_at "dO"
  | (with_reducible show dA _ _ _ _); (first | refine dA_cons rfl ?_ | refine dA_nil ?_)
  | (with_reducible show dT _ _ _ _); walk_at "dT"
  | (with_reducible show dS _ _ _ _); walk_at "dS"
  | (with_reducible show dSs _ _ _ _); walk_at "nrm"; (first | refine dSs_cons ?_ | refine dSs_nil ?_)
  | (with_reducible show dOp _ _ _ _ _); (first | refine dOp_of ?_ | refine dOp_cmp (DC.hu _) ?_)
  | (with_reducible show dW _ _ _ _); (first | refine dW_and ?_ | refine dW_or ?_ | refine dW_and1 ?_ | refine dW_or1 ?_)
  | (with_reducible show dB _ _ _ _); (first | refine dB_none ?_ | refine dB_some ?_)
  | (with_reducible show dC _ _ _ _); (first | refine dC_lenL ?_ | refine dC_lenT ?_ | refine dC_lenS (Nat.le_of_ble_eq_true rfl) ?_ | refine dC_intI ?_ | refine dC_intB ?_ | refine dC_tupT ?_ | refine dC_tupL ?_ | refine dC_lisT ?_ | refine dC_lisL ?_ | refine dC_len ?_ | refine dC_sum rfl ?_ | refine dC_all rfl ?_ | refine dC_int ?_ | refine dC_tuple ?_ | refine dC_abs ?_ | refine dC_max rfl ?_)
  | refine ixR_t atI_0 ?_ | refine ixR_t atI_1 ?_ | refine ixR_t atI_2 ?_ | refine ixR_l atI_0 ?_ | refine ixR_l atI_1 ?_ | refine ixR_al rfl rfl ?_ | refine ixR_t rfl ?_ | refine ixR_l rfl ?_
  | refine ⟨show List.length _ ≤ sizeLine from Nat.le_of_ble_eq_true rfl, ?_⟩
  | refine cmp_ltI ?_ | refine cmp_leI ?_ | refine cmp_gtI ?_ | refine cmp_geI ?_ | refine cmp_eqI ?_ | refine cmp_neI ?_ | refine cmp_eqS (by walk_at "shp") (by walk_at "shp") ?_ | refine cmp_neS (by walk_at "shp") (by walk_at "shp") ?_ | refine cmp_inT (by walk_at "shp") (by walk_at "shp") ?_ | refine cmp_inL (by walk_at "shp") (by walk_at "shp") ?_
  | refine slR_t ?_ | refine slR_l ?_
  | refine onB_b ?_ | refine ite_T rfl ?_ | refine ite_F rfl ?_ | refine onD_d ?_ | refine frzQ_d ?_ | refine flat_d trivial ?_ | refine onX_d ?_ | refine onX_al rfl ?_
  | refine frzQ.list ?_
  | refine ⟨⟨_, rfl⟩, ?_⟩ | refine ⟨_, _, rfl, rfl, ?_⟩)

abbrev sLis : Stmt := topS 26
theorem scLis : FnScope ["letters", "value", "word", "many", "part"] ["letters", "value"] (defScope sLis) := ⟨rfl, rfl, rfl, by decide +kernel, rfl, by decide +kernel, by decide +kernel⟩
def kindN : List (Str × Int) := [("not", 1), ("again", 1), ("row", 2), ("and", 2), ("or", 2)]
theorem dget_single {w : Str} (h : w ∈ singleW) : dgetD kindN w (.int 0) = .int 1 := by
  simp only [singleW, List.mem_cons, List.not_mem_nil, or_false] at h
  rcases h with rfl | rfl <;> rfl
theorem dget_double {w : Str} (h : w ∈ doubleW) : dgetD kindN w (.int 0) = .int 2 := by
  simp only [doubleW, List.mem_cons, List.not_mem_nil, or_false] at h
  rcases h with rfl | rfl | rfl <;> rfl
theorem dget_other {w : Str} (h : w ∉ singleW) (k : w ∉ doubleW) : dgetD kindN w (.int 0) = .int 0 := by
  have e : mergeK [] (kvsI kindN) = kvsI kindN := by decide +kernel
  unfold dgetD valV
  rw [e]
  simp only [singleW, doubleW, List.mem_cons, List.not_mem_nil, or_false, not_or] at h k
  simp only [kvsI, kindN, List.map_cons, List.map_nil]
  rw [List.find?_cons_of_neg (by simpa using fun z => h.1 z.symm), List.find?_cons_of_neg (by simpa using fun z => h.2 z.symm), List.find?_cons_of_neg (by simpa using fun z => k.1 z.symm), List.find?_cons_of_neg (by simpa using fun z => k.2.1 z.symm), List.find?_cons_of_neg (by simpa using fun z => k.2.2 z.symm)]
  rfl
section
variable {P : Program} {w : World} {K : PySem.W.Frag} {mg : Str → Option Value} {base : Heap}
theorem d_lis {ls : List Str} (hls : LsOk ls) {f : Addr} {fd : FuncData} (F : Fun K "_law_is_pattern" "_law_is_pattern" sLis f fd) (gl : mg "_law_is_pattern" = some (.ref f)) (hb : Binds K fd ["letters", "value"] []) (mLen : mg "len" = none) (mIsi : mg "isinstance" = none) (mTuple : mg "tuple" = none) (mStr : mg "str" = none) (mAll : mg "all" = none)
    (d : Nat) (hd : d ≤ 63) (ih : ∀ e, d = e + 1 → Def P w K mg base "_law_is_pattern" (e + 1) (cIs ls e)) : Def P w K mg base "_law_is_pattern" (d + 1) (cIs ls d) := by
  refine Def.mk' F scLis gl hb (fun ms Q E ⟨x, h, _⟩ => by rw [h]; rfl) fun cdv A outer s H E hr hg ms Q Ed h => ?_
  obtain ⟨x, rfl, wx, q⟩ := h
  repeat walk_at "dl"
  by_cases ht : ∃ xs, x = .tuple xs
  · obtain ⟨xs, rfl⟩ := ht
    refine ⟨true, isi_tup, ?_⟩
    obtain ⟨e, rfl⟩ := wx.pos
    have ih := ih e rfl
    have hls2 : ∀ w ∈ ls, ∀ c ∈ w.cps.toList, c < 1114112 := hls
    cases xs with
    | nil =>
      repeat walk_at "dl"
      exact ⟨_, rfl, q⟩
    | cons y ys =>
    have sy : shp y := (wx.part List.mem_cons_self).shp (by omega)
    by_cases hy : ∃ w, y = .str w
    · obtain ⟨w, rfl⟩ := hy
      repeat walk_at "dl"
      refine cmp_inL (ws := plainW) sy (shp_strs plain_ok).1 ?_
      refine ite_d (fun hp => ?_) (fun hp => ?_)
      · rw [isP_plain hp] at q
        repeat walk_at "dl"
        exact ⟨_, rfl, q⟩
      · repeat walk_at "dl"
        refine ite_d (fun hl => ?_) (fun hl => ?_)
        · subst hl
          rw [isP_letter] at q
          rcases ys with _ | ⟨b, _ | ⟨c, ys⟩⟩
          · repeat walk_at "dl"
            exact ⟨_, rfl, q⟩
          · repeat walk_at "dl"
            by_cases hb : ∃ l, b = .str l
            · obtain ⟨l, rfl⟩ := hb
              have sl : shp (.str l) := wd_str (wx.part (List.mem_cons_of_mem _ List.mem_cons_self))
              refine ⟨true, isi_str, ?_⟩
              repeat walk_at "dl"
              exact ⟨_, rfl, q⟩
            · have e0 : isLet ls b = false := by cases b <;> first | rfl | exact absurd ⟨_, rfl⟩ hb
              have q : Q (M.d (PyData.bool (isLet ls b))) _ := q
              rw [e0] at q
              refine ⟨false, isi_nstr fun xs e => hb ⟨xs, e⟩, ?_⟩
              repeat walk_at "dl"
              exact ⟨_, rfl, q⟩
          · repeat walk_at "dl"
            exact ⟨_, rfl, q⟩
        · repeat walk_at "dl"
          refine ⟨true, isi_str, ?_⟩
          repeat walk_at "dl"
          refine dO_dget2 kindN (pps_cons pe_str pe_int (pps_cons pe_str pe_int (pps_cons pe_str pe_int (pps_cons pe_str pe_int (pps_cons pe_str pe_int pps_nil))))) rfl rfl (by nofun) (by decide) (by decide) ⟨rfl, rfl, rfl, rfl⟩ (by rfl) ?_
          repeat walk_at "dl"
          refine ⟨w, rfl, ?_⟩
          by_cases hs : w ∈ singleW
          · rw [dget_single hs]
            rw [isP_single hs] at q
            rcases ys with _ | ⟨b, _ | ⟨c, ys⟩⟩
            · repeat walk_at "dl"
              exact ⟨_, rfl, q⟩
            · repeat walk_at "dl"
              have q : Q (M.d (PyData.bool (isP ls b))) _ := q
              rw [show isP ls b = ([b].map (isP ls)).all id from (Bool.and_true _).symm] at q
              refine dO_lc (own := [("part", 4)]) [4] rfl (blkOk_by (by rfl)) (by intro _; rfl) (by intro i hi; cases hi with | head => rfl | tail _ h => exact nomatch h) (by decide) (dI_tup ?_)
              repeat walk_at "dl"
              rw [cutD_from1]
              refine ⟨_, rfl, fun k ms Γ => ms = ((([b].take k).map (isP ls)).map PyData.bool).map M.d ∧ ∃ g3, Γ = [some (.d (lets ls)), some (.d (.tuple (.str w :: [b]))), some (.d (.str w)), g3, none], ⟨rfl, _, rfl⟩, fun k x ms Γk hx hI => ?_, fun ms Γn hI => ?_⟩
              · obtain ⟨rfl, g3, rfl⟩ := hI
                intro s2 H2 C2 cl2 fp2
                refine dG_nm rfl (by walk_at "loc") rfl (by decide) (by first | exact Or.inl rfl | exact Or.inr rfl) ?_
                intro s3 H3 C3 cl3 fp3
                refine dTs_nil ?_
                repeat walk_at "dl"
                intro s4 H4 C4 cl4 fp4
                repeat walk_at "dl"
                have hm := List.mem_of_getElem? hx
                refine ⟨by walk_at "nd", _, rfl, x, rfl, wx.part (List.mem_cons_of_mem _ hm), ?_⟩
                refine ⟨Nat.lt_of_le_of_lt (m := 3) (by rw [List.length_map, List.length_map, List.length_map, List.length_take]; simp only [List.length_cons, List.length_nil]; omega) (by decide), ?_, g3, rfl⟩
                rw [List.take_add_one, hx, List.map_append, List.map_append, List.map_append]
                rfl
              · obtain ⟨rfl, g3, rfl⟩ := hI
                refine frzQ.list ?_
                repeat walk_at "dl"
                exact ⟨_, rfl, q⟩
            · repeat walk_at "dl"
              exact ⟨_, rfl, q⟩
          · by_cases hd : w ∈ doubleW
            · rw [dget_double hd]
              rw [isP_double hd] at q
              rcases ys with _ | ⟨b, _ | ⟨c, _ | ⟨d, ys⟩⟩⟩
              · repeat walk_at "dl"
                exact ⟨_, rfl, q⟩
              · repeat walk_at "dl"
                exact ⟨_, rfl, q⟩
              · repeat walk_at "dl"
                have q : Q (M.d (PyData.bool (isP ls b && isP ls c))) _ := q
                rw [show (isP ls b && isP ls c) = ([b, c].map (isP ls)).all id from by simp only [List.map_cons, List.map_nil, List.all_cons, List.all_nil, id, Bool.and_true]] at q
                refine dO_lc (own := [("part", 4)]) [4] rfl (blkOk_by (by rfl)) (by intro _; rfl) (by intro i hi; cases hi with | head => rfl | tail _ h => exact nomatch h) (by decide) (dI_tup ?_)
                repeat walk_at "dl"
                rw [cutD_from1]
                refine ⟨_, rfl, fun k ms Γ => ms = ((([b, c].take k).map (isP ls)).map PyData.bool).map M.d ∧ ∃ g3, Γ = [some (.d (lets ls)), some (.d (.tuple (.str w :: [b, c]))), some (.d (.str w)), g3, none], ⟨rfl, _, rfl⟩, fun k x ms Γk hx hI => ?_, fun ms Γn hI => ?_⟩
                · obtain ⟨rfl, g3, rfl⟩ := hI
                  intro s2 H2 C2 cl2 fp2
                  refine dG_nm rfl (by walk_at "loc") rfl (by decide) (by first | exact Or.inl rfl | exact Or.inr rfl) ?_
                  intro s3 H3 C3 cl3 fp3
                  refine dTs_nil ?_
                  repeat walk_at "dl"
                  intro s4 H4 C4 cl4 fp4
                  repeat walk_at "dl"
                  have hm := List.mem_of_getElem? hx
                  refine ⟨by walk_at "nd", _, rfl, x, rfl, wx.part (List.mem_cons_of_mem _ hm), ?_⟩
                  refine ⟨Nat.lt_of_le_of_lt (m := 3) (by rw [List.length_map, List.length_map, List.length_map, List.length_take]; simp only [List.length_cons, List.length_nil]; omega) (by decide), ?_, g3, rfl⟩
                  rw [List.take_add_one, hx, List.map_append, List.map_append, List.map_append]
                  rfl
                · obtain ⟨rfl, g3, rfl⟩ := hI
                  refine frzQ.list ?_
                  repeat walk_at "dl"
                  exact ⟨_, rfl, q⟩
              · repeat walk_at "dl"
                exact ⟨_, rfl, q⟩
            · rw [dget_other hs hd]
              rw [isP_other hp hl hs hd] at q
              repeat walk_at "dl"
              exact ⟨_, rfl, q⟩
    · have hy' : ∀ s, y ≠ .str s := fun s e => hy ⟨s, e⟩
      rw [isP_nostr hy'] at q
      repeat walk_at "dl"
      refine ⟨sy, (shp_strs plain_ok).1, ?_⟩
      rw [show [PyData.str "any", .str "empty", .str "none"] = plainW.map PyData.str from rfl, any_nostr hy']
      repeat walk_at "dl"
      refine ⟨sy, shp_lit (by decide +kernel), ?_⟩
      rw [eqv_str_of hy']
      repeat walk_at "dl"
      refine ⟨false, isi_nstr hy', ?_⟩
      repeat walk_at "dl"
      exact ⟨_, rfl, q⟩
  · refine ⟨false, isi_ntup fun xs e => ht ⟨xs, e⟩, ?_⟩
    have e0 : isP ls x = false := by unfold isP; split <;> first | rfl | exact absurd ⟨_, rfl⟩ ht
    rw [e0] at q
    repeat walk_at "dl"
    exact ⟨_, rfl, q⟩
end
end K01

set_option Elab.async false
set_option linter.all false
set_option maxRecDepth 100000
set_option maxHeartbeats 4000000
namespace K01
open PySem PySem.Spec PyProof.Rows L2 DL
local macro_rules | `(tactic| walk_at "nd") => `(tactic| first | exact List.nodup_nil | exact nd1 _ | exact nd2 (by decide) | exact nd3 (by decide) (by decide) (by decide))
local macro_rules | `(tactic| walk_at "vis") => `(tactic| first | exact Or.inl rfl | exact Or.inr (Or.inl rfl) | exact Or.inr (Or.inr rfl))
local macro_rules | `(tactic| walk_at "loc") => `(tactic| first | exact Or.inl rfl | exact Or.inr rfl)
local macro_rules | `(tactic| walk_at "room") => `(tactic| first | assumption | exact Room.mono (by assumption) (by decide) | exact Room.mono (by assumption) (by omega))
local macro_rules | `(tactic| walk_at "nrm") => `(tactic| first
  | show dSs _ _ [_] _ | show dSs _ _ [_, _] _ | show dSs _ _ [_, _, _] _ | show dSs _ _ [_, _, _, _] _ | show dSs _ _ [_, _, _, _, _] _ | show dSs _ _ [_, _, _, _, _, _] _
  | show dSs _ _ [_, _, _, _, _, _, _] _ | show dSs _ _ [_, _, _, _, _, _, _, _] _ | show dSs _ _ [_, _, _, _, _, _, _, _, _] _ | show dSs _ _ [_, _, _, _, _, _, _, _, _, _] _
  | show dSs _ _ [_, _, _, _, _, _, _, _, _, _, _] _ | show dSs _ _ [_, _, _, _, _, _, _, _, _, _, _, _] _)
local macro_rules | `(tactic| walk_at "dE") => `(tactic| first
  | refine dE_nm rfl (by walk_at "vis") rfl ?_
  | refine dE_int ?_ | refine dE_str ?_ | refine dE_bl ?_ | refine dE_non ?_
  | refine dE_con (by assumption) rfl ?_
  | ((with_reducible show dE _ (.Name (Str.ofString "tuple") _) _ _); refine dE_ty (T := "tuple") rfl (by assumption) (by decide +kernel) ?_)
  | ((with_reducible show dE _ (.Name (Str.ofString "str") _) _ _); refine dE_ty (T := "str") rfl (by assumption) (by decide +kernel) ?_)
  | refine dE_ix (fun _ _ => rfl) ?_
  | refine dE_of_dO ?_)
local macro_rules | `(tactic| walk_at "dO") => `(tactic| first
  | refine dO_op ?_
  | refine dO_cmp (nomark _) ?_
  | refine dO_cmp (by rfl) ?_
  | refine dO_tup ?_ | refine dO_lst ?_
  | refine dO_and ?_ | refine dO_or ?_ | refine dO_one ?_ | refine dO_not ?_
  | refine dO_sl ?_
  | ((with_reducible show dO _ (.Call (.Name (Str.ofString "len") _) _ _ _) _ _); refine dO_callB (x := "len") (id := "len") rfl (by assumption) (by decide +kernel) rfl rfl ?_)
  | ((with_reducible show dO _ (.Call (.Name (Str.ofString "int") _) _ _ _) _ _); refine dO_callTy (x := "int") (T := "int") rfl (by assumption) (by decide +kernel) rfl rfl ?_)
  | ((with_reducible show dO _ (.Call (.Name (Str.ofString "tuple") _) _ _ _) _ _); refine dO_callTy (x := "tuple") (T := "tuple") rfl (by assumption) (by decide +kernel) rfl rfl ?_)
  | ((with_reducible show dO _ (.Call (.Name (Str.ofString "abs") _) _ _ _) _ _); refine dO_callB (x := "abs") (id := "abs") rfl (by assumption) (by decide +kernel) rfl rfl ?_)
  | ((with_reducible show dO _ (.Call (.Name (Str.ofString "max") _) _ _ _) _ _); refine dO_callB (x := "max") (id := "max") rfl (by assumption) (by decide +kernel) rfl rfl ?_)
  | ((with_reducible show dO _ (.Call (.Name (Str.ofString "sum") _) _ _ _) _ _); refine dO_callB (x := "sum") (id := "sum") rfl (by assumption) (by decide +kernel) rfl rfl ?_)
  | ((with_reducible show dO _ (.Call (.Name (Str.ofString "all") _) _ _ _) _ _); refine dO_callB (x := "all") (id := "all") rfl (by assumption) (by decide +kernel) rfl rfl ?_)
  | ((with_reducible show dO _ (.Call (.Name (Str.ofString "repr") _) _ _ _) _ _); refine dO_callB (x := "repr") (id := "repr") rfl (by assumption) (by decide +kernel) rfl rfl ?_)
  | ((with_reducible show dO _ (.Call (.Name (Str.ofString "isinstance") _) _ _ _) _ _); refine dO_isi rfl (by assumption) rfl rfl ?_)
  | refine dO_fn (by assumption) (by walk_at "room") rfl rfl rfl ?_
  | ((with_reducible show dO _ (.Name _ _) _ _); refine dO_of_dE ?_)
  | ((with_reducible show dO _ (.Constant _ _ _) _ _); refine dO_of_dE ?_)
  | ((with_reducible show dO _ (.Subscript _ _ _) _ _); refine dO_of_dE ?_))
local macro_rules | `(tactic| walk_at "dS") => `(tactic| first
  | refine dS_if ?_ | refine dS_ret ?_ | refine dS_retN ?_ | refine dS_pass ?_ | refine dS_break ?_ | refine dS_cont ?_
  | refine dS_st rfl (by walk_at "loc") rfl ?_ rfl (Or.inl rfl)
  | refine dS_appN rfl (by walk_at "vis") rfl ?_ rfl rfl rfl rfl rfl
  | refine dS_setix (i := 0) rfl (by walk_at "vis") ?_ (by intro _; rfl) rfl rfl rfl)
local macro_rules | `(tactic| walk_at "dT") => `(tactic| first
  | refine dT_not ?_ | refine dT_cmp (nomark _) ?_ | refine dT_cmp (by rfl) ?_ | (show dT _ (.BoolOp _ _ _) _ _; refine dT_W ?_) | refine dT_val (by intro _; rfl) ?_)
local macro_rules | `(tactic| walk_at "shp") => `(tactic| first | assumption | exact shp_lit (by decide +kernel) | exact (shp_strs (by assumption)).1 | exact (shp_strs (by assumption)).2)
local macro_rules | `(tactic| walk_at "dl") => `(tactic| first
  | (with_reducible show dE _ _ _ _); walk_at "dE"
  | (with_reducible show dO _ _ _ _); walk_at "dO"
  | (with_reducible show dA _ _ _ _); (first | refine dA_cons rfl ?_ | refine dA_nil ?_)
  | (with_reducible show dT _ _ _ _); walk_at "dT"
  | (with_reducible show dS _ _ _ _); walk_at "dS"
  | (with_reducible show dSs _ _ _ _); walk_at "nrm"; (first | refine dSs_cons ?_ | refine dSs_nil ?_)
  | (with_reducible show dOp _ _ _ _ _); (first | refine dOp_of ?_ | refine dOp_cmp (DC.hu _) ?_)
  | (with_reducible show dW _ _ _ _); (first | refine dW_and ?_ | refine dW_or ?_ | refine dW_and1 ?_ | refine dW_or1 ?_)
  | (with_reducible show dB _ _ _ _); (first | refine dB_none ?_ | refine dB_some ?_)
  | (with_reducible show dC _ _ _ _); (first | refine dC_lenL ?_ | refine dC_lenT ?_ | refine dC_lenS (Nat.le_of_ble_eq_true rfl) ?_ | refine dC_intI ?_ | refine dC_intB ?_ | refine dC_tupT ?_ | refine dC_tupL ?_ | refine dC_lisT ?_ | refine dC_lisL ?_ | refine dC_len ?_ | refine dC_sum rfl ?_ | refine dC_all rfl ?_ | refine dC_int ?_ | refine dC_tuple ?_ | refine dC_abs ?_ | refine dC_max rfl ?_)
  | refine ixR_t atI_0 ?_ | refine ixR_t atI_1 ?_ | refine ixR_t atI_2 ?_ | refine ixR_l atI_0 ?_ | refine ixR_l atI_1 ?_ | refine ixR_al rfl rfl ?_ | refine ixR_t rfl ?_ | refine ixR_l rfl ?_
  | refine ⟨show List.length _ ≤ sizeLine from Nat.le_of_ble_eq_true rfl, ?_⟩
  | refine cmp_ltI ?_ | refine cmp_leI ?_ | refine cmp_gtI ?_ | refine cmp_geI ?_ | refine cmp_eqI ?_ | refine cmp_neI ?_ | refine cmp_eqS (by walk_at "shp") (by walk_at "shp") ?_ | refine cmp_neS (by walk_at "shp") (by walk_at "shp") ?_ | refine cmp_inT (by walk_at "shp") (by walk_at "shp") ?_ | refine cmp_inL (by walk_at "shp") (by walk_at "shp") ?_
  | refine slR_t ?_ | refine slR_l ?_
  | refine onB_b ?_ | refine ite_T rfl ?_ | refine ite_F rfl ?_ | refine onD_d ?_ | refine frzQ_d ?_ | refine flat_d trivial ?_ | refine onX_d ?_ | refine onX_al rfl ?_
  | refine frzQ.list ?_
  | refine ⟨⟨_, rfl⟩, ?_⟩ | refine ⟨_, _, rfl, rfl, ?_⟩)

abbrev sPat : Stmt := topS 22
theorem scPat : FnScope ["state", "letters", "room", "way", "plain", "left", "first"] ["state", "letters", "room"] (defScope sPat) := ⟨rfl, rfl, rfl, by decide +kernel, rfl, by decide +kernel, by decide +kernel⟩
theorem isP_pl {ls : List Str} {w : Str} (h : w ∈ (["any", "empty", "none", "any"] : List Str)) : isP ls (.tuple [.str w]) = true := by
  rw [isP_plain (by simp only [plainW, List.mem_cons, List.not_mem_nil, or_false] at h ⊢; rcases h with h | h | h | h <;> simp [h])]
  rfl
theorem pl_ok : ∀ w ∈ (["any", "empty", "none", "any"] : List Str), ∀ c ∈ w.cps.toList, c < 1114112 := by decide +kernel
theorem sg_ok : ∀ w ∈ (["not", "again", "again"] : List Str), ∀ c ∈ w.cps.toList, c < 1114112 := by decide +kernel
theorem db_ok : ∀ w ∈ (["row", "row", "or", "or", "and"] : List Str), ∀ c ∈ w.cps.toList, c < 1114112 := by decide +kernel
theorem letter_ok : ∀ c ∈ ("letter" : Str).cps.toList, c < 1114112 := by decide +kernel
theorem isP_sg {ls : List Str} {w : Str} {x : PyData} (h : w ∈ (["not", "again", "again"] : List Str)) (hx : isP ls x = true) : isP ls (.tuple [.str w, x]) = true := by
  rw [isP_single (by simp only [singleW, List.mem_cons, List.not_mem_nil, or_false] at h ⊢; rcases h with h | h | h <;> simp [h])]
  exact hx
theorem isP_db {ls : List Str} {w : Str} {x y : PyData} (h : w ∈ (["row", "row", "or", "or", "and"] : List Str)) (hx : isP ls x = true) (hy : isP ls y = true) : isP ls (.tuple [.str w, x, y]) = true := by
  rw [isP_double (by simp only [doubleW, List.mem_cons, List.not_mem_nil, or_false] at h ⊢; rcases h with h | h | h | h | h <;> simp [h])]
  show (isP ls x && isP ls y) = true
  rw [hx, hy]; rfl
theorem cnt_1 {w : Str} : cntP (.tuple [.str w]) = 1 := by unfold cntP; rfl
theorem cnt_l {x : PyData} : cntP (.tuple [.str "letter", x]) = 1 := by rw [cntP, if_pos rfl]
theorem cnt_sg {w : Str} {x : PyData} (h : w ∈ (["not", "again", "again"] : List Str)) : cntP (.tuple [.str w, x]) = 1 + cntP x := by
  rw [cntP, if_neg (by rintro rfl; revert h; decide +kernel)]
theorem cnt_db {w : Str} {x y : PyData} : cntP (.tuple [.str w, x, y]) = 1 + (cntP x + cntP y) := by rw [cntP]
theorem Wd.t1 {d : Nat} {x : PyData} (h : Wd d x) : Wd (d + 1) (.tuple [x]) := Wd.tup fun y hy => by rw [List.mem_singleton.mp hy]; exact h
theorem Wd.t2 {d : Nat} {x y : PyData} (h : Wd d x) (k : Wd d y) : Wd (d + 1) (.tuple [x, y]) := Wd.tup fun z hz => by
  rcases List.mem_cons.mp hz with rfl | hz
  · exact h
  · rw [List.mem_singleton.mp hz]; exact k
theorem Wd.t3 {d : Nat} {x y z : PyData} (h : Wd d x) (k : Wd d y) (l : Wd d z) : Wd (d + 1) (.tuple [x, y, z]) := Wd.tup fun u hu => by
  rcases List.mem_cons.mp hu with rfl | hu
  · exact h
  · rcases List.mem_cons.mp hu with rfl | hu
    · exact k
    · rw [List.mem_singleton.mp hu]; exact l
def cPat (ns : List Int) (ls : List Str) (r : Nat) : Ct := fun ms Q _ => ∃ i room : Int, ms = [StM ns i, .d (lets ls), .d (.int room)] ∧ 0 ≤ i ∧ i + 4 * room < 700000000 ∧ 1 ≤ room ∧ room ≤ r ∧
  ∀ (x : PyData) (i' : Int), i ≤ i' → i' ≤ i + 4 * room → isP ls x = true → (cntP x : Int) ≤ room → Wd r x → Q (.d x) [StM ns i', .d (lets ls), .d (.int room)]
section
variable {P : Program} {w : World} {K : PySem.W.Frag} {mg : Str → Option Value} {base : Heap}
theorem d_pat {ns : List Int} {ls : List Str} (hls : LsOk ls) (h0 : 0 < ls.length) (h1 : ls.length ≤ 26) {f : Addr} {fd : FuncData} (F : Fun K "_law_pattern" "_law_pattern" sPat f fd) (gl : mg "_law_pattern" = some (.ref f)) (hb : Binds K fd ["state", "letters", "room"] []) (mLen : mg "len" = none) (mMax : mg "max" = none) (mInt : mg "int" = none)
    (D1 : Def P w K mg base "_law_next" 1 (cNext ns)) (r : Nat) (hr64 : r ≤ 62) (ih : ∀ e, r = e + 1 → Def P w K mg base "_law_pattern" (e + 2) (cPat ns ls e)) : Def P w K mg base "_law_pattern" (r + 2) (cPat ns ls r) := by
  refine Def.mk' F scPat gl hb (fun ms Q E ⟨i, room, h, _⟩ => by rw [h]; rfl) fun cdv A outer s H E hr hg ms Q Ed h => ?_
  obtain ⟨i, room, rfl, i0, i1, r1, rr, q⟩ := h
  obtain ⟨e, rfl⟩ : ∃ e, r = e + 1 := ⟨r - 1, by omega⟩
  have ih := ih e rfl
  repeat walk_at "dl"
  refine ⟨by walk_at "nd", _, rfl, _, _, rfl, by omega, by omega, by first | decide | omega | (rw [List.length_map]; omega), fun way way_0 way_1 => ?_⟩
  repeat walk_at "dl"
  refine ite_d (fun hrm => ?_) (fun hrm => ?_)
  · repeat walk_at "dl"
    refine ⟨by walk_at "nd", _, rfl, _, _, rfl, by omega, by omega, by first | decide | omega | (rw [List.length_map]; omega), fun r4 r4_0 r4_1 => ?_⟩
    repeat walk_at "dl"
    obtain ⟨pw, hpw, _, hpa⟩ := atI_map (fun s : Str => PyData.tuple [.str s]) (xs := ["any", "empty", "none", "any"]) r4_0 r4_1
    refine ixR_l hpa ?_
    repeat walk_at "dl"
    refine ⟨by walk_at "nd", _, rfl, _, _, rfl, by omega, by omega, by first | decide | omega | (rw [List.length_map]; omega), fun rl rl_0 rl_1 => ?_⟩
    repeat walk_at "dl"
    obtain ⟨l, hl, _, hla⟩ := atI_map PyData.str (xs := ls) rl_0 (by have := rl_1; rw [List.length_map] at this; exact this)
    refine ixR_t hla ?_
    repeat walk_at "dl"
    refine ⟨by walk_at "nd", _, rfl, _, _, rfl, by omega, by omega, by first | decide | omega | (rw [List.length_map]; omega), fun r5 r5_0 r5_1 => ?_⟩
    repeat walk_at "dl"
    refine ixR_b (fun h5 => ?_) (fun h5 => ?_)
    · exact ⟨_, rfl, q _ _ (by omega) (by omega) (isP_pl hpw) (by rw [cnt_1]; omega) (Wd.t1 (Wd.str (pl_ok pw hpw)))⟩
    · exact ⟨_, rfl, q _ _ (by omega) (by omega) (by rw [isP_letter]; exact decide_eq_true hl) (by rw [cnt_l]; omega) (Wd.t2 (Wd.str letter_ok) (Wd.str (hls l hl)))⟩
  · repeat walk_at "dl"
    refine ite_d (fun hw => ?_) (fun hw => ?_)
    · repeat walk_at "dl"
      refine ⟨by walk_at "nd", _, rfl, _, _, rfl, by omega, by omega, by first | decide | omega | (rw [List.length_map]; omega), fun r4 r4_0 r4_1 => ?_⟩
      repeat walk_at "dl"
      obtain ⟨pw, hpw, _, hpa⟩ := atI_map (fun s : Str => PyData.tuple [.str s]) (xs := ["any", "empty", "none", "any"]) r4_0 r4_1
      refine ixR_l hpa ?_
      repeat walk_at "dl"
      refine ⟨by walk_at "nd", _, rfl, _, _, rfl, by omega, by omega, by first | decide | omega | (rw [List.length_map]; omega), fun rl rl_0 rl_1 => ?_⟩
      repeat walk_at "dl"
      obtain ⟨l, hl, _, hla⟩ := atI_map PyData.str (xs := ls) rl_0 (by have := rl_1; rw [List.length_map] at this; exact this)
      refine ixR_t hla ?_
      repeat walk_at "dl"
      refine ⟨by walk_at "nd", _, rfl, _, _, rfl, by omega, by omega, by first | decide | omega | (rw [List.length_map]; omega), fun r5 r5_0 r5_1 => ?_⟩
      repeat walk_at "dl"
      refine ixR_b (fun h5 => ?_) (fun h5 => ?_)
      · exact ⟨_, rfl, q _ _ (by omega) (by omega) (isP_pl hpw) (by rw [cnt_1]; omega) (Wd.t1 (Wd.str (pl_ok pw hpw)))⟩
      · exact ⟨_, rfl, q _ _ (by omega) (by omega) (by rw [isP_letter]; exact decide_eq_true hl) (by rw [cnt_l]; omega) (Wd.t2 (Wd.str letter_ok) (Wd.str (hls l hl)))⟩
    · repeat walk_at "dl"
      refine ite_d (fun hw6 => ?_) (fun hw6 => ?_)
      · repeat walk_at "dl"
        refine ⟨by walk_at "nd", _, rfl, _, _, rfl, by omega, by omega, by first | decide | omega | (rw [List.length_map]; omega), fun r3 r3_0 r3_1 => ?_⟩
        repeat walk_at "dl"
        obtain ⟨sg, hsg, _, hsa⟩ := atI_map PyData.str (xs := ["not", "again", "again"]) r3_0 r3_1
        refine ixR_l hsa ?_
        repeat walk_at "dl"
        refine ⟨by walk_at "nd", _, rfl, _, _, rfl, by omega, by omega, by omega, by omega, fun x ix j0 j1 px cx wx => ?_⟩
        repeat walk_at "dl"
        exact ⟨_, rfl, q _ _ (by omega) (by omega) (isP_sg hsg px) (by rw [cnt_sg hsg]; omega) (Wd.t2 (Wd.str (sg_ok sg hsg)) wx)⟩
      · repeat walk_at "dl"
        refine ite_d (fun hr2 => ?_) (fun hr2 => ?_)
        · repeat walk_at "dl"
          refine ⟨by walk_at "nd", _, rfl, _, _, rfl, by omega, by omega, by first | decide | omega | (rw [List.length_map]; omega), fun r3 r3_0 r3_1 => ?_⟩
          repeat walk_at "dl"
          obtain ⟨sg, hsg, _, hsa⟩ := atI_map PyData.str (xs := ["not", "again", "again"]) r3_0 r3_1
          refine ixR_l hsa ?_
          repeat walk_at "dl"
          refine ⟨by walk_at "nd", _, rfl, _, _, rfl, by omega, by omega, by omega, by omega, fun x ix j0 j1 px cx wx => ?_⟩
          repeat walk_at "dl"
          exact ⟨_, rfl, q _ _ (by omega) (by omega) (isP_sg hsg px) (by rw [cnt_sg hsg]; omega) (Wd.t2 (Wd.str (sg_ok sg hsg)) wx)⟩
        · repeat walk_at "dl"
          refine ⟨by walk_at "nd", _, rfl, _, _, rfl, by omega, by omega, by split <;> omega, fun lf l0 l1 => ?_⟩
          have l2 : lf ≤ room - 3 := by split at l1 <;> omega
          clear l1
          repeat walk_at "dl"
          refine ⟨by walk_at "nd", _, rfl, _, _, rfl, by omega, by omega, by omega, by omega, fun x ix j0 j1 px cx wx => ?_⟩
          repeat walk_at "dl"
          show _ ∧ _
          refine ⟨by decide, ?_⟩
          repeat walk_at "dl"
          obtain ⟨db, hdb, _, hda⟩ := atI_map PyData.str (xs := ["row", "row", "or", "or", "and"]) (n := way % 5) (by omega) (by show way % 5 < 5; omega)
          refine ixR_l hda ?_
          repeat walk_at "dl"
          refine ⟨by walk_at "nd", _, rfl, _, _, rfl, by omega, by split <;> omega, by split <;> omega, by split <;> omega, fun y iy k0 k1 py cy wy => ?_⟩
          have c2 : (cntP y : Int) ≤ room - 1 - (1 + lf) := by split at cy <;> omega
          have k2 : iy ≤ ix + 4 * (room - 1 - (1 + lf)) := by split at k1 <;> omega
          repeat walk_at "dl"
          exact ⟨_, rfl, q _ _ (by omega) (by omega) (isP_db hdb px py) (by rw [cnt_db]; omega) (Wd.t3 (Wd.str (db_ok db hdb)) wx wy)⟩
end
end K01

set_option Elab.async false
set_option linter.all false
set_option maxRecDepth 100000
set_option maxHeartbeats 4000000
namespace K01
open PySem PySem.Spec PyProof.Rows L2 DL
local macro_rules | `(tactic| walk_at "nd") => `(tactic| first | exact List.nodup_nil | exact nd1 _ | exact nd2 (by decide) | exact nd3 (by decide) (by decide) (by decide))
local macro_rules | `(tactic| walk_at "vis") => `(tactic| first | exact Or.inl rfl | exact Or.inr (Or.inl rfl) | exact Or.inr (Or.inr rfl))
local macro_rules | `(tactic| walk_at "loc") => `(tactic| first | exact Or.inl rfl | exact Or.inr rfl)
local macro_rules | `(tactic| walk_at "room") => `(tactic| first | assumption | exact Room.mono (by assumption) (by decide) | exact Room.mono (by assumption) (by omega))
local macro_rules | `(tactic| walk_at "nrm") => `(tactic| first
  | show dSs _ _ [_] _ | show dSs _ _ [_, _] _ | show dSs _ _ [_, _, _] _ | show dSs _ _ [_, _, _, _] _ | show dSs _ _ [_, _, _, _, _] _ | show dSs _ _ [_, _, _, _, _, _] _
  | show dSs _ _ [_, _, _, _, _, _, _] _ | show dSs _ _ [_, _, _, _, _, _, _, _] _ | show dSs _ _ [_, _, _, _, _, _, _, _, _] _ | show dSs _ _ [_, _, _, _, _, _, _, _, _, _] _
  | show dSs _ _ [_, _, _, _, _, _, _, _, _, _, _] _ | show dSs _ _ [_, _, _, _, _, _, _, _, _, _, _, _] _)
local macro_rules | `(tactic| walk_at "dE") => `(tactic| first
  | refine dE_nm rfl (by walk_at "vis") rfl ?_
  | refine dE_neg ?_ | refine dE_int ?_ | refine dE_str ?_ | refine dE_bl ?_ | refine dE_non ?_
  | refine dE_con (by assumption) rfl ?_
  | ((with_reducible show dE _ (.Name _ _) _ _); refine dE_globV (v := .ref _) rfl (by assumption) rfl ?_)
  | ((with_reducible show dE _ (.Name (Str.ofString "tuple") _) _ _); refine dE_ty (T := "tuple") rfl (by assumption) (by decide +kernel) ?_)
  | ((with_reducible show dE _ (.Name (Str.ofString "str") _) _ _); refine dE_ty (T := "str") rfl (by assumption) (by decide +kernel) ?_)
  | refine dE_ix (fun _ _ => rfl) ?_
  | refine dE_of_dO ?_)
local macro_rules | `(tactic| walk_at "dO") => `(tactic| first
  | refine dO_op ?_
  | refine dO_cmp (nomark _) ?_
  | refine dO_cmp (by rfl) ?_
  | refine dO_tup ?_ | refine dO_lst ?_
  | refine dO_and ?_ | refine dO_or ?_ | refine dO_one ?_ | refine dO_not ?_
  | refine dO_sl ?_
  | ((with_reducible show dO _ (.Call (.Name (Str.ofString "len") _) _ _ _) _ _); refine dO_callB (x := "len") (id := "len") rfl (by assumption) (by decide +kernel) rfl rfl ?_)
  | ((with_reducible show dO _ (.Call (.Name (Str.ofString "int") _) _ _ _) _ _); refine dO_callTy (x := "int") (T := "int") rfl (by assumption) (by decide +kernel) rfl rfl ?_)
  | ((with_reducible show dO _ (.Call (.Name (Str.ofString "tuple") _) _ _ _) _ _); refine dO_callTy (x := "tuple") (T := "tuple") rfl (by assumption) (by decide +kernel) rfl rfl ?_)
  | ((with_reducible show dO _ (.Call (.Name (Str.ofString "abs") _) _ _ _) _ _); refine dO_callB (x := "abs") (id := "abs") rfl (by assumption) (by decide +kernel) rfl rfl ?_)
  | ((with_reducible show dO _ (.Call (.Name (Str.ofString "max") _) _ _ _) _ _); refine dO_callB (x := "max") (id := "max") rfl (by assumption) (by decide +kernel) rfl rfl ?_)
  | ((with_reducible show dO _ (.Call (.Name (Str.ofString "sum") _) _ _ _) _ _); refine dO_callB (x := "sum") (id := "sum") rfl (by assumption) (by decide +kernel) rfl rfl ?_)
  | ((with_reducible show dO _ (.Call (.Name (Str.ofString "all") _) _ _ _) _ _); refine dO_callB (x := "all") (id := "all") rfl (by assumption) (by decide +kernel) rfl rfl ?_)
  | ((with_reducible show dO _ (.Call (.Name (Str.ofString "repr") _) _ _ _) _ _); refine dO_callB (x := "repr") (id := "repr") rfl (by assumption) (by decide +kernel) rfl rfl ?_)
  | ((with_reducible show dO _ (.Call (.Name (Str.ofString "isinstance") _) [_, .Tuple _ _ _] _ _) _ _); refine dO_isiT rfl (by assumption) rfl rfl rfl ?_)
  | ((with_reducible show dO _ (.Call (.Name (Str.ofString "isinstance") _) _ _ _) _ _); refine dO_isi rfl (by assumption) rfl rfl ?_)
  | refine dO_fn (by assumption) (by walk_at "room") rfl rfl rfl ?_
  | ((with_reducible show dO _ (.Name _ _) _ _); first | refine dO_mvL rfl (by walk_at "vis") rfl rfl ?_ | refine dO_of_dE ?_)
  | ((with_reducible show dO _ (.Constant _ _ _) _ _); refine dO_of_dE ?_)
  | ((with_reducible show dO _ (.Subscript _ _ _) _ _); refine dO_of_dE ?_))
local macro_rules | `(tactic| walk_at "dS") => `(tactic| first
  | refine dS_if ?_ | refine dS_ret ?_ | refine dS_retN ?_ | refine dS_pass ?_ | refine dS_break ?_ | refine dS_cont ?_
  | refine dS_st rfl (by walk_at "loc") rfl ?_ rfl (Or.inl rfl)
  | refine dS_raise rfl (by assumption) rfl ?_
  | refine dS_appN rfl (by walk_at "vis") rfl ?_ rfl rfl rfl rfl rfl
  | refine dS_setix (i := 0) rfl (by walk_at "vis") ?_ (by intro _; rfl) rfl rfl rfl)
local macro_rules | `(tactic| walk_at "dT") => `(tactic| first
  | refine dT_not ?_ | refine dT_cmp (nomark _) ?_ | refine dT_cmp (by rfl) ?_ | (show dT _ (.BoolOp _ _ _) _ _; refine dT_W ?_) | refine dT_val (by intro _; rfl) ?_)
local macro_rules | `(tactic| walk_at "shp") => `(tactic| first | assumption | exact shp_lit (by decide +kernel) | exact (shp_strs (by assumption)).1 | exact (shp_strs (by assumption)).2)
local macro_rules | `(tactic| walk_at "dx") => `(tactic| first
  | (with_reducible show dE _ _ _ _); walk_at "dE"
  | (with_reducible show dO _ _ _ _); walk_at "dO"
  | (with_reducible show dA _ _ _ _); (first | refine dA_cons rfl ?_ | refine dA_nil ?_)
  | (with_reducible show dT _ _ _ _); walk_at "dT"
  | (with_reducible show dS _ _ _ _); walk_at "dS"
  | (with_reducible show dOp _ _ _ _ _); (first | refine dOp_eqS ?_ | refine dOp_neS ?_ | refine dOp_of ?_ | refine dOp_cmp (DC.hu _) ?_)
  | (with_reducible show dW _ _ _ _); (first | refine dW_and ?_ | refine dW_or ?_ | refine dW_and1 ?_ | refine dW_or1 ?_)
  | (with_reducible show dB _ _ _ _); (first | refine dB_none ?_ | refine dB_some ?_)
  | (with_reducible show dC _ _ _ _); (first | refine dC_lenL ?_ | refine dC_lenT ?_ | refine dC_lenS (Nat.le_of_ble_eq_true rfl) ?_ | refine dC_intI ?_ | refine dC_intB ?_ | refine dC_tupT ?_ | refine dC_tupL ?_ | refine dC_lisT ?_ | refine dC_lisL ?_ | refine dC_len ?_ | refine dC_sum rfl ?_ | refine dC_all rfl ?_ | refine dC_int ?_ | refine dC_tuple ?_ | refine dC_abs ?_ | refine dC_max rfl ?_)
  | refine ixR_t atI_0 ?_ | refine ixR_t atI_1 ?_ | refine ixR_t atI_2 ?_ | refine ixR_l atI_0 ?_ | refine ixR_l atI_1 ?_ | refine ixR_al rfl rfl ?_ | refine ixR_t rfl ?_ | refine ixR_l rfl ?_
  | refine ⟨show List.length _ ≤ sizeLine from Nat.le_of_ble_eq_true rfl, ?_⟩
  | refine cmp_ltI ?_ | refine cmp_leI ?_ | refine cmp_gtI ?_ | refine cmp_geI ?_ | refine cmp_eqI ?_ | refine cmp_neI ?_ | refine cmp_eqS (by walk_at "shp") (by walk_at "shp") ?_ | refine cmp_neS (by walk_at "shp") (by walk_at "shp") ?_ | refine cmp_inT (by walk_at "shp") (by walk_at "shp") ?_ | refine cmp_inL (by walk_at "shp") (by walk_at "shp") ?_
  | refine slR_scr rfl ?_ | refine slR_t ?_ | refine slR_l ?_
  | refine onB_b ?_ | refine ite_T rfl ?_ | refine ite_F rfl ?_ | refine onD_d ?_ | refine frzQ_d ?_ | refine flat_d trivial ?_ | refine onX_d ?_ | refine onX_al rfl ?_
  | refine frzQ.list ?_
  | refine ⟨⟨_, rfl⟩, ?_⟩ | refine ⟨_, _, rfl, rfl, ?_⟩)
local macro_rules | `(tactic| walk_at "seq") => `(tactic| ((with_reducible show dSs _ _ _ _); walk_at "nrm"; (first | refine dSs_cons ?_ | refine dSs_nil ?_)))
local macro_rules | `(tactic| walk_at "dl") => `(tactic| first | walk_at "dx" | walk_at "seq")
/-! ### the walk through a pattern -/
/-- at a path in a pattern stands a node -/
inductive At (ls : List Str) : PyData → List Int → PyData → Prop
  | here {x : PyData} : (isP ls x = true ∨ ∃ s, x = .str s) → At ls x [] x
  | down {xs : List PyData} {k : Nat} {y n : PyData} {q : List Int} : xs.length ≤ 3 → xs[k]? = some y → At ls y q n → At ls (.tuple xs) ((k : Int) :: q) n
def wB : PyData → Nat
  | .str _ => 1
  | x => 2 * cntP x
theorem wB_tup {xs : List PyData} : wB (.tuple xs) = 2 * cntP (.tuple xs) := rfl
theorem isP_kids {ls : List Str} {v : Str} {ys : List PyData} (h : isP ls (.tuple (.str v :: ys)) = true) : (∀ y ∈ ys, isP ls y = true ∨ ∃ s, y = .str s) ∧ 1 + (ys.map wB).sum ≤ 2 * cntP (.tuple (.str v :: ys)) := by
  obtain ⟨v', ys', e, hl, hk⟩ := isP_cases h
  injection e with e
  injection e with e1 e2
  injection e1 with e1
  subst e1 e2
  by_cases hv : v = "letter"
  · subst hv
    have c := cnt_letter h
    rw [isP_letter] at h
    split at h
    · rename_i b
      cases b with
      | str s =>
        refine ⟨fun y hy => .inr ⟨s, List.mem_singleton.mp hy⟩, ?_⟩
        rw [c]
        show 1 + (1 + 0) ≤ 2 * 1
        decide
      | _ => cases h
    · cases h
  · have hk := hk hv
    refine ⟨fun y hy => .inl (hk y hy), ?_⟩
    have ht : ∀ y ∈ ys, wB y = 2 * cntP y := fun y hy => by
      obtain ⟨_, _, e, _⟩ := isP_cases (hk y hy)
      subst e; rfl
    have e := cnt_sum h hv
    have e4 : ∀ l : List PyData, (l.map fun a => 2 * cntP a).sum = 2 * (l.map cntP).sum := by
      intro l
      induction l with
      | nil => rfl
      | cons y l ih => simp only [List.map_cons, List.sum_cons, ih]; omega
    have e2 : (ys.map wB).sum = 2 * ((ys.map cntP).sum) := by
      rw [List.map_congr_left ht, e4]
    have e3 : ∀ l : List PyData, (l.map cntI).sum = (((l.map cntP).sum : Nat) : Int) := by
      intro l
      induction l with
      | nil => rfl
      | cons y l ih => simp only [List.map_cons, List.sum_cons, ih, cntI]; omega
    rw [e3] at e
    omega
abbrev rowD (p : List Int × PyData) : PyData := .tuple [.list (p.1.map PyData.int), p.2]
abbrev sWalk : Stmt := topS 23
theorem scWalk : FnScope ["pattern", "path", "rows", "k"] ["pattern", "path"] (defScope sWalk) := ⟨rfl, rfl, rfl, by decide +kernel, rfl, by decide +kernel, by decide +kernel⟩
structure RowsOk (ls : List Str) (x : PyData) (path : List Int) (rs : List (List Int × PyData)) : Prop where
  some' : rs ≠ []
  at' : ∀ p ∈ rs, ∃ q, p.1 = path ++ q ∧ At ls x q p.2
def cWalk (ls : List Str) (d : Nat) : Ct := fun ms Q _ => ∃ (x : PyData) (path : List Int), ms = [.d x, .d (.list (path.map PyData.int))] ∧ Wd d x ∧ path.length + d ≤ 64 ∧ wB x ≤ 100 ∧ (isP ls x = true ∨ ∃ s, x = .str s) ∧
  ∀ rs : List (List Int × PyData), RowsOk ls x path rs → rs.length ≤ wB x → Q (.lst ((rs.map rowD).map M.d)) ms
theorem atI_at {α : Type} {xs : List α} {j : Nat} {x : α} (h : xs[j]? = some x) : atI xs (j : Int) = some x := by
  have hl : j < xs.length := by
    rcases Nat.lt_or_ge j xs.length with l | l
    · exact l
    · rw [List.getElem?_eq_none l] at h; cases h
  unfold atI ixN
  rw [if_pos (by omega), if_pos (by omega), Int.toNat_natCast]
  exact h
theorem sum_take {ys : List PyData} {k : Nat} : ((ys.take k).map wB).sum ≤ (ys.map wB).sum := by
  induction ys generalizing k with
  | nil => simp
  | cons y ys ih =>
    cases k with
    | zero => simp
    | succ k => simp only [List.take_succ_cons, List.map_cons, List.sum_cons]; have := ih (k := k); omega
theorem sum_step {ys : List PyData} {k : Nat} {y : PyData} (h : ys[k]? = some y) : ((ys.take (k + 1)).map wB).sum = ((ys.take k).map wB).sum + wB y := by
  rw [List.take_add_one, h, List.map_append, List.sum_append]
  rfl
section
variable {P : Program} {w : World} {K : PySem.W.Frag} {mg : Str → Option Value} {base : Heap}
theorem d_walk {ls : List Str} {f : Addr} {fd : FuncData} (F : Fun K "_law_walk" "_law_walk" sWalk f fd) (gl : mg "_law_walk" = some (.ref f)) (hb : Binds K fd ["pattern", "path"] []) (mLen : mg "len" = none) (mIsi : mg "isinstance" = none) (mTuple : mg "tuple" = none) (mRange : mg "range" = none)
    (d : Nat) (ih : ∀ e, d = e + 1 → Def P w K mg base "_law_walk" (e + 1) (cWalk ls e)) : Def P w K mg base "_law_walk" (d + 1) (cWalk ls d) := by
  refine Def.mk' F scWalk gl hb (fun ms Q E ⟨x, path, h, _⟩ => by rw [h]; rfl) fun cdv A outer s H E hr hg ms Q Ed h => ?_
  obtain ⟨x, path, rfl, wx, hp, hB, hx, q⟩ := h
  repeat walk_at "dl"
  rcases hx with hx | ⟨s', rfl⟩
  · obtain ⟨v, ys, rfl, hl, _⟩ := isP_cases hx
    obtain ⟨kids, sum⟩ := isP_kids hx
    refine ⟨true, isi_tup, ?_⟩
    obtain ⟨e, rfl⟩ := wx.pos
    have ih := ih e rfl
    repeat walk_at "dl"
    refine dS_for [3] rfl (by intro _; rfl) (dI_range2 rfl mRange rfl rfl rfl rfl ?_)
    repeat walk_at "dl"
    refine ⟨⟨by decide, by decide, by rw [List.length_cons]; omega, by rw [List.length_cons]; omega⟩, fun k Γ => ∃ rs g, Γ = [some (.d (.tuple (.str v :: ys))), some (.d (.list (path.map PyData.int))), some (.lst ((rs.map rowD).map M.d)), g] ∧ RowsOk ls (.tuple (.str v :: ys)) path rs ∧ rs.length ≤ 1 + ((ys.take k).map wB).sum,
      ⟨[(path, .tuple (.str v :: ys))], none, rfl, ⟨by nofun, fun p hp => by rw [List.mem_singleton.mp hp]; exact ⟨[], (List.append_nil _).symm, .here (.inl hx)⟩⟩, by show 1 ≤ 1 + _; omega⟩, fun k y Γk hk hI => ?_, fun Γn hI => ?_⟩
    · obtain ⟨rs, g, rfl, ok, len⟩ := hI
      obtain ⟨hk2, rfl⟩ := rngD_get hk
      have hk3 : k < ys.length := by rw [List.length_cons] at hk2; omega
      have hy : ys[k]? = some ys[k] := List.getElem?_eq_getElem hk3
      refine dG_nm rfl (by walk_at "loc") rfl (by decide) (by first | exact Or.inl rfl | exact Or.inr rfl) ?_
      refine dSs_frz 2 rfl (Frz.list _) rfl ?_
      repeat walk_at "dl"
      refine ixR_t (y := ys[k]) (by rw [show (1 : Int) + (k : Int) = ((k + 1 : Nat) : Int) by omega]; exact atI_at hy) ?_
      repeat walk_at "dl"
      have ek : (1 + (k : Int)) = ((k + 1 : Nat) : Int) := by omega
      have el : path.map PyData.int ++ [PyData.int (1 + (k : Int))] = (path ++ [1 + (k : Int)]).map PyData.int := by rw [List.map_append]; rfl
      show _ ∧ _
      refine ⟨by rw [List.length_map]; exact Nat.le_trans (show path.length + 1 ≤ 100 by omega) (by decide), ?_⟩
      rw [el]
      repeat walk_at "dl"
      have hm := List.mem_of_getElem? hy
      have hBy : wB ys[k] ≤ (ys.map wB).sum := by
        have h1 := sum_step hy
        have h2 := sum_take (ys := ys) (k := k + 1)
        omega
      refine ⟨by walk_at "nd", _, rfl, ys[k], path ++ [1 + (k : Int)], rfl, wx.part (List.mem_cons_of_mem _ hm), by rw [List.length_append]; show path.length + 1 + e ≤ 64; omega, by rw [wB_tup] at hB; omega, kids _ hm, fun rs2 ok2 len2 => ?_⟩
      repeat walk_at "dl"
      show _ ∧ _
      have hs1 : rs.length ≤ 200 := by
        have h2 := sum_take (ys := ys) (k := k)
        rw [wB_tup] at hB
        omega
      refine ⟨by rw [List.length_map, List.length_map]; exact Nat.le_trans (show rs.length + rs2.length ≤ 1000 by rw [wB_tup] at hB; omega) (by decide), ?_⟩
      repeat walk_at "dl"
      refine ⟨rs ++ rs2, some (.d (.int (1 + k))), by rw [List.map_append, List.map_append, List.map_append], ⟨by
        intro h; exact ok.some' (List.append_eq_nil_iff.mp h).1, fun p hp => ?_⟩, by rw [List.length_append, sum_step hy]; omega⟩
      rcases List.mem_append.mp hp with hp | hp
      · exact ok.at' p hp
      · obtain ⟨qq, e1, a⟩ := ok2.at' p hp
        refine ⟨((k + 1 : Nat) : Int) :: qq, by rw [e1, ek, List.append_assoc]; rfl, .down (by rw [List.length_cons]; omega) (by exact hy) a⟩
    · obtain ⟨rs, g, rfl, ok, len⟩ := hI
      repeat walk_at "dl"
      exact ⟨_, rfl, q rs ok (by rw [wB_tup]; have h2 := sum_take (ys := ys) (k := (rngD 1 ((((PyData.str v :: ys).length : Nat) : Int) - 1).toNat).length); omega)⟩
  · refine ⟨false, isi_ntup fun xs e => (nomatch e), ?_⟩
    repeat walk_at "dl"
    exact ⟨_, rfl, q [(path, .str s')] ⟨by nofun, fun p hp => by rw [List.mem_singleton.mp hp]; exact ⟨[], (List.append_nil _).symm, .here (.inr ⟨_, rfl⟩)⟩⟩ (Nat.le_refl 1)⟩
end
end K01

set_option Elab.async false
set_option linter.all false
set_option maxRecDepth 100000
set_option maxHeartbeats 4000000
namespace K01
open PySem PySem.Spec PyProof.Rows L2 DL
local macro_rules | `(tactic| walk_at "nd") => `(tactic| first | exact List.nodup_nil | exact nd1 _ | exact nd2 (by decide) | exact nd3 (by decide) (by decide) (by decide))
local macro_rules | `(tactic| walk_at "vis") => `(tactic| first | exact Or.inl rfl | exact Or.inr (Or.inl rfl) | exact Or.inr (Or.inr rfl))
local macro_rules | `(tactic| walk_at "loc") => `(tactic| first | exact Or.inl rfl | exact Or.inr rfl)
local macro_rules | `(tactic| walk_at "room") => `(tactic| first | assumption | exact Room.mono (by assumption) (by decide) | exact Room.mono (by assumption) (by omega))
local macro_rules | `(tactic| walk_at "nrm") => `(tactic| first
  | show dSs _ _ [_] _ | show dSs _ _ [_, _] _ | show dSs _ _ [_, _, _] _ | show dSs _ _ [_, _, _, _] _ | show dSs _ _ [_, _, _, _, _] _ | show dSs _ _ [_, _, _, _, _, _] _
  | show dSs _ _ [_, _, _, _, _, _, _] _ | show dSs _ _ [_, _, _, _, _, _, _, _] _ | show dSs _ _ [_, _, _, _, _, _, _, _, _] _ | show dSs _ _ [_, _, _, _, _, _, _, _, _, _] _
  | show dSs _ _ [_, _, _, _, _, _, _, _, _, _, _] _ | show dSs _ _ [_, _, _, _, _, _, _, _, _, _, _, _] _)
local macro_rules | `(tactic| walk_at "dE") => `(tactic| first
  | refine dE_nm rfl (by walk_at "vis") rfl ?_
  | refine dE_neg ?_ | refine dE_int ?_ | refine dE_str ?_ | refine dE_bl ?_ | refine dE_non ?_
  | refine dE_con (by assumption) rfl ?_
  | ((with_reducible show dE _ (.Name _ _) _ _); refine dE_globV (v := .ref _) rfl (by assumption) rfl ?_)
  | ((with_reducible show dE _ (.Name (Str.ofString "tuple") _) _ _); refine dE_ty (T := "tuple") rfl (by assumption) (by decide +kernel) ?_)
  | ((with_reducible show dE _ (.Name (Str.ofString "str") _) _ _); refine dE_ty (T := "str") rfl (by assumption) (by decide +kernel) ?_)
  | refine dE_ix (fun _ _ => rfl) ?_
  | refine dE_of_dO ?_)
local macro_rules | `(tactic| walk_at "dO") => `(tactic| first
  | refine dO_op ?_
  | refine dO_cmp (nomark _) ?_
  | refine dO_cmp (by rfl) ?_
  | refine dO_tup ?_ | refine dO_lst ?_
  | refine dO_and ?_ | refine dO_or ?_ | refine dO_one ?_ | refine dO_not ?_
  | refine dO_sl ?_
  | ((with_reducible show dO _ (.Call (.Name (Str.ofString "len") _) _ _ _) _ _); refine dO_callB (x := "len") (id := "len") rfl (by assumption) (by decide +kernel) rfl rfl ?_)
  | ((with_reducible show dO _ (.Call (.Name (Str.ofString "int") _) _ _ _) _ _); refine dO_callTy (x := "int") (T := "int") rfl (by assumption) (by decide +kernel) rfl rfl ?_)
  | ((with_reducible show dO _ (.Call (.Name (Str.ofString "tuple") _) _ _ _) _ _); refine dO_callTy (x := "tuple") (T := "tuple") rfl (by assumption) (by decide +kernel) rfl rfl ?_)
  | ((with_reducible show dO _ (.Call (.Name (Str.ofString "abs") _) _ _ _) _ _); refine dO_callB (x := "abs") (id := "abs") rfl (by assumption) (by decide +kernel) rfl rfl ?_)
  | ((with_reducible show dO _ (.Call (.Name (Str.ofString "max") _) _ _ _) _ _); refine dO_callB (x := "max") (id := "max") rfl (by assumption) (by decide +kernel) rfl rfl ?_)
  | ((with_reducible show dO _ (.Call (.Name (Str.ofString "sum") _) _ _ _) _ _); refine dO_callB (x := "sum") (id := "sum") rfl (by assumption) (by decide +kernel) rfl rfl ?_)
  | ((with_reducible show dO _ (.Call (.Name (Str.ofString "all") _) _ _ _) _ _); refine dO_callB (x := "all") (id := "all") rfl (by assumption) (by decide +kernel) rfl rfl ?_)
  | ((with_reducible show dO _ (.Call (.Name (Str.ofString "repr") _) _ _ _) _ _); refine dO_callB (x := "repr") (id := "repr") rfl (by assumption) (by decide +kernel) rfl rfl ?_)
  | ((with_reducible show dO _ (.Call (.Name (Str.ofString "isinstance") _) [_, .Tuple _ _ _] _ _) _ _); refine dO_isiT rfl (by assumption) rfl rfl rfl ?_)
  | ((with_reducible show dO _ (.Call (.Name (Str.ofString "isinstance") _) _ _ _) _ _); refine dO_isi rfl (by assumption) rfl rfl ?_)
  | refine dO_fn (by assumption) (by walk_at "room") rfl rfl rfl ?_
  | ((with_reducible show dO _ (.Name _ _) _ _); first | refine dO_mvL rfl (by walk_at "vis") rfl rfl ?_ | refine dO_of_dE ?_)
  | ((with_reducible show dO _ (.Constant _ _ _) _ _); refine dO_of_dE ?_)
  | ((with_reducible show dO _ (.Subscript _ _ _) _ _); refine dO_of_dE ?_))
local macro_rules | `(tactic| walk_at "dS") => `(tactic| first
  | refine dS_if ?_ | refine dS_ret ?_ | refine dS_retN ?_ | refine dS_pass ?_ | refine dS_break ?_ | refine dS_cont ?_
  | refine dS_st rfl (by walk_at "loc") rfl ?_ rfl (Or.inl rfl)
  | refine dS_raise rfl (by assumption) rfl ?_
  | refine dS_appN rfl (by walk_at "vis") rfl ?_ rfl rfl rfl rfl rfl
  | refine dS_setix (i := 0) rfl (by walk_at "vis") ?_ (by intro _; rfl) rfl rfl rfl)
local macro_rules | `(tactic| walk_at "dT") => `(tactic| first
  | refine dT_not ?_ | refine dT_cmp (nomark _) ?_ | refine dT_cmp (by rfl) ?_ | (show dT _ (.BoolOp _ _ _) _ _; refine dT_W ?_) | refine dT_val (by intro _; rfl) ?_)
local macro_rules | `(tactic| walk_at "shp") => `(tactic| first | assumption | exact shp_lit (by decide +kernel) | exact (shp_strs (by assumption)).1 | exact (shp_strs (by assumption)).2)
local macro_rules | `(tactic| walk_at "dx") => `(tactic| first
  | (with_reducible show dE _ _ _ _); walk_at "dE"
  | (with_reducible show dO _ _ _ _); walk_at "dO"
  | (with_reducible show dA _ _ _ _); (first | refine dA_cons rfl ?_ | refine dA_nil ?_)
  | (with_reducible show dT _ _ _ _); walk_at "dT"
  | (with_reducible show dS _ _ _ _); walk_at "dS"
  | (with_reducible show dOp _ _ _ _ _); (first | refine dOp_eqS ?_ | refine dOp_neS ?_ | refine dOp_of ?_ | refine dOp_cmp (DC.hu _) ?_)
  | (with_reducible show dW _ _ _ _); (first | refine dW_and ?_ | refine dW_or ?_ | refine dW_and1 ?_ | refine dW_or1 ?_)
  | (with_reducible show dB _ _ _ _); (first | refine dB_none ?_ | refine dB_some ?_)
  | (with_reducible show dC _ _ _ _); (first | refine dC_lenL ?_ | refine dC_lenT ?_ | refine dC_lenS (Nat.le_of_ble_eq_true rfl) ?_ | refine dC_intI ?_ | refine dC_intB ?_ | refine dC_tupT ?_ | refine dC_tupL ?_ | refine dC_lisT ?_ | refine dC_lisL ?_ | refine dC_len ?_ | refine dC_sum rfl ?_ | refine dC_all rfl ?_ | refine dC_int ?_ | refine dC_tuple ?_ | refine dC_abs ?_ | refine dC_max rfl ?_)
  | refine ixR_t atI_0 ?_ | refine ixR_t atI_1 ?_ | refine ixR_t atI_2 ?_ | refine ixR_l atI_0 ?_ | refine ixR_l atI_1 ?_ | refine ixR_al rfl rfl ?_ | refine ixR_t rfl ?_ | refine ixR_l rfl ?_
  | refine ⟨show List.length _ ≤ sizeLine from Nat.le_of_ble_eq_true rfl, ?_⟩
  | refine cmp_ltI ?_ | refine cmp_leI ?_ | refine cmp_gtI ?_ | refine cmp_geI ?_ | refine cmp_eqI ?_ | refine cmp_neI ?_ | refine cmp_eqS (by walk_at "shp") (by walk_at "shp") ?_ | refine cmp_neS (by walk_at "shp") (by walk_at "shp") ?_ | refine cmp_inT (by walk_at "shp") (by walk_at "shp") ?_ | refine cmp_inL (by walk_at "shp") (by walk_at "shp") ?_
  | refine slR_scr rfl ?_ | refine slR_t ?_ | refine slR_l ?_
  | refine onB_b ?_ | refine ite_T rfl ?_ | refine ite_F rfl ?_ | refine onD_d ?_ | refine frzQ_d ?_ | refine flat_d trivial ?_ | refine onX_d ?_ | refine onX_al rfl ?_
  | refine frzQ.list ?_
  | refine ⟨⟨_, rfl⟩, ?_⟩ | refine ⟨_, _, rfl, rfl, ?_⟩)
local macro_rules | `(tactic| walk_at "seq") => `(tactic| ((with_reducible show dSs _ _ _ _); walk_at "nrm"; (first | refine dSs_cons ?_ | refine dSs_nil ?_)))
local macro_rules | `(tactic| walk_at "dl") => `(tactic| first | walk_at "dx" | walk_at "seq")
abbrev sPut : Stmt := topS 24
theorem scPut : FnScope ["pattern", "path", "other", "k"] ["pattern", "path", "other"] (defScope sPut) := ⟨rfl, rfl, rfl, by decide +kernel, rfl, by decide +kernel, by decide +kernel⟩
def cPut (ls : List Str) (d e : Nat) : Ct := fun ms Q _ => ∃ (x y n : PyData) (path : List Int), ms = [.d x, .d (.list (path.map PyData.int)), .d y] ∧ Wd d x ∧ Wd e y ∧ path.length ≤ 64 ∧ At ls x path n ∧
  ∀ r, Wd (d + e) r → Q (.d r) ms
theorem Wd.sub {d : Nat} {xs ys : List PyData} (h : Wd d (.tuple xs)) (k : ∀ y ∈ ys, y ∈ xs) : ∀ y ∈ ys, Wd (d - 1) y := fun y hy => by
  obtain ⟨e, rfl⟩ := h.pos
  exact h.part (k y hy)
theorem mem_cut {xs : List PyData} {lo hi : Option Int} {y : PyData} (h : y ∈ cutD xs lo hi) : y ∈ xs := List.mem_of_mem_drop (List.mem_of_mem_take h)
theorem len_cut {xs : List PyData} {lo hi : Option Int} : (cutD xs lo hi).length ≤ xs.length := by
  unfold DL.cutD
  rw [List.length_take, List.length_drop]
  omega
section
variable {P : Program} {w : World} {K : PySem.W.Frag} {mg : Str → Option Value} {base : Heap}
theorem d_put {ls : List Str} {c : Nat} {f : Addr} {fd : FuncData} (F : Fun K "_law_put" "_law_put" sPut f fd) (gl : mg "_law_put" = some (.ref f)) (hb : Binds K fd ["pattern", "path", "other"] []) (mLen : mg "len" = none)
    (d : Nat) (ih : ∀ e, d = e + 1 → Def P w K mg base "_law_put" (e + 1) (cPut ls e c)) : Def P w K mg base "_law_put" (d + 1) (cPut ls d c) := by
  refine Def.mk' F scPut gl hb (fun ms Q E ⟨x, y, n, path, h, _⟩ => by rw [h]; rfl) fun cdv A outer s H E hr hg ms Q Ed h => ?_
  obtain ⟨x, y, n, path, rfl, wx, wy, hp, at_, q⟩ := h
  cases at_ with
  | here _ =>
    repeat walk_at "dl"
    exact ⟨_, rfl, q _ (wy.mono (by omega))⟩
  | @down xs k z _ qq hl hz at_ =>
    obtain ⟨e, rfl⟩ := wx.pos
    have ih := ih e rfl
    repeat walk_at "dl"
    refine ixR_t (y := z) (atI_at hz) ?_
    repeat walk_at "dl"
    rw [List.map_cons, cutD_from1]
    refine ⟨by walk_at "nd", _, rfl, z, y, n, qq, rfl, wx.part (List.mem_of_getElem? hz), wy, by rw [List.length_cons] at hp; omega, at_, fun r wr => ?_⟩
    repeat walk_at "dl"
    show _ ∧ _
    have l1 : (DL.cutD xs none (some (k : Int))).length ≤ 3 := Nat.le_trans len_cut hl
    refine ⟨Nat.le_trans (Nat.add_le_add_right l1 1) (by decide), ?_⟩
    repeat walk_at "dl"
    have l2 : (DL.cutD xs (some ((k : Int) + 1)) none).length ≤ 3 := Nat.le_trans len_cut hl
    show _ ∧ _
    refine ⟨by rw [List.length_append]; exact Nat.le_trans (Nat.add_le_add (Nat.add_le_add_right l1 1) l2) (by decide), ?_⟩
    refine ⟨_, rfl, q _ ?_⟩
    rw [show e + 1 + c = (e + c) + 1 by omega]
    refine Wd.tup fun u hu => ?_
    rcases List.mem_append.mp hu with hu | hu
    · rcases List.mem_append.mp hu with hu | hu
      · exact (wx.part (mem_cut hu)).mono (by omega)
      · rw [List.mem_singleton.mp hu]; exact wr
    · exact (wx.part (mem_cut hu)).mono (by omega)
end
end K01

set_option Elab.async false
set_option linter.all false
set_option maxRecDepth 100000
set_option maxHeartbeats 4000000
namespace K01
open PySem PySem.Spec PyProof.Rows L2 DL
local macro_rules | `(tactic| walk_at "nd") => `(tactic| first | exact List.nodup_nil | exact nd1 _ | exact nd2 (by decide) | exact nd3 (by decide) (by decide) (by decide))
local macro_rules | `(tactic| walk_at "vis") => `(tactic| first | exact Or.inl rfl | exact Or.inr (Or.inl rfl) | exact Or.inr (Or.inr rfl))
local macro_rules | `(tactic| walk_at "loc") => `(tactic| first | exact Or.inl rfl | exact Or.inr rfl)
local macro_rules | `(tactic| walk_at "room") => `(tactic| first | assumption | exact Room.mono (by assumption) (by decide) | exact Room.mono (by assumption) (by omega))
local macro_rules | `(tactic| walk_at "nrm") => `(tactic| first
  | show dSs _ _ [_] _ | show dSs _ _ [_, _] _ | show dSs _ _ [_, _, _] _ | show dSs _ _ [_, _, _, _] _ | show dSs _ _ [_, _, _, _, _] _ | show dSs _ _ [_, _, _, _, _, _] _
  | show dSs _ _ [_, _, _, _, _, _, _] _ | show dSs _ _ [_, _, _, _, _, _, _, _] _ | show dSs _ _ [_, _, _, _, _, _, _, _, _] _ | show dSs _ _ [_, _, _, _, _, _, _, _, _, _] _
  | show dSs _ _ [_, _, _, _, _, _, _, _, _, _, _] _ | show dSs _ _ [_, _, _, _, _, _, _, _, _, _, _, _] _)
local macro_rules | `(tactic| walk_at "dE") => `(tactic| first
  | refine dE_nm rfl (by walk_at "vis") rfl ?_
  | refine dE_neg ?_ | refine dE_int ?_ | refine dE_str ?_ | refine dE_bl ?_ | refine dE_non ?_
  | refine dE_con (by assumption) rfl ?_
  | ((with_reducible show dE _ (.Name _ _) _ _); refine dE_globV (v := .ref _) rfl (by assumption) rfl ?_)
  | ((with_reducible show dE _ (.Name (Str.ofString "tuple") _) _ _); refine dE_ty (T := "tuple") rfl (by assumption) (by decide +kernel) ?_)
  | ((with_reducible show dE _ (.Name (Str.ofString "str") _) _ _); refine dE_ty (T := "str") rfl (by assumption) (by decide +kernel) ?_)
  | refine dE_ix (fun _ _ => rfl) ?_
  | refine dE_of_dO ?_)
local macro_rules | `(tactic| walk_at "dO") => `(tactic| first
  | refine dO_op ?_
  | refine dO_cmp (nomark _) ?_
  | refine dO_cmp (by rfl) ?_
  | refine dO_tup ?_ | refine dO_lst ?_
  | refine dO_and ?_ | refine dO_or ?_ | refine dO_one ?_ | refine dO_not ?_
  | refine dO_sl ?_
  | ((with_reducible show dO _ (.Call (.Name (Str.ofString "len") _) _ _ _) _ _); refine dO_callB (x := "len") (id := "len") rfl (by assumption) (by decide +kernel) rfl rfl ?_)
  | ((with_reducible show dO _ (.Call (.Name (Str.ofString "int") _) _ _ _) _ _); refine dO_callTy (x := "int") (T := "int") rfl (by assumption) (by decide +kernel) rfl rfl ?_)
  | ((with_reducible show dO _ (.Call (.Name (Str.ofString "tuple") _) _ _ _) _ _); refine dO_callTy (x := "tuple") (T := "tuple") rfl (by assumption) (by decide +kernel) rfl rfl ?_)
  | ((with_reducible show dO _ (.Call (.Name (Str.ofString "abs") _) _ _ _) _ _); refine dO_callB (x := "abs") (id := "abs") rfl (by assumption) (by decide +kernel) rfl rfl ?_)
  | ((with_reducible show dO _ (.Call (.Name (Str.ofString "max") _) _ _ _) _ _); refine dO_callB (x := "max") (id := "max") rfl (by assumption) (by decide +kernel) rfl rfl ?_)
  | ((with_reducible show dO _ (.Call (.Name (Str.ofString "sum") _) _ _ _) _ _); refine dO_callB (x := "sum") (id := "sum") rfl (by assumption) (by decide +kernel) rfl rfl ?_)
  | ((with_reducible show dO _ (.Call (.Name (Str.ofString "all") _) _ _ _) _ _); refine dO_callB (x := "all") (id := "all") rfl (by assumption) (by decide +kernel) rfl rfl ?_)
  | ((with_reducible show dO _ (.Call (.Name (Str.ofString "repr") _) _ _ _) _ _); refine dO_callB (x := "repr") (id := "repr") rfl (by assumption) (by decide +kernel) rfl rfl ?_)
  | ((with_reducible show dO _ (.Call (.Name (Str.ofString "isinstance") _) [_, .Tuple _ _ _] _ _) _ _); refine dO_isiT rfl (by assumption) rfl rfl rfl ?_)
  | ((with_reducible show dO _ (.Call (.Name (Str.ofString "isinstance") _) _ _ _) _ _); refine dO_isi rfl (by assumption) rfl rfl ?_)
  | refine dO_fn (by assumption) (by walk_at "room") rfl rfl rfl ?_
  | ((with_reducible show dO _ (.Name _ _) _ _); first | refine dO_mvL rfl (by walk_at "vis") rfl rfl ?_ | refine dO_of_dE ?_)
  | ((with_reducible show dO _ (.Constant _ _ _) _ _); refine dO_of_dE ?_)
  | ((with_reducible show dO _ (.Subscript _ _ _) _ _); refine dO_of_dE ?_))
local macro_rules | `(tactic| walk_at "dS") => `(tactic| first
  | refine dS_if ?_ | refine dS_ret ?_ | refine dS_retN ?_ | refine dS_pass ?_ | refine dS_break ?_ | refine dS_cont ?_
  | refine dS_st rfl (by walk_at "loc") rfl ?_ rfl (Or.inl rfl)
  | refine dS_raise rfl (by assumption) rfl ?_
  | refine dS_appN rfl (by walk_at "vis") rfl ?_ rfl rfl rfl rfl rfl
  | refine dS_setix (i := 0) rfl (by walk_at "vis") ?_ (by intro _; rfl) rfl rfl rfl)
local macro_rules | `(tactic| walk_at "dT") => `(tactic| first
  | refine dT_not ?_ | refine dT_cmp (nomark _) ?_ | refine dT_cmp (by rfl) ?_ | (show dT _ (.BoolOp _ _ _) _ _; refine dT_W ?_) | refine dT_val (by intro _; rfl) ?_)
local macro_rules | `(tactic| walk_at "shp") => `(tactic| first | assumption | exact shp_lit (by decide +kernel) | exact (shp_strs (by assumption)).1 | exact (shp_strs (by assumption)).2)
local macro_rules | `(tactic| walk_at "dx") => `(tactic| first
  | (with_reducible show dE _ _ _ _); walk_at "dE"
  | (with_reducible show dO _ _ _ _); walk_at "dO"
  | (with_reducible show dA _ _ _ _); (first | refine dA_cons rfl ?_ | refine dA_nil ?_)
  | (with_reducible show dT _ _ _ _); walk_at "dT"
  | (with_reducible show dS _ _ _ _); walk_at "dS"
  | (with_reducible show dOp _ _ _ _ _); (first | refine dOp_eqS ?_ | refine dOp_neS ?_ | refine dOp_of ?_ | refine dOp_cmp (DC.hu _) ?_)
  | (with_reducible show dW _ _ _ _); (first | refine dW_and ?_ | refine dW_or ?_ | refine dW_and1 ?_ | refine dW_or1 ?_)
  | (with_reducible show dB _ _ _ _); (first | refine dB_none ?_ | refine dB_some ?_)
  | (with_reducible show dC _ _ _ _); (first | refine dC_lenL ?_ | refine dC_lenT ?_ | refine dC_lenS (Nat.le_of_ble_eq_true rfl) ?_ | refine dC_intI ?_ | refine dC_intB ?_ | refine dC_tupT ?_ | refine dC_tupL ?_ | refine dC_lisT ?_ | refine dC_lisL ?_ | refine dC_len ?_ | refine dC_sum rfl ?_ | refine dC_all rfl ?_ | refine dC_int ?_ | refine dC_tuple ?_ | refine dC_abs ?_ | refine dC_max rfl ?_)
  | refine ixR_t atI_0 ?_ | refine ixR_t atI_1 ?_ | refine ixR_t atI_2 ?_ | refine ixR_l atI_0 ?_ | refine ixR_l atI_1 ?_ | refine ixR_al rfl rfl ?_ | refine ixR_t rfl ?_ | refine ixR_l rfl ?_
  | refine ⟨show List.length _ ≤ sizeLine from Nat.le_of_ble_eq_true rfl, ?_⟩
  | refine cmp_ltI ?_ | refine cmp_leI ?_ | refine cmp_gtI ?_ | refine cmp_geI ?_ | refine cmp_eqI ?_ | refine cmp_neI ?_ | refine cmp_eqS (by walk_at "shp") (by walk_at "shp") ?_ | refine cmp_neS (by walk_at "shp") (by walk_at "shp") ?_ | refine cmp_inT (by walk_at "shp") (by walk_at "shp") ?_ | refine cmp_inL (by walk_at "shp") (by walk_at "shp") ?_
  | refine slR_scr rfl ?_ | refine slR_t ?_ | refine slR_l ?_
  | refine onB_b ?_ | refine ite_T rfl ?_ | refine ite_F rfl ?_ | refine onD_d ?_ | refine frzQ_d ?_ | refine flat_d trivial ?_ | refine onX_d ?_ | refine onX_al rfl ?_
  | refine frzQ.list ?_
  | refine ⟨⟨_, rfl⟩, ?_⟩ | refine ⟨_, _, rfl, rfl, ?_⟩)
local macro_rules | `(tactic| walk_at "seq") => `(tactic| ((with_reducible show dSs _ _ _ _); walk_at "nrm"; (first | refine dSs_cons ?_ | refine dSs_nil ?_)))
local macro_rules | `(tactic| walk_at "dl") => `(tactic| first | walk_at "dx" | walk_at "seq")
abbrev sSp : Stmt := topS 25
theorem scSp : FnScope ["state", "letters", "pattern", "rows", "path", "node", "others"] ["state", "letters", "pattern"] (defScope sSp) := ⟨rfl, rfl, rfl, by decide +kernel, rfl, by decide +kernel, by decide +kernel⟩
def cSp (ns : List Int) (ls : List Str) (r : Nat) : Ct := fun ms Q _ => ∃ (i : Int) (x : PyData), ms = [StM ns i, .d (lets ls), .d x] ∧ 0 ≤ i ∧ i < 900000000 ∧ isP ls x = true ∧ Wd r x ∧ wB x ≤ 100 ∧
  ∀ (y : PyData) (i' : Int), i ≤ i' → i' ≤ i + 2 → Wd (r + (r + 2)) y → Q (.d y) [StM ns i', .d (lets ls), .d x]
theorem At.node {ls : List Str} {x n : PyData} {q : List Int} (h : At ls x q n) : ∀ {d : Nat}, Wd d x → Wd d n ∧ (isP ls n = true ∨ ∃ s, n = .str s) ∧ q.length ≤ d := by
  induction h with
  | here h => exact fun w => ⟨w, h, Nat.zero_le _⟩
  | down _ e _ ih =>
    intro d w
    obtain ⟨d', rfl⟩ := w.pos
    obtain ⟨a, b, c⟩ := ih (w.part (List.mem_of_getElem? e))
    exact ⟨a.mono (by omega), b, by rw [List.length_cons]; omega⟩
abbrev anyT : PyData := .tuple [.str "any"]
def othA : List PyData := [.str "any", .str "x", .tuple [], .tuple [.str "any", anyT], .tuple [.str "letter", .str "q"], .tuple [.str "letter"], .tuple [.str "row", anyT], .tuple [.str "not"], .tuple [.str "again", anyT, anyT]]
def othB (l : Str) : List PyData := [.tuple [.str "every", anyT], .tuple [.str "none", .str "none"], .tuple [anyT], .tuple [.str "letter", anyT], .str l]
def othC (nx : List PyData) : List PyData := [.tuple (nx ++ [anyT]), .tuple (DL.cutD nx none (some (-1))), .tuple (DL.cutD nx (some 1) none), .tuple [.tuple nx], .tuple ([.str "or"] ++ DL.cutD nx (some 1) none), .tuple ([.str "not"] ++ DL.cutD nx (some 1) none)]
theorem wd_any {d : Nat} : Wd (d + 1) anyT := ⟨by decide +kernel, Nat.le_trans (by decide +kernel : anyT.depth ≤ 1) (by omega)⟩
theorem othC_wd {d : Nat} {nx : List PyData} (h : Wd d (.tuple nx)) : ∀ y ∈ othC nx, Wd (d + 2) y := by
  obtain ⟨e, rfl⟩ := h.pos
  have hm : ∀ x ∈ nx, Wd (e + 1 + 1) x := fun x hx => (h.part hx).mono (by omega)
  have hc : ∀ (lo hi : Option Int), ∀ x ∈ DL.cutD nx lo hi, Wd (e + 1 + 1) x := fun lo hi x hx => hm x (mem_cut hx)
  intro y hy
  simp only [othC, List.mem_cons, List.not_mem_nil, or_false] at hy
  rcases hy with rfl | rfl | rfl | rfl | rfl | rfl
  · exact Wd.tup fun z hz => by
      rcases List.mem_append.mp hz with hz | hz
      · exact hm z hz
      · rw [List.mem_singleton.mp hz]; exact wd_any
  · exact Wd.tup (hc _ _)
  · exact Wd.tup (hc _ _)
  · exact Wd.t1 (h.mono (by omega))
  · exact Wd.tup fun z hz => by
      rcases List.mem_append.mp hz with hz | hz
      · rw [List.mem_singleton.mp hz]; exact Wd.str (by decide +kernel)
      · exact hc _ _ z hz
  · exact Wd.tup fun z hz => by
      rcases List.mem_append.mp hz with hz | hz
      · rw [List.mem_singleton.mp hz]; exact Wd.str (by decide +kernel)
      · exact hc _ _ z hz
theorem atI_mapM {xs : List PyData} {n : Int} : atI (xs.map M.d) n = (atI xs n).map M.d := by
  unfold atI
  rw [List.length_map]
  cases ixN xs.length n with
  | none => rfl
  | some j => show (xs.map M.d)[j]? = (xs[j]?).map M.d; rw [List.getElem?_map]
section
variable {P : Program} {w : World} {K : PySem.W.Frag} {mg : Str → Option Value} {base : Heap}
theorem d_sp {ns : List Int} {ls : List Str} (hls : LsOk ls) (h0 : 0 < ls.length) {f : Addr} {fd : FuncData} (F : Fun K "_law_spoilt" "_law_spoilt" sSp f fd) (gl : mg "_law_spoilt" = some (.ref f)) (hb : Binds K fd ["state", "letters", "pattern"] []) (mLen : mg "len" = none) (mIsi : mg "isinstance" = none) (mTuple : mg "tuple" = none)
    (r : Nat) (hr64 : r ≤ 62) (D1 : Def P w K mg base "_law_next" 1 (cNext ns)) (D2 : Def P w K mg base "_law_walk" (r + 1) (cWalk ls r)) (D3 : Def P w K mg base "_law_put" (r + 1) (cPut ls r (r + 2))) : Def P w K mg base "_law_spoilt" (r + 2) (cSp ns ls r) := by
  refine Def.mk' F scSp gl hb (fun ms Q E ⟨i, x, h, _⟩ => by rw [h]; rfl) fun cdv A outer s H E hr hg ms Q Ed h => ?_
  obtain ⟨i, x, rfl, i0, i1, px, wx, hB, q⟩ := h
  walk_at "seq"
  repeat walk_at "dx"
  refine ⟨by walk_at "nd", _, rfl, x, [], rfl, wx, by show 0 + r ≤ 64; omega, hB, .inl px, fun rs ok len => ?_⟩
  walk_at "seq"
  refine dS_asg [4, 5] rfl rfl rfl ?_
  repeat walk_at "dx"
  have rs0 : 0 < (rs.map rowD).length := by
    rw [List.length_map]
    cases rs with
    | nil => exact absurd rfl ok.some'
    | cons => rw [List.length_cons]; omega
  refine ⟨by walk_at "nd", _, rfl, _, _, rfl, by omega, by omega, by omega, fun rn rn_0 rn_1 => ?_⟩
  repeat walk_at "dx"
  obtain ⟨⟨pth, node⟩, hrw, _, hra⟩ := atI_map rowD (xs := rs) rn_0 (by have := rn_1; rw [List.length_map] at this; exact this)
  obtain ⟨qq, e1, atn⟩ := ok.at' _ hrw
  obtain ⟨wn, hn, hq⟩ := atn.node wx
  have e1 : pth = qq := e1
  subst e1
  refine ixR_al rfl (by rw [atI_mapM, hra]; rfl) ?_
  repeat walk_at "dx"
  refine dG_tup rfl rfl rfl (dGs_cons rfl (dG_nm rfl (by walk_at "loc") rfl (by decide) (by first | exact Or.inl rfl | exact Or.inr rfl) (dGs_cons rfl (dG_nm rfl (by walk_at "loc") rfl (by decide) (by first | exact Or.inl rfl | exact Or.inr rfl) (dGs_nil ?_)))))
  walk_at "seq"
  repeat walk_at "dx"
  refine dSs_frz 6 rfl (Frz.list othA) rfl ?_
  walk_at "seq"
  repeat walk_at "dx"
  obtain ⟨l, hl, _, hla⟩ := atI_map PyData.str (xs := ls) (n := 0) (by omega) (by omega)
  refine ixR_t hla ?_
  repeat walk_at "dx"
  show _ ∧ _
  refine ⟨by show 9 + 5 ≤ sizeLine; decide, ?_⟩
  repeat walk_at "dx"
  refine dSs_frz 6 rfl (Frz.list (othA ++ othB l)) rfl ?_
  have wo1 : ∀ y ∈ othA ++ othB l, Wd (r + 2) y := fun y hy => by
    rcases List.mem_append.mp hy with hy | hy
    · obtain ⟨a, b⟩ := wd_all (d := 2) (xs := othA) (by decide +kernel) y hy
      exact ⟨a, by omega⟩
    · rcases List.mem_append.mp (show y ∈ [PyData.tuple [.str "every", anyT], .tuple [.str "none", .str "none"], .tuple [anyT], .tuple [.str "letter", anyT]] ++ [.str l] from hy) with hy | hy
      · obtain ⟨a, b⟩ := wd_all (d := 2) (by decide +kernel) y hy
        exact ⟨a, by omega⟩
      · rw [List.mem_singleton.mp hy]
        exact Wd.str (hls l hl)
  walk_at "seq"
  repeat walk_at "dx"
  rcases hn with hn | ⟨s', rfl⟩
  · obtain ⟨v, ys, rfl, hl2, _⟩ := isP_cases hn
    refine ⟨true, isi_tup, ?_⟩
    repeat walk_at "dx"
    walk_at "seq"
    repeat walk_at "dx"
    have c1 : (DL.cutD (PyData.str v :: ys) (some 1) none).length ≤ 3 := Nat.le_trans len_cut (by rw [List.length_cons]; omega)
    show _ ∧ _
    refine ⟨Nat.le_trans (show (PyData.str v :: ys).length + 1 ≤ 10 by rw [List.length_cons]; omega) (by decide), ?_⟩
    repeat walk_at "dx"
    show _ ∧ _
    refine ⟨Nat.le_trans (show 1 + (DL.cutD (PyData.str v :: ys) (some 1) none).length ≤ 10 by omega) (by decide), ?_⟩
    repeat walk_at "dx"
    show _ ∧ _
    refine ⟨Nat.le_trans (show 1 + (DL.cutD (PyData.str v :: ys) (some 1) none).length ≤ 10 by omega) (by decide), ?_⟩
    repeat walk_at "dx"
    show _ ∧ _
    refine ⟨by show 14 + 6 ≤ sizeLine; decide, ?_⟩
    repeat walk_at "dx"
    walk_at "seq"
    refine dSs_frz 6 rfl (Frz.list ((othA ++ othB l) ++ othC (.str v :: ys))) rfl ?_
    have wo2 : ∀ y ∈ (othA ++ othB l) ++ othC (.str v :: ys), Wd (r + 2) y := fun y hy => by
      rcases List.mem_append.mp hy with hy | hy
      · exact wo1 y hy
      · exact othC_wd wn y hy
    repeat walk_at "dl"
    refine ⟨by walk_at "nd", _, rfl, _, _, rfl, by omega, by omega, by show (0 : Int) < (((othA ++ othB l) ++ othC (.str v :: ys)).length : Nat); simp only [List.length_append, othA, othB, List.length_cons, List.length_nil]; omega, fun ro ro_0 ro_1 => ?_⟩
    repeat walk_at "dx"
    obtain ⟨y, hy, _, hya⟩ := atI_mem (xs := (othA ++ othB l) ++ othC (.str v :: ys)) ro_0 ro_1
    refine ixR_l hya ?_
    repeat walk_at "dx"
    refine ⟨by walk_at "nd", _, rfl, x, y, _, pth, rfl, wx, wo2 y hy, by omega, atn, fun z wz => ?_⟩
    exact ⟨_, rfl, q _ _ (by omega) (by omega) wz⟩
  · refine ⟨false, isi_ntup fun xs e => (nomatch e), ?_⟩
    repeat walk_at "dx"
    walk_at "seq"
    repeat walk_at "dl"
    refine ⟨by walk_at "nd", _, rfl, _, _, rfl, by omega, by omega, by show (0 : Int) < ((othA ++ othB l).length : Nat); simp only [List.length_append, othA, othB, List.length_cons, List.length_nil]; omega, fun ro ro_0 ro_1 => ?_⟩
    repeat walk_at "dx"
    obtain ⟨y, hy, _, hya⟩ := atI_mem (xs := othA ++ othB l) ro_0 ro_1
    refine ixR_l hya ?_
    repeat walk_at "dx"
    refine ⟨by walk_at "nd", _, rfl, x, y, _, pth, rfl, wx, wo1 y hy, by omega, atn, fun z wz => ?_⟩
    exact ⟨_, rfl, q _ _ (by omega) (by omega) wz⟩
end
end K01

set_option Elab.async false
set_option linter.all false
set_option maxRecDepth 100000
set_option maxHeartbeats 4000000
namespace K01
open PySem PySem.Spec PyProof.Rows L2 DL
local macro_rules | `(tactic| walk_at "nd") => `(tactic| first | exact List.nodup_nil | exact nd1 _ | exact nd2 (by decide) | exact nd3 (by decide) (by decide) (by decide))
local macro_rules | `(tactic| walk_at "vis") => `(tactic| first | exact Or.inl rfl | exact Or.inr (Or.inl rfl) | exact Or.inr (Or.inr rfl))
local macro_rules | `(tactic| walk_at "loc") => `(tactic| first | exact Or.inl rfl | exact Or.inr rfl)
local macro_rules | `(tactic| walk_at "room") => `(tactic| first | assumption | exact Room.mono (by assumption) (by decide) | exact Room.mono (by assumption) (by omega))
local macro_rules | `(tactic| walk_at "nrm") => `(tactic| first
  | show dSs _ _ [_] _ | show dSs _ _ [_, _] _ | show dSs _ _ [_, _, _] _ | show dSs _ _ [_, _, _, _] _ | show dSs _ _ [_, _, _, _, _] _ | show dSs _ _ [_, _, _, _, _, _] _
  | show dSs _ _ [_, _, _, _, _, _, _] _ | show dSs _ _ [_, _, _, _, _, _, _, _] _ | show dSs _ _ [_, _, _, _, _, _, _, _, _] _ | show dSs _ _ [_, _, _, _, _, _, _, _, _, _] _
  | show dSs _ _ [_, _, _, _, _, _, _, _, _, _, _] _ | show dSs _ _ [_, _, _, _, _, _, _, _, _, _, _, _] _)
local macro_rules | `(tactic| walk_at "dE") => `(tactic| first
  | refine dE_nm rfl (by walk_at "vis") rfl ?_
  | refine dE_neg ?_ | refine dE_int ?_ | refine dE_str ?_ | refine dE_bl ?_ | refine dE_non ?_
  | refine dE_con (by assumption) rfl ?_
  | ((with_reducible show dE _ (.Name _ _) _ _); refine dE_globV (v := .ref _) rfl (by assumption) rfl ?_)
  | ((with_reducible show dE _ (.Name (Str.ofString "tuple") _) _ _); refine dE_ty (T := "tuple") rfl (by assumption) (by decide +kernel) ?_)
  | ((with_reducible show dE _ (.Name (Str.ofString "str") _) _ _); refine dE_ty (T := "str") rfl (by assumption) (by decide +kernel) ?_)
  | refine dE_ix (fun _ _ => rfl) ?_
  | refine dE_of_dO ?_)
local macro_rules | `(tactic| walk_at "dO") => `(tactic| first
  | refine dO_op ?_
  | refine dO_cmp (nomark _) ?_
  | refine dO_cmp (by rfl) ?_
  | refine dO_tup ?_ | refine dO_lst ?_
  | refine dO_and ?_ | refine dO_or ?_ | refine dO_one ?_ | refine dO_not ?_
  | refine dO_sl ?_
  | ((with_reducible show dO _ (.Call (.Name (Str.ofString "len") _) _ _ _) _ _); refine dO_callB (x := "len") (id := "len") rfl (by assumption) (by decide +kernel) rfl rfl ?_)
  | ((with_reducible show dO _ (.Call (.Name (Str.ofString "int") _) _ _ _) _ _); refine dO_callTy (x := "int") (T := "int") rfl (by assumption) (by decide +kernel) rfl rfl ?_)
  | ((with_reducible show dO _ (.Call (.Name (Str.ofString "tuple") _) _ _ _) _ _); refine dO_callTy (x := "tuple") (T := "tuple") rfl (by assumption) (by decide +kernel) rfl rfl ?_)
  | ((with_reducible show dO _ (.Call (.Name (Str.ofString "abs") _) _ _ _) _ _); refine dO_callB (x := "abs") (id := "abs") rfl (by assumption) (by decide +kernel) rfl rfl ?_)
  | ((with_reducible show dO _ (.Call (.Name (Str.ofString "max") _) _ _ _) _ _); refine dO_callB (x := "max") (id := "max") rfl (by assumption) (by decide +kernel) rfl rfl ?_)
  | ((with_reducible show dO _ (.Call (.Name (Str.ofString "sum") _) _ _ _) _ _); refine dO_callB (x := "sum") (id := "sum") rfl (by assumption) (by decide +kernel) rfl rfl ?_)
  | ((with_reducible show dO _ (.Call (.Name (Str.ofString "all") _) _ _ _) _ _); refine dO_callB (x := "all") (id := "all") rfl (by assumption) (by decide +kernel) rfl rfl ?_)
  | ((with_reducible show dO _ (.Call (.Name (Str.ofString "repr") _) _ _ _) _ _); refine dO_callB (x := "repr") (id := "repr") rfl (by assumption) (by decide +kernel) rfl rfl ?_)
  | ((with_reducible show dO _ (.Call (.Name (Str.ofString "isinstance") _) [_, .Tuple _ _ _] _ _) _ _); refine dO_isiT rfl (by assumption) rfl rfl rfl ?_)
  | ((with_reducible show dO _ (.Call (.Name (Str.ofString "isinstance") _) _ _ _) _ _); refine dO_isi rfl (by assumption) rfl rfl ?_)
  | refine dO_fn (by assumption) (by walk_at "room") rfl rfl rfl ?_
  | ((with_reducible show dO _ (.Name _ _) _ _); first | refine dO_mvL rfl (by walk_at "vis") rfl rfl ?_ | refine dO_of_dE ?_)
  | ((with_reducible show dO _ (.Constant _ _ _) _ _); refine dO_of_dE ?_)
  | ((with_reducible show dO _ (.Subscript _ _ _) _ _); refine dO_of_dE ?_))
local macro_rules | `(tactic| walk_at "dS") => `(tactic| first
  | refine dS_if ?_ | refine dS_ret ?_ | refine dS_retN ?_ | refine dS_pass ?_ | refine dS_break ?_ | refine dS_cont ?_
  | refine dS_st rfl (by walk_at "loc") rfl ?_ rfl (Or.inl rfl)
  | refine dS_raise rfl (by assumption) rfl ?_
  | refine dS_appN rfl (by walk_at "vis") rfl ?_ rfl rfl rfl rfl rfl
  | refine dS_setix (i := 0) rfl (by walk_at "vis") ?_ (by intro _; rfl) rfl rfl rfl)
local macro_rules | `(tactic| walk_at "dT") => `(tactic| first
  | refine dT_not ?_ | refine dT_cmp (nomark _) ?_ | refine dT_cmp (by rfl) ?_ | (show dT _ (.BoolOp _ _ _) _ _; refine dT_W ?_) | refine dT_val (by intro _; rfl) ?_)
local macro_rules | `(tactic| walk_at "shp") => `(tactic| first | assumption | exact shp_lit (by decide +kernel) | exact (shp_strs (by assumption)).1 | exact (shp_strs (by assumption)).2)
local macro_rules | `(tactic| walk_at "dx") => `(tactic| first
  | (with_reducible show dE _ _ _ _); walk_at "dE"
  | (with_reducible show dO _ _ _ _); walk_at "dO"
  | (with_reducible show dA _ _ _ _); (first | refine dA_cons rfl ?_ | refine dA_nil ?_)
  | (with_reducible show dT _ _ _ _); walk_at "dT"
  | (with_reducible show dS _ _ _ _); walk_at "dS"
  | (with_reducible show dOp _ _ _ _ _); (first | refine dOp_eqS ?_ | refine dOp_neS ?_ | refine dOp_of ?_ | refine dOp_cmp (DC.hu _) ?_)
  | (with_reducible show dW _ _ _ _); (first | refine dW_and ?_ | refine dW_or ?_ | refine dW_and1 ?_ | refine dW_or1 ?_)
  | (with_reducible show dB _ _ _ _); (first | refine dB_none ?_ | refine dB_some ?_)
  | (with_reducible show dC _ _ _ _); (first | refine dC_lenL ?_ | refine dC_lenT ?_ | refine dC_lenS (Nat.le_of_ble_eq_true rfl) ?_ | refine dC_intI ?_ | refine dC_intB ?_ | refine dC_tupT ?_ | refine dC_tupL ?_ | refine dC_lisT ?_ | refine dC_lisL ?_ | refine dC_len ?_ | refine dC_sum rfl ?_ | refine dC_all rfl ?_ | refine dC_int ?_ | refine dC_tuple ?_ | refine dC_abs ?_ | refine dC_max rfl ?_)
  | refine ixR_t atI_0 ?_ | refine ixR_t atI_1 ?_ | refine ixR_t atI_2 ?_ | refine ixR_l atI_0 ?_ | refine ixR_l atI_1 ?_ | refine ixR_al rfl rfl ?_ | refine ixR_t rfl ?_ | refine ixR_l rfl ?_
  | refine ⟨show List.length _ ≤ sizeLine from Nat.le_of_ble_eq_true rfl, ?_⟩
  | refine cmp_ltI ?_ | refine cmp_leI ?_ | refine cmp_gtI ?_ | refine cmp_geI ?_ | refine cmp_eqI ?_ | refine cmp_neI ?_ | refine cmp_eqS (by walk_at "shp") (by walk_at "shp") ?_ | refine cmp_neS (by walk_at "shp") (by walk_at "shp") ?_ | refine cmp_inT (by walk_at "shp") (by walk_at "shp") ?_ | refine cmp_inL (by walk_at "shp") (by walk_at "shp") ?_
  | refine slR_scr rfl ?_ | refine slR_t ?_ | refine slR_l ?_
  | refine onB_b ?_ | refine ite_T rfl ?_ | refine ite_F rfl ?_ | refine onD_d ?_ | refine frzQ_d ?_ | refine flat_d trivial ?_ | refine onX_d ?_ | refine onX_al rfl ?_
  | refine frzQ.list ?_
  | refine ⟨⟨_, rfl⟩, ?_⟩ | refine ⟨_, _, rfl, rfl, ?_⟩)
local macro_rules | `(tactic| walk_at "seq") => `(tactic| ((with_reducible show dSs _ _ _ _); walk_at "nrm"; (first | refine dSs_cons ?_ | refine dSs_nil ?_)))
local macro_rules | `(tactic| walk_at "dl") => `(tactic| first | walk_at "dx" | walk_at "seq")
abbrev sChk : Stmt := topS 15
theorem scChk : FnScope ["letters", "pattern"] ["letters", "pattern"] (defScope sChk) := ⟨rfl, rfl, rfl, by decide +kernel, rfl, by decide +kernel, by decide +kernel⟩
def cChk (ls : List Str) (d : Nat) (NA : Addr) : Ct := fun ms Q E => ∃ x, ms = [.d (lets ls), .d x] ∧ Wd d x ∧ ((isP ls x && decide ((cntP x : Int) ≤ 30)) = true → Q (.d .none) ms) ∧ ((isP ls x && decide ((cntP x : Int) ≤ 30)) = false → E ⟨.ref NA, []⟩ ms)
abbrev sTold : Stmt := topS 28
theorem scTold : FnScope ["letters", "pattern", "e"] ["letters", "pattern"] (defScope sTold) := ⟨rfl, rfl, rfl, by decide +kernel, rfl, by decide +kernel, by decide +kernel⟩
def toldD (ls : List Str) (x : PyData) : PyData := if (isP ls x && decide ((cntP x : Int) ≤ 30)) = true then .none else .str "refused"
def cTold (ls : List Str) (d : Nat) : Ct := fun ms Q _ => ∃ x, ms = [.d (lets ls), .d x] ∧ Wd d x ∧ Q (.d (toldD ls x)) ms
section
variable {P : Program} {w : World} {K : PySem.W.Frag} {mg : Str → Option Value} {base : Heap}
theorem d_chk {ls : List Str} {NA : Addr} {f : Addr} {fd : FuncData} (F : Fun K "check_pattern" "check_pattern" sChk f fd) (gl : mg "check_pattern" = some (.ref f)) (hb : Binds K fd ["letters", "pattern"] []) (cM : Con K mg "MAX_NODES" (.int 30)) (eN : ExcF K mg "NotAllowed" NA)
    (d : Nat) (D1 : Def P w K mg base "is_pattern" (d + 1) (cIs ls d)) (D2 : Def P w K mg base "count_nodes" (d + 1) (cCnt ls d)) : Def P w K mg base "check_pattern" (d + 2) (cChk ls d NA) := by
  refine Def.mk' F scChk gl hb (fun ms Q E ⟨x, h, _⟩ => by rw [h]; rfl) fun cdv A outer s H E hr hg ms Q Ed h => ?_
  obtain ⟨x, rfl, wx, q1, q2⟩ := h
  repeat walk_at "dl"
  refine ⟨by walk_at "nd", _, rfl, x, rfl, wx, ?_⟩
  cases hx : isP ls x with
  | false =>
    rw [hx, Bool.false_and] at q2
    repeat walk_at "dl"
    exact ⟨_, rfl, q2 rfl⟩
  | true =>
    rw [hx, Bool.true_and] at q1 q2
    repeat walk_at "dl"
    refine ⟨by walk_at "nd", _, rfl, x, rfl, wx, hx, ?_⟩
    repeat walk_at "dl"
    refine ite_d (fun hc => ?_) (fun hc => ?_)
    · repeat walk_at "dl"
      exact ⟨_, rfl, q2 (decide_eq_false (by omega))⟩
    · repeat walk_at "dl"
      exact ⟨_, rfl, q1 (decide_eq_true (by omega))⟩
theorem d_told {ls : List Str} {NA SE TL Mi BP BF Br : Addr} {f : Addr} {fd : FuncData} (F : Fun K "_law_told" "_law_told" sTold f fd) (gl : mg "_law_told" = some (.ref f)) (hb : Binds K fd ["letters", "pattern"] []) (mInt : mg "int" = none) (mIsi : mg "isinstance" = none)
    (gNA : mg "NotAllowed" = some (.ref NA)) (gSE : mg "ScarpError" = some (.ref SE)) (gTL : mg "TooLarge" = some (.ref TL)) (gMi : mg "Missing" = some (.ref Mi)) (gBP : mg "BadPaper" = some (.ref BP)) (gBF : mg "BadForm" = some (.ref BF)) (gBr : mg "Broken" = some (.ref Br))
    (eC : ExcC K NA) (ex1 : PySem.W.exmOne K (.ref NA) (.ref NA) = some true) (k1 : PySem.W.kitOne K (.ref NA) (.ref SE) = some true) (k2 : PySem.W.kitAny K (.ref NA) ([TL, Mi, BP, BF, Br].map Value.ref) = some false)
    (d : Nat) (D1 : Def P w K mg base "check_pattern" (d + 2) (cChk ls d NA)) : Def P w K mg base "_law_told" (d + 3) (cTold ls d) := by
  refine Def.mk' F scTold gl hb (fun ms Q E ⟨x, h, _⟩ => by rw [h]; rfl) fun cdv A outer s H E hr hg ms Q Ed h => ?_
  obtain ⟨x, rfl, wx, q⟩ := h
  walk_at "seq"
  refine dS_tryAs (i := 2) rfl rfl rfl (by rfl) rfl ⟨rfl, by decide, .inl gNA⟩ fun pn xe po => ?_
  repeat walk_at "dl"
  refine ⟨by walk_at "nd", _, rfl, x, rfl, wx, fun hx => ?_, fun hx => ?_⟩
  · repeat walk_at "dl"
    unfold toldD at q
    rw [if_pos hx] at q
    exact ⟨_, rfl, q⟩
  · unfold toldD at q
    rw [if_neg (by rw [hx]; exact Bool.false_ne_true)] at q
    refine ⟨true, ex1, fun _ a oe pn2 hz hv => ?_, fun h => nomatch h⟩
    have hz := hz rfl
    repeat walk_at "dl"
    refine ⟨true, isi_exc eC hz hv k1, ?_⟩
    repeat walk_at "dl"
    refine ⟨false, isi_excT (cs := [TL, Mi, BP, BF, Br]) eC hz hv (show 5 ≤ sizeLine by decide) k2, ?_⟩
    repeat walk_at "dl"
    exact ⟨_, rfl, q⟩
end
end K01

set_option Elab.async false
set_option linter.all false
set_option maxRecDepth 100000
set_option maxHeartbeats 4000000
namespace K01
open PySem PySem.Spec PyProof.Rows L2 DL
local macro_rules | `(tactic| walk_at "nd") => `(tactic| first | exact List.nodup_nil | exact nd1 _ | exact nd2 (by decide) | exact nd3 (by decide) (by decide) (by decide))
local macro_rules | `(tactic| walk_at "vis") => `(tactic| first | exact Or.inl rfl | exact Or.inr (Or.inl rfl) | exact Or.inr (Or.inr rfl))
local macro_rules | `(tactic| walk_at "loc") => `(tactic| first | exact Or.inl rfl | exact Or.inr rfl)
local macro_rules | `(tactic| walk_at "room") => `(tactic| first | assumption | exact Room.mono (by assumption) (by decide) | exact Room.mono (by assumption) (by omega))
local macro_rules | `(tactic| walk_at "nrm") => `(tactic| first
  | show dSs _ _ [_] _ | show dSs _ _ [_, _] _ | show dSs _ _ [_, _, _] _ | show dSs _ _ [_, _, _, _] _ | show dSs _ _ [_, _, _, _, _] _ | show dSs _ _ [_, _, _, _, _, _] _
  | show dSs _ _ [_, _, _, _, _, _, _] _ | show dSs _ _ [_, _, _, _, _, _, _, _] _ | show dSs _ _ [_, _, _, _, _, _, _, _, _] _ | show dSs _ _ [_, _, _, _, _, _, _, _, _, _] _
  | show dSs _ _ [_, _, _, _, _, _, _, _, _, _, _] _ | show dSs _ _ [_, _, _, _, _, _, _, _, _, _, _, _] _)
local macro_rules | `(tactic| walk_at "dE") => `(tactic| first
  | refine dE_nm rfl (by walk_at "vis") rfl ?_
  | refine dE_neg ?_ | refine dE_int ?_ | refine dE_str ?_ | refine dE_bl ?_ | refine dE_non ?_
  | refine dE_con (by assumption) rfl ?_
  | ((with_reducible show dE _ (.Name _ _) _ _); refine dE_globV (v := .ref _) rfl (by assumption) rfl ?_)
  | ((with_reducible show dE _ (.Name (Str.ofString "tuple") _) _ _); refine dE_ty (T := "tuple") rfl (by assumption) (by decide +kernel) ?_)
  | ((with_reducible show dE _ (.Name (Str.ofString "str") _) _ _); refine dE_ty (T := "str") rfl (by assumption) (by decide +kernel) ?_)
  | refine dE_ix (fun _ _ => rfl) ?_
  | refine dE_of_dO ?_)
local macro_rules | `(tactic| walk_at "dO") => `(tactic| first
  | refine dO_op ?_
  | refine dO_cmp (nomark _) ?_
  | refine dO_cmp (by rfl) ?_
  | refine dO_tup ?_ | refine dO_lst ?_
  | refine dO_and ?_ | refine dO_or ?_ | refine dO_one ?_ | refine dO_not ?_
  | refine dO_sl ?_
  | ((with_reducible show dO _ (.Call (.Name (Str.ofString "len") _) _ _ _) _ _); refine dO_callB (x := "len") (id := "len") rfl (by assumption) (by decide +kernel) rfl rfl ?_)
  | ((with_reducible show dO _ (.Call (.Name (Str.ofString "int") _) _ _ _) _ _); refine dO_callTy (x := "int") (T := "int") rfl (by assumption) (by decide +kernel) rfl rfl ?_)
  | ((with_reducible show dO _ (.Call (.Name (Str.ofString "tuple") _) _ _ _) _ _); refine dO_callTy (x := "tuple") (T := "tuple") rfl (by assumption) (by decide +kernel) rfl rfl ?_)
  | ((with_reducible show dO _ (.Call (.Name (Str.ofString "abs") _) _ _ _) _ _); refine dO_callB (x := "abs") (id := "abs") rfl (by assumption) (by decide +kernel) rfl rfl ?_)
  | ((with_reducible show dO _ (.Call (.Name (Str.ofString "max") _) _ _ _) _ _); refine dO_callB (x := "max") (id := "max") rfl (by assumption) (by decide +kernel) rfl rfl ?_)
  | ((with_reducible show dO _ (.Call (.Name (Str.ofString "sum") _) _ _ _) _ _); refine dO_callB (x := "sum") (id := "sum") rfl (by assumption) (by decide +kernel) rfl rfl ?_)
  | ((with_reducible show dO _ (.Call (.Name (Str.ofString "all") _) _ _ _) _ _); refine dO_callB (x := "all") (id := "all") rfl (by assumption) (by decide +kernel) rfl rfl ?_)
  | ((with_reducible show dO _ (.Call (.Name (Str.ofString "repr") _) _ _ _) _ _); refine dO_callB (x := "repr") (id := "repr") rfl (by assumption) (by decide +kernel) rfl rfl ?_)
  | ((with_reducible show dO _ (.Call (.Name (Str.ofString "isinstance") _) [_, .Tuple _ _ _] _ _) _ _); refine dO_isiT rfl (by assumption) rfl rfl rfl ?_)
  | ((with_reducible show dO _ (.Call (.Name (Str.ofString "isinstance") _) _ _ _) _ _); refine dO_isi rfl (by assumption) rfl rfl ?_)
  | refine dO_fn (by assumption) (by walk_at "room") rfl rfl rfl ?_
  | ((with_reducible show dO _ (.Name _ _) _ _); first | refine dO_mvL rfl (by walk_at "vis") rfl rfl ?_ | refine dO_of_dE ?_)
  | ((with_reducible show dO _ (.Constant _ _ _) _ _); refine dO_of_dE ?_)
  | ((with_reducible show dO _ (.Subscript _ _ _) _ _); refine dO_of_dE ?_))
local macro_rules | `(tactic| walk_at "dS") => `(tactic| first
  | refine dS_if ?_ | refine dS_ret ?_ | refine dS_retN ?_ | refine dS_pass ?_ | refine dS_break ?_ | refine dS_cont ?_
  | refine dS_st rfl (by walk_at "loc") rfl ?_ rfl (Or.inl rfl)
  | refine dS_raise rfl (by assumption) rfl ?_
  | refine dS_appN rfl (by walk_at "vis") rfl ?_ rfl rfl rfl rfl rfl
  | refine dS_setix (i := 0) rfl (by walk_at "vis") ?_ (by intro _; rfl) rfl rfl rfl)
local macro_rules | `(tactic| walk_at "dT") => `(tactic| first
  | refine dT_not ?_ | refine dT_cmp (nomark _) ?_ | refine dT_cmp (by rfl) ?_ | (show dT _ (.BoolOp _ _ _) _ _; refine dT_W ?_) | refine dT_val (by intro _; rfl) ?_)
local macro_rules | `(tactic| walk_at "shp") => `(tactic| first | assumption | exact shp_lit (by decide +kernel) | exact (shp_strs (by assumption)).1 | exact (shp_strs (by assumption)).2)
local macro_rules | `(tactic| walk_at "dx") => `(tactic| first
  | (with_reducible show dE _ _ _ _); walk_at "dE"
  | (with_reducible show dO _ _ _ _); walk_at "dO"
  | (with_reducible show dA _ _ _ _); (first | refine dA_cons rfl ?_ | refine dA_nil ?_)
  | (with_reducible show dT _ _ _ _); walk_at "dT"
  | (with_reducible show dS _ _ _ _); walk_at "dS"
  | (with_reducible show dOp _ _ _ _ _); (first | refine dOp_eqS ?_ | refine dOp_neS ?_ | refine dOp_of ?_ | refine dOp_cmp (DC.hu _) ?_)
  | (with_reducible show dW _ _ _ _); (first | refine dW_and ?_ | refine dW_or ?_ | refine dW_and1 ?_ | refine dW_or1 ?_)
  | (with_reducible show dB _ _ _ _); (first | refine dB_none ?_ | refine dB_some ?_)
  | (with_reducible show dC _ _ _ _); (first | refine dC_lenL ?_ | refine dC_lenT ?_ | refine dC_lenS (Nat.le_of_ble_eq_true rfl) ?_ | refine dC_intI ?_ | refine dC_intB ?_ | refine dC_tupT ?_ | refine dC_tupL ?_ | refine dC_lisT ?_ | refine dC_lisL ?_ | refine dC_len ?_ | refine dC_sum rfl ?_ | refine dC_all rfl ?_ | refine dC_int ?_ | refine dC_tuple ?_ | refine dC_abs ?_ | refine dC_max rfl ?_)
  | refine ixR_t atI_0 ?_ | refine ixR_t atI_1 ?_ | refine ixR_t atI_2 ?_ | refine ixR_l atI_0 ?_ | refine ixR_l atI_1 ?_ | refine ixR_al rfl rfl ?_ | refine ixR_t rfl ?_ | refine ixR_l rfl ?_
  | refine ⟨show List.length _ ≤ sizeLine from Nat.le_of_ble_eq_true rfl, ?_⟩
  | refine cmp_ltI ?_ | refine cmp_leI ?_ | refine cmp_gtI ?_ | refine cmp_geI ?_ | refine cmp_eqI ?_ | refine cmp_neI ?_ | refine cmp_eqS (by walk_at "shp") (by walk_at "shp") ?_ | refine cmp_neS (by walk_at "shp") (by walk_at "shp") ?_ | refine cmp_inT (by walk_at "shp") (by walk_at "shp") ?_ | refine cmp_inL (by walk_at "shp") (by walk_at "shp") ?_
  | refine onI_i ?_ | refine slR_scr rfl ?_ | refine slR_t ?_ | refine slR_l ?_
  | refine onB_b ?_ | refine ite_T rfl ?_ | refine ite_F rfl ?_ | refine onD_d ?_ | refine frzQ_d ?_ | refine flat_d trivial ?_ | refine onX_d ?_ | refine onX_al rfl ?_
  | refine frzQ.list ?_
  | refine ⟨⟨_, rfl⟩, ?_⟩ | refine ⟨_, _, rfl, rfl, ?_⟩)
local macro_rules | `(tactic| walk_at "seq") => `(tactic| ((with_reducible show dSs _ _ _ _); walk_at "nrm"; (first | refine dSs_cons ?_ | refine dSs_nil ?_)))
local macro_rules | `(tactic| walk_at "dl") => `(tactic| first | walk_at "dx" | walk_at "seq")
abbrev sSame : Stmt := topS 17
theorem scSame : FnScope ["told", "due"] ["told", "due"] (defScope sSame) := ⟨rfl, rfl, rfl, by decide +kernel, rfl, by decide +kernel, by decide +kernel⟩
/-- the two are the same data -/
def cSame : Ct := fun ms Q _ => ∃ x : PyData, ms = [.d x, .d x] ∧ (PyData.list [x]).showable = true ∧ (PyData.list [x]).hasDict = false ∧ (PyData.list [x]).depth ≤ 62 ∧ (PyData.list [x]).shown.length ≤ sizeLine ∧ Q (.d (.bool true)) ms
abbrev sStream : Stmt := topS 18
theorem scStream : FnScope ["script", "numbers", "cell", "rest", "k", "mixed"] ["script"] (defScope sStream) := ⟨rfl, rfl, rfl, by decide +kernel, rfl, by decide +kernel, by decide +kernel⟩
def cStream : Ct := fun ms Q _ => ∃ zs : List Int, ms = [.scr zs] ∧ zs.length ≤ 63 ∧ ∀ ns : List Int, GoodN ns → Q (.lst ((ns.map PyData.int).map M.d)) ms
def Low (ns : List Int) : Prop := ∀ x ∈ ns, 0 ≤ x ∧ x < 1009
theorem Low.snoc {ns : List Int} {x : Int} (h : Low ns) (h0 : 0 ≤ x) (h1 : x < 1009) : Low (ns ++ [x]) := fun y hy => by
  rcases List.mem_append.mp hy with hy | hy
  · exact h y hy
  · rw [List.mem_singleton.mp hy]; exact ⟨h0, h1⟩
theorem small_len {n : Nat} (h : n ≤ 10000) : n < sizeLine := Nat.lt_of_le_of_lt h (by decide)
section
variable {P : Program} {w : World} {K : PySem.W.Frag} {mg : Str → Option Value} {base : Heap}
theorem d_same {f : Addr} {fd : FuncData} (F : Fun K "_law_same" "_law_same" sSame f fd) (gl : mg "_law_same" = some (.ref f)) (hb : Binds K fd ["told", "due"] []) (mRepr : mg "repr" = none) : Def P w K mg base "_law_same" 1 cSame := by
  refine Def.mk' F scSame gl hb (fun ms Q E ⟨i, h, _⟩ => by rw [h]; rfl) fun cdv A outer s H E hr hg ms Q Ed h => ?_
  obtain ⟨x, rfl, h1, h2, h3, h4, q⟩ := h
  repeat walk_at "dl"
  refine dC_repr (DC.gd _) (Nat.lt_of_le_of_lt (Nat.add_le_add_left (by omega) _) (DC.hu (mkY scSame P w K mg base "_law_same" f cdv A outer s H E hr hg [M.d x, M.d x] Ed))) rfl h1 h2 h4 ?_
  repeat walk_at "dl"
  refine dC_repr (DC.gd _) (Nat.lt_of_le_of_lt (Nat.add_le_add_left (by omega) _) (DC.hu (mkY scSame P w K mg base "_law_same" f cdv A outer s H E hr hg [M.d x, M.d x] Ed))) rfl h1 h2 h4 ?_
  repeat walk_at "dl"
  rw [decide_eq_true rfl]
  exact ⟨_, rfl, q⟩
theorem d_stream {f : Addr} {fd : FuncData} (F : Fun K "_law_stream" "_law_stream" sStream f fd) (gl : mg "_law_stream" = some (.ref f)) (hb : Binds K fd ["script"] []) (mLen : mg "len" = none) (mAbs : mg "abs" = none) (mInt : mg "int" = none) (mRange : mg "range" = none) : Def P w K mg base "_law_stream" 1 cStream := by
  refine Def.mk' F scStream gl hb (fun ms Q E ⟨i, h, _⟩ => by rw [h]; rfl) fun cdv A outer s H E hr hg ms Q Ed h => ?_
  obtain ⟨zs, rfl, zl, q⟩ := h
  walk_at "seq"
  repeat walk_at "dx"
  walk_at "seq"
  refine dS_for [2] rfl (by intro _; rfl) (dI_list ?_)
  repeat walk_at "dx"
  refine ⟨_, rfl, fun k Γ => ∃ ns g2 g3 g4 g5, Γ = [some (.scr zs), some (.lst ((ns.map PyData.int).map M.d)), g2, g3, g4, g5] ∧ Low ns ∧ ns.length ≤ 60 * k,
    ⟨[], none, none, none, none, rfl, fun x hx => (nomatch hx), Nat.zero_le _⟩, fun k x Γk hx hI => ?_, fun Γn hI => ?_⟩
  · obtain ⟨ns, g2, g3, g4, g5, rfl, lo, len⟩ := hI
    rw [List.getElem?_map] at hx
    cases hc : (DL.cutD zs none (some 63))[k]? with
    | none => rw [hc] at hx; cases hx
    | some c =>
    rw [hc] at hx
    obtain rfl := Option.some.inj hx
    have hk : k < 63 := by
      have h1 := List.getElem?_eq_some_iff.mp hc
      obtain ⟨h1, _⟩ := h1
      have h2 : (DL.cutD zs none (some 63)) = zs.take 63 := cutD_to (k := 63)
      rw [h2, List.length_take] at h1
      omega
    refine dG_nm rfl (by walk_at "loc") rfl (by decide) (by first | exact Or.inl rfl | exact Or.inr rfl) ?_
    repeat walk_at "dl"
    have r0 := if_abs (r := c)
    generalize (if c < 0 then -c else c) = r at r0 ⊢
    show _ ∧ _
    refine ⟨⟨by decide, by decide, by decide⟩, ?_⟩
    repeat walk_at "dx"
    refine ite_d (fun hr18 => ?_) (fun hr18 => ?_)
    · walk_at "seq"
      refine dS_for [4] rfl (by intro _; rfl) (dI_range1 rfl mRange rfl rfl ?_)
      repeat walk_at "dx"
      refine ⟨⟨by decide, by decide⟩, fun j Γ => ∃ ns2 r2 g4 g5, Γ = [some (.scr zs), some (.lst ((ns2.map PyData.int).map M.d)), some (.d (.int c)), some (.d (.int r2)), g4, g5] ∧ Low ns2 ∧ ns2.length ≤ 60 * k + j ∧ j ≤ 60 ∧ 0 ≤ r2,
        ⟨ns, r, g4, g5, rfl, lo, len, by omega, r0⟩, fun j x Γj hx hI => ?_, fun Γn hI => ?_⟩
      · obtain ⟨ns2, r2, g4, g5, rfl, lo2, len2, hj, r20⟩ := hI
        obtain ⟨hj2, rfl⟩ := rngD_get hx
        have hj3 : j < 60 := hj2
        refine dG_nm rfl (by walk_at "loc") rfl (by decide) (by first | exact Or.inl rfl | exact Or.inr rfl) ?_
        repeat walk_at "dl"
        show _ ∧ _
        refine ⟨by decide, ?_⟩
        repeat walk_at "dl"
        refine ⟨_, rfl, small_len (by rw [List.length_map, List.length_map]; omega), ?_⟩
        repeat walk_at "dl"
        refine ⟨cdiv_small (by decide) (by decide), ?_⟩
        repeat walk_at "dl"
        have lo3 : Low (ns2 ++ [r2 % 1009]) := lo2.snoc (by omega) (by omega)
        refine ite_d (fun hz => ?_) (fun hz => ?_)
        · repeat walk_at "dl"
          exact ⟨ns2 ++ [r2 % 1009], _, _, _, _, by rw [List.map_append, List.map_append]; rfl, lo3, by rw [List.length_append]; show ns2.length + 1 ≤ _; omega⟩
        · repeat walk_at "dl"
          exact ⟨ns2 ++ [r2 % 1009], _, _, _, by rw [List.map_append, List.map_append]; rfl, lo3, by rw [List.length_append]; show ns2.length + 1 ≤ _; omega, by omega, Int.ediv_nonneg r20 (by decide)⟩
      · obtain ⟨ns2, r2, g4, g5, rfl, lo2, len2, hj, r20⟩ := hI
        repeat walk_at "dl"
        exact ⟨ns2, _, _, _, _, rfl, lo2, by omega⟩
    · walk_at "seq"
      repeat walk_at "dx"
      show _ ∧ _
      refine ⟨by decide, ?_⟩
      repeat walk_at "dx"
      walk_at "seq"
      refine dS_for [4] rfl (by intro _; rfl) (dI_range1 rfl mRange rfl rfl ?_)
      repeat walk_at "dx"
      refine ⟨⟨by decide, by decide⟩, fun j Γ => ∃ ns2 m2 g4, Γ = [some (.scr zs), some (.lst ((ns2.map PyData.int).map M.d)), some (.d (.int c)), some (.d (.int r)), g4, some (.d (.int m2))] ∧ Low ns2 ∧ ns2.length ≤ 60 * k + j ∧ j ≤ 10 ∧ 0 ≤ m2 ∧ m2 < 2147483647,
        ⟨ns, r % 2147483647, g4, rfl, lo, len, by omega, by omega, by omega⟩, fun j x Γj hx hI => ?_, fun Γn hI => ?_⟩
      · obtain ⟨ns2, m2, g4, rfl, lo2, len2, hj, m0, m1⟩ := hI
        obtain ⟨hj2, rfl⟩ := rngD_get hx
        have hj3 : j < 10 := hj2
        refine dG_nm rfl (by walk_at "loc") rfl (by decide) (by first | exact Or.inl rfl | exact Or.inr rfl) ?_
        repeat walk_at "dl"
        show _ ∧ _
        refine ⟨cmul_small (by omega) (by omega) (by omega) (by omega), ?_⟩
        repeat walk_at "dl"
        show _ ∧ _
        refine ⟨cmul_small (by omega) (by omega) (by omega) (by omega), ?_⟩
        repeat walk_at "dl"
        show _ ∧ _
        refine ⟨by decide, ?_⟩
        repeat walk_at "dl"
        show _ ∧ _
        refine ⟨cmul_small (by omega) (by omega) (by omega) (by omega), ?_⟩
        repeat walk_at "dl"
        show _ ∧ _
        refine ⟨by decide, ?_⟩
        repeat walk_at "dl"
        show _ ∧ _
        refine ⟨by decide, ?_⟩
        repeat walk_at "dl"
        refine ⟨_, rfl, small_len (by rw [List.length_map, List.length_map]; omega), ?_⟩
        repeat walk_at "dl"
        refine ⟨ns2 ++ [_], _, _, by rw [List.map_append, List.map_append]; rfl, lo2.snoc (by omega) (by omega), by rw [List.length_append]; show ns2.length + 1 ≤ _; omega, by omega, by omega, by omega⟩
      · obtain ⟨ns2, m2, g4, rfl, lo2, len2, hj, m0, m1⟩ := hI
        repeat walk_at "dl"
        exact ⟨ns2, _, _, _, _, rfl, lo2, by have : (rngD 0 (10 : Int).toNat).length = 10 := rfl; omega⟩
  · obtain ⟨ns, g2, g3, g4, g5, rfl, lo, len⟩ := hI
    have len2 : ns.length ≤ 3780 := by
      have h1 : ((DL.cutD zs none (some 63)).map PyData.int).length ≤ 63 := by
        rw [List.length_map, show DL.cutD zs none (some 63) = zs.take 63 from cutD_to (k := 63), List.length_take]
        omega
      omega
    repeat walk_at "dl"
    refine ite_d (fun hz => ?_) (fun hz => ?_)
    · repeat walk_at "dl"
      refine ⟨_, rfl, small_len (by rw [List.length_map, List.length_map]; omega), ?_⟩
      repeat walk_at "dl"
      have e : ns = [] := List.eq_nil_of_length_eq_zero (by rw [List.length_map] at hz; omega)
      subst e
      exact ⟨_, rfl, q [0] ⟨by decide, by decide, by decide, by decide⟩⟩
    · repeat walk_at "dl"
      exact ⟨_, rfl, q ns ⟨by rw [List.length_map] at hz; omega, by omega, fun x hx => (lo x hx).1, fun x hx => (lo x hx).2⟩⟩
end
end K01

set_option Elab.async false
set_option linter.all false
set_option maxRecDepth 100000
set_option maxHeartbeats 4000000
namespace K01
open PySem PySem.Spec PyProof.Rows L2 DL
local macro_rules | `(tactic| walk_at "nd") => `(tactic| first | exact List.nodup_nil | exact nd1 _ | exact nd2 (by decide) | exact nd3 (by decide) (by decide) (by decide))
local macro_rules | `(tactic| walk_at "vis") => `(tactic| first | exact Or.inl rfl | exact Or.inr (Or.inl rfl) | exact Or.inr (Or.inr rfl))
local macro_rules | `(tactic| walk_at "loc") => `(tactic| first | exact Or.inl rfl | exact Or.inr rfl)
local macro_rules | `(tactic| walk_at "room") => `(tactic| first | assumption | exact Room.mono (by assumption) (by decide) | exact Room.mono (by assumption) (by omega))
local macro_rules | `(tactic| walk_at "nrm") => `(tactic| first
  | show dSs _ _ [_] _ | show dSs _ _ [_, _] _ | show dSs _ _ [_, _, _] _ | show dSs _ _ [_, _, _, _] _ | show dSs _ _ [_, _, _, _, _] _ | show dSs _ _ [_, _, _, _, _, _] _
  | show dSs _ _ [_, _, _, _, _, _, _] _ | show dSs _ _ [_, _, _, _, _, _, _, _] _ | show dSs _ _ [_, _, _, _, _, _, _, _, _] _ | show dSs _ _ [_, _, _, _, _, _, _, _, _, _] _
  | show dSs _ _ [_, _, _, _, _, _, _, _, _, _, _] _ | show dSs _ _ [_, _, _, _, _, _, _, _, _, _, _, _] _)
local macro_rules | `(tactic| walk_at "dE") => `(tactic| first
  | refine dE_nm rfl (by walk_at "vis") rfl ?_
  | refine dE_neg ?_ | refine dE_int ?_ | refine dE_str ?_ | refine dE_bl ?_ | refine dE_non ?_
  | refine dE_con (by assumption) rfl ?_
  | ((with_reducible show dE _ (.Name _ _) _ _); refine dE_globV (v := .ref _) rfl (by assumption) rfl ?_)
  | ((with_reducible show dE _ (.Name (Str.ofString "tuple") _) _ _); refine dE_ty (T := "tuple") rfl (by assumption) (by decide +kernel) ?_)
  | ((with_reducible show dE _ (.Name (Str.ofString "str") _) _ _); refine dE_ty (T := "str") rfl (by assumption) (by decide +kernel) ?_)
  | refine dE_ix (fun _ _ => rfl) ?_
  | refine dE_of_dO ?_)
local macro_rules | `(tactic| walk_at "dO") => `(tactic| first
  | refine dO_op ?_
  | refine dO_cmp (nomark _) ?_
  | refine dO_cmp (by rfl) ?_
  | refine dO_tup ?_ | refine dO_lst ?_
  | refine dO_and ?_ | refine dO_or ?_ | refine dO_one ?_ | refine dO_not ?_
  | refine dO_sl ?_
  | ((with_reducible show dO _ (.Call (.Name (Str.ofString "len") _) _ _ _) _ _); refine dO_callB (x := "len") (id := "len") rfl (by assumption) (by decide +kernel) rfl rfl ?_)
  | ((with_reducible show dO _ (.Call (.Name (Str.ofString "int") _) _ _ _) _ _); refine dO_callTy (x := "int") (T := "int") rfl (by assumption) (by decide +kernel) rfl rfl ?_)
  | ((with_reducible show dO _ (.Call (.Name (Str.ofString "tuple") _) _ _ _) _ _); refine dO_callTy (x := "tuple") (T := "tuple") rfl (by assumption) (by decide +kernel) rfl rfl ?_)
  | ((with_reducible show dO _ (.Call (.Name (Str.ofString "abs") _) _ _ _) _ _); refine dO_callB (x := "abs") (id := "abs") rfl (by assumption) (by decide +kernel) rfl rfl ?_)
  | ((with_reducible show dO _ (.Call (.Name (Str.ofString "max") _) _ _ _) _ _); refine dO_callB (x := "max") (id := "max") rfl (by assumption) (by decide +kernel) rfl rfl ?_)
  | ((with_reducible show dO _ (.Call (.Name (Str.ofString "sum") _) _ _ _) _ _); refine dO_callB (x := "sum") (id := "sum") rfl (by assumption) (by decide +kernel) rfl rfl ?_)
  | ((with_reducible show dO _ (.Call (.Name (Str.ofString "all") _) _ _ _) _ _); refine dO_callB (x := "all") (id := "all") rfl (by assumption) (by decide +kernel) rfl rfl ?_)
  | ((with_reducible show dO _ (.Call (.Name (Str.ofString "repr") _) _ _ _) _ _); refine dO_callB (x := "repr") (id := "repr") rfl (by assumption) (by decide +kernel) rfl rfl ?_)
  | ((with_reducible show dO _ (.Call (.Name (Str.ofString "isinstance") _) [_, .Tuple _ _ _] _ _) _ _); refine dO_isiT rfl (by assumption) rfl rfl rfl ?_)
  | ((with_reducible show dO _ (.Call (.Name (Str.ofString "isinstance") _) _ _ _) _ _); refine dO_isi rfl (by assumption) rfl rfl ?_)
  | refine dO_fn (by assumption) (by walk_at "room") rfl rfl rfl ?_
  | ((with_reducible show dO _ (.Name _ _) _ _); first | refine dO_mvL rfl (by walk_at "vis") rfl rfl ?_ | refine dO_of_dE ?_)
  | ((with_reducible show dO _ (.Constant _ _ _) _ _); refine dO_of_dE ?_)
  | ((with_reducible show dO _ (.Subscript _ _ _) _ _); refine dO_of_dE ?_))
local macro_rules | `(tactic| walk_at "dS") => `(tactic| first
  | refine dS_if ?_ | refine dS_ret ?_ | refine dS_retN ?_ | refine dS_pass ?_ | refine dS_break ?_ | refine dS_cont ?_
  | refine dS_st rfl (by walk_at "loc") rfl ?_ rfl (Or.inl rfl)
  | refine dS_raise rfl (by assumption) rfl ?_
  | refine dS_appN rfl (by walk_at "vis") rfl ?_ rfl rfl rfl rfl rfl
  | refine dS_setix (i := 0) rfl (by walk_at "vis") ?_ (by intro _; rfl) rfl rfl rfl)
local macro_rules | `(tactic| walk_at "dT") => `(tactic| first
  | refine dT_not ?_ | refine dT_cmp (nomark _) ?_ | refine dT_cmp (by rfl) ?_ | (show dT _ (.BoolOp _ _ _) _ _; refine dT_W ?_) | refine dT_val (by intro _; rfl) ?_)
local macro_rules | `(tactic| walk_at "shp") => `(tactic| first | assumption | exact shp_lit (by decide +kernel) | exact (shp_strs (by assumption)).1 | exact (shp_strs (by assumption)).2)
local macro_rules | `(tactic| walk_at "dx") => `(tactic| first
  | (with_reducible show dE _ _ _ _); walk_at "dE"
  | (with_reducible show dO _ _ _ _); walk_at "dO"
  | (with_reducible show dA _ _ _ _); (first | refine dA_cons rfl ?_ | refine dA_nil ?_)
  | (with_reducible show dT _ _ _ _); walk_at "dT"
  | (with_reducible show dS _ _ _ _); walk_at "dS"
  | (with_reducible show dOp _ _ _ _ _); (first | refine dOp_eqS ?_ | refine dOp_neS ?_ | refine dOp_of ?_ | refine dOp_cmp (DC.hu _) ?_)
  | (with_reducible show dW _ _ _ _); (first | refine dW_and ?_ | refine dW_or ?_ | refine dW_and1 ?_ | refine dW_or1 ?_)
  | (with_reducible show dB _ _ _ _); (first | refine dB_none ?_ | refine dB_some ?_)
  | (with_reducible show dC _ _ _ _); (first | refine dC_lenL ?_ | refine dC_lenT ?_ | refine dC_lenS (Nat.le_of_ble_eq_true rfl) ?_ | refine dC_intI ?_ | refine dC_intB ?_ | refine dC_tupT ?_ | refine dC_tupL ?_ | refine dC_lisT ?_ | refine dC_lisL ?_ | refine dC_len ?_ | refine dC_sum rfl ?_ | refine dC_all rfl ?_ | refine dC_int ?_ | refine dC_tuple ?_ | refine dC_abs ?_ | refine dC_max rfl ?_)
  | refine ixR_t atI_0 ?_ | refine ixR_t atI_1 ?_ | refine ixR_t atI_2 ?_ | refine ixR_l atI_0 ?_ | refine ixR_l atI_1 ?_ | refine ixR_al rfl rfl ?_ | refine ixR_t rfl ?_ | refine ixR_l rfl ?_
  | refine ⟨show List.length _ ≤ sizeLine from Nat.le_of_ble_eq_true rfl, ?_⟩
  | refine cmp_ltI ?_ | refine cmp_leI ?_ | refine cmp_gtI ?_ | refine cmp_geI ?_ | refine cmp_eqI ?_ | refine cmp_neI ?_ | refine cmp_eqS (by walk_at "shp") (by walk_at "shp") ?_ | refine cmp_neS (by walk_at "shp") (by walk_at "shp") ?_ | refine cmp_inT (by walk_at "shp") (by walk_at "shp") ?_ | refine cmp_inL (by walk_at "shp") (by walk_at "shp") ?_
  | refine onI_i ?_ | refine slR_scr rfl ?_ | refine slR_t ?_ | refine slR_l ?_
  | refine cmp_neNN ?_ | refine onB_b ?_ | refine ite_T rfl ?_ | refine ite_F rfl ?_ | refine onD_d ?_ | refine frzQ_d ?_ | refine flat_d trivial ?_ | refine onX_d ?_ | refine onX_al rfl ?_
  | refine frzQ.list ?_
  | refine ⟨⟨_, rfl⟩, ?_⟩ | refine ⟨_, _, rfl, rfl, ?_⟩)
local macro_rules | `(tactic| walk_at "seq") => `(tactic| ((with_reducible show dSs _ _ _ _); walk_at "nrm"; (first | refine dSs_cons ?_ | refine dSs_nil ?_)))
local macro_rules | `(tactic| walk_at "dl") => `(tactic| first | walk_at "dx" | walk_at "seq")
abbrev sLaw : Stmt := topS 29
theorem scLaw : FnScope ["script", "state", "letters", "k", "pattern", "due", "spoilt", "good", "row", "many", "deep"] ["script"] (defScope sLaw) := ⟨rfl, rfl, rfl, by decide +kernel, rfl, by decide +kernel, by decide +kernel⟩
theorem shp_none : shp .none := shp_of (by rw [PyData.canLay0]) (by rw [PyData.depth]; decide)
theorem cmp_neNN {P : Bool → Prop} (h : P false) : cmpQ .NotEq .none .none P := ⟨shp_none, shp_none, h⟩
theorem toldD_yes {ls : List Str} {x : PyData} (h : isP ls x = true) (c : (cntP x : Int) ≤ 30) : toldD ls x = .none := by
  unfold toldD; rw [h, decide_eq_true c]; rfl
theorem toldD_no {ls : List Str} {x : PyData} (h : isP ls x = true → ¬ (cntP x : Int) ≤ 30) : toldD ls x = .str "refused" := by
  unfold toldD
  cases e : isP ls x with
  | true => rw [decide_eq_false (h e)]; rfl
  | false => rfl
theorem toldD_or (ls : List Str) (x : PyData) : toldD ls x = .none ∨ toldD ls x = .str "refused" := by
  unfold toldD
  split
  · exact .inl rfl
  · exact .inr rfl
theorem cmp_neSelf {t : PyData} {P : Bool → Prop} (ht : t = .none ∨ t = .str "refused") (h : P false) : cmpQ .NotEq t t P := by
  rcases ht with rfl | rfl
  · exact ⟨shp_none, shp_none, h⟩
  · exact ⟨shp_lit (by decide +kernel), shp_lit (by decide +kernel), by rw [eqv_str, decide_eq_true rfl]; exact h⟩
theorem ixR_bi {b : Bool} {x y : PyData} {k : PyData → Prop} (h : k (if b = true then y else x)) : onD (.d (.int (if b = true then 1 else 0))) fun j => ixQ (.list [x, y]) j k := by
  cases b with
  | true => rw [if_pos rfl] at h ⊢; exact ⟨y, atI_1, h⟩
  | false => rw [if_neg Bool.false_ne_true] at h ⊢; exact ⟨x, atI_0, h⟩
theorem deep_step {ls : List Str} {x : PyData} {k : Nat} (wx : Wd (k + 1) x) (hc : isP ls x = true → k ≤ cntP x) (hs : (∃ s, x = .str s) → k = 0) {y : PyData} (hy : y ∈ [PyData.tuple [.str "not", x], .tuple [.str "again", x], .tuple [x], .tuple [.str "row", x, anyT]]) :
    Wd (k + 1 + 1) y ∧ (isP ls y = true → k + 1 ≤ cntP y) ∧ ¬ ∃ s, y = .str s := by
  simp only [List.mem_cons, List.not_mem_nil, or_false] at hy
  rcases hy with rfl | rfl | rfl | rfl
  · refine ⟨Wd.t2 (Wd.str (by decide +kernel)) wx, fun h => ?_, fun ⟨s, e⟩ => nomatch e⟩
    rw [isP_single (by decide +kernel)] at h
    have h : isP ls x = true := h
    rw [cnt_sg (by decide +kernel)]
    have := hc h
    omega
  · refine ⟨Wd.t2 (Wd.str (by decide +kernel)) wx, fun h => ?_, fun ⟨s, e⟩ => nomatch e⟩
    rw [isP_single (by decide +kernel)] at h
    have h : isP ls x = true := h
    rw [cnt_sg (by decide +kernel)]
    have := hc h
    omega
  · refine ⟨Wd.t1 wx, fun h => ?_, fun ⟨s, e⟩ => nomatch e⟩
    by_cases hx : ∃ s, x = .str s
    · rw [hs hx]
      obtain ⟨s, rfl⟩ := hx
      rw [cnt_1]
      exact Nat.le_refl _
    · rw [isP_nostr fun s e => hx ⟨s, e⟩] at h
      cases h
  · refine ⟨Wd.t3 (Wd.str (by decide +kernel)) wx wd_any, fun h => ?_, fun ⟨s, e⟩ => nomatch e⟩
    rw [isP_double (by decide +kernel)] at h
    have h : (isP ls x && isP ls anyT) = true := h
    rw [Bool.and_eq_true] at h
    rw [cnt_db]
    have := hc h.1
    omega
theorem same_int {n : Nat} (h : n ≤ 1000) : (PyData.list [.int n]).showable = true ∧ (PyData.list [.int n]).hasDict = false ∧ (PyData.list [.int n]).depth ≤ 62 ∧ (PyData.list [.int n]).shown.length ≤ sizeLine := by
  have hl : (n : Int).natAbs.log2 < 1920 := Nat.lt_of_le_of_lt (Nat.log2_le_self _) (by omega)
  refine ⟨?_, ?_, ?_, ?_⟩
  · simp only [PyData.showable, PyData.showableAll, Bool.and_true]; exact decide_eq_true hl
  · simp only [PyData.hasDict, PyData.hasDictAll, Bool.or_false]
  · simp only [PyData.depth, PyData.depthAll]; omega
  · have h1 := PyData.shown_le_bulk 1921 (by decide) (.list [.int n]) (by
      simp only [PyData.leavesShort, PyData.leavesShortAll, Bool.and_true]
      exact decide_eq_true (by rw [PyData.shown]; exact int_text_len_1921 hl))
    have h2 : (PyData.list [.int n]).bulk = 1 := by simp only [PyData.bulk, PyData.bulkAll]
    rw [h2] at h1
    exact Nat.le_trans h1 (by decide)
section
variable {P : Program} {w : World} {K : PySem.W.Frag} {mg : Str → Option Value} {base : Heap}
theorem d_law {f : Addr} {fd : FuncData} (F : Fun K "law" "law" sLaw f fd) (gl : mg "law" = some (.ref f)) (hb : Binds K fd ["script"] []) (mRange : mg "range" = none) (mInt : mg "int" = none) (cM : Con K mg "MAX_NODES" (.int 30))
    (D0 : Def P w K mg base "_law_stream" 1 cStream) (DN : ∀ ns, GoodN ns → Def P w K mg base "_law_next" 1 (cNext ns)) (DLt : ∀ ns, GoodN ns → Def P w K mg base "_law_letters" 3 (cLetters ns))
    (DP : ∀ ns ls, GoodN ns → LsOk ls → 0 < ls.length → ls.length ≤ 26 → Def P w K mg base "_law_pattern" 32 (cPat ns ls 30))
    (DSp : ∀ ns ls, GoodN ns → LsOk ls → 0 < ls.length → Def P w K mg base "_law_spoilt" 32 (cSp ns ls 30))
    (DI : ∀ ls, LsOk ls → Def P w K mg base "_law_is_pattern" 63 (cIs ls 62)) (DC1 : ∀ ls, Def P w K mg base "count_nodes" 31 (cCnt ls 30)) (DC2 : ∀ ls, Def P w K mg base "_law_nodes" 63 (cCnt ls 62))
    (DQ : Def P w K mg base "_law_same" 1 cSame) (DT : ∀ ls, LsOk ls → Def P w K mg base "_law_told" 193 (cTold ls 190)) : Def P w K mg base "law" 195 cLaw := by
  refine Def.mk' F scLaw gl hb (fun ms Q E ⟨x, h, _⟩ => by rw [h]; rfl) fun cdv A outer s H E hr hg ms Q Ed h => ?_
  obtain ⟨zs, rfl, zl, q⟩ := h
  repeat walk_at "dx"
  walk_at "seq"
  repeat walk_at "dx"
  refine ⟨by walk_at "nd", _, rfl, zs, rfl, zl, fun ns gn => ?_⟩
  repeat walk_at "dx"
  have D1 := DN ns gn
  have D2 := DLt ns gn
  repeat walk_at "dx"
  walk_at "seq"
  repeat walk_at "dx"
  refine ⟨by walk_at "nd", _, rfl, _, _, rfl, by omega, by omega, by omega, fun n4 n4_0 n4_1 => ?_⟩
  repeat walk_at "dx"
  obtain ⟨m4, rfl⟩ : ∃ m : Nat, n4 = m := ⟨n4.toNat, by omega⟩
  refine ⟨by walk_at "nd", _, rfl, _, 1 + m4, rfl, by omega, by omega, by omega, fun ls i1 l0 l1 lsl lok => ?_⟩
  have ok : LsOk ls := fun w hw => (lok.ok w hw).shp
  have ls0 : 0 < ls.length := by omega
  have D3 := DP ns ls gn ok ls0 (by omega)
  have D4 := DSp ns ls gn ok ls0
  have D5 := DI ls ok
  have D6 := DC1 ls
  have D7 := DC2 ls
  have D8 := DT ls ok
  repeat walk_at "dx"
  walk_at "seq"
  refine dS_for [3] rfl (by intro _; rfl) (dI_range1 rfl mRange rfl rfl ?_)
  repeat walk_at "dx"
  refine ⟨⟨by decide, by decide⟩, fun k Γ => ∃ i2 g3 g4 g5 g6 g7, Γ = [some (.scr zs), some (StM ns i2), some (.d (lets ls)), g3, g4, g5, g6, g7, none, none, none] ∧ 0 ≤ i2 ∧ i2 ≤ 1000 + 1000 * k ∧ k ≤ 4,
    ⟨i1, none, none, none, none, none, rfl, by omega, by omega, by omega⟩, fun k x Γk hx hI => ?_, fun Γn hI => ?_⟩
  · obtain ⟨i2, g3, g4, g5, g6, g7, rfl, j0, j1, k4⟩ := hI
    obtain ⟨hk, rfl⟩ := rngD_get hx
    have hk : k < 4 := hk
    refine dG_nm rfl (by walk_at "loc") rfl (by decide) (by first | exact Or.inl rfl | exact Or.inr rfl) ?_
    repeat walk_at "dx"
    walk_at "seq"
    repeat walk_at "dx"
    refine ⟨by walk_at "nd", _, rfl, _, _, rfl, by omega, by omega, by omega, fun n30 n30_0 n30_1 => ?_⟩
    repeat walk_at "dx"
    refine ⟨by walk_at "nd", _, rfl, _, _, rfl, by omega, by omega, by omega, by omega, fun x i3 j2 j3 px cx wx => ?_⟩
    repeat walk_at "dx"
    walk_at "seq"
    repeat walk_at "dx"
    refine ⟨by walk_at "nd", _, rfl, x, rfl, wx.mono (by omega), px, ?_⟩
    repeat walk_at "dx"
    refine ixR_b (fun h => by have := of_decide_eq_true h; omega) (fun h => ?_)
    repeat walk_at "dx"
    walk_at "seq"
    repeat walk_at "dx"
    refine ⟨by walk_at "nd", _, rfl, x, rfl, wx.mono (by omega), ?_⟩
    rw [toldD_yes px (by omega)]
    repeat walk_at "dx"
    refine cmp_neNN ?_
    repeat walk_at "dx"
    refine ⟨by walk_at "nd", _, rfl, x, rfl, wx, px, ?_⟩
    repeat walk_at "dx"
    refine ⟨by walk_at "nd", _, rfl, x, rfl, wx.mono (by omega), px, ?_⟩
    obtain ⟨s1, s2, s3, s4⟩ := same_int (n := cntP x) (by omega)
    repeat walk_at "dx"
    refine ⟨by walk_at "nd", _, rfl, _, rfl, s1, s2, s3, s4, ?_⟩
    repeat walk_at "dx"
    walk_at "seq"
    repeat walk_at "dx"
    repeat walk_at "dx"
    walk_at "seq"
    repeat walk_at "dx"
    refine ⟨by walk_at "nd", _, rfl, _, x, rfl, by omega, by omega, px, wx, ?_, fun y i4 j4 j5 wy => ?_⟩
    · obtain ⟨_, _, e, _⟩ := isP_cases px
      subst e
      rw [wB_tup]; omega
    repeat walk_at "dx"
    walk_at "seq"
    repeat walk_at "dx"
    refine ⟨by walk_at "nd", _, rfl, y, rfl, wy, ?_⟩
    cases py : isP ls y with
    | false =>
      repeat walk_at "dx"
      walk_at "seq"
      repeat walk_at "dx"
      refine ⟨by walk_at "nd", _, rfl, y, rfl, wy.mono (by omega), ?_⟩
      rw [toldD_no (fun h => by rw [py] at h; cases h)]
      repeat walk_at "dl"
      exact ⟨i4, _, _, _, _, _, rfl, by omega, by omega, by omega⟩
    | true =>
      repeat walk_at "dx"
      refine ⟨by walk_at "nd", _, rfl, y, rfl, wy, py, ?_⟩
      repeat walk_at "dx"
      by_cases hc : (cntP y : Int) ≤ 30
      · rw [decide_eq_true hc]
        repeat walk_at "dx"
        walk_at "seq"
        repeat walk_at "dx"
        refine ⟨by walk_at "nd", _, rfl, y, rfl, wy.mono (by omega), ?_⟩
        rw [toldD_yes py hc]
        repeat walk_at "dl"
        refine cmp_neNN ?_
        repeat walk_at "dl"
        exact ⟨i4, _, _, _, _, _, rfl, by omega, by omega, by omega⟩
      · rw [decide_eq_false hc]
        repeat walk_at "dx"
        walk_at "seq"
        repeat walk_at "dx"
        refine ⟨by walk_at "nd", _, rfl, y, rfl, wy.mono (by omega), ?_⟩
        rw [toldD_no (fun _ => hc)]
        repeat walk_at "dl"
        exact ⟨i4, _, _, _, _, _, rfl, by omega, by omega, by omega⟩
  · obtain ⟨i2, g3, g4, g5, g6, g7, rfl, j0, j1, k4⟩ := hI
    have len4 : (rngD 0 (4 : Int).toNat).length = 4 := rfl
    obtain ⟨l, hl, _, hla⟩ := atI_map PyData.str (xs := ls) (n := 0) (by omega) (by omega)
    repeat walk_at "dx"
    walk_at "seq"
    repeat walk_at "dx"
    refine ixR_t hla ?_
    repeat walk_at "dx"
    walk_at "seq"
    repeat walk_at "dx"
    refine ⟨by walk_at "nd", _, rfl, _, _, rfl, by omega, by omega, by first | decide | omega | (rw [List.length_map]; omega), fun n3 n3_0 n3_1 => ?_⟩
    repeat walk_at "dl"
    refine dS_for [3] rfl (by intro _; rfl) (dI_range1 rfl mRange rfl rfl ?_)
    repeat walk_at "dx"
    refine ⟨⟨by omega, by omega⟩, fun k Γ => ∃ i2 g3 x, Γ = [some (.scr zs), some (StM ns i2), some (.d (lets ls)), g3, g4, g5, g6, g7, some (.d x), some (.d (.int (28 + n3))), none] ∧ 0 ≤ i2 ∧ i2 ≤ 6000 + k ∧ k ≤ 30 ∧ isP ls x = true ∧ cntP x = 1 + k ∧ Wd (k + 2) x,
      ⟨_, g3, _, rfl, by omega, by omega, by omega, by rw [isP_letter]; exact decide_eq_true hl, cnt_l, (Wd.t2 (d := 0) (Wd.str letter_ok) (Wd.str (ok l hl))).mono (by omega)⟩, fun k y Γk hx hI => ?_, fun Γn hI => ?_⟩
    · obtain ⟨i3, g3, x, rfl, j2, j3, k30, px, cx, wx⟩ := hI
      obtain ⟨hk, rfl⟩ := rngD_get hx
      refine dG_nm rfl (by walk_at "loc") rfl (by decide) (by first | exact Or.inl rfl | exact Or.inr rfl) ?_
      repeat walk_at "dx"
      walk_at "seq"
      repeat walk_at "dx"
      refine ⟨by walk_at "nd", _, rfl, _, _, rfl, by omega, by omega, by first | decide | omega | (rw [List.length_map]; omega), fun n2 n2_0 n2_1 => ?_⟩
      repeat walk_at "dl"
      have sx : ∃ w, w ∈ (["not", "again", "again"] : List Str) ∧ atI [PyData.tuple [.str "not", x], .tuple [.str "again", x]] n2 = some (.tuple [.str w, x]) := by
        rcases (by omega : n2 = 0 ∨ n2 = 1) with rfl | rfl
        · exact ⟨"not", List.mem_cons_self, atI_0⟩
        · exact ⟨"again", List.mem_cons_of_mem _ List.mem_cons_self, atI_1⟩
      obtain ⟨wd, hwd, hat⟩ := sx
      refine ixR_l hat ?_
      repeat walk_at "dl"
      exact ⟨_, _, _, rfl, by omega, by omega, by omega, isP_sg hwd px, by rw [cnt_sg hwd]; omega, Wd.t2 (Wd.str (sg_ok wd hwd)) wx⟩
    · obtain ⟨i3, g3, x, rfl, j2, j3, k30, px, cx, wx⟩ := hI
      rw [rngD_length] at cx k30 wx j3
      have ck : (cntP x : Int) = 29 + n3 := by omega
      have et : (if decide (28 + n3 > 29) = true then PyData.str "refused" else PyData.none) = toldD ls x := by
        by_cases h : 28 + n3 > 29
        · rw [if_pos (decide_eq_true h), toldD_no (fun _ => by omega)]
        · rw [if_neg (by rw [decide_eq_false h]; exact Bool.false_ne_true), toldD_yes px (by omega)]
      repeat walk_at "dx"
      walk_at "seq"
      repeat walk_at "dx"
      refine ⟨by walk_at "nd", _, rfl, x, rfl, wx.mono (by omega), ?_⟩
      repeat walk_at "dx"
      refine ixR_bi ?_
      rw [et]
      repeat walk_at "dx"
      refine cmp_neSelf (toldD_or ls x) ?_
      repeat walk_at "dx"
      walk_at "seq"
      repeat walk_at "dx"
      walk_at "seq"
      repeat walk_at "dx"
      refine ixR_t hla ?_
      repeat walk_at "dx"
      refine ⟨by walk_at "nd", _, rfl, _, _, rfl, by omega, by omega, by first | decide | omega | (rw [List.length_map]; omega), fun nd nd_0 nd_1 => ?_⟩
      repeat walk_at "dl"
      have sx : ∃ x, atI [PyData.tuple [.str "any"], .tuple [.str "letter", .str l], .str "any", .tuple []] nd = some x ∧ Wd 1 x := by
        rcases (by omega : nd = 0 ∨ nd = 1 ∨ nd = 2 ∨ nd = 3) with rfl | rfl | rfl | rfl
        · exact ⟨_, atI_0, ⟨by decide +kernel, by decide +kernel⟩⟩
        · exact ⟨_, atI_1, Wd.t2 (d := 0) (Wd.str letter_ok) (Wd.str (ok l hl))⟩
        · exact ⟨_, atI_2, Wd.str (by decide +kernel)⟩
        · exact ⟨.tuple [], by rfl, ⟨by decide +kernel, by decide +kernel⟩⟩
      obtain ⟨dx, hdx, wdx⟩ := sx
      refine ixR_l hdx ?_
      repeat walk_at "dl"
      refine dS_for [3] rfl (by intro _; rfl) (dI_range1 rfl mRange rfl rfl ?_)
      repeat walk_at "dx"
      refine ⟨by walk_at "nd", _, rfl, _, _, rfl, by omega, by omega, by first | decide | omega | (rw [List.length_map]; omega), fun nk nk_0 nk_1 => ?_⟩
      repeat walk_at "dl"
      refine ⟨⟨by omega, by omega⟩, fun k Γ => ∃ i2 g3 y, Γ = [some (.scr zs), some (StM ns i2), some (.d (lets ls)), g3, g4, g5, g6, g7, some (.d x), some (.d (.int (28 + n3))), some (.d y)] ∧ 0 ≤ i2 ∧ i2 ≤ 7000 + k ∧ k ≤ 189 ∧ Wd (k + 1) y ∧ (isP ls y = true → k ≤ cntP y) ∧ ((∃ s, y = .str s) → k = 0),
        ⟨_, g3, dx, rfl, by omega, by omega, by omega, wdx, fun _ => Nat.zero_le _, fun _ => rfl⟩, fun k z Γk hx hI => ?_, fun Γn hI => ?_⟩
      · obtain ⟨i4, g3, y, rfl, j4, j5, k189, wy, cy, sy⟩ := hI
        obtain ⟨hk, rfl⟩ := rngD_get hx
        refine dG_nm rfl (by walk_at "loc") rfl (by decide) (by first | exact Or.inl rfl | exact Or.inr rfl) ?_
        repeat walk_at "dx"
        walk_at "seq"
        repeat walk_at "dx"
        refine ⟨by walk_at "nd", _, rfl, _, _, rfl, by omega, by omega, by first | decide | omega | (rw [List.length_map]; omega), fun nw nw_0 nw_1 => ?_⟩
        repeat walk_at "dl"
        obtain ⟨u, hu, _, hua⟩ := atI_mem (xs := [PyData.tuple [.str "not", y], .tuple [.str "again", y], .tuple [y], .tuple [.str "row", y, anyT]]) nw_0 nw_1
        obtain ⟨u1, u2, u3⟩ := deep_step wy cy sy hu
        refine ixR_l hua ?_
        repeat walk_at "dl"
        exact ⟨_, _, u, rfl, by omega, by omega, by omega, u1, u2, fun h => absurd h u3⟩
      · obtain ⟨i4, g3, y, rfl, j4, j5, k189, wy, cy, sy⟩ := hI
        rw [rngD_length] at k189 wy cy
        repeat walk_at "dx"
        walk_at "seq"
        repeat walk_at "dx"
        refine ⟨by walk_at "nd", _, rfl, y, rfl, wy.mono (by omega), ?_⟩
        rw [toldD_no (fun h => by have := cy h; omega)]
        repeat walk_at "dl"
        exact ⟨_, rfl, q⟩
end
end K01

set_option Elab.async false
set_option linter.all false
set_option maxRecDepth 100000
namespace K01
open PySem PySem.Spec PyProof.Rows L2 DL
theorem kit_of {K : PySem.W.Frag} {t : Value} {C : Addr} {b : Bool} (h1 : PySem.W.isClsIn K C = true) (h2 : PySem.W.typeIn K (.ref C) = some (.type "type")) (h3 : PySem.W.subIn K t (.ref C) = some b) : PySem.W.kitCls K t (.ref C) = some b := by
  have e : ((PySem.W.clsIn K C).isSome && PySem.W.typeIn K (.ref C) == some (.type "type")) = true := by
    have h1' : (PySem.W.clsIn K C).isSome = true := h1
    rw [h1', h2]; rfl
  show (if ((PySem.W.clsIn K C).isSome && PySem.W.typeIn K (.ref C) == some (.type "type")) = true then PySem.W.subIn K t (.ref C) else none) = some b
  rw [if_pos e]; exact h3
theorem exm_by {K : PySem.W.Frag} {t : Value} {C : Addr} {b : Bool} (h0 : PySem.W.subIn K (.ref C) (.type "BaseException") = some true) (h : PySem.W.kitCls K t (.ref C) = some b) : PySem.W.exmOne K t (.ref C) = some b := by
  unfold PySem.W.exmOne
  rw [if_pos (by rw [h0]; rfl)]; exact h
theorem kit_yes {K : PySem.W.Frag} {t : Value} {C : Addr} (h : PySem.W.kitCls K t (.ref C) = some true) : PySem.W.kitOne K t (.ref C) = some true := by
  unfold PySem.W.kitOne
  split
  · rfl
  · exact h
theorem kit_no {K : PySem.W.Frag} {D C : Addr} {b : Bool} (n : D ≠ C) (h : PySem.W.kitCls K (.ref D) (.ref C) = some b) : PySem.W.kitOne K (.ref D) (.ref C) = some b := by
  unfold PySem.W.kitOne
  rw [if_neg (by rw [beq_iff_eq]; intro e; injection e with e; exact n e)]; exact h
theorem kit_none {K : PySem.W.Frag} {t : Value} : ∀ {cs : List Addr}, (∀ c ∈ cs, PySem.W.kitOne K t (.ref c) = some false) → PySem.W.kitAny K t (cs.map Value.ref) = some false
  | [], _ => rfl
  | c :: cs, h => by
    rw [List.map_cons, PySem.W.kitAny, h c List.mem_cons_self]
    exact kit_none fun d hd => h d (List.mem_cons_of_mem _ hd)
theorem all_mk {P : Program} {w : World} {K : PySem.W.Frag} {h : Heap} {mg : Str → Option Value} (X : K.In h) (G : h.Ns mainGlobals mg)
    {f13 : Addr} {od13 an13 : Option Addr} {sl13 : Array (Option Value)} {oc13 kV13 dc13 pm13 cd13 ct13 : Value}
    {f14 : Addr} {od14 an14 : Option Addr} {sl14 : Array (Option Value)} {oc14 kV14 dc14 pm14 cd14 ct14 : Value}
    {f15 : Addr} {od15 an15 : Option Addr} {sl15 : Array (Option Value)} {oc15 kV15 dc15 pm15 cd15 ct15 : Value}
    {f17 : Addr} {od17 an17 : Option Addr} {sl17 : Array (Option Value)} {oc17 kV17 dc17 pm17 cd17 ct17 : Value}
    {f18 : Addr} {od18 an18 : Option Addr} {sl18 : Array (Option Value)} {oc18 kV18 dc18 pm18 cd18 ct18 : Value}
    {f19 : Addr} {od19 an19 : Option Addr} {sl19 : Array (Option Value)} {oc19 kV19 dc19 pm19 cd19 ct19 : Value}
    {f20 : Addr} {od20 an20 : Option Addr} {sl20 : Array (Option Value)} {oc20 kV20 dc20 pm20 cd20 ct20 : Value}
    {f21 : Addr} {od21 an21 : Option Addr} {sl21 : Array (Option Value)} {oc21 kV21 dc21 pm21 cd21 ct21 : Value}
    {f22 : Addr} {od22 an22 : Option Addr} {sl22 : Array (Option Value)} {oc22 kV22 dc22 pm22 cd22 ct22 : Value}
    {f23 : Addr} {od23 an23 : Option Addr} {sl23 : Array (Option Value)} {oc23 kV23 dc23 pm23 cd23 ct23 : Value}
    {f24 : Addr} {od24 an24 : Option Addr} {sl24 : Array (Option Value)} {oc24 kV24 dc24 pm24 cd24 ct24 : Value}
    {f25 : Addr} {od25 an25 : Option Addr} {sl25 : Array (Option Value)} {oc25 kV25 dc25 pm25 cd25 ct25 : Value}
    {f26 : Addr} {od26 an26 : Option Addr} {sl26 : Array (Option Value)} {oc26 kV26 dc26 pm26 cd26 ct26 : Value}
    {f27 : Addr} {od27 an27 : Option Addr} {sl27 : Array (Option Value)} {oc27 kV27 dc27 pm27 cd27 ct27 : Value}
    {f28 : Addr} {od28 an28 : Option Addr} {sl28 : Array (Option Value)} {oc28 kV28 dc28 pm28 cd28 ct28 : Value}
    {f29 : Addr} {od29 an29 : Option Addr} {sl29 : Array (Option Value)} {oc29 kV29 dc29 pm29 cd29 ct29 : Value}
    {ANotAllowed : Addr}
    {AScarpError : Addr}
    {ATooLarge : Addr}
    {AMissing : Addr}
    {ABadPaper : Addr}
    {ABadForm : Addr}
    {ABroken : Addr}
    {APLAIN : Addr} {odPLAIN : Option Addr} {slPLAIN : Array (Option Value)} {tPLAIN0 tPLAIN1 tPLAIN2 : Tok} {nPLAIN : Nat}
    {ASINGLE : Addr} {odSINGLE : Option Addr} {slSINGLE : Array (Option Value)} {tSINGLE0 tSINGLE1 : Tok} {nSINGLE : Nat}
    {ADOUBLE : Addr} {odDOUBLE : Option Addr} {slDOUBLE : Array (Option Value)} {tDOUBLE0 tDOUBLE1 tDOUBLE2 : Tok} {nDOUBLE : Nat}
    {tM : Tok}
    (a13 : PySem.W.nsIn K mainGlobals "is_pattern" = some (some (.ref f13)))
    (l13 : K.lookup f13 = some ⟨oc13, od13, .func (PySem.W.fnOf "is_pattern" "is_pattern" (defArgs sIs) (defBody sIs) (defScope sIs) .none kV13 dc13 pm13 an13 cd13 ct13), sl13⟩)
    (c13 : PySem.W.codeIn K cd13 "is_pattern" = true)
    (k13 : PySem.W.keepIn K (.ref f13) = true)
    (a14 : PySem.W.nsIn K mainGlobals "count_nodes" = some (some (.ref f14)))
    (l14 : K.lookup f14 = some ⟨oc14, od14, .func (PySem.W.fnOf "count_nodes" "count_nodes" (defArgs sCnt1) (defBody sCnt1) (defScope sCnt1) .none kV14 dc14 pm14 an14 cd14 ct14), sl14⟩)
    (c14 : PySem.W.codeIn K cd14 "count_nodes" = true)
    (k14 : PySem.W.keepIn K (.ref f14) = true)
    (a15 : PySem.W.nsIn K mainGlobals "check_pattern" = some (some (.ref f15)))
    (l15 : K.lookup f15 = some ⟨oc15, od15, .func (PySem.W.fnOf "check_pattern" "check_pattern" (defArgs sChk) (defBody sChk) (defScope sChk) .none kV15 dc15 pm15 an15 cd15 ct15), sl15⟩)
    (c15 : PySem.W.codeIn K cd15 "check_pattern" = true)
    (k15 : PySem.W.keepIn K (.ref f15) = true)
    (a17 : PySem.W.nsIn K mainGlobals "_law_same" = some (some (.ref f17)))
    (l17 : K.lookup f17 = some ⟨oc17, od17, .func (PySem.W.fnOf "_law_same" "_law_same" (defArgs sSame) (defBody sSame) (defScope sSame) .none kV17 dc17 pm17 an17 cd17 ct17), sl17⟩)
    (c17 : PySem.W.codeIn K cd17 "_law_same" = true)
    (k17 : PySem.W.keepIn K (.ref f17) = true)
    (a18 : PySem.W.nsIn K mainGlobals "_law_stream" = some (some (.ref f18)))
    (l18 : K.lookup f18 = some ⟨oc18, od18, .func (PySem.W.fnOf "_law_stream" "_law_stream" (defArgs sStream) (defBody sStream) (defScope sStream) .none kV18 dc18 pm18 an18 cd18 ct18), sl18⟩)
    (c18 : PySem.W.codeIn K cd18 "_law_stream" = true)
    (k18 : PySem.W.keepIn K (.ref f18) = true)
    (a19 : PySem.W.nsIn K mainGlobals "_law_next" = some (some (.ref f19)))
    (l19 : K.lookup f19 = some ⟨oc19, od19, .func (PySem.W.fnOf "_law_next" "_law_next" (defArgs sNext) (defBody sNext) (defScope sNext) .none kV19 dc19 pm19 an19 cd19 ct19), sl19⟩)
    (c19 : PySem.W.codeIn K cd19 "_law_next" = true)
    (k19 : PySem.W.keepIn K (.ref f19) = true)
    (a20 : PySem.W.nsIn K mainGlobals "_law_word" = some (some (.ref f20)))
    (l20 : K.lookup f20 = some ⟨oc20, od20, .func (PySem.W.fnOf "_law_word" "_law_word" (defArgs sWord) (defBody sWord) (defScope sWord) .none kV20 dc20 pm20 an20 cd20 ct20), sl20⟩)
    (c20 : PySem.W.codeIn K cd20 "_law_word" = true)
    (k20 : PySem.W.keepIn K (.ref f20) = true)
    (a21 : PySem.W.nsIn K mainGlobals "_law_letters" = some (some (.ref f21)))
    (l21 : K.lookup f21 = some ⟨oc21, od21, .func (PySem.W.fnOf "_law_letters" "_law_letters" (defArgs sLetters) (defBody sLetters) (defScope sLetters) .none kV21 dc21 pm21 an21 cd21 ct21), sl21⟩)
    (c21 : PySem.W.codeIn K cd21 "_law_letters" = true)
    (k21 : PySem.W.keepIn K (.ref f21) = true)
    (a22 : PySem.W.nsIn K mainGlobals "_law_pattern" = some (some (.ref f22)))
    (l22 : K.lookup f22 = some ⟨oc22, od22, .func (PySem.W.fnOf "_law_pattern" "_law_pattern" (defArgs sPat) (defBody sPat) (defScope sPat) .none kV22 dc22 pm22 an22 cd22 ct22), sl22⟩)
    (c22 : PySem.W.codeIn K cd22 "_law_pattern" = true)
    (k22 : PySem.W.keepIn K (.ref f22) = true)
    (a23 : PySem.W.nsIn K mainGlobals "_law_walk" = some (some (.ref f23)))
    (l23 : K.lookup f23 = some ⟨oc23, od23, .func (PySem.W.fnOf "_law_walk" "_law_walk" (defArgs sWalk) (defBody sWalk) (defScope sWalk) .none kV23 dc23 pm23 an23 cd23 ct23), sl23⟩)
    (c23 : PySem.W.codeIn K cd23 "_law_walk" = true)
    (k23 : PySem.W.keepIn K (.ref f23) = true)
    (a24 : PySem.W.nsIn K mainGlobals "_law_put" = some (some (.ref f24)))
    (l24 : K.lookup f24 = some ⟨oc24, od24, .func (PySem.W.fnOf "_law_put" "_law_put" (defArgs sPut) (defBody sPut) (defScope sPut) .none kV24 dc24 pm24 an24 cd24 ct24), sl24⟩)
    (c24 : PySem.W.codeIn K cd24 "_law_put" = true)
    (k24 : PySem.W.keepIn K (.ref f24) = true)
    (a25 : PySem.W.nsIn K mainGlobals "_law_spoilt" = some (some (.ref f25)))
    (l25 : K.lookup f25 = some ⟨oc25, od25, .func (PySem.W.fnOf "_law_spoilt" "_law_spoilt" (defArgs sSp) (defBody sSp) (defScope sSp) .none kV25 dc25 pm25 an25 cd25 ct25), sl25⟩)
    (c25 : PySem.W.codeIn K cd25 "_law_spoilt" = true)
    (k25 : PySem.W.keepIn K (.ref f25) = true)
    (a26 : PySem.W.nsIn K mainGlobals "_law_is_pattern" = some (some (.ref f26)))
    (l26 : K.lookup f26 = some ⟨oc26, od26, .func (PySem.W.fnOf "_law_is_pattern" "_law_is_pattern" (defArgs sLis) (defBody sLis) (defScope sLis) .none kV26 dc26 pm26 an26 cd26 ct26), sl26⟩)
    (c26 : PySem.W.codeIn K cd26 "_law_is_pattern" = true)
    (k26 : PySem.W.keepIn K (.ref f26) = true)
    (a27 : PySem.W.nsIn K mainGlobals "_law_nodes" = some (some (.ref f27)))
    (l27 : K.lookup f27 = some ⟨oc27, od27, .func (PySem.W.fnOf "_law_nodes" "_law_nodes" (defArgs sCnt2) (defBody sCnt2) (defScope sCnt2) .none kV27 dc27 pm27 an27 cd27 ct27), sl27⟩)
    (c27 : PySem.W.codeIn K cd27 "_law_nodes" = true)
    (k27 : PySem.W.keepIn K (.ref f27) = true)
    (a28 : PySem.W.nsIn K mainGlobals "_law_told" = some (some (.ref f28)))
    (l28 : K.lookup f28 = some ⟨oc28, od28, .func (PySem.W.fnOf "_law_told" "_law_told" (defArgs sTold) (defBody sTold) (defScope sTold) .none kV28 dc28 pm28 an28 cd28 ct28), sl28⟩)
    (c28 : PySem.W.codeIn K cd28 "_law_told" = true)
    (k28 : PySem.W.keepIn K (.ref f28) = true)
    (a29 : PySem.W.nsIn K mainGlobals "law" = some (some (.ref f29)))
    (l29 : K.lookup f29 = some ⟨oc29, od29, .func (PySem.W.fnOf "law" "law" (defArgs sLaw) (defBody sLaw) (defScope sLaw) .none kV29 dc29 pm29 an29 cd29 ct29), sl29⟩)
    (c29 : PySem.W.codeIn K cd29 "law" = true)
    (k29 : PySem.W.keepIn K (.ref f29) = true)
    (z_len : PySem.W.nsIn K mainGlobals "len" = some none)
    (z_range : PySem.W.nsIn K mainGlobals "range" = some none)
    (z_int : PySem.W.nsIn K mainGlobals "int" = some none)
    (z_abs : PySem.W.nsIn K mainGlobals "abs" = some none)
    (z_max : PySem.W.nsIn K mainGlobals "max" = some none)
    (z_sum : PySem.W.nsIn K mainGlobals "sum" = some none)
    (z_all : PySem.W.nsIn K mainGlobals "all" = some none)
    (z_isinstance : PySem.W.nsIn K mainGlobals "isinstance" = some none)
    (z_tuple : PySem.W.nsIn K mainGlobals "tuple" = some none)
    (z_str : PySem.W.nsIn K mainGlobals "str" = some none)
    (z_repr : PySem.W.nsIn K mainGlobals "repr" = some none)
    (g_NotAllowed : PySem.W.nsIn K mainGlobals "NotAllowed" = some (some (.ref ANotAllowed)))
    (g_ScarpError : PySem.W.nsIn K mainGlobals "ScarpError" = some (some (.ref AScarpError)))
    (g_TooLarge : PySem.W.nsIn K mainGlobals "TooLarge" = some (some (.ref ATooLarge)))
    (g_Missing : PySem.W.nsIn K mainGlobals "Missing" = some (some (.ref AMissing)))
    (g_BadPaper : PySem.W.nsIn K mainGlobals "BadPaper" = some (some (.ref ABadPaper)))
    (g_BadForm : PySem.W.nsIn K mainGlobals "BadForm" = some (some (.ref ABadForm)))
    (g_Broken : PySem.W.nsIn K mainGlobals "Broken" = some (some (.ref ABroken)))
    (g_PLAIN : PySem.W.nsIn K mainGlobals "PLAIN" = some (some (.ref APLAIN)))
    (t_PLAIN : K.lookup APLAIN = some ⟨.type "tuple", odPLAIN, .seq #[.str "any" tPLAIN0, .str "empty" tPLAIN1, .str "none" tPLAIN2] nPLAIN, slPLAIN⟩)
    (g_SINGLE : PySem.W.nsIn K mainGlobals "SINGLE" = some (some (.ref ASINGLE)))
    (t_SINGLE : K.lookup ASINGLE = some ⟨.type "tuple", odSINGLE, .seq #[.str "not" tSINGLE0, .str "again" tSINGLE1] nSINGLE, slSINGLE⟩)
    (g_DOUBLE : PySem.W.nsIn K mainGlobals "DOUBLE" = some (some (.ref ADOUBLE)))
    (t_DOUBLE : K.lookup ADOUBLE = some ⟨.type "tuple", odDOUBLE, .seq #[.str "row" tDOUBLE0, .str "and" tDOUBLE1, .str "or" tDOUBLE2] nDOUBLE, slDOUBLE⟩)
    (g_MAX : PySem.W.nsIn K mainGlobals "MAX_NODES" = some (some (.int 30 tM)))
    (e_kp : PySem.W.keepIn K (.ref ANotAllowed) = true)
    (e_ex : PySem.W.excIn K ANotAllowed [.type "ValueError", .type "Exception", .type "BaseException", .type "object"] "ValueError.__new__" = true)
    (e_sb : PySem.W.subIn K (.ref ANotAllowed) (.type "BaseException") = some true)
    (e_ty : PySem.W.typeIn K (.ref ANotAllowed) = some (.type "type"))
    (x_hg : PySem.W.findIn K (.ref ANotAllowed) "__getattribute__" = some (some (.builtin "BaseException.__getattribute__")))
    (x_hk : PySem.W.findIn K (.ref ANotAllowed) "__getattr__" = some none)
    (x_hd : PySem.W.hasDictIn K ANotAllowed = true)
    (x_ha : PySem.W.findIn K (.ref ANotAllowed) "__class__" = some (some (.builtin "object.__class__")))
    (x_hn : PySem.W.specialIn K (.builtin "object.__class__") "__get__" = some (some (.builtin "getset_descriptor.__get__")))
    (x_ht : PySem.W.takesIn K (.builtin "object.__class__") = some true)
    (x_hm : PySem.W.mroIn K ANotAllowed (.type "object") = some true)
    (p_NotAllowed : PySem.W.isClsIn K ANotAllowed = true)
    (s_NotAllowed : PySem.W.subIn K (.ref ANotAllowed) (.ref ANotAllowed) = some true)
    (p_ScarpError : PySem.W.isClsIn K AScarpError = true)
    (q_ScarpError : PySem.W.typeIn K (.ref AScarpError) = some (.type "type"))
    (s_ScarpError : PySem.W.subIn K (.ref ANotAllowed) (.ref AScarpError) = some true)
    (p_TooLarge : PySem.W.isClsIn K ATooLarge = true)
    (q_TooLarge : PySem.W.typeIn K (.ref ATooLarge) = some (.type "type"))
    (s_TooLarge : PySem.W.subIn K (.ref ANotAllowed) (.ref ATooLarge) = some false)
    (n_TooLarge : ANotAllowed ≠ ATooLarge)
    (p_Missing : PySem.W.isClsIn K AMissing = true)
    (q_Missing : PySem.W.typeIn K (.ref AMissing) = some (.type "type"))
    (s_Missing : PySem.W.subIn K (.ref ANotAllowed) (.ref AMissing) = some false)
    (n_Missing : ANotAllowed ≠ AMissing)
    (p_BadPaper : PySem.W.isClsIn K ABadPaper = true)
    (q_BadPaper : PySem.W.typeIn K (.ref ABadPaper) = some (.type "type"))
    (s_BadPaper : PySem.W.subIn K (.ref ANotAllowed) (.ref ABadPaper) = some false)
    (n_BadPaper : ANotAllowed ≠ ABadPaper)
    (p_BadForm : PySem.W.isClsIn K ABadForm = true)
    (q_BadForm : PySem.W.typeIn K (.ref ABadForm) = some (.type "type"))
    (s_BadForm : PySem.W.subIn K (.ref ANotAllowed) (.ref ABadForm) = some false)
    (n_BadForm : ANotAllowed ≠ ABadForm)
    (p_Broken : PySem.W.isClsIn K ABroken = true)
    (q_Broken : PySem.W.typeIn K (.ref ABroken) = some (.type "type"))
    (s_Broken : PySem.W.subIn K (.ref ANotAllowed) (.ref ABroken) = some false)
    (n_Broken : ANotAllowed ≠ ABroken)
    : ∀ base : Heap, K.In base → base.Ns mainGlobals mg → Def P w K mg base "law" 195 cLaw := by
  intro base _ _
  have F13 := fun_mk (st := sIs) l13 c13 k13
  have b13 := F13.binds (ps := ["letters", "value"]) fun _ _ _ _ _ _ us hl => match us, hl with | [_, _], _ => rfl
  have m13 := PySem.W.mg_of X G a13
  have F14 := fun_mk (st := sCnt1) l14 c14 k14
  have b14 := F14.binds (ps := ["pattern"]) fun _ _ _ _ _ _ us hl => match us, hl with | [_], _ => rfl
  have m14 := PySem.W.mg_of X G a14
  have F15 := fun_mk (st := sChk) l15 c15 k15
  have b15 := F15.binds (ps := ["letters", "pattern"]) fun _ _ _ _ _ _ us hl => match us, hl with | [_, _], _ => rfl
  have m15 := PySem.W.mg_of X G a15
  have F17 := fun_mk (st := sSame) l17 c17 k17
  have b17 := F17.binds (ps := ["told", "due"]) fun _ _ _ _ _ _ us hl => match us, hl with | [_, _], _ => rfl
  have m17 := PySem.W.mg_of X G a17
  have F18 := fun_mk (st := sStream) l18 c18 k18
  have b18 := F18.binds (ps := ["script"]) fun _ _ _ _ _ _ us hl => match us, hl with | [_], _ => rfl
  have m18 := PySem.W.mg_of X G a18
  have F19 := fun_mk (st := sNext) l19 c19 k19
  have b19 := F19.binds (ps := ["state", "many"]) fun _ _ _ _ _ _ us hl => match us, hl with | [_, _], _ => rfl
  have m19 := PySem.W.mg_of X G a19
  have F20 := fun_mk (st := sWord) l20 c20 k20
  have b20 := F20.binds (ps := ["state", "taken"]) fun _ _ _ _ _ _ us hl => match us, hl with | [_, _], _ => rfl
  have m20 := PySem.W.mg_of X G a20
  have F21 := fun_mk (st := sLetters) l21 c21 k21
  have b21 := F21.binds (ps := ["state", "many"]) fun _ _ _ _ _ _ us hl => match us, hl with | [_, _], _ => rfl
  have m21 := PySem.W.mg_of X G a21
  have F22 := fun_mk (st := sPat) l22 c22 k22
  have b22 := F22.binds (ps := ["state", "letters", "room"]) fun _ _ _ _ _ _ us hl => match us, hl with | [_, _, _], _ => rfl
  have m22 := PySem.W.mg_of X G a22
  have F23 := fun_mk (st := sWalk) l23 c23 k23
  have b23 := F23.binds (ps := ["pattern", "path"]) fun _ _ _ _ _ _ us hl => match us, hl with | [_, _], _ => rfl
  have m23 := PySem.W.mg_of X G a23
  have F24 := fun_mk (st := sPut) l24 c24 k24
  have b24 := F24.binds (ps := ["pattern", "path", "other"]) fun _ _ _ _ _ _ us hl => match us, hl with | [_, _, _], _ => rfl
  have m24 := PySem.W.mg_of X G a24
  have F25 := fun_mk (st := sSp) l25 c25 k25
  have b25 := F25.binds (ps := ["state", "letters", "pattern"]) fun _ _ _ _ _ _ us hl => match us, hl with | [_, _, _], _ => rfl
  have m25 := PySem.W.mg_of X G a25
  have F26 := fun_mk (st := sLis) l26 c26 k26
  have b26 := F26.binds (ps := ["letters", "value"]) fun _ _ _ _ _ _ us hl => match us, hl with | [_, _], _ => rfl
  have m26 := PySem.W.mg_of X G a26
  have F27 := fun_mk (st := sCnt2) l27 c27 k27
  have b27 := F27.binds (ps := ["pattern"]) fun _ _ _ _ _ _ us hl => match us, hl with | [_], _ => rfl
  have m27 := PySem.W.mg_of X G a27
  have F28 := fun_mk (st := sTold) l28 c28 k28
  have b28 := F28.binds (ps := ["letters", "pattern"]) fun _ _ _ _ _ _ us hl => match us, hl with | [_, _], _ => rfl
  have m28 := PySem.W.mg_of X G a28
  have F29 := fun_mk (st := sLaw) l29 c29 k29
  have b29 := F29.binds (ps := ["script"]) fun _ _ _ _ _ _ us hl => match us, hl with | [_], _ => rfl
  have m29 := PySem.W.mg_of X G a29
  have z_len := PySem.W.mg_none_of X G z_len
  have z_range := PySem.W.mg_none_of X G z_range
  have z_int := PySem.W.mg_none_of X G z_int
  have z_abs := PySem.W.mg_none_of X G z_abs
  have z_max := PySem.W.mg_none_of X G z_max
  have z_sum := PySem.W.mg_none_of X G z_sum
  have z_all := PySem.W.mg_none_of X G z_all
  have z_isinstance := PySem.W.mg_none_of X G z_isinstance
  have z_tuple := PySem.W.mg_none_of X G z_tuple
  have z_str := PySem.W.mg_none_of X G z_str
  have z_repr := PySem.W.mg_none_of X G z_repr
  have g_NotAllowed := PySem.W.mg_of X G g_NotAllowed
  have g_ScarpError := PySem.W.mg_of X G g_ScarpError
  have g_TooLarge := PySem.W.mg_of X G g_TooLarge
  have g_Missing := PySem.W.mg_of X G g_Missing
  have g_BadPaper := PySem.W.mg_of X G g_BadPaper
  have g_BadForm := PySem.W.mg_of X G g_BadForm
  have g_Broken := PySem.W.mg_of X G g_Broken
  have CPLAIN : Con K mg "PLAIN" (.tuple (plainW.map PyData.str)) := ⟨_, .ref APLAIN, PySem.W.mg_of X G g_PLAIN, rfl, .tup (xs := plainW.map V.str) (.inr ⟨_, _, _, t_PLAIN, rfl, rfl, show 3 ≤ sizeLine by decide, Paired.cons ⟨_, rfl⟩ (Paired.cons ⟨_, rfl⟩ (Paired.cons ⟨_, rfl⟩ (Paired.nil)))⟩) (DqAll.mapStr _)⟩
  have CSINGLE : Con K mg "SINGLE" (.tuple (singleW.map PyData.str)) := ⟨_, .ref ASINGLE, PySem.W.mg_of X G g_SINGLE, rfl, .tup (xs := singleW.map V.str) (.inr ⟨_, _, _, t_SINGLE, rfl, rfl, show 2 ≤ sizeLine by decide, Paired.cons ⟨_, rfl⟩ (Paired.cons ⟨_, rfl⟩ (Paired.nil))⟩) (DqAll.mapStr _)⟩
  have CDOUBLE : Con K mg "DOUBLE" (.tuple (doubleW.map PyData.str)) := ⟨_, .ref ADOUBLE, PySem.W.mg_of X G g_DOUBLE, rfl, .tup (xs := doubleW.map V.str) (.inr ⟨_, _, _, t_DOUBLE, rfl, rfl, show 3 ≤ sizeLine by decide, Paired.cons ⟨_, rfl⟩ (Paired.cons ⟨_, rfl⟩ (Paired.cons ⟨_, rfl⟩ (Paired.nil)))⟩) (DqAll.mapStr _)⟩
  have CM : Con K mg "MAX_NODES" (.int 30) := ⟨_, .int 30, PySem.W.mg_of X G g_MAX, ⟨_, rfl⟩, .int _⟩
  have eN : ExcF K mg "NotAllowed" ANotAllowed := ⟨g_NotAllowed, e_kp, e_ex, e_sb, e_ty⟩
  have eC : ExcC K ANotAllowed := ⟨x_hg, x_hk, e_sb, x_hd, x_ha, x_hn, x_ht, x_hm⟩
  have x_ex := exm_by e_sb (kit_of p_NotAllowed e_ty s_NotAllowed)
  have x_k1 := kit_yes (kit_of p_ScarpError q_ScarpError s_ScarpError)
  have x_k2 : PySem.W.kitAny K (.ref ANotAllowed) ([ATooLarge, AMissing, ABadPaper, ABadForm, ABroken].map Value.ref) = some false := kit_none fun c hc => by
    simp only [List.mem_cons, List.not_mem_nil, or_false] at hc
    rcases hc with rfl | rfl | rfl | rfl | rfl
    · exact kit_no n_TooLarge (kit_of p_TooLarge q_TooLarge s_TooLarge)
    · exact kit_no n_Missing (kit_of p_Missing q_Missing s_Missing)
    · exact kit_no n_BadPaper (kit_of p_BadPaper q_BadPaper s_BadPaper)
    · exact kit_no n_BadForm (kit_of p_BadForm q_BadForm s_BadForm)
    · exact kit_no n_Broken (kit_of p_Broken q_Broken s_Broken)
  have D0 := d_stream (P := P) (w := w) (base := base) F18 m18 b18 z_len z_abs z_int z_range
  have DN : ∀ ns, GoodN ns → Def P w K mg base "_law_next" 1 (cNext ns) := fun ns gn => d_next gn F19 m19 b19 z_len z_int
  have DW : ∀ ns, GoodN ns → Def P w K mg base "_law_word" 2 (cWord ns) := fun ns gn => d_word gn F20 m20 b20 z_len z_range (DN ns gn)
  have DLt : ∀ ns, GoodN ns → Def P w K mg base "_law_letters" 3 (cLetters ns) := fun ns gn => d_letters F21 m21 b21 z_range z_tuple (DW ns gn)
  have DP : ∀ ns ls, GoodN ns → LsOk ls → 0 < ls.length → ls.length ≤ 26 → ∀ r, r ≤ 62 → Def P w K mg base "_law_pattern" (r + 2) (cPat ns ls r) := fun ns ls gn ok h0 h1 r => by
    induction r with
    | zero => exact fun hr => d_pat ok h0 h1 F22 m22 b22 z_len z_max z_int (DN ns gn) 0 hr (fun e he => nomatch he)
    | succ r ih => exact fun hr => d_pat ok h0 h1 F22 m22 b22 z_len z_max z_int (DN ns gn) (r + 1) hr (fun e he => by injection he with he; subst he; exact ih (by omega))
  have DWk : ∀ ls d, Def P w K mg base "_law_walk" (d + 1) (cWalk ls d) := fun ls d => by
    induction d with
    | zero => exact d_walk F23 m23 b23 z_len z_isinstance z_tuple z_range 0 (fun e he => nomatch he)
    | succ d ih => exact d_walk F23 m23 b23 z_len z_isinstance z_tuple z_range (d + 1) (fun e he => by injection he with he; subst he; exact ih)
  have DPt : ∀ ls c d, Def P w K mg base "_law_put" (d + 1) (cPut ls d c) := fun ls c d => by
    induction d with
    | zero => exact d_put F24 m24 b24 z_len 0 (fun e he => nomatch he)
    | succ d ih => exact d_put F24 m24 b24 z_len (d + 1) (fun e he => by injection he with he; subst he; exact ih)
  have DSp : ∀ ns ls, GoodN ns → LsOk ls → 0 < ls.length → Def P w K mg base "_law_spoilt" 32 (cSp ns ls 30) := fun ns ls gn ok h0 => d_sp ok h0 F25 m25 b25 z_len z_isinstance z_tuple 30 (by decide) (DN ns gn) (DWk ls 30) (DPt ls 32 30)
  have DI : ∀ ls, LsOk ls → ∀ d, d ≤ 63 → Def P w K mg base "_law_is_pattern" (d + 1) (cIs ls d) := fun ls ok d => by
    induction d with
    | zero => exact fun hd => d_lis ok F26 m26 b26 z_len z_isinstance z_tuple z_str z_all 0 hd (fun e he => nomatch he)
    | succ d ih => exact fun hd => d_lis ok F26 m26 b26 z_len z_isinstance z_tuple z_str z_all (d + 1) hd (fun e he => by injection he with he; subst he; exact ih (by omega))
  have D1 : ∀ ls d, Def P w K mg base "count_nodes" (d + 1) (cCnt ls d) := fun ls d => by
    induction d with
    | zero => exact d_cnt1 F14 m14 b14 z_sum 0 (fun e he => nomatch he)
    | succ d ih => exact d_cnt1 F14 m14 b14 z_sum (d + 1) (fun e he => by injection he with he; subst he; exact ih)
  have D2 : ∀ ls d, Def P w K mg base "_law_nodes" (d + 1) (cCnt ls d) := fun ls d => by
    induction d with
    | zero => exact d_cnt2 F27 m27 b27 z_sum 0 (fun e he => nomatch he)
    | succ d ih => exact d_cnt2 F27 m27 b27 z_sum (d + 1) (fun e he => by injection he with he; subst he; exact ih)
  have D3 : ∀ ls, LsOk ls → ∀ d, Def P w K mg base "is_pattern" (d + 1) (cIs ls d) := fun ls ok d => by
    induction d with
    | zero => exact d_is ok F13 m13 b13 z_len z_isinstance z_tuple z_str CPLAIN CSINGLE CDOUBLE 0 (fun e he => nomatch he)
    | succ d ih => exact d_is ok F13 m13 b13 z_len z_isinstance z_tuple z_str CPLAIN CSINGLE CDOUBLE (d + 1) (fun e he => by injection he with he; subst he; exact ih)
  have DT : ∀ ls, LsOk ls → Def P w K mg base "_law_told" 193 (cTold ls 190) := fun ls ok => d_told F28 m28 b28 z_int z_isinstance g_NotAllowed g_ScarpError g_TooLarge g_Missing g_BadPaper g_BadForm g_Broken eC x_ex x_k1 x_k2 190
    (d_chk F15 m15 b15 CM eN 190 (D3 ls ok 190) (D1 ls 190))
  exact d_law F29 m29 b29 z_range z_int CM D0 DN DLt (fun ns ls gn ok h0 h1 => DP ns ls gn ok h0 h1 30 (by decide)) DSp (fun ls ok => DI ls ok 62 (by decide)) (fun ls => D1 ls 30) (fun ls => D2 ls 62) (d_same F17 m17 b17 z_repr) DT
end K01
open PySem PySem.W PyProof.Rows
set_option maxHeartbeats 0 in
theorem PySem.Challenge.cw_scarp_k01_patterns_checked_holds : PySem.Challenge.rw_scarp_k01_patterns_checked.Holds := by
  w_on; o_law; k_head; (case hw => w_witness2)
  k_fill
  refine DL.walk_ofG (l := PySem.Challenge.rw_scarp_k01_patterns_checked) (k := 195) rfl rfl rfl ⟨rfl, by decide +kernel, by decide +kernel⟩ (fun w h Y => PySem.W.kIn_of Y) ?F
  case F =>
    intro w mg h KX G
    refine' K01.all_mk KX G ?a13 ?l13 ?c13 ?k13 ?a14 ?l14 ?c14 ?k14 ?a15 ?l15 ?c15 ?k15 ?a17 ?l17 ?c17 ?k17 ?a18 ?l18 ?c18 ?k18 ?a19 ?l19 ?c19 ?k19 ?a20 ?l20 ?c20 ?k20 ?a21 ?l21 ?c21 ?k21 ?a22 ?l22 ?c22 ?k22 ?a23 ?l23 ?c23 ?k23 ?a24 ?l24 ?c24 ?k24 ?a25 ?l25 ?c25 ?k25 ?a26 ?l26 ?c26 ?k26 ?a27 ?l27 ?c27 ?k27 ?a28 ?l28 ?c28 ?k28 ?a29 ?l29 ?c29 ?k29 ?z_len ?z_range ?z_int ?z_abs ?z_max ?z_sum ?z_all ?z_isinstance ?z_tuple ?z_str ?z_repr ?g_NotAllowed ?g_ScarpError ?g_TooLarge ?g_Missing ?g_BadPaper ?g_BadForm ?g_Broken ?g_PLAIN ?t_PLAIN ?g_SINGLE ?t_SINGLE ?g_DOUBLE ?t_DOUBLE ?g_MAX ?e_kp ?e_ex ?e_sb ?e_ty ?x_hg ?x_hk ?x_hd ?x_ha ?x_hn ?x_ht ?x_hm ?p_NotAllowed ?s_NotAllowed ?p_ScarpError ?q_ScarpError ?s_ScarpError ?p_TooLarge ?q_TooLarge ?s_TooLarge ?n_TooLarge ?p_Missing ?q_Missing ?s_Missing ?n_Missing ?p_BadPaper ?q_BadPaper ?s_BadPaper ?n_BadPaper ?p_BadForm ?q_BadForm ?s_BadForm ?n_BadForm ?p_Broken ?q_Broken ?s_Broken ?n_Broken
    (case a13 => k_is)
    (case l13 => k_is)
    (case c13 => k_is)
    (case k13 => k_is)
    (case a14 => k_is)
    (case l14 => k_is)
    (case c14 => k_is)
    (case k14 => k_is)
    (case a15 => k_is)
    (case l15 => k_is)
    (case c15 => k_is)
    (case k15 => k_is)
    (case a17 => k_is)
    (case l17 => k_is)
    (case c17 => k_is)
    (case k17 => k_is)
    (case a18 => k_is)
    (case l18 => k_is)
    (case c18 => k_is)
    (case k18 => k_is)
    (case a19 => k_is)
    (case l19 => k_is)
    (case c19 => k_is)
    (case k19 => k_is)
    (case a20 => k_is)
    (case l20 => k_is)
    (case c20 => k_is)
    (case k20 => k_is)
    (case a21 => k_is)
    (case l21 => k_is)
    (case c21 => k_is)
    (case k21 => k_is)
    (case a22 => k_is)
    (case l22 => k_is)
    (case c22 => k_is)
    (case k22 => k_is)
    (case a23 => k_is)
    (case l23 => k_is)
    (case c23 => k_is)
    (case k23 => k_is)
    (case a24 => k_is)
    (case l24 => k_is)
    (case c24 => k_is)
    (case k24 => k_is)
    (case a25 => k_is)
    (case l25 => k_is)
    (case c25 => k_is)
    (case k25 => k_is)
    (case a26 => k_is)
    (case l26 => k_is)
    (case c26 => k_is)
    (case k26 => k_is)
    (case a27 => k_is)
    (case l27 => k_is)
    (case c27 => k_is)
    (case k27 => k_is)
    (case a28 => k_is)
    (case l28 => k_is)
    (case c28 => k_is)
    (case k28 => k_is)
    (case a29 => k_is)
    (case l29 => k_is)
    (case c29 => k_is)
    (case k29 => k_is)
    (case z_len => k_is)
    (case z_range => k_is)
    (case z_int => k_is)
    (case z_abs => k_is)
    (case z_max => k_is)
    (case z_sum => k_is)
    (case z_all => k_is)
    (case z_isinstance => k_is)
    (case z_tuple => k_is)
    (case z_str => k_is)
    (case z_repr => k_is)
    (case g_NotAllowed => k_is)
    (case g_ScarpError => k_is)
    (case g_TooLarge => k_is)
    (case g_Missing => k_is)
    (case g_BadPaper => k_is)
    (case g_BadForm => k_is)
    (case g_Broken => k_is)
    (case g_PLAIN => k_is)
    (case t_PLAIN => k_is)
    (case g_SINGLE => k_is)
    (case t_SINGLE => k_is)
    (case g_DOUBLE => k_is)
    (case t_DOUBLE => k_is)
    (case g_MAX => k_is)
    (case e_kp => k_is)
    (case e_ex => k_exc)
    (case e_sb => k_is)
    (case e_ty => k_is)
    (case x_hg => k_is)
    (case x_hk => k_is)
    (case x_hd => k_is)
    (case x_ha => k_is)
    (case x_hn => k_is)
    (case x_ht => k_is)
    (case x_hm => k_is)
    (case p_NotAllowed => k_is)
    (case s_NotAllowed => first | rfl | k_is)
    (case p_ScarpError => k_is)
    (case q_ScarpError => k_is)
    (case s_ScarpError => k_is)
    (case p_TooLarge => k_is)
    (case q_TooLarge => k_is)
    (case s_TooLarge => k_is)
    (case n_TooLarge => decide)
    (case p_Missing => k_is)
    (case q_Missing => k_is)
    (case s_Missing => k_is)
    (case n_Missing => decide)
    (case p_BadPaper => k_is)
    (case q_BadPaper => k_is)
    (case s_BadPaper => k_is)
    (case n_BadPaper => decide)
    (case p_BadForm => k_is)
    (case q_BadForm => k_is)
    (case s_BadForm => k_is)
    (case n_BadForm => decide)
    (case p_Broken => k_is)
    (case q_Broken => k_is)
    (case s_Broken => k_is)
    (case n_Broken => decide)

