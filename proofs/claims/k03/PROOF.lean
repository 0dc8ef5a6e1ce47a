import HandS.ForMost
import HandS.ForExc
import HandS.Lambda
import HandS.Wide
import HandS.IsInst
import HandS.Style
import HandS.Conv
import HandS.Zip
import HandS.SortInts
import KE.SortData
import KE.KDictList
import HandS.SetFor
import KE.KDictSum
import PyProof.Rows.SetFrom
import HandS.HeadHook2
import HandS.HeadHook4
import HandS.Words
import HandS.ExcOwn
import HandS.More
import HandS.TryMany
import HandS.ExcIs
import PySem.Challenge.RW_growjoins_k03_costs_of_plans
import HandS.HeadEnd
import HandS.HeadHook1
import HandS.HeadHook3
import HandS.HeadWalk
import HandS.Head0
import HandS.Head1
import HandS.Head2
set_option Elab.async false
set_option linter.all false
set_option maxRecDepth 100000
set_option maxHeartbeats 0
/-! G1: a layer over the hand layer: readings by data. -/
namespace GJ
open PySem PySem.Spec PyProof.Rows L2

abbrev St := L2.St
/-! ### data that stands in the heap -/
abbrev FB := Addr → Prop
mutual
/-- v stands for the data d in H, off the forbidden lists F -/
inductive Rp (F : FB) (H : Hp) : V → PyData → Prop
  | non : Rp F H .non .none
  | bl (b : Bool) : Rp F H (.bl b) (.bool b)
  | int (i : Int) : Rp F H (.int i) (.int i)
  | str (x : Str) : Rp F H (.str x) (.str x)
  | lst {a : Addr} {xs : List V} {ds : List PyData} : ¬ F a → H a = some (.lst xs) → Rps F H xs ds → Rp F H (.ref a) (.list ds)
  | tup {a : Addr} {xs : List V} {ds : List PyData} : H a = some (.tup xs) → Rps F H xs ds → Rp F H (.ref a) (.tuple ds)
inductive Rps (F : FB) (H : Hp) : List V → List PyData → Prop
  | nil : Rps F H [] []
  | cons {v : V} {vs : List V} {d : PyData} {ds : List PyData} : Rp F H v d → Rps F H vs ds → Rps F H (v :: vs) (d :: ds)
end

mutual
theorem Rp.map {F F' : FB} {H H' : Hp} (hF : ∀ a xs, H a = some (.lst xs) → ¬ F a → ¬ F' a ∧ H' a = some (.lst xs)) (hT : ∀ a xs, H a = some (.tup xs) → H' a = some (.tup xs)) : ∀ (d : PyData) (v : V), Rp F H v d → Rp F' H' v d
  | .none, _, h => by cases h; exact .non
  | .bool b, _, h => by cases h; exact .bl b
  | .int i, _, h => by cases h; exact .int i
  | .str x, _, h => by cases h; exact .str x
  | .list ds, _, h => by
    cases h with
    | lst n e r => exact .lst (hF _ _ e n).1 (hF _ _ e n).2 (Rps.map hF hT ds _ r)
  | .tuple ds, _, h => by
    cases h with
    | tup e r => exact .tup (hT _ _ e) (Rps.map hF hT ds _ r)
  | .dict _, _, h => by cases h
theorem Rps.map {F F' : FB} {H H' : Hp} (hF : ∀ a xs, H a = some (.lst xs) → ¬ F a → ¬ F' a ∧ H' a = some (.lst xs)) (hT : ∀ a xs, H a = some (.tup xs) → H' a = some (.tup xs)) : ∀ (ds : List PyData) (vs : List V), Rps F H vs ds → Rps F' H' vs ds
  | [], _, h => by cases h; exact .nil
  | d :: ds, _, h => by
    cases h with
    | cons h1 h2 => exact .cons (Rp.map hF hT d _ h1) (Rps.map hF hT ds _ h2)
end

theorem Rps.length {F : FB} {H : Hp} : ∀ {vs : List V} {ds : List PyData}, Rps F H vs ds → vs.length = ds.length
  | _, [], h => by cases h; rfl
  | _, d :: ds, h => by
    cases h with
    | cons _ h2 => simp [Rps.length h2]
theorem Rps.get {F : FB} {H : Hp} : ∀ {vs : List V} {ds : List PyData} {i : Nat} {d : PyData}, Rps F H vs ds → ds[i]? = some d → ∃ v, vs[i]? = some v ∧ Rp F H v d
  | _, [], _, _, _, e => by simp at e
  | _, d :: ds, i, _, h, e => by
    cases h with
    | cons h1 h2 =>
      cases i with
      | zero => simp at e; subst e; exact ⟨_, rfl, h1⟩
      | succ i =>
        obtain ⟨v, e1, r⟩ := Rps.get h2 (by simpa using e)
        exact ⟨v, by simpa using e1, r⟩
theorem Rps.append {F : FB} {H : Hp} : ∀ {vs : List V} {ds : List PyData} {ws : List V} {es : List PyData}, Rps F H vs ds → Rps F H ws es → Rps F H (vs ++ ws) (ds ++ es)
  | _, [], _, _, h, k => by cases h; exact k
  | _, d :: ds, _, _, h, k => by
    cases h with
    | cons h1 h2 => exact .cons h1 (h2.append k)
mutual
theorem Rp.dp {K : PySem.W.Frag} {F : FB} {H : Hp} : ∀ (d : PyData) (v : V), Rp F H v d → Dp K H v d
  | .none, _, h => by cases h; exact .non
  | .bool b, _, h => by cases h; exact .bl b
  | .int i, _, h => by cases h; exact .int i
  | .str x, _, h => by cases h; exact .str x
  | .list ds, _, h => by
    cases h with
    | lst n e r => exact .lst (SqL.of e) (Rps.dp ds _ r)
  | .tuple ds, _, h => by
    cases h with
    | tup e r => exact .tup (SqT.of e) (Rps.dp ds _ r)
  | .dict _, _, h => by cases h
theorem Rps.dp {K : PySem.W.Frag} {F : FB} {H : Hp} : ∀ (ds : List PyData) (vs : List V), Rps F H vs ds → DpAll K H vs ds
  | [], _, h => by cases h; exact .nil
  | d :: ds, _, h => by
    cases h with
    | cons h1 h2 => exact .cons (Rp.dp d _ h1) (Rps.dp ds _ h2)
end
end GJ

/-! G2: values, the frame by data, the order of heaps; expressions and tests read by data. -/
namespace GJ
open PySem PySem.Spec PyProof.Rows L2

/-! ### the order of heaps -/
abbrev TabL := List (Addr × Str)
def Gr (T : TabL) (H H' : Hp) : Prop := LamX.ExtN H H' ∧ (LamX.Tabs T H → LamX.Tabs T H')
theorem Gr.refl (T : TabL) (H : Hp) : Gr T H H := ⟨LamX.ExtN.refl H, fun h => h⟩
theorem Gr.trans {T : TabL} {H H1 H2 : Hp} (a : Gr T H H1) (b : Gr T H1 H2) : Gr T H H2 := ⟨a.1.trans b.1, fun h => b.2 (a.2 h)⟩
theorem Gr.of {T : TabL} {H H' : Hp} (e : Same H H') : Gr T H H' := ⟨LamX.ExtN.of e, fun h => h.ext e⟩
theorem Gr.new {T : TabL} {H : Hp} {p : Addr} {o : HO} (n : H p = none) : Gr T H (upd H p o) := Gr.of fun b u e => by
  rw [upd_ne (ne_of_none e n)]; exact e
theorem Gr.lst {T : TabL} {H H' : Hp} (g : Gr T H H') {a : Addr} {xs : List V} (e : H a = some (.lst xs)) : H' a = some (.lst xs) := g.1 a _ e fun _ z => by cases z
theorem Gr.tup {T : TabL} {H H' : Hp} (g : Gr T H H') {a : Addr} {xs : List V} (e : H a = some (.tup xs)) : H' a = some (.tup xs) := g.1 a _ e fun _ z => by cases z
theorem Gr.at {T : TabL} {H H' : Hp} (g : Gr T H H') {a : Addr} {o : HO} (e : H a = some o) (n : ∀ ps, o ≠ .tbl ps) : H' a = some o := g.1 a _ e n

/-! ### values -/
/-- the source of draws: two whole numbers from 0 on -/
def SrcOk (x y : Int) : Prop := 0 ≤ x ∧ 0 ≤ y ∧ y < 2 ^ 40
def SrcO (a : Addr) : HO := .ext fun h => ∃ (x y : Int) (t u : Tok) (n : Nat), SrcOk x y ∧ h.get? a = some { cls := .type "list", data := .seq #[.int x t, .int y u] n }
theorem srcO_tbl {a : Addr} (ps : Array Value) : SrcO a ≠ .tbl ps := fun z => by unfold SrcO at z; cases z
/-- what a name may hold: data; a list of the def's own that it changes; a dict; the source; the script -/
inductive W where
  | val (d : PyData) | own (ds : List PyData) | dk (kvs : List (L2.Key × PyData)) | dt (kvs : List (List L2.Key × PyData)) | odk (kvs : List (L2.Key × PyData)) | odt (kvs : List (List L2.Key × PyData)) | src | scr (K : PySem.W.Frag) (ns : List Int)
abbrev DEnv := List (Option W)
/-- the script: tracked and not a list of the def's own, locked, or written -/
def ScrR (K : PySem.W.Frag) (F : FB) (H : Hp) (a : Addr) (xs : List V) : Prop := (H a = some (.lst xs) ∧ ¬ F a) ∨ (∃ o, H a = some (.frz o (.lst xs))) ∨
  ∃ (o : Obj) (its : Array Value) (n : Nat), K.lookup a = some o ∧ o.cls = .type "list" ∧ o.dict = none ∧ o.data = .seq its n ∧ its.size ≤ sizeLine ∧ Vals xs its.toList
theorem ScrR.sql {K : PySem.W.Frag} {F : FB} {H : Hp} {a : Addr} {xs : List V} (r : ScrR K F H a xs) : SqL K H a xs := by
  rcases r with ⟨r, _⟩ | r | r
  · exact .inl (.inl r)
  · exact .inl (.inr r)
  · exact .inr r
theorem ScrR.map {K : PySem.W.Frag} {F F' : FB} {H H' : Hp} {a : Addr} {xs : List V} (r : ScrR K F H a xs) (h1 : H a = some (.lst xs) → ¬ F a → H' a = some (.lst xs) ∧ ¬ F' a) (h2 : ∀ o, H a = some (.frz o (.lst xs)) → H' a = some (.frz o (.lst xs))) : ScrR K F' H' a xs := by
  rcases r with ⟨r, n⟩ | ⟨o, r⟩ | r
  · exact .inl (h1 r n)
  · exact .inr (.inl ⟨o, h2 o r⟩)
  · exact .inr (.inr r)
def RpW (F : FB) (H : Hp) (v : V) : W → Prop
  | .val d => Rp F H v d
  | .own ds => ∃ l xs, v = .ref l ∧ F l ∧ H l = some (.lst xs) ∧ Rps F H xs ds
  | .dk kvs => ∃ (l : Addr) (xs : List (L2.Key × V)), v = .ref l ∧ H l = some (.dK xs) ∧ xs.map (·.1) = kvs.map (·.1) ∧ Rps F H (xs.map (·.2)) (kvs.map (·.2))
  | .dt kvs => ∃ (l : Addr) (xs : List (List L2.Key × V)), v = .ref l ∧ H l = some (.dT xs) ∧ xs.map (·.1) = kvs.map (·.1) ∧ Rps F H (xs.map (·.2)) (kvs.map (·.2))
  | .odk kvs => ∃ (l : Addr) (xs : List (L2.Key × V)), v = .ref l ∧ H l = some (.dK xs) ∧ xs.map (·.1) = kvs.map (·.1) ∧ Rps F H (xs.map (·.2)) (kvs.map (·.2))
  | .odt kvs => ∃ (l : Addr) (xs : List (List L2.Key × V)), v = .ref l ∧ H l = some (.dT xs) ∧ xs.map (·.1) = kvs.map (·.1) ∧ Rps F H (xs.map (·.2)) (kvs.map (·.2))
  | .src => ∃ a, v = .ref a ∧ H a = some (SrcO a)
  | .scr K ns => ∃ a, v = .ref a ∧ ScrR K F H a (ns.map V.int)
theorem Rp.gr {T : TabL} {F : FB} {H H' : Hp} (g : Gr T H H') {d : PyData} {v : V} (r : Rp F H v d) : Rp F H' v d :=
  Rp.map (fun _ _ e n => ⟨n, g.lst e⟩) (fun _ _ e => g.tup e) d v r
theorem Rps.gr {T : TabL} {F : FB} {H H' : Hp} (g : Gr T H H') {ds : List PyData} {vs : List V} (r : Rps F H vs ds) : Rps F H' vs ds :=
  Rps.map (fun _ _ e n => ⟨n, g.lst e⟩) (fun _ _ e => g.tup e) ds vs r
theorem Rp.sub {F F' : FB} {H : Hp} (s : ∀ a, F' a → F a) {d : PyData} {v : V} (r : Rp F H v d) : Rp F' H v d :=
  Rp.map (fun _ _ e n => ⟨fun z => n (s _ z), e⟩) (fun _ _ e => e) d v r
theorem Rps.sub {F F' : FB} {H : Hp} (s : ∀ a, F' a → F a) {ds : List PyData} {vs : List V} (r : Rps F H vs ds) : Rps F' H vs ds :=
  Rps.map (fun _ _ e n => ⟨fun z => n (s _ z), e⟩) (fun _ _ e => e) ds vs r
theorem RpW.gr {T : TabL} {F : FB} {H H' : Hp} (g : Gr T H H') {v : V} : ∀ {w : W}, RpW F H v w → RpW F H' v w
  | .val _, r => Rp.gr g r
  | .own _, ⟨l, xs, e, f, h, r⟩ => ⟨l, xs, e, f, g.lst h, r.gr g⟩
  | .dk _, ⟨l, xs, e, h, k, r⟩ => ⟨l, xs, e, g.at h (fun _ z => by cases z), k, r.gr g⟩
  | .dt _, ⟨l, xs, e, h, k, r⟩ => ⟨l, xs, e, g.at h (fun _ z => by cases z), k, r.gr g⟩
  | .odk _, ⟨l, xs, e, h, k, r⟩ => ⟨l, xs, e, g.at h (fun _ z => by cases z), k, r.gr g⟩
  | .odt _, ⟨l, xs, e, h, k, r⟩ => ⟨l, xs, e, g.at h (fun _ z => by cases z), k, r.gr g⟩
  | .src, ⟨a, e, h⟩ => ⟨a, e, g.at h srcO_tbl⟩
  | .scr _ _, ⟨a, e, h⟩ => ⟨a, e, h.map (fun q n => ⟨g.lst q, n⟩) fun o q => g.at q (fun _ z => by cases z)⟩

structure EnvOk (T : TabL) (F : FB) (γ : DEnv) (σ : St) (H : Hp) : Prop where
  slot : ∀ (i : Nat) (w : W), γ[i]? = some (some w) → ∃ v, σ[i]? = some (some v) ∧ RpW F H v w
  fok : ∀ a, F a → ∃ xs, H a = some (.lst xs)
  tabs : LamX.Tabs T H
  len : γ.length = σ.length
theorem EnvOk.gr {T : TabL} {F : FB} {γ : DEnv} {σ : St} {H H' : Hp} (x : EnvOk T F γ σ H) (g : Gr T H H') : EnvOk T F γ σ H' :=
  ⟨fun i w e => let ⟨v, h, r⟩ := x.slot i w e; ⟨v, h, r.gr g⟩, fun a f => let ⟨xs, e⟩ := x.fok a f; ⟨xs, g.lst e⟩, g.2 x.tabs, x.len⟩
/-- what may be raised is wished for -/
def RzOk (T : TabL) (E : XK) (H : Hp) (R : Addr → Prop) : Prop := ∀ C H', R C → Gr T H H' → E (.ref C) none H'
theorem RzOk.gr {T : TabL} {E : XK} {H H' : Hp} {R : Addr → Prop} (x : RzOk T E H R) (g : Gr T H H') : RzOk T E H' R := fun C H2 r g2 => x C H2 r (g.trans g2)
theorem RzOk.no {T : TabL} {E : XK} {H : Hp} : RzOk T E H (fun _ => False) := fun _ _ z => z.elim

/-! ### running -/
def Ev (X : Cx) (e : Expr) : TE := fun σ H Q => ∀ (pins : List (Addr × Obj)) (s : Shared), Inv X pins σ H s → wpAny (model X.prog X.w) X.A (eval e X.env) (EP X pins σ Q) X.xe s
def Et (X : Cx) (e : Expr) : TT := fun σ H Q => ∀ (pins : List (Addr × Obj)) (s : Shared), Inv X pins σ H s → wpAny (model X.prog X.w) X.A (isTrue e X.env (eval e X.env)) (TP X pins σ Q) X.xe s
def Ea (X : Cx) (es : List Expr) : TA := fun σ H Q => ∀ (pos : Pos) (pins : List (Addr × Obj)) (s : Shared), Inv X pins σ H s → wpAny (model X.prog X.w) X.A (spliced (backTo pos (starEach es X.env))) (AP X pins σ Q) X.xe s
def Es (X : Cx) (st : List Stmt) : TS := fun D σ H => ∀ (pins : List (Addr × Obj)) (s : Shared), Inv X pins σ H s → wpAny (model X.prog X.w) X.A (execs st X.env) (SP X pins D) X.xe s
section
variable {X : Cx} {e : Expr} {es : List Expr} {st : List Stmt} {σ : St} {H : Hp}
theorem Ev.pe (X : Cx) (e : Expr) : PE X e (Ev X e) := ⟨fun pins s _ _ _ I h => h pins s I⟩
theorem Ev.of {t : TE} {Q : VK} (p : PE X e t) (h : t σ H Q) : Ev X e σ H Q := fun pins s I => p.run pins s σ H Q I h
theorem Ev.mono {Q Q' : VK} (h : Ev X e σ H Q) (k : ∀ v H', Q v H' → Q' v H') : Ev X e σ H Q' := fun pins s I => thn (h pins s I) fun _ _ ⟨v, H', J, r, q⟩ => ⟨v, H', J, r, k v H' q⟩
theorem Et.pt (X : Cx) (e : Expr) : PT X e (Et X e) := ⟨fun pins s _ _ _ I h => h pins s I⟩
theorem Et.of {t : TT} {Q : Bool → Hp → Prop} (p : PT X e t) (h : t σ H Q) : Et X e σ H Q := fun pins s I => p.run pins s σ H Q I h
theorem Et.mono {Q Q' : Bool → Hp → Prop} (h : Et X e σ H Q) (k : ∀ v H', Q v H' → Q' v H') : Et X e σ H Q' := fun pins s I => thn (h pins s I) fun b _ ⟨H', J, q⟩ => ⟨H', J, k b H' q⟩
theorem Ea.pa (X : Cx) (es : List Expr) : PA X es (Ea X es) := ⟨fun pos pins s _ _ _ I h => h pos pins s I⟩
theorem Ea.of {t : TA} {Q : List V → Hp → Prop} (p : PA X es t) (h : t σ H Q) : Ea X es σ H Q := fun pos pins s I => p.run pos pins s σ H Q I h
theorem Ea.mono {Q Q' : List V → Hp → Prop} (h : Ea X es σ H Q) (k : ∀ v H', Q v H' → Q' v H') : Ea X es σ H Q' := fun pos pins s I => thn (h pos pins s I) fun _ _ ⟨v, H', J, r, q⟩ => ⟨v, H', J, r, k v H' q⟩
theorem Es.pss (X : Cx) (st : List Stmt) : PSs X st (Es X st) := ⟨fun pins s _ _ _ I h => h pins s I⟩
theorem Es.of {t : TS} {D : Ends} (p : PSs X st t) (h : t D σ H) : Es X st D σ H := fun pins s I => p.run pins s σ H D I h
end

/-! ### expressions read by data -/
abbrev M := DEnv → (W → Prop) → (Addr → Prop) → Prop
abbrev MB := DEnv → (Bool → Prop) → (Addr → Prop) → Prop
abbrev MA := DEnv → (List W → Prop) → (Addr → Prop) → Prop
def PQ (T : TabL) (F : FB) (H : Hp) (Q : W → Prop) : VK := fun v H' => Gr T H H' ∧ ∃ w, RpW F H' v w ∧ Q w
def PB (T : TabL) (H : Hp) (Q : Bool → Prop) : Bool → Hp → Prop := fun b H' => Gr T H H' ∧ Q b
inductive RpWs (F : FB) (H : Hp) : List V → List W → Prop
  | nil : RpWs F H [] []
  | cons {v : V} {w : W} {vs : List V} {ws : List W} : RpW F H v w → RpWs F H vs ws → RpWs F H (v :: vs) (w :: ws)
theorem RpWs.gr {T : TabL} {F : FB} {H H' : Hp} (g : Gr T H H') : ∀ {vs : List V} {ws : List W}, RpWs F H vs ws → RpWs F H' vs ws
  | _, _, .nil => .nil
  | _, _, .cons r rr => .cons (r.gr g) (rr.gr g)
theorem RpWs.length {F : FB} {H : Hp} : ∀ {vs : List V} {ws : List W}, RpWs F H vs ws → vs.length = ws.length
  | _, _, .nil => rfl
  | _, _, .cons _ rr => by simp [rr.length]
theorem RpWs.get {F : FB} {H : Hp} : ∀ {vs : List V} {ws : List W} {i : Nat} {w : W}, RpWs F H vs ws → ws[i]? = some w → ∃ v, vs[i]? = some v ∧ RpW F H v w
  | _, _, _, _, .nil, e => by simp at e
  | _, _, 0, _, .cons r _, e => by simp at e; subst e; exact ⟨_, rfl, r⟩
  | _, _, i + 1, _, .cons _ rr, e => by
    obtain ⟨v, h, r⟩ := rr.get (i := i) (by simpa using e)
    exact ⟨v, by simpa using h, r⟩
/-- the data of values -/
@[simp] def wd : List PyData → List W := fun ds => ds.map W.val
theorem RpWs.rps {F : FB} {H : Hp} : ∀ {vs : List V} {ds : List PyData}, RpWs F H vs (wd ds) → Rps F H vs ds
  | _, [], h => by cases h; exact .nil
  | _, d :: ds, h => by
    cases h with
    | cons r rr => exact .cons r (RpWs.rps rr)
def PA' (T : TabL) (F : FB) (H : Hp) (Q : List W → Prop) : List V → Hp → Prop := fun vs H' => Gr T H H' ∧ ∃ ws, RpWs F H' vs ws ∧ Q ws
structure EJ (T : TabL) (X : Cx) (E : XK) (e : Expr) (m : M) : Prop where
  run : ∀ (F : FB) (γ : DEnv) (σ : St) (H : Hp) (Q : W → Prop) (R : Addr → Prop), EnvOk T F γ σ H → RzOk T E H R → m γ Q R → Ev X e σ H (PQ T F H Q)
instance {T : TabL} {X : Cx} {E : XK} {e : Expr} {m : M} : CoeFun (EJ T X E e m) (fun _ => ∀ (F : FB) (γ : DEnv) (σ : St) (H : Hp) (Q : W → Prop) (R : Addr → Prop), EnvOk T F γ σ H → RzOk T E H R → m γ Q R → Ev X e σ H (PQ T F H Q)) := ⟨EJ.run⟩
structure TJ (T : TabL) (X : Cx) (E : XK) (e : Expr) (m : MB) : Prop where
  run : ∀ (F : FB) (γ : DEnv) (σ : St) (H : Hp) (Q : Bool → Prop) (R : Addr → Prop), EnvOk T F γ σ H → RzOk T E H R → m γ Q R → Et X e σ H (PB T H Q)
instance {T : TabL} {X : Cx} {E : XK} {e : Expr} {m : MB} : CoeFun (TJ T X E e m) (fun _ => ∀ (F : FB) (γ : DEnv) (σ : St) (H : Hp) (Q : Bool → Prop) (R : Addr → Prop), EnvOk T F γ σ H → RzOk T E H R → m γ Q R → Et X e σ H (PB T H Q)) := ⟨TJ.run⟩
structure AJ (T : TabL) (X : Cx) (E : XK) (es : List Expr) (m : MA) : Prop where
  run : ∀ (F : FB) (γ : DEnv) (σ : St) (H : Hp) (Q : List W → Prop) (R : Addr → Prop), EnvOk T F γ σ H → RzOk T E H R → m γ Q R → Ea X es σ H (PA' T F H Q)
instance {T : TabL} {X : Cx} {E : XK} {es : List Expr} {m : MA} : CoeFun (AJ T X E es m) (fun _ => ∀ (F : FB) (γ : DEnv) (σ : St) (H : Hp) (Q : List W → Prop) (R : Addr → Prop), EnvOk T F γ σ H → RzOk T E H R → m γ Q R → Ea X es σ H (PA' T F H Q)) := ⟨AJ.run⟩
theorem PQ.gr {T : TabL} {F : FB} {H H1 : Hp} {Q : W → Prop} (g : Gr T H H1) {v : V} {H' : Hp} (h : PQ T F H1 Q v H') : PQ T F H Q v H' := ⟨g.trans h.1, h.2⟩
theorem PQ.mk {T : TabL} {F : FB} {H : Hp} {Q : W → Prop} {v : V} {w : W} (r : RpW F H v w) (q : Q w) : PQ T F H Q v H := ⟨Gr.refl _ _, w, r, q⟩
theorem PQ.val {T : TabL} {F : FB} {H : Hp} {Q : W → Prop} {v : V} {d : PyData} (r : Rp F H v d) (q : Q (.val d)) : PQ T F H Q v H := ⟨Gr.refl _ _, .val d, r, q⟩
/-- a new list, a new tuple -/
theorem PQ.newL {T : TabL} {F : FB} {H : Hp} {Q : W → Prop} {p : Addr} {xs : List V} {ds : List PyData} (fok : ∀ a, F a → ∃ xs, H a = some (.lst xs)) (n : H p = none) (r : Rps F H xs ds) (q : Q (.val (.list ds))) : PQ T F H Q (.ref p) (upd H p (.lst xs)) := by
  refine ⟨Gr.new n, .val (.list ds), (.lst (fun z => ?_) upd_same (r.gr (Gr.new (T := T) n)) : Rp F _ (.ref p) (.list ds)), q⟩
  obtain ⟨_, e⟩ := fok p z
  rw [n] at e; cases e
theorem PQ.newT {T : TabL} {F : FB} {H : Hp} {Q : W → Prop} {p : Addr} {xs : List V} {ds : List PyData} (n : H p = none) (r : Rps F H xs ds) (q : Q (.val (.tuple ds))) : PQ T F H Q (.ref p) (upd H p (.tup xs)) :=
  ⟨Gr.new n, .val (.tuple ds), (.tup upd_same (r.gr (Gr.new (T := T) n)) : Rp F _ (.ref p) (.tuple ds)), q⟩

section
variable {T : TabL} {X : Cx} {E : XK} {a b c : Expr} {ma mb mc : M} {pos : Pos}
/-! names, constants -/
@[simp] def mVar (i : Nat) : M := fun γ Q _ => match γ[i]? with
  | some (some (.own _)) => False
  | some (some (.odk kvs)) => Q (.dk kvs)
  | some (some (.odt kvs)) => Q (.dt kvs)
  | some (some w) => Q w
  | _ => False
theorem e_var {i : Nat} {x : Str} (h : PE X (.Name x pos) (tVar i)) : EJ T X E (.Name x pos) (mVar i) := by
  constructor
  intro F γ σ H Q R hE hR hm
  unfold mVar at hm
  split at hm
  · exact hm.elim
  · rename_i e2
    obtain ⟨v, e3, r⟩ := hE.slot i _ e2
    exact Ev.of h ⟨v, e3, PQ.mk (w := .dk _) r hm⟩
  · rename_i e2
    obtain ⟨v, e3, r⟩ := hE.slot i _ e2
    exact Ev.of h ⟨v, e3, PQ.mk (w := .dt _) r hm⟩
  · rename_i w _ _ _ e2
    obtain ⟨v, e3, r⟩ := hE.slot i _ e2
    exact Ev.of h ⟨v, e3, PQ.mk r hm⟩
  · exact hm.elim
@[simp] def mInt (i : Int) : M := fun _ Q _ => Q (.val (.int i))
@[simp] def mBool (b : Bool) : M := fun _ Q _ => Q (.val (.bool b))
@[simp] def mNone : M := fun _ Q _ => Q (.val .none)
@[simp] def mStr (x : Str) : M := fun _ Q _ => Q (.val (.str x))
theorem e_int {i : Int} {j : Nat} : EJ T X E (.Constant (.int i) j pos) (mInt i) := .mk fun F γ σ H Q R hE hR hm => Ev.of pe_int (PQ.val (.int i) hm)
theorem e_bool {i : Bool} {j : Nat} : EJ T X E (.Constant (.bool i) j pos) (mBool i) := .mk fun F γ σ H Q R hE hR hm => Ev.of pe_bl (PQ.val (.bl i) hm)
theorem e_none {j : Nat} : EJ T X E (.Constant .none j pos) mNone := .mk fun F γ σ H Q R hE hR hm => Ev.of pe_non (PQ.val .non hm)
theorem e_str {x : Str} {j : Nat} : EJ T X E (.Constant (.str x) j pos) (mStr x) := .mk fun F γ σ H Q R hE hR hm => Ev.of pe_str (PQ.val (.str x) hm)
/-- a module's int -/
theorem e_globI {x : Str} {i : Int} {t : Tok} (hg : Gl X x) (hm : X.mg x = some (.int i t)) (hd : (x == ("__debug__" : Str)) = false := by decide) : EJ T X E (.Name x pos) (mInt i) := .mk fun F γ σ H Q R hE hR h =>
  Ev.of (pe_glob (v := .int i) hg hm ⟨t, rfl⟩ hd) (PQ.val (.int i) h)

/-! operators -/
def rW (X : Cx) (f : Value → Value → Sem Value) : R2 := fun x y H Q => ∀ (pins : List (Addr × Obj)) (s : Shared) (σ : St) (v u : Value), Inv X pins σ H s → RelV x v → RelV y u → wpAny (model X.prog X.w) X.A (f v u) (EP X pins σ Q) X.xe s
theorem rW_ok (X : Cx) (f : Value → Value → Sem Value) : OpR X f (rW X f) := fun pins s σ H x y v u Q I rx ry h => h pins s σ v u I rx ry
theorem rW.of {f : Value → Value → Sem Value} {r : R2} {x y : V} {H : Hp} {Q : VK} (o : OpR X f r) (h : r x y H Q) : rW X f x y H Q := fun pins s σ v u I rx ry => o pins s σ H x y v u Q I rx ry h
theorem rW.mono {f : Value → Value → Sem Value} {x y : V} {H : Hp} {Q Q' : VK} (h : rW X f x y H Q) (k : ∀ v H', Q v H' → Q' v H') : rW X f x y H Q' := fun pins s σ v u I rx ry => thn (h pins s σ v u I rx ry) fun _ _ ⟨v, H', J, r, q⟩ => ⟨v, H', J, r, k v H' q⟩
abbrev W2 := W → W → (W → Prop) → Prop
def OpW (T : TabL) (X : Cx) (f : Value → Value → Sem Value) (o : W2) : Prop := ∀ (F : FB) (H : Hp) (x y : V) (wx wy : W) (Q : W → Prop), (∀ a, F a → ∃ xs, H a = some (.lst xs)) → RpW F H x wx → RpW F H y wy → o wx wy Q → rW X f x y H (PQ T F H Q)
@[simp] def mBin (o : W2) (ma mb : M) : M := fun γ Q R => ma γ (fun x => mb γ (fun y => o x y Q) R) R
theorem ev2 {ta : TE} {ma mb : M} (ha : EJ T X E a ma) (hb : EJ T X E b mb) {F : FB} {γ : DEnv} {σ : St} {H : Hp} {R : Addr → Prop} {o : W → W → Prop} (hE : EnvOk T F γ σ H) (hR : RzOk T E H R) (hm : ma γ (fun x => mb γ (fun y => o x y) R) R)
    {K : V → V → Hp → Prop} (k : ∀ x y H2 wx wy, Gr T H H2 → RpW F H2 x wx → RpW F H2 y wy → o wx wy → K x y H2) : Ev X a σ H fun x H1 => Ev X b σ H1 fun y H2 => K x y H2 := by
  refine (ha F γ σ H _ R hE hR hm).mono fun x H1 ⟨g1, w1, r1, q1⟩ => ?_
  refine (hb F γ σ H1 _ R (hE.gr g1) (hR.gr g1) q1).mono fun y H2 ⟨g2, w2, r2, q2⟩ => ?_
  exact k x y H2 w1 w2 (g1.trans g2) (r1.gr g2) r2 q2
theorem e_bin {op : Operator} {o : W2} (ho : OpW T X (binaryOp op) o) (ha : EJ T X E a ma) (hb : EJ T X E b mb) : EJ T X E (.BinOp a op b pos) (mBin o ma mb) := by
  constructor
  intro F γ σ H Q R hE hR hm
  refine Ev.of (pe_op (rW_ok X _) (Ev.pe X a) (Ev.pe X b)) (ev2 (ta := Ev X a) ha hb hE hR hm fun x y H2 wx wy g r1 r2 q => ?_)
  exact (ho F H2 x y wx wy Q (hE.gr g).fok r1 r2 q).mono fun v H' h => h.gr g
theorem e_cmp {op : CmpOp} {o : W2} (ho : OpW T X (compareOp op) o) (ha : EJ T X E a ma) (hb : EJ T X E b mb) (hm : behindInMarks op b = false) : EJ T X E (.Compare a [op] [b] pos) (mBin o ma mb) := by
  constructor
  intro F γ σ H Q R hE hR hm'
  refine Ev.of (pe_cmpR (rW_ok X _) (Ev.pe X a) (Ev.pe X b) hm) (ev2 (ta := Ev X a) ha hb hE hR hm' fun x y H2 wx wy g r1 r2 q => ?_)
  exact (ho F H2 x y wx wy Q (hE.gr g).fok r1 r2 q).mono fun v H' h => h.gr g
/-- the truth that a value's data has where it is a bool -/
@[simp] def isB (Q : Bool → Prop) : W → Prop
  | .val (.bool b) => Q b
  | _ => False
@[simp] def mTest (m : M) : MB := fun γ Q R => m γ (isB Q) R
theorem isB.out {F : FB} {H : Hp} {v : V} {w : W} {Q : Bool → Prop} (r : RpW F H v w) (h : isB Q w) : ∃ b, v = .bl b ∧ Q b := by
  cases w with
  | val d =>
    cases d with
    | bool b => cases (show Rp F H v (.bool b) from r); exact ⟨b, rfl, h⟩
    | _ => exact (show False from h).elim
  | _ => exact (show False from h).elim
theorem t_cmp {op : CmpOp} {o : W2} (ho : OpW T X (compareOp op) o) (ha : EJ T X E a ma) (hb : EJ T X E b mb) (hm : behindInMarks op b = false) : TJ T X E (.Compare a [op] [b] pos) (mTest (mBin o ma mb)) := by
  constructor
  intro F γ σ H Q R hE hR hm'
  refine Et.of (pt_cmpR (rW_ok X _) (Ev.pe X a) (Ev.pe X b) hm) (ev2 (ta := Ev X a) ha hb hE hR hm' fun x y H2 wx wy g r1 r2 q => ?_)
  refine (ho F H2 x y wx wy _ (hE.gr g).fok r1 r2 q).mono fun v H' ⟨g', w, r, q'⟩ => ?_
  obtain ⟨k, e, q2⟩ := isB.out r q'
  exact ⟨k, e, g.trans g', q2⟩
/-- a value's truth, where it is a bool: he by fun _ => rfl -/
theorem t_val (h : EJ T X E a ma) (he : ∀ whole, isTrue a X.env whole = (do let v ← whole; standAt a.pos; holding [v] (truthy v)) := by intro _; rfl) : TJ T X E a (mTest ma) := by
  constructor
  intro F γ σ H Q R hE hR hm
  refine Et.of (pt_val (Ev.pe X a) he) ((h F γ σ H _ R hE hR hm).mono fun v H' ⟨g, w, r, q⟩ => ?_)
  obtain ⟨k, e, q2⟩ := isB.out r q
  exact ⟨k, e, g, q2⟩
@[simp] def mNot (m : M) : M := fun γ Q R => m γ (isB fun b => Q (.val (.bool (!b)))) R
theorem e_not (h : EJ T X E a ma) : EJ T X E (.UnaryOp .Not a pos) (mNot ma) := by
  constructor
  intro F γ σ H Q R hE hR hm
  refine Ev.of (pe_not (Ev.pe X a)) ((h F γ σ H _ R hE hR hm).mono fun v H' ⟨g, w, r, q⟩ => ?_)
  obtain ⟨k, e, q2⟩ := isB.out r q
  exact ⟨k, e, g, .val (.bool (!k)), (.bl _ : Rp F H' _ (.bool (!k))), q2⟩
@[simp] def mNotT (m : MB) : MB := fun γ Q R => m γ (fun b => Q (!b)) R
theorem t_not {m : MB} (h : TJ T X E a m) : TJ T X E (.UnaryOp .Not a pos) (mNotT m) := by
  constructor
  intro F γ σ H Q R hE hR hm
  exact Et.of (pt_not (Et.pt X a)) ((h F γ σ H _ R hE hR hm).mono fun v H' q => q)
/-! and, or: of bools -/
@[simp] def mAnd (ma mb : M) : M := fun γ Q R => ma γ (isB fun x => (x = true → mb γ Q R) ∧ (x = false → Q (.val (.bool false)))) R
@[simp] def mOr (ma mb : M) : M := fun γ Q R => ma γ (isB fun x => (x = true → Q (.val (.bool true))) ∧ (x = false → mb γ Q R)) R
theorem e_one {op : BoolOp} (h : EJ T X E a ma) : EJ T X E (.BoolOp op [a] pos) ma := .mk fun F γ σ H Q R hE hR hm => Ev.of (pe_one (Ev.pe X a)) (h F γ σ H Q R hE hR hm)
theorem e_and {rest : List Expr} (ha : EJ T X E a ma) (hb : EJ T X E (.BoolOp .And (b :: rest) pos) mb) : EJ T X E (.BoolOp .And (a :: b :: rest) pos) (mAnd ma mb) := by
  constructor
  intro F γ σ H Q R hE hR hm
  refine Ev.of (pe_and (Ev.pe X a) (Ev.pe X _)) ((ha F γ σ H _ R hE hR hm).mono fun v H' ⟨g, w, r, q⟩ => ?_)
  obtain ⟨k, e, q1, q2⟩ := isB.out r q
  refine ⟨k, e, ?_⟩
  cases k with
  | true => exact iteT ((hb F γ σ H' Q R (hE.gr g) (hR.gr g) (q1 rfl)).mono fun v H2 h => h.gr g)
  | false => exact iteF ⟨g, .val (.bool false), (.bl false : Rp F H' _ (.bool false)), q2 rfl⟩
theorem e_or {rest : List Expr} (ha : EJ T X E a ma) (hb : EJ T X E (.BoolOp .Or (b :: rest) pos) mb) : EJ T X E (.BoolOp .Or (a :: b :: rest) pos) (mOr ma mb) := by
  constructor
  intro F γ σ H Q R hE hR hm
  refine Ev.of (pe_or (Ev.pe X a) (Ev.pe X _)) ((ha F γ σ H _ R hE hR hm).mono fun v H' ⟨g, w, r, q⟩ => ?_)
  obtain ⟨k, e, q1, q2⟩ := isB.out r q
  refine ⟨k, e, ?_⟩
  cases k with
  | true => exact iteT ⟨g, .val (.bool true), (.bl true : Rp F H' _ (.bool true)), q1 rfl⟩
  | false => exact iteF ((hb F γ σ H' Q R (hE.gr g) (hR.gr g) (q2 rfl)).mono fun v H2 h => h.gr g)
/-! .. as tests, whatever the whole is -/
def Ew (X : Cx) (e : Expr) : TT := fun σ H Q => ∀ (whole : Sem Value) (pins : List (Addr × Obj)) (s : Shared), Inv X pins σ H s → wpAny (model X.prog X.w) X.A (isTrue e X.env whole) (TP X pins σ Q) X.xe s
theorem Ew.pw (X : Cx) (e : Expr) : PW X e (Ew X e) := ⟨fun whole pins s _ _ _ I h => h whole pins s I⟩
theorem Ew.of {σ : St} {H : Hp} {e : Expr} {t : TT} {Q : Bool → Hp → Prop} (p : PW X e t) (h : t σ H Q) : Ew X e σ H Q := fun whole pins s I => p.run whole pins s σ H Q I h
theorem Ew.mono {σ : St} {H : Hp} {e : Expr} {Q Q' : Bool → Hp → Prop} (h : Ew X e σ H Q) (k : ∀ v H', Q v H' → Q' v H') : Ew X e σ H Q' := fun whole pins s I => thn (h whole pins s I) fun b _ ⟨H', J, q⟩ => ⟨H', J, k b H' q⟩
structure WJ (T : TabL) (X : Cx) (E : XK) (e : Expr) (m : MB) : Prop where
  run : ∀ (F : FB) (γ : DEnv) (σ : St) (H : Hp) (Q : Bool → Prop) (R : Addr → Prop), EnvOk T F γ σ H → RzOk T E H R → m γ Q R → Ew X e σ H (PB T H Q)
instance {T : TabL} {X : Cx} {E : XK} {e : Expr} {m : MB} : CoeFun (WJ T X E e m) (fun _ => ∀ (F : FB) (γ : DEnv) (σ : St) (H : Hp) (Q : Bool → Prop) (R : Addr → Prop), EnvOk T F γ σ H → RzOk T E H R → m γ Q R → Ew X e σ H (PB T H Q)) := ⟨WJ.run⟩
theorem WJ.t {m : MB} (h : WJ T X E a m) : TJ T X E a m := .mk fun F γ σ H Q R hE hR hm => fun pins s I => h F γ σ H Q R hE hR hm _ pins s I
@[simp] def mAndT (ma mb : MB) : MB := fun γ Q R => ma γ (fun x => (x = true → mb γ Q R) ∧ (x = false → Q false)) R
@[simp] def mOrT (ma mb : MB) : MB := fun γ Q R => ma γ (fun x => (x = true → Q true) ∧ (x = false → mb γ Q R)) R
theorem w_and1 {m : MB} (h : TJ T X E a m) : WJ T X E (.BoolOp .And [a] pos) m := .mk fun F γ σ H Q R hE hR hm => Ew.of (pw_and1 (Et.pt X a)) (h F γ σ H Q R hE hR hm)
theorem w_or1 {m : MB} (h : TJ T X E a m) : WJ T X E (.BoolOp .Or [a] pos) m := .mk fun F γ σ H Q R hE hR hm => Ew.of (pw_or1 (Et.pt X a)) (h F γ σ H Q R hE hR hm)
theorem w_and {rest : List Expr} {ma mb : MB} (ha : TJ T X E a ma) (hb : WJ T X E (.BoolOp .And (b :: rest) pos) mb) : WJ T X E (.BoolOp .And (a :: b :: rest) pos) (mAndT ma mb) := by
  constructor
  intro F γ σ H Q R hE hR hm
  refine Ew.of (pw_and (Et.pt X a) (Ew.pw X _)) ((ha F γ σ H _ R hE hR hm).mono fun k H' ⟨g, q1, q2⟩ => ?_)
  cases k with
  | true => exact iteT ((hb F γ σ H' Q R (hE.gr g) (hR.gr g) (q1 rfl)).mono fun v H2 h => ⟨g.trans h.1, h.2⟩)
  | false => exact iteF ⟨g, q2 rfl⟩
theorem w_or {rest : List Expr} {ma mb : MB} (ha : TJ T X E a ma) (hb : WJ T X E (.BoolOp .Or (b :: rest) pos) mb) : WJ T X E (.BoolOp .Or (a :: b :: rest) pos) (mOrT ma mb) := by
  constructor
  intro F γ σ H Q R hE hR hm
  refine Ew.of (pw_or (Et.pt X a) (Ew.pw X _)) ((ha F γ σ H _ R hE hR hm).mono fun k H' ⟨g, q1, q2⟩ => ?_)
  cases k with
  | true => exact iteT ⟨g, q1 rfl⟩
  | false => exact iteF ((hb F γ σ H' Q R (hE.gr g) (hR.gr g) (q2 rfl)).mono fun v H2 h => ⟨g.trans h.1, h.2⟩)
/-! a if c else b -/
@[simp] def mIf (mc : MB) (ma mb : M) : M := fun γ Q R => mc γ (fun x => (x = true → ma γ Q R) ∧ (x = false → mb γ Q R)) R
theorem e_if {m : MB} (hc : TJ T X E c m) (ha : EJ T X E a ma) (hb : EJ T X E b mb) : EJ T X E (.IfExp c a b pos) (mIf m ma mb) := by
  constructor
  intro F γ σ H Q R hE hR hm
  refine Ev.of (pe_ifExp (Et.pt X c) (Ev.pe X a) (Ev.pe X b)) ((hc F γ σ H _ R hE hR hm).mono fun k H' ⟨g, q1, q2⟩ => ?_)
  cases k with
  | true => exact iteT ((ha F γ σ H' Q R (hE.gr g) (hR.gr g) (q1 rfl)).mono fun v H2 h => h.gr g)
  | false => exact iteF ((hb F γ σ H' Q R (hE.gr g) (hR.gr g) (q2 rfl)).mono fun v H2 h => h.gr g)
/-! a op b op' c -/
@[simp] def mChain (o o' : W2) (ma mb mc : M) : M := fun γ Q R => ma γ (fun x => mb γ (fun y => o x y (isB fun k => (k = true → mc γ (fun z => o' y z Q) R) ∧ (k = false → Q (.val (.bool false))))) R) R
theorem chain_core {op op' : CmpOp} {o o' : W2} (ho : OpW T X (compareOp op) o) (ho' : OpW T X (compareOp op') o') (ha : EJ T X E a ma) (hb : EJ T X E b mb) (hc : EJ T X E c mc) {F : FB} {γ : DEnv} {σ : St} {H : Hp} {Q : W → Prop} {R : Addr → Prop} (hE : EnvOk T F γ σ H) (hR : RzOk T E H R)
    (hm : mChain o o' ma mb mc γ Q R) : tChain (rW X (compareOp op)) (rW X (compareOp op')) (Ev X a) (Ev X b) (Ev X c) σ H (PQ T F H Q) := by
  refine ev2 (ta := Ev X a) ha hb hE hR hm fun x y H2 wx wy g r1 r2 q => ?_
  refine (ho F H2 x y wx wy _ (hE.gr g).fok r1 r2 q).mono fun v H3 ⟨g3, w, r, q'⟩ => ?_
  obtain ⟨k, e, q3, q4⟩ := isB.out r q'
  refine ⟨k, e, ?_⟩
  have g13 := g.trans g3
  cases k with
  | true =>
    refine iteT ((hc F γ σ H3 _ R (hE.gr g13) (hR.gr g13) (q3 rfl)).mono fun z H4 ⟨g4, w4, r4, q5⟩ => ?_)
    exact (ho' F H4 y z wy w4 Q (hE.gr (g13.trans g4)).fok (r2.gr (g3.trans g4)) r4 q5).mono fun v H' h => h.gr (g13.trans g4)
  | false => exact iteF ⟨g13, .val (.bool false), (.bl false : Rp F H3 _ (.bool false)), q4 rfl⟩
theorem e_chain {op op' : CmpOp} {o o' : W2} (ho : OpW T X (compareOp op) o) (ho' : OpW T X (compareOp op') o') (ha : EJ T X E a ma) (hb : EJ T X E b mb) (hc : EJ T X E c mc) (hm : lastMarks [op, op'] [b, c] = false := by with_unfolding_all rfl) :
    EJ T X E (.Compare a [op, op'] [b, c] pos) (mChain o o' ma mb mc) := .mk fun F γ σ H Q R hE hR h =>
  Ev.of (pe_chain (rW_ok X _) (rW_ok X _) (Ev.pe X a) (Ev.pe X b) (Ev.pe X c) hm) (chain_core ho ho' ha hb hc hE hR h)
/-! argument lists -/
@[simp] def maNil : MA := fun _ Q _ => Q []
@[simp] def maCons (ma : M) (mr : MA) : MA := fun γ Q R => ma γ (fun x => mr γ (fun xs => Q (x :: xs)) R) R
theorem a_nil : AJ T X E [] maNil := .mk fun F γ σ H Q R hE hR hm => Ea.of pa_nil ⟨Gr.refl _ _, [], .nil, hm⟩
theorem a_cons {es : List Expr} {mr : MA} (ha : EJ T X E a ma) (hr : AJ T X E es mr) (hs : starEach (a :: es) X.env = (false, eval a X.env) :: starEach es X.env := by rfl) : AJ T X E (a :: es) (maCons ma mr) := by
  constructor
  intro F γ σ H Q R hE hR hm
  refine Ea.of (pa_cons (Ev.pe X a) (Ea.pa X es) hs) ((ha F γ σ H _ R hE hR hm).mono fun x H1 ⟨g1, w1, r1, q1⟩ => ?_)
  refine (hr F γ σ H1 _ R (hE.gr g1) (hR.gr g1) q1).mono fun xs H2 ⟨g2, ws, r2, q2⟩ => ?_
  exact ⟨g1.trans g2, _, .cons (r1.gr g2) r2, q2⟩
/-- all of them data -/
@[simp] def vals? : List W → Option (List PyData)
  | [] => some []
  | .val d :: ws => (vals? ws).map (d :: ·)
  | _ :: _ => none
theorem vals_wd : ∀ {ws : List W} {ds : List PyData}, vals? ws = some ds → ws = wd ds
  | [], _, h => by cases h; rfl
  | .val d :: ws, ds, h => by
    rw [vals?] at h
    cases e : vals? ws with
    | none => rw [e] at h; cases h
    | some es => rw [e] at h; cases h; rw [vals_wd e]; rfl
  | .own _ :: _, _, h => by cases h
  | .dk _ :: _, _, h => by cases h
  | .dt _ :: _, _, h => by cases h
  | .odk _ :: _, _, h => by cases h
  | .odt _ :: _, _, h => by cases h
  | .src :: _, _, h => by cases h
  | .scr _ _ :: _, _, h => by cases h
@[simp] def onV (k : List PyData → Prop) : List W → Prop := fun ws => match vals? ws with
  | some ds => k ds
  | none => False
theorem onV.out {F : FB} {H : Hp} {vs : List V} {ws : List W} {k : List PyData → Prop} (r : RpWs F H vs ws) (h : onV k ws) : ∃ ds, Rps F H vs ds ∧ k ds := by
  unfold onV at h
  split at h
  · rename_i ds e
    rw [vals_wd e] at r
    exact ⟨ds, r.rps, h⟩
  · exact h.elim
/-! displays -/
@[simp] def mTup (m : MA) : M := fun γ Q R => m γ (onV fun ds => ds.length ≤ 1000 ∧ Q (.val (.tuple ds))) R
@[simp] def mLst (m : MA) : M := fun γ Q R => m γ (onV fun ds => ds.length ≤ 1000 ∧ Q (.val (.list ds))) R
theorem e_tup {es : List Expr} {k : Nat} {m : MA} (h : AJ T X E es m) : EJ T X E (.Tuple es k pos) (mTup m) := by
  constructor
  intro F γ σ H Q R hE hR hm
  refine Ev.of (pe_tup (Ea.pa X es)) ((h F γ σ H _ R hE hR hm).mono fun vs H1 ⟨g, ws, r, q⟩ => ?_)
  obtain ⟨ds, rr, z, q⟩ := onV.out r q
  exact ⟨by rw [rr.length]; exact Nat.le_trans z (by decide), fun p n => (PQ.newT (T := T) n rr q).gr g⟩
theorem e_lst {es : List Expr} {m : MA} (h : AJ T X E es m) : EJ T X E (.List es pos) (mLst m) := by
  constructor
  intro F γ σ H Q R hE hR hm
  refine Ev.of (pe_lst (Ea.pa X es)) ((h F γ σ H _ R hE hR hm).mono fun vs H1 ⟨g, ws, r, q⟩ => ?_)
  obtain ⟨ds, rr, z, q⟩ := onV.out r q
  exact ⟨by rw [rr.length]; exact Nat.le_trans z (by decide), fun p n => (PQ.newL (T := T) (hE.gr g).fok n rr q).gr g⟩
end
end GJ

/-! G3: operators by data. -/
namespace GJ
open PySem PySem.Spec PyProof.Rows L2

theorem Rp.lstI {F : FB} {H : Hp} {v : V} {ds : List PyData} (r : Rp F H v (.list ds)) : ∃ a xs, v = .ref a ∧ ¬ F a ∧ H a = some (.lst xs) ∧ Rps F H xs ds := by
  cases r with
  | lst n e rr => exact ⟨_, _, rfl, n, e, rr⟩
theorem Rp.tupI {F : FB} {H : Hp} {v : V} {ds : List PyData} (r : Rp F H v (.tuple ds)) : ∃ a xs, v = .ref a ∧ H a = some (.tup xs) ∧ Rps F H xs ds := by
  cases r with
  | tup e rr => exact ⟨_, _, rfl, e, rr⟩
theorem Rps.nil_iff {F : FB} {H : Hp} {vs : List V} {ds : List PyData} (r : Rps F H vs ds) : vs = [] ↔ ds = [] := by
  cases r with
  | nil => simp
  | cons _ _ => simp
theorem Rps.ints {F : FB} {H : Hp} : ∀ {ns : List Int} {vs : List V}, Rps F H vs (ns.map .int) → vs = ns.map V.int
  | [], _, h => by cases h; rfl
  | n :: ns, _, h => by
    cases h with
    | cons h1 h2 => cases h1; rw [Rps.ints h2]; rfl
theorem Rps.of_ints {F : FB} {H : Hp} : ∀ (ns : List Int), Rps F H (ns.map V.int) (ns.map .int)
  | [] => .nil
  | n :: ns => .cons (.int n) (Rps.of_ints ns)
theorem Rps.bools {F : FB} {H : Hp} : ∀ {bs : List Bool} {vs : List V}, Rps F H vs (bs.map .bool) → vs = bs.map V.bl
  | [], _, h => by cases h; rfl
  | n :: ns, _, h => by
    cases h with
    | cons h1 h2 => cases h1; rw [Rps.bools h2]; rfl

/-! ### readers of one shape -/
/-- ints of data -/
@[simp] def ints? : List PyData → Option (List Int)
  | [] => some []
  | .int i :: ds => (ints? ds).map (i :: ·)
  | _ :: _ => none
theorem ints_map : ∀ {ds : List PyData} {ns : List Int}, ints? ds = some ns → ds = ns.map .int
  | [], _, h => by cases h; rfl
  | d :: ds, ns, h => by
    cases d with
    | int i =>
      rw [ints?] at h
      cases e : ints? ds with
      | none => rw [e] at h; cases h
      | some ms => rw [e] at h; cases h; rw [ints_map e]; rfl
    | _ => cases h
theorem ints_of : ∀ (ns : List Int), ints? (ns.map .int) = some ns
  | [] => rfl
  | n :: ns => by rw [List.map_cons, ints?, ints_of ns]; rfl
@[simp] def bools? : List PyData → Option (List Bool)
  | [] => some []
  | .bool i :: ds => (bools? ds).map (i :: ·)
  | _ :: _ => none
theorem bools_map : ∀ {ds : List PyData} {ns : List Bool}, bools? ds = some ns → ds = ns.map .bool
  | [], _, h => by cases h; rfl
  | d :: ds, ns, h => by
    cases d with
    | bool i =>
      rw [bools?] at h
      cases e : bools? ds with
      | none => rw [e] at h; cases h
      | some ms => rw [e] at h; cases h; rw [bools_map e]; rfl
    | _ => cases h
theorem bools_of : ∀ (ns : List Bool), bools? (ns.map .bool) = some ns
  | [] => rfl
  | n :: ns => by rw [List.map_cons, bools?, bools_of ns]; rfl
@[simp] def flatD : PyData → Bool
  | .none => true
  | .bool _ => true
  | .int _ => true
  | .str _ => true
  | _ => false
theorem flat_V {F : FB} {H : Hp} {v : V} {d : PyData} (r : Rp F H v d) (h : flatD d = true) : flatV v = true := by
  cases r <;> first | rfl | cases h
theorem flats_V {F : FB} {H : Hp} : ∀ {ds : List PyData} {vs : List V}, Rps F H vs ds → ds.all flatD = true → vs.all flatV = true
  | [], _, r, _ => by cases r; rfl
  | d :: ds, _, r, h => by
    cases r with
    | cons r1 r2 =>
      rw [List.all_cons, Bool.and_eq_true] at h ⊢
      exact ⟨flat_V r1 h.1, flats_V r2 h.2⟩
theorem eqV_D {F : FB} {H : Hp} {v u : V} {d e : PyData} (r : Rp F H v d) (q : Rp F H u e) (h : flatD d = true) (k : flatD e = true) : eqV v u = PyData.eqv d e := by
  cases r <;> first
    | (cases h; done)
    | (cases q <;> first
        | (cases k; done)
        | (simp [eqV, PyData.eqv]; done)
        | (rename_i a b; cases a <;> cases b <;> simp [eqV, PyData.eqv]))

section
variable {T : TabL} {X : Cx} {E : XK}
/-! ### arithmetic -/
def SzOk (n : Nat) : Prop := n ≤ 16000000
theorem SzOk.le {n : Nat} (h : SzOk n) : n ≤ sizeLine := by rw [sizeLine_eq]; unfold SzOk at h; omega
def MulOk (i j : Int) : Prop := i.natAbs.log2 + j.natAbs.log2 < 1000000
def DivOk (j : Int) : Prop := 0 < j ∧ j.natAbs.log2 < 9000
@[simp] def addW : W2 := fun x y Q => match x, y with
  | .val (.int i), .val (.int j) => Q (.val (.int (i + j)))
  | .val (.list a), .val (.list b) => SzOk (a.length + b.length) ∧ Q (.val (.list (a ++ b)))
  | .val (.tuple a), .val (.tuple b) => SzOk (a.length + b.length) ∧ Q (.val (.tuple (a ++ b)))
  | .val (.str a), .val (.str b) => SzOk (a.length + b.length) ∧ Q (.val (.str (a ++ b)))
  | _, _ => False
theorem o_add : OpW T X (binaryOp .Add) addW := by
  intro F H x y wx wy Q fok rx ry h
  unfold addW at h
  split at h
  · cases rx; cases ry
    exact rW.of op_add ⟨_, _, rfl, rfl, PQ.val (.int _) h⟩
  · rename_i as bs
    obtain ⟨a, xs, rfl, _, ea, ra⟩ := Rp.lstI rx
    obtain ⟨b, ys, rfl, _, eb, rb⟩ := Rp.lstI ry
    refine rW.of op_cat ⟨a, b, xs, ys, rfl, rfl, ea, eb, ?_, fun p n => PQ.newL fok n (ra.append rb) h.2⟩
    rw [ra.length, rb.length]; exact h.1.le
  · rename_i as bs
    obtain ⟨a, xs, rfl, ea, ra⟩ := Rp.tupI rx
    obtain ⟨b, ys, rfl, eb, rb⟩ := Rp.tupI ry
    have hz : xs.length + ys.length ≤ sizeLine := by rw [ra.length, rb.length]; exact h.1.le
    by_cases hx : xs = []
    · have he : as = [] := ra.nil_iff.mp hx
      subst he
      intro pins s σ v u I rv ru
      cases rv
      cases ru
      obtain ⟨its, r1, p1, _⟩ := I.tuple (SqT.of ea)
      obtain ⟨its2, r2, p2, _⟩ := I.tuple (SqT.of eb)
      obtain ⟨⟨cls, dd, data, sl⟩, ho, hc, n, hd⟩ := id p1
      obtain ⟨⟨cls2, dd2, data2, sl2⟩, ho2, hc2, n2, hd2⟩ := id p2
      simp only at hc hd hc2 hd2
      subst hc hd hc2 hd2
      have hi : its = [] := r1.nil_iff.mpr hx
      refine concat_meets ⟨_, ho, rfl⟩ ⟨_, ho2, rfl⟩ noFill_tuple_add seq_tuple_add PySem.F.slot_tuple_add PySem.F.entry_tuple_add (PySem.F.args_tuple_add_2 _ _)
        (tuple_addW0 a b its.toArray its2.toArray n n2 dd dd2 sl sl2 (by simp [hi])) ⟨ho, ho2, ?_⟩
      exact ⟨.ref b, H, I, rfl, PQ.val (.tup eb rb) h.2⟩
    · refine rW.of op_catT ⟨a, b, xs, ys, rfl, rfl, SqT.of ea, SqT.of eb, hx, hz, fun hy => ?_, fun hy p n => PQ.newT n (ra.append rb) h.2⟩
      have he : bs = [] := rb.nil_iff.mp hy
      subst he
      refine PQ.val (.tup ea ra) ?_
      have q := h.2
      rw [List.append_nil] at q
      exact q
  · cases rx; cases ry
    exact rW.of op_add_str ⟨_, _, rfl, rfl, h.1.le, PQ.val (.str _) h.2⟩
  · exact h.elim
@[simp] def subW : W2 := fun x y Q => match x, y with
  | .val (.int i), .val (.int j) => Q (.val (.int (i - j)))
  | .val (.bool i), .val (.bool j) => Q (.val (.int ((if i then 1 else 0) - (if j then 1 else 0))))
  | _, _ => False
theorem o_sub : OpW T X (binaryOp .Sub) subW := by
  intro F H x y wx wy Q fok rx ry h
  unfold subW at h
  split at h
  · cases rx; cases ry
    exact rW.of op_sub ⟨_, _, rfl, rfl, PQ.val (.int _) h⟩
  · cases rx; cases ry
    intro pins s σ v u I rv ru
    cases rv
    cases ru
    exact sub_bool ⟨.int _, H, I.tok _, ⟨_, rfl⟩, PQ.val (.int _) h⟩
  · exact h.elim
@[simp] def mulW : W2 := fun x y Q => match x, y with
  | .val (.int i), .val (.int j) => MulOk i j ∧ Q (.val (.int (i * j)))
  | .val (.list a), .val (.int k) => (-1000000 ≤ k ∧ k < 1000000) ∧ SzOk (a.length * k.toNat) ∧ Q (.val (.list (List.replicate k.toNat a).flatten))
  | _, _ => False
theorem Rps.rep {F : FB} {H : Hp} {vs : List V} {ds : List PyData} (r : Rps F H vs ds) : ∀ k : Nat, Rps F H (List.replicate k vs).flatten (List.replicate k ds).flatten
  | 0 => .nil
  | k + 1 => by
    rw [List.replicate_succ, List.replicate_succ, List.flatten_cons, List.flatten_cons]
    exact r.append (Rps.rep r k)
theorem o_mul : OpW T X (binaryOp .Mult) mulW := by
  intro F H x y wx wy Q fok rx ry h
  unfold mulW at h
  split at h
  · cases rx; cases ry
    exact rW.of op_mulW ⟨_, _, rfl, rfl, h.1, PQ.val (.int _) h.2⟩
  · rename_i as k
    obtain ⟨a, xs, rfl, _, ea, ra⟩ := Rp.lstI rx
    cases ry
    refine rW.of op_rep ⟨a, k, xs, rfl, rfl, ea, by omega, by omega, ?_, fun p n => PQ.newL fok n (ra.rep _) h.2.2⟩
    rw [ra.length]; exact h.2.1.le
  · exact h.elim
@[simp] def fdivW : W2 := fun x y Q => match x, y with
  | .val (.int i), .val (.int j) => DivOk j ∧ Q (.val (.int (i / j)))
  | _, _ => False
theorem o_fdiv : OpW T X (binaryOp .FloorDiv) fdivW := by
  intro F H x y wx wy Q fok rx ry h
  unfold fdivW at h
  split at h
  · cases rx; cases ry
    exact rW.of op_fdivW ⟨_, _, rfl, rfl, h.1, PQ.val (.int _) h.2⟩
  · exact h.elim
@[simp] def modW : W2 := fun x y Q => match x, y with
  | .val (.int i), .val (.int j) => 0 < j ∧ Q (.val (.int (i % j)))
  | _, _ => False
theorem o_mod : OpW T X (binaryOp .Mod) modW := by
  intro F H x y wx wy Q fok rx ry h
  unfold modW at h
  split at h
  · cases rx; cases ry
    exact rW.of op_mod ⟨_, _, rfl, rfl, h.1, PQ.val (.int _) h.2⟩
  · exact h.elim
@[simp] def powW : W2 := fun x y Q => match x, y with
  | .val (.int i), .val (.int j) => CPow i j ∧ Q (.val (.int (i ^ j.toNat)))
  | _, _ => False
theorem o_pow : OpW T X (binaryOp .Pow) powW := by
  intro F H x y wx wy Q fok rx ry h
  unfold powW at h
  split at h
  · cases rx; cases ry
    exact rW.of op_pow ⟨_, _, rfl, rfl, h.1, PQ.val (.int _) h.2⟩
  · exact h.elim
@[simp] def mNeg (m : M) : M := fun γ Q R => m γ (fun x => match x with
  | .val (.int i) => Q (.val (.int (-i)))
  | _ => False) R
theorem e_neg {a : Expr} {pos : Pos} {ma : M} (h : EJ T X E a ma) : EJ T X E (.UnaryOp .USub a pos) (mNeg ma) := by
  constructor
  intro F γ σ H Q R hE hR hm
  refine Ev.of (pe_un un_neg (Ev.pe X a)) ((h F γ σ H _ R hE hR hm).mono fun v H' ⟨g, w, r, q⟩ => ?_)
  cases w with
  | val d =>
    cases d with
    | int i => cases r; exact ⟨i, rfl, g, .val (.int (-i)), (.int _ : Rp F H' _ (.int (-i))), q⟩
    | _ => exact q.elim
  | _ => exact q.elim

/-! ### comparisons -/
@[simp] def cmpI (p : Int → Int → Bool) : W2 := fun x y Q => match x, y with
  | .val (.int i), .val (.int j) => Q (.val (.bool (p i j)))
  | _, _ => False
theorem o_cmpI {f : Value → Value → Sem Value} {p : Int → Int → Bool} (o : OpR X f (rI0 fun i j => .bl (p i j))) : OpW T X f (cmpI p) := by
  intro F H x y wx wy Q fok rx ry h
  unfold cmpI at h
  split at h
  · cases rx; cases ry
    exact rW.of o ⟨_, _, rfl, rfl, PQ.val (.bl _) h⟩
  · exact h.elim
/-- a < b: ints, texts, tuples of ints -/
@[simp] def ltW : W2 := fun x y Q => match x, y with
  | .val (.int i), .val (.int j) => Q (.val (.bool (decide (i < j))))
  | .val (.tuple a), .val (.tuple b) => match ints? a, ints? b with
    | some ns, some ms => Q (.val (.bool (HT.lexLt ns ms)))
    | _, _ => False
  | _, _ => False
theorem o_lt (hu : X.A.units + 100 < cLine) : OpW T X (compareOp .Lt) ltW := by
  intro F H x y wx wy Q fok rx ry h
  unfold ltW at h
  split at h
  · cases rx; cases ry
    exact rW.of op_lt ⟨_, _, rfl, rfl, PQ.val (.bl _) h⟩
  · rename_i as bs
    split at h
    · rename_i ns ms e1 e2
      rw [ints_map e1] at rx
      rw [ints_map e2] at ry
      obtain ⟨a, xs, rfl, ea, ra⟩ := Rp.tupI rx
      obtain ⟨b, ys, rfl, eb, rb⟩ := Rp.tupI ry
      rw [ra.ints] at ea
      rw [rb.ints] at eb
      exact rW.of (op_ltT (by omega)) ⟨a, b, ns, ms, rfl, rfl, SqT.of ea, SqT.of eb, PQ.val (.bl _) h⟩
    · exact h.elim
  · exact h.elim
theorem o_le : OpW T X (compareOp .LtE) (cmpI fun i j => decide (i ≤ j)) := o_cmpI op_le
theorem o_gt : OpW T X (compareOp .Gt) (cmpI fun i j => decide (j < i)) := o_cmpI op_gt
theorem o_ge : OpW T X (compareOp .GtE) (cmpI fun i j => decide (j ≤ i)) := o_cmpI op_ge
/-- what == asks of two data -/
def EqOk (d e : PyData) : Prop := d.canLay0 = true ∧ e.canLay0 = true ∧ min d.depth e.depth ≤ 60
@[simp] def eqW : W2 := fun x y Q => match x, y with
  | .val d, .val e => EqOk d e ∧ Q (.val (.bool (PyData.eqv d e)))
  | _, _ => False
@[simp] def neW : W2 := fun x y Q => match x, y with
  | .val d, .val e => EqOk d e ∧ Q (.val (.bool (!PyData.eqv d e)))
  | _, _ => False
theorem o_eq (hu : X.A.units + 100 < cLine) : OpW T X (compareOp .Eq) eqW := by
  intro F H x y wx wy Q fok rx ry h
  unfold eqW at h
  split at h
  · intro pins s σ v u I rv ru
    obtain ⟨as, r1⟩ := Dp.reads I _ x v (Rp.dp _ _ rx) rv
    obtain ⟨bs, r2⟩ := Dp.reads I _ y u (Rp.dp _ _ ry) ru
    exact SeqAt.compareEq_reads r1 r2 h.1.1 h.1.2.1 (by have := h.1.2.2; omega) ⟨.bl _, H, I, rfl, PQ.val (.bl _) h.2⟩
  · exact h.elim
theorem o_ne (hu : X.A.units + 100 < cLine) : OpW T X (compareOp .NotEq) neW := by
  intro F H x y wx wy Q fok rx ry h
  unfold neW at h
  split at h
  · intro pins s σ v u I rv ru
    obtain ⟨as, r1⟩ := Dp.reads I _ x v (Rp.dp _ _ rx) rv
    obtain ⟨bs, r2⟩ := Dp.reads I _ y u (Rp.dp _ _ ry) ru
    exact SeqAt.compareNe_reads r1 r2 h.1.1 h.1.2.1 (by have := h.1.2.2; omega) ⟨.bl _, H, I, rfl, PQ.val (.bl _) h.2⟩
  · exact h.elim
@[simp] def isN : PyData → Bool
  | .none => true
  | _ => false
@[simp] def isW : W2 := fun x y Q => match x, y with
  | .val d, .val .none => Q (.val (.bool (isN d)))
  | _, _ => False
@[simp] def isNotW : W2 := fun x y Q => match x, y with
  | .val d, .val .none => Q (.val (.bool (!isN d)))
  | _, _ => False
theorem isN_iff {F : FB} {H : Hp} {v : V} {d : PyData} (r : Rp F H v d) : decide (v = .non) = isN d := by
  cases r <;> simp [isN]
theorem o_is : OpW T X (compareOp .Is) isW := by
  intro F H x y wx wy Q fok rx ry h
  unfold isW at h
  split at h
  · cases ry
    refine rW.of op_isN ⟨rfl, ?_⟩
    rw [isN_iff rx]
    exact PQ.val (.bl _) h
  · exact h.elim
theorem o_isNot : OpW T X (compareOp .IsNot) isNotW := by
  intro F H x y wx wy Q fok rx ry h
  unfold isNotW at h
  split at h
  · cases ry
    refine rW.of op_notN ⟨rfl, ?_⟩
    rw [isN_iff rx]
    exact PQ.val (.bl _) h
  · exact h.elim
/-- x in a list, a tuple -/
def InOk (d : PyData) (ds : List PyData) : Prop := PyData.canLayAll0 ds = true ∧ d.canLay0 = true ∧ min (PyData.depthAll ds) d.depth ≤ 60
def inD (d : PyData) (ds : List PyData) : Bool := ds.any fun y => PyData.eqv y d
@[simp] def inW : W2 := fun x y Q => match x, y with
  | .val d, .val (.list ds) => InOk d ds ∧ Q (.val (.bool (inD d ds)))
  | .val d, .val (.tuple ds) => InOk d ds ∧ Q (.val (.bool (inD d ds)))
  | _, _ => False
@[simp] def notInW : W2 := fun x y Q => match x, y with
  | .val d, .val (.list ds) => InOk d ds ∧ Q (.val (.bool (!inD d ds)))
  | .val d, .val (.tuple ds) => InOk d ds ∧ Q (.val (.bool (!inD d ds)))
  | _, _ => False
theorem o_in (hu : X.A.units + 100 < cLine) : OpW T X (compareOp .In) inW := by
  intro F H x y wx wy Q fok rx ry h
  unfold inW at h
  split at h
  · intro pins s σ v u I rv ru
    obtain ⟨as, r1⟩ := Dp.reads I _ x v (Rp.dp _ _ rx) rv
    obtain ⟨bs, r2⟩ := Dp.reads I _ y u (Rp.dp _ _ ry) ru
    exact SeqAt.in_list_reads r2 r1 h.1.1 h.1.2.1 (by have := h.1.2.2; omega) ⟨.bl _, H, I, rfl, PQ.val (.bl _) h.2⟩
  · intro pins s σ v u I rv ru
    obtain ⟨as, r1⟩ := Dp.reads I _ x v (Rp.dp _ _ rx) rv
    obtain ⟨bs, r2⟩ := Dp.reads I _ y u (Rp.dp _ _ ry) ru
    exact SeqAt.in_tuple_reads r2 r1 h.1.1 h.1.2.1 (by have := h.1.2.2; omega) ⟨.bl _, H, I, rfl, PQ.val (.bl _) h.2⟩
  · exact h.elim
theorem o_notIn (hu : X.A.units + 100 < cLine) : OpW T X (compareOp .NotIn) notInW := by
  intro F H x y wx wy Q fok rx ry h
  unfold notInW at h
  split at h
  · intro pins s σ v u I rv ru
    obtain ⟨as, r1⟩ := Dp.reads I _ x v (Rp.dp _ _ rx) rv
    obtain ⟨bs, r2⟩ := Dp.reads I _ y u (Rp.dp _ _ ry) ru
    exact SeqAt.notIn_list_reads r2 r1 h.1.1 h.1.2.1 (by have := h.1.2.2; omega) ⟨.bl _, H, I, rfl, PQ.val (.bl _) h.2⟩
  · intro pins s σ v u I rv ru
    obtain ⟨as, r1⟩ := Dp.reads I _ x v (Rp.dp _ _ rx) rv
    obtain ⟨bs, r2⟩ := Dp.reads I _ y u (Rp.dp _ _ ry) ru
    exact SeqAt.notIn_tuple_reads r2 r1 h.1.1 h.1.2.1 (by have := h.1.2.2; omega) ⟨.bl _, H, I, rfl, PQ.val (.bl _) h.2⟩
  · exact h.elim

/-! ### subscripts -/
theorem Rps.atI {F : FB} {H : Hp} {vs : List V} {ds : List PyData} {i : Int} {d : PyData} (r : Rps F H vs ds) (e : L2.atI ds i = some d) : ∃ v, L2.atI vs i = some v ∧ Rp F H v d := by
  unfold L2.atI at e ⊢
  rw [r.length]
  cases q : ixN ds.length i with
  | none => rw [q] at e; cases e
  | some j =>
    rw [q] at e
    exact r.get e
/-- what an index of a list, a tuple gives -/
@[simp] def ixD (o i : W) (Q : W → Prop) : Prop := match o, i with
  | .val (.list ds), .val (.int i) => match L2.atI ds i with
    | some d => Q (.val d)
    | none => False
  | .val (.tuple ds), .val (.int i) => match L2.atI ds i with
    | some d => Q (.val d)
    | none => False
  | _, _ => False
theorem ix_core {F : FB} {H : Hp} {x y : V} {wx wy : W} {Q : W → Prop} (rx : RpW F H x wx) (ry : RpW F H y wy) (h : ixD wx wy Q) : rIx X.K x y H (PQ T F H Q) := by
  unfold ixD at h
  split at h
  · split at h
    · rename_i e
      obtain ⟨a, xs, rfl, _, ea, ra⟩ := Rp.lstI rx
      cases ry
      obtain ⟨v, ev, rv⟩ := ra.atI e
      exact .inl ⟨a, xs, _, v, rfl, rfl, SqL.of ea, ev, PQ.val rv h⟩
    · exact h.elim
  · split at h
    · rename_i e
      obtain ⟨a, xs, rfl, ea, ra⟩ := Rp.tupI rx
      cases ry
      obtain ⟨v, ev, rv⟩ := ra.atI e
      exact .inr (.inl ⟨a, xs, _, v, rfl, rfl, SqT.of ea, ev, PQ.val rv h⟩)
    · exact h.elim
  · exact h.elim
theorem e_ix {a b : Expr} {ma mb : M} {pos : Pos} (ha : EJ T X E a ma) (hb : EJ T X E b mb) (hs : PlainIx b := by intro _ _; rfl) : EJ T X E (.Subscript a b pos) (mBin ixD ma mb) := by
  constructor
  intro F γ σ H Q R hE hR hm
  refine Ev.of (pe_ix ix_seq (Ev.pe X a) (Ev.pe X b) hs) (ev2 (ta := Ev X a) ha hb hE hR hm fun x y H2 wx wy g r1 r2 q => ?_)
  have z := ix_core (T := T) (X := X) r1 r2 q
  rcases z with ⟨p, xs, i, v, e1, e2, e3, e4, e5⟩ | ⟨p, xs, i, v, e1, e2, e3, e4, e5⟩ | ⟨p, xs, i, e1, e2, e3, e4, e5⟩
  · exact .inl ⟨p, xs, i, v, e1, e2, e3, e4, e5.gr g⟩
  · exact .inr (.inl ⟨p, xs, i, v, e1, e2, e3, e4, e5.gr g⟩)
  · exact .inr (.inr ⟨p, xs, i, e1, e2, e3, e4, e5.gr g⟩)
/-- an item of a list of the def's own -/
@[simp] def mOwnIx (i : Nat) (mb : M) : M := fun γ Q R => match γ[i]? with
  | some (some (.own ds)) => mb γ (fun y => match y with
    | .val (.int k) => (match L2.atI ds k with
      | some d => Q (.val d)
      | none => False)
    | _ => False) R
  | _ => False
theorem e_ownIx {i : Nat} {x : Str} {b : Expr} {mb : M} {pos p1 : Pos} (hv : PE X (.Name x p1) (tVar i)) (hb : EJ T X E b mb) (hs : PlainIx b := by intro _ _; rfl) : EJ T X E (.Subscript (.Name x p1) b pos) (mOwnIx i mb) := by
  constructor
  intro F γ σ H Q R hE hR hm
  unfold mOwnIx at hm
  split at hm
  · rename_i ds e
    obtain ⟨v, hs', l, xs, rfl, fl, el, rl⟩ := hE.slot i _ e
    refine Ev.of (pe_ix ix_list hv (Ev.pe X b) hs) ⟨.ref l, hs', ?_⟩
    refine (hb F γ σ H _ R hE hR hm).mono fun y H1 ⟨g, wy, ry, q⟩ => ?_
    dsimp only at q
    split at q
    · split at q
      · rename_i ed
        cases ry
        obtain ⟨v, ev, rv⟩ := rl.atI ed
        exact ⟨l, xs, _, v, rfl, rfl, SqL.of (g.lst el), ev, g, .val _, rv.gr g, q⟩
      · exact q.elim
    · exact q.elim
  · exact hm.elim
/-- such a list against data -/
@[simp] def mOwnEq (neg : Bool) (i : Nat) (mb : M) : M := fun γ Q R => match γ[i]? with
  | some (some (.own ds)) => mb γ (fun y => match y with
    | .val e => EqOk (.list ds) e ∧ Q (.val (.bool (if neg then !PyData.eqv (.list ds) e else PyData.eqv (.list ds) e)))
    | _ => False) R
  | _ => False
theorem e_ownNe {i : Nat} {x : Str} {b : Expr} {mb : M} {pos p1 : Pos} (hu : X.A.units + 100 < cLine) (hv : PE X (.Name x p1) (tVar i)) (hb : EJ T X E b mb) : EJ T X E (.Compare (.Name x p1) [.NotEq] [b] pos) (mOwnEq true i mb) := by
  constructor
  intro F γ σ H Q R hE hR hm
  unfold mOwnEq at hm
  split at hm
  · rename_i ds e
    obtain ⟨v, hs', l, xs, rfl, fl, el, rl⟩ := hE.slot i _ e
    refine Ev.of (pe_cmpR (rW_ok X _) hv (Ev.pe X b) (nomark _)) ⟨.ref l, hs', ?_⟩
    refine (hb F γ σ H _ R hE hR hm).mono fun y H1 ⟨g, wy, ry, q⟩ => ?_
    dsimp only at q
    split at q
    · intro pins s σ' v u I rv ru
      obtain ⟨as, r1⟩ := Dp.reads I (.list ds) (.ref l) v (.lst (SqL.of (g.lst el)) (Rps.dp _ _ (rl.gr g))) rv
      obtain ⟨bs, r2⟩ := Dp.reads I _ y u (Rp.dp _ _ ry) ru
      exact SeqAt.compareNe_reads r1 r2 q.1.1 q.1.2.1 (by have := q.1.2.2; omega) ⟨.bl _, H1, I, rfl, g, .val _, .bl _, q.2⟩
    · exact q.elim
  · exact hm.elim
/-! ### slices -/
def cutD (ds : List PyData) (lo hi : Option Int) : List PyData := (ds.drop (HT.sIx ds.length 0 lo)).take (HT.sIx ds.length ds.length hi - HT.sIx ds.length 0 lo)
theorem Rps.drop {F : FB} {H : Hp} : ∀ {vs : List V} {ds : List PyData} (n : Nat), Rps F H vs ds → Rps F H (vs.drop n) (ds.drop n)
  | _, _, 0, r => r
  | _, [], n + 1, r => by cases r; exact .nil
  | _, d :: ds, n + 1, r => by
    cases r with
    | cons _ r2 => exact Rps.drop n r2
theorem Rps.take {F : FB} {H : Hp} : ∀ {vs : List V} {ds : List PyData} (n : Nat), Rps F H vs ds → Rps F H (vs.take n) (ds.take n)
  | _, _, 0, r => .nil
  | _, [], n + 1, r => by cases r; exact .nil
  | _, d :: ds, n + 1, r => by
    cases r with
    | cons r1 r2 => exact .cons r1 (Rps.take n r2)
theorem Rps.cut {F : FB} {H : Hp} {vs : List V} {ds : List PyData} (r : Rps F H vs ds) (lo hi : Option Int) : Rps F H (cutV vs lo hi) (cutD ds lo hi) := by
  unfold cutV cutD
  rw [r.length]
  exact (r.drop _).take _
/-- the whole of a tuple is the tuple itself -/
theorem getItem_tuple_whole {prog : Program} {w : World} {A : Around} {E : Value → Shared → Prop} {s : Shared} {t sl : Addr} {items : Array Value} {vl vu : Value} {lo hi : Option Int} {Q : Value → Shared → Prop} (ht : IsTup s.heap t items) (hs : s.heap.IsSliceOf sl vl vu .none) (pl : IsPart vl lo) (pu : IsPart vu hi)
    (hw : HT.sIx items.size 0 lo = 0 ∧ HT.sIx items.size items.size hi = items.size) (h : Q (.ref t) s) : wpAny (model prog w) A (getItem (.ref t) (.ref sl)) Q E s := by
  obtain ⟨os, hos, hcs, hds⟩ := id hs
  have hTs : s.TypeIs (.ref sl) "slice" := ⟨os, hos, hcs⟩
  unfold getItem
  try with_reducible refine wpAny_holding ?_
  first | refine wpAny_bind (wpAny_pure ?_) | skip
  refine wpAny_bind (wpAny_sequenceKey ht.typeIs (by decide) ?_)
  refine wpAny_bind (wpAny_callSpecial?_slot (name := Str.ofString "__getitem__") ht.typeIs PyProof.Rows.slot_tuple_getitem
    (wpAny_call_entry PyProof.Rows.slot_tuple_getitem ht.typeIs entry_tuple_getitem ?_ (args_tuple_getitem _ _)))
  show wpAny _ _ (Builtin.Tuple.tupleItemsOf (.ref t) >>= _) _ _ s
  refine wpAny_bind (tupleItemsOf_ ht ?_)
  refine wpAny_bind (wpAny_typeOf hTs ?_)
  rw [if_pos (by decide)]
  refine wpAny_bind (HT.sliceApplied_gen hs pl pu ?_)
  have hyes : ((((HT.sIx items.size 0 lo : Nat) : Int) == 0 && (1 : Int) == 1 && (HT.sIx items.size items.size hi - HT.sIx items.size 0 lo) == items.size) = true) := by
    rw [hw.1, hw.2]
    simp
  show wpAny _ _ (if (((HT.sIx items.size 0 lo : Nat) : Int) == 0 && (1 : Int) == 1 && (HT.sIx items.size items.size hi - HT.sIx items.size 0 lo) == items.size) = true then _ else _) _ _ s
  rw [if_pos hyes]
  refine wpAny_bind (m := Builtin.Tuple.tupleIsExact _) (wpAny_bind (wpAny_typeOf ht.typeIs (wpAny_pure ?_)))
  rw [if_pos (by decide)]
  exact wpAny_bind (wpAny_rule (wpAny_bind (wpAny_pure (wpAny_pure ⟨_, rfl, wpAny_pure h⟩))))
end
end GJ

/-! G4: slices, built-in functions by data. -/
namespace GJ
open PySem PySem.Spec PyProof.Rows L2
section
variable {T : TabL} {X : Cx} {E : XK}

/-! ### slices -/
/-- a part of a slice -/
def Eo (X : Cx) (e : Option Expr) : TO := fun σ H Q => ∀ (pins : List (Addr × Obj)) (s : Shared), Inv X pins σ H s → wpAny (model X.prog X.w) X.A (evalPart e X.env) (fun u s' => ∃ o H', Inv X pins σ H' s' ∧ IsPart u o ∧ Q o H') X.xe s
theorem Eo.po (X : Cx) (e : Option Expr) : PO X e (Eo X e) := ⟨fun pins s _ _ _ I h => h pins s I⟩
theorem Eo.of {e : Option Expr} {σ : St} {H : Hp} {t : TO} {Q : Option Int → Hp → Prop} (p : PO X e t) (h : t σ H Q) : Eo X e σ H Q := fun pins s I => p.run pins s σ H Q I h
theorem Eo.mono {e : Option Expr} {σ : St} {H : Hp} {Q Q' : Option Int → Hp → Prop} (h : Eo X e σ H Q) (k : ∀ v H', Q v H' → Q' v H') : Eo X e σ H Q' := fun pins s I => thn (h pins s I) fun _ _ ⟨v, H', J, r, q⟩ => ⟨v, H', J, r, k v H' q⟩
abbrev MO := DEnv → (Option Int → Prop) → (Addr → Prop) → Prop
structure OJ (T : TabL) (X : Cx) (E : XK) (e : Option Expr) (m : MO) : Prop where
  run : ∀ (F : FB) (γ : DEnv) (σ : St) (H : Hp) (Q : Option Int → Prop) (R : Addr → Prop), EnvOk T F γ σ H → RzOk T E H R → m γ Q R → Eo X e σ H (fun o H' => Gr T H H' ∧ Q o)
instance {T : TabL} {X : Cx} {E : XK} {e : Option Expr} {m : MO} : CoeFun (OJ T X E e m) (fun _ => ∀ (F : FB) (γ : DEnv) (σ : St) (H : Hp) (Q : Option Int → Prop) (R : Addr → Prop), EnvOk T F γ σ H → RzOk T E H R → m γ Q R → Eo X e σ H (fun o H' => Gr T H H' ∧ Q o)) := ⟨OJ.run⟩
@[simp] def moNone : MO := fun _ Q _ => Q none
@[simp] def moSome (m : M) : MO := fun γ Q R => m γ (fun x => match x with
  | .val (.int i) => Q (some i)
  | _ => False) R
theorem p_none : OJ T X E none moNone := .mk fun F γ σ H Q R hE hR hm => Eo.of po_none ⟨Gr.refl _ _, hm⟩
theorem p_some {a : Expr} {m : M} (h : EJ T X E a m) : OJ T X E (some a) (moSome m) := by
  constructor
  intro F γ σ H Q R hE hR hm
  refine Eo.of (po_some (Ev.pe X a)) ((h F γ σ H _ R hE hR hm).mono fun v H' ⟨g, w, r, q⟩ => ?_)
  dsimp only at q
  split at q
  · cases r
    exact ⟨_, rfl, g, q⟩
  · exact q.elim
@[simp] def slD (o : W) (lo hi : Option Int) (Q : W → Prop) : Prop := match o with
  | .val (.list ds) => Q (.val (.list (cutD ds lo hi)))
  | .val (.tuple ds) => Q (.val (.tuple (cutD ds lo hi)))
  | _ => False
/-- a tuple's slice, the whole too -/
def rSlT2 (K : PySem.W.Frag) : V → Option Int → Option Int → Hp → VK → Prop := fun x lo hi H Q => ∃ a xs, x = .ref a ∧ SqT K H a xs ∧
  ((HT.sIx xs.length 0 lo = 0 ∧ HT.sIx xs.length xs.length hi = xs.length ∧ Q (.ref a) H) ∨
  (¬ (HT.sIx xs.length 0 lo = 0 ∧ HT.sIx xs.length xs.length hi = xs.length) ∧ ∀ p, H p = none → Q (.ref p) (upd H p (.tup (cutV xs lo hi)))))
theorem sl_tup2 : SlR X (rSlT2 X.K) := by
  intro pins s σ H x v vl vu lo hi sl Q I rx hs pl pu h
  obtain ⟨a, xs, rfl, hx, q⟩ := h
  rcases q with ⟨q1, q2, q⟩ | ⟨q1, q⟩
  · cases rx
    obtain ⟨its, r, ht, hz⟩ := I.tuple hx
    have hlen : its.toArray.size = xs.length := by rw [List.size_toArray]; exact r.length.symm
    refine ⟨"tuple", _, PyProof.Rows.slot_tuple_getitem.lookup, ht.typeIs, ?_⟩
    exact getItem_tuple_whole ht hs pl pu (by rw [hlen]; exact ⟨q1, q2⟩) ⟨.ref a, H, I, rfl, q⟩
  · exact sl_tup pins s σ H (.ref a) v vl vu lo hi sl Q I rx hs pl pu ⟨a, xs, rfl, hx, q1, q⟩
theorem sl_both : SlR X (fun x lo hi H Q => rSlL X.K x lo hi H Q ∨ rSlT2 X.K x lo hi H Q) := sl_list.or sl_tup2
@[simp] def mSl (ma : M) (ml mh : MO) : M := fun γ Q R => ma γ (fun x => ml γ (fun lo => mh γ (fun hi => slD x lo hi Q) R) R) R
theorem cutD_whole (ds : List PyData) (lo hi : Option Int) (h : HT.sIx ds.length 0 lo = 0) (h2 : HT.sIx ds.length ds.length hi = ds.length) : cutD ds lo hi = ds := by
  unfold cutD
  rw [h, h2]
  simp
theorem e_slice {a : Expr} {lo hi : Option Expr} {ma : M} {ml mh : MO} {pos p2 : Pos} (ha : EJ T X E a ma) (hl : OJ T X E lo ml) (hh : OJ T X E hi mh) : EJ T X E (.Subscript a (.Slice lo hi none p2) pos) (mSl ma ml mh) := by
  constructor
  intro F γ σ H Q R hE hR hm
  refine Ev.of (pe_slice sl_both (Ev.pe X a) (Eo.po X lo) (Eo.po X hi)) ((ha F γ σ H _ R hE hR hm).mono fun x H1 ⟨g1, w1, r1, q1⟩ => ?_)
  refine (hl F γ σ H1 _ R (hE.gr g1) (hR.gr g1) q1).mono fun lo' H2 ⟨g2, q2⟩ => ?_
  refine (hh F γ σ H2 _ R (hE.gr (g1.trans g2)) (hR.gr (g1.trans g2)) q2).mono fun hi' H3 ⟨g3, q3⟩ => ?_
  have g := (g1.trans g2).trans g3
  have r3 := r1.gr (g2.trans g3)
  unfold slD at q3
  split at q3
  · obtain ⟨p, xs, rfl, _, e, rr⟩ := Rp.lstI r3
    exact .inl ⟨p, xs, rfl, SqL.of e, fun q n => (PQ.newL (hE.gr g).fok n (rr.cut _ _) q3).gr g⟩
  · rename_i ds _ _
    obtain ⟨p, xs, rfl, e, rr⟩ := Rp.tupI r3
    refine .inr ⟨p, xs, rfl, SqT.of e, ?_⟩
    by_cases hw : HT.sIx xs.length 0 lo' = 0 ∧ HT.sIx xs.length xs.length hi' = xs.length
    · refine .inl ⟨hw.1, hw.2, g, .val (.tuple ds), .tup e rr, ?_⟩
      have hl := rr.length
      rw [hl] at hw
      have := cutD_whole ds lo' hi' hw.1 hw.2
      rw [this] at q3
      exact q3
    · exact .inr ⟨hw, fun q n => (PQ.newT n (rr.cut _ _) q3).gr g⟩
  · exact q3.elim
/-- xs[::-1] -/
@[simp] def mRev (m : M) : M := fun γ Q R => m γ (fun x => match x with
  | .val (.list ds) => Q (.val (.list ds.reverse))
  | _ => False) R
theorem Rps.reverse {F : FB} {H : Hp} : ∀ {vs : List V} {ds : List PyData}, Rps F H vs ds → Rps F H vs.reverse ds.reverse
  | _, [], r => by cases r; exact .nil
  | _, d :: ds, r => by
    cases r with
    | cons r1 r2 =>
      rw [List.reverse_cons, List.reverse_cons]
      exact (Rps.reverse r2).append (.cons r1 .nil)
theorem e_rev {a : Expr} {ma : M} {k : Nat} {p1 p2 p3 pos : Pos} (ha : EJ T X E a ma) : EJ T X E (.Subscript a (.Slice none none (some (.UnaryOp .USub (.Constant (.int 1) k p1) p2)) p3) pos) (mRev ma) := by
  constructor
  intro F γ σ H Q R hE hR hm
  refine Ev.of (pe_revL (Ev.pe X a)) ((ha F γ σ H _ R hE hR hm).mono fun x H1 ⟨g, w1, r1, q1⟩ => ?_)
  dsimp only at q1
  split at q1
  · obtain ⟨p, xs, rfl, _, e, rr⟩ := Rp.lstI r1
    exact ⟨p, xs, rfl, SqL.of e, fun q n => (PQ.newL (hE.gr g).fok n rr.reverse q1).gr g⟩
  · exact q1.elim

/-! ### built-in functions -/
def cW (X : Cx) (f : Value) : List V → Hp → VK → Prop := fun vs H Q => ∀ (pins : List (Addr × Obj)) (s : Shared) (σ : St) (us : List Value), Inv X pins σ H s → Vals vs us → wpAny (model X.prog X.w) X.A (call f us) (EP X pins σ Q) X.xe s
theorem cW_ok (X : Cx) (f : Value) : CallR X f (cW X f) := fun pins s σ H vs us Q I r h => h pins s σ us I r
theorem cW.of {f : Value} {r : List V → Hp → VK → Prop} {vs : List V} {H : Hp} {Q : VK} (o : CallR X f r) (h : r vs H Q) : cW X f vs H Q := fun pins s σ us I rv => o pins s σ H vs us Q I rv h
theorem cW.mono {f : Value} {vs : List V} {H : Hp} {Q Q' : VK} (h : cW X f vs H Q) (k : ∀ v H', Q v H' → Q' v H') : cW X f vs H Q' := fun pins s σ us I rv => thn (h pins s σ us I rv) fun _ _ ⟨v, H', J, r, q⟩ => ⟨v, H', J, r, k v H' q⟩
abbrev WC := List W → (W → Prop) → Prop
def CallW (T : TabL) (X : Cx) (f : Value) (o : WC) : Prop := ∀ (F : FB) (H : Hp) (vs : List V) (ws : List W) (Q : W → Prop), (∀ a, F a → ∃ xs, H a = some (.lst xs)) → RpWs F H vs ws → o ws Q → cW X f vs H (PQ T F H Q)
@[simp] def mCall (o : WC) (m : MA) : M := fun γ Q R => m γ (fun ws => o ws Q) R
theorem e_callB {x : Str} {id : String} {e : Expr} {es : List Expr} {o : WC} {m : MA} {p pos : Pos} (hc : CallW T X (.builtin id) o) (hg : Gl X x) (hm : X.mg x = none) (hv : bootBuiltins x = some (.builtin id)) (ha : AJ T X E (e :: es) m)
    (hn : x ≠ "__name__" := by decide) (hdb : (x == ("__debug__" : Str)) = false := by decide) (he : starEach (e :: es) X.env = (false, eval e X.env) :: starEach es X.env := by rfl) (hpl : (backTo pos (starEach es X.env)).any (·.1) = false := by rfl) :
    EJ T X E (.Call (.Name x p) (e :: es) [] pos) (mCall o m) := by
  constructor
  intro F γ σ H Q R hE hR hm'
  refine Ev.of (pe_callB (cW_ok X _) hg hm hv (Ea.pa X _) hn hdb he hpl) ((ha F γ σ H _ R hE hR hm').mono fun vs H1 ⟨g, ws, r, q⟩ => ?_)
  exact (hc F H1 vs ws Q (hE.gr g).fok r q).mono fun v H' h => h.gr g
theorem e_callTy {x : Str} {id : String} {e : Expr} {es : List Expr} {o : WC} {m : MA} {p pos : Pos} (hc : CallW T X (.type id) o) (hg : Gl X x) (hm : X.mg x = none) (hv : bootBuiltins x = some (.type id)) (ha : AJ T X E (e :: es) m)
    (hn : x ≠ "__name__" := by decide) (hdb : (x == ("__debug__" : Str)) = false := by decide) (he : starEach (e :: es) X.env = (false, eval e X.env) :: starEach es X.env := by rfl) (hpl : (backTo pos (starEach es X.env)).any (·.1) = false := by rfl) :
    EJ T X E (.Call (.Name x p) (e :: es) [] pos) (mCall o m) := by
  constructor
  intro F γ σ H Q R hE hR hm'
  refine Ev.of (pe_callTy (cW_ok X _) hg hm hv (Ea.pa X _) hn hdb he hpl) ((ha F γ σ H _ R hE hR hm').mono fun vs H1 ⟨g, ws, r, q⟩ => ?_)
  exact (hc F H1 vs ws Q (hE.gr g).fok r q).mono fun v H' h => h.gr g
theorem ws1 {F : FB} {H : Hp} {vs : List V} {w : W} (r : RpWs F H vs [w]) : ∃ v, vs = [v] ∧ RpW F H v w := by
  cases r with
  | cons r rr => cases rr; exact ⟨_, rfl, r⟩
theorem ws2 {F : FB} {H : Hp} {vs : List V} {w u : W} (r : RpWs F H vs [w, u]) : ∃ v z, vs = [v, z] ∧ RpW F H v w ∧ RpW F H z u := by
  cases r with
  | cons r rr => obtain ⟨z, rfl, q⟩ := ws1 rr; exact ⟨_, _, rfl, r, q⟩
@[simp] def lenW : WC := fun ws Q => match ws with
  | [.val (.list ds)] => Q (.val (.int ds.length))
  | [.val (.tuple ds)] => Q (.val (.int ds.length))
  | _ => False
theorem c_len : CallW T X (.builtin "len") lenW := by
  intro F H vs ws Q fok r h
  unfold lenW at h
  split at h
  · obtain ⟨v, rfl, rv⟩ := ws1 r
    obtain ⟨a, xs, rfl, _, e, rr⟩ := Rp.lstI rv
    exact cW.of call_len_seq ⟨a, xs, rfl, .inl (SqL.of e), by rw [rr.length]; exact PQ.val (.int _) h⟩
  · obtain ⟨v, rfl, rv⟩ := ws1 r
    obtain ⟨a, xs, rfl, e, rr⟩ := Rp.tupI rv
    exact cW.of call_len_seq ⟨a, xs, rfl, .inr (SqT.of e), by rw [rr.length]; exact PQ.val (.int _) h⟩
  · exact h.elim
/-- len(script) -/
@[simp] def lenSW (K : PySem.W.Frag) : WC := fun ws Q => match ws with
  | [.scr K' ns] => K' = K ∧ Q (.val (.int ns.length))
  | _ => False
theorem c_lenS : CallW T X (.builtin "len") (lenSW X.K) := by
  intro F H vs ws Q fok r h
  unfold lenSW at h
  split at h
  · obtain ⟨rfl, h⟩ := h
    obtain ⟨v, rfl, a, rfl, e⟩ := ws1 r
    exact cW.of call_len_seq ⟨a, _, rfl, .inl e.sql, by rw [List.length_map]; exact PQ.val (.int _) h⟩
  · exact h.elim
@[simp] def absW : WC := fun ws Q => match ws with
  | [.val (.int i)] => Q (.val (.int i.natAbs))
  | _ => False
theorem c_abs : CallW T X (.builtin "abs") absW := by
  intro F H vs ws Q fok r h
  unfold absW at h
  split at h
  · rename_i i
    obtain ⟨v, rfl, rv⟩ := ws1 r
    cases rv
    have e : (if i < 0 then -i else i) = (i.natAbs : Int) := by split <;> omega
    exact cW.of call_abs ⟨_, rfl, by rw [e]; exact PQ.val (.int _) h⟩
  · exact h.elim
@[simp] def intW : WC := fun ws Q => match ws with
  | [.val (.int i)] => Q (.val (.int i))
  | [.val (.bool b)] => Q (.val (.int (if b then 1 else 0)))
  | _ => False
theorem c_int : CallW T X (.type "int") intW := by
  intro F H vs ws Q fok r h
  unfold intW at h
  split at h
  · obtain ⟨v, rfl, rv⟩ := ws1 r
    cases rv
    exact cW.of call_int1 (.inl ⟨_, rfl, PQ.val (.int _) h⟩)
  · obtain ⟨v, rfl, rv⟩ := ws1 r
    cases rv
    exact cW.of call_int1 (.inr ⟨_, rfl, PQ.val (.int _) h⟩)
  · exact h.elim
@[simp] def boolW : WC := fun ws Q => match ws with
  | [.val (.bool b)] => Q (.val (.bool b))
  | _ => False
theorem c_bool : CallW T X (.type "bool") boolW := by
  intro F H vs ws Q fok r h
  unfold boolW at h
  split at h
  · obtain ⟨v, rfl, rv⟩ := ws1 r
    cases rv
    exact cW.of call_bool1 (.inr ⟨_, rfl, PQ.val (.bl _) h⟩)
  · exact h.elim
@[simp] def maxW : WC := fun ws Q => match ws with
  | [.val (.int i), .val (.int j)] => Q (.val (.int (max i j)))
  | _ => False
@[simp] def minW : WC := fun ws Q => match ws with
  | [.val (.int i), .val (.int j)] => Q (.val (.int (min i j)))
  | _ => False
theorem c_max (hc : X.calm = true) : CallW T X (.builtin "max") maxW := by
  intro F H vs ws Q fok r h
  unfold maxW at h
  split at h
  · rename_i i j
    obtain ⟨v, z, rfl, rv, rz⟩ := ws2 r
    cases rv; cases rz
    have e : (if j > i then j else i) = max i j := by split <;> omega
    exact cW.of (call_max2 hc) ⟨_, _, rfl, by rw [e]; exact PQ.val (.int _) h⟩
  · exact h.elim
theorem c_min (hc : X.calm = true) : CallW T X (.builtin "min") minW := by
  intro F H vs ws Q fok r h
  unfold minW at h
  split at h
  · rename_i i j
    obtain ⟨v, z, rfl, rv, rz⟩ := ws2 r
    cases rv; cases rz
    have e : (if j < i then j else i) = min i j := by split <;> omega
    exact cW.of (call_min2 hc) ⟨_, _, rfl, by rw [e]; exact PQ.val (.int _) h⟩
  · exact h.elim
@[simp] def allW : WC := fun ws Q => match ws with
  | [.val (.list ds)] => (match bools? ds with
    | some bs => Q (.val (.bool (bs.all id)))
    | none => False)
  | _ => False
@[simp] def anyW : WC := fun ws Q => match ws with
  | [.val (.list ds)] => (match bools? ds with
    | some bs => Q (.val (.bool (bs.any id)))
    | none => False)
  | _ => False
theorem c_all (hc : X.calm = true) : CallW T X (.builtin "all") allW := by
  intro F H vs ws Q fok r h
  unfold allW at h
  split at h
  · split at h
    · rename_i bs eb
      obtain ⟨v, rfl, rv⟩ := ws1 r
      rw [bools_map eb] at rv
      obtain ⟨a, xs, rfl, _, e, rr⟩ := Rp.lstI rv
      rw [rr.bools] at e
      exact cW.of (cr_all hc) ⟨a, bs, rfl, SqL.of e, PQ.val (.bl _) h⟩
    · exact h.elim
  · exact h.elim
theorem c_any (hc : X.calm = true) : CallW T X (.builtin "any") anyW := by
  intro F H vs ws Q fok r h
  unfold anyW at h
  split at h
  · split at h
    · rename_i bs eb
      obtain ⟨v, rfl, rv⟩ := ws1 r
      rw [bools_map eb] at rv
      obtain ⟨a, xs, rfl, _, e, rr⟩ := Rp.lstI rv
      rw [rr.bools] at e
      exact cW.of (cr_any hc) ⟨a, bs, rfl, SqL.of e, PQ.val (.bl _) h⟩
    · exact h.elim
  · exact h.elim
@[simp] def sumW : WC := fun ws Q => match ws with
  | [.val (.list ds)] => (match ints? ds with
    | some ns => Q (.val (.int ns.sum))
    | none => False)
  | _ => False
theorem c_sum (hc : X.calm = true) : CallW T X (.builtin "sum") sumW := by
  intro F H vs ws Q fok r h
  unfold sumW at h
  split at h
  · split at h
    · rename_i ns eb
      obtain ⟨v, rfl, rv⟩ := ws1 r
      rw [ints_map eb] at rv
      obtain ⟨a, xs, rfl, _, e, rr⟩ := Rp.lstI rv
      rw [rr.ints] at e
      exact cW.of (cr_sum hc) ⟨a, ns, rfl, SqL.of e, PQ.val (.int _) h⟩
    · exact h.elim
  · exact h.elim
@[simp] def tupleW : WC := fun ws Q => match ws with
  | [.val (.list ds)] => Q (.val (.tuple ds))
  | [.val (.tuple ds)] => Q (.val (.tuple ds))
  | _ => False
theorem c_tuple : CallW T X (.type "tuple") tupleW := by
  intro F H vs ws Q fok r h
  unfold tupleW at h
  split at h
  · obtain ⟨v, rfl, rv⟩ := ws1 r
    obtain ⟨a, xs, rfl, _, e, rr⟩ := Rp.lstI rv
    exact cW.of call_tuple_of ⟨a, xs, rfl, .inl ⟨SqL.of e, fun p n => PQ.newT n rr h⟩⟩
  · obtain ⟨v, rfl, rv⟩ := ws1 r
    obtain ⟨a, xs, rfl, e, rr⟩ := Rp.tupI rv
    exact cW.of call_tuple_of ⟨a, xs, rfl, .inr ⟨SqT.of e, PQ.val (.tup e rr) h⟩⟩
  · exact h.elim
@[simp] def listW : WC := fun ws Q => match ws with
  | [.val (.list ds)] => Q (.val (.list ds))
  | [.val (.tuple ds)] => Q (.val (.list ds))
  | _ => False
theorem c_list : CallW T X (.type "list") listW := by
  intro F H vs ws Q fok r h
  unfold listW at h
  split at h
  · obtain ⟨v, rfl, rv⟩ := ws1 r
    obtain ⟨a, xs, rfl, _, e, rr⟩ := Rp.lstI rv
    exact cW.of call_list_of ⟨a, xs, rfl, .inl (SqL.of e), fun p n => PQ.newL fok n rr h⟩
  · obtain ⟨v, rfl, rv⟩ := ws1 r
    obtain ⟨a, xs, rfl, e, rr⟩ := Rp.tupI rv
    exact cW.of call_list_of ⟨a, xs, rfl, .inr (SqT.of e), fun p n => PQ.newL fok n rr h⟩
  · exact h.elim
/-! isinstance(x, T) -/
@[simp] def tyD : PyData → String
  | .none => "NoneType"
  | .bool _ => "bool"
  | .int _ => "int"
  | .str _ => "str"
  | .list _ => "list"
  | .tuple _ => "tuple"
  | .dict _ => "dict"
theorem tyX {K : PySem.W.Frag} {F : FB} {H : Hp} {v : V} {d : PyData} (r : Rp F H v d) : TyX K H v (.type (tyD d)) := by
  cases r with
  | non => exact .base .non
  | bl b => exact .base (.bl b)
  | int i => exact .base (.int i)
  | str x => exact .base (.str x)
  | lst n e r => exact .base (.lst e)
  | tup e r => exact .base (.tup e)
@[simp] def mIsi (t : String) (m : M) : M := fun γ Q R => m γ (fun x => match x with
  | .val d => (match kitB (tyD d) t with
    | some b => Q (.val (.bool b))
    | none => False)
  | _ => False) R
theorem e_isi {a : Expr} {ma : M} {t : String} {tn : Str} {p1 p2 pos : Pos} (ha : EJ T X E a ma) (hg : Gl X "isinstance") (hm : X.mg "isinstance" = none) (hg2 : Gl X tn) (hm2 : X.mg tn = none) (hv2 : bootBuiltins tn = some (.type t))
    (hn : tn ≠ "__name__" := by decide) (hdb : (tn == ("__debug__" : Str)) = false := by decide)
    (he : starEach [a, .Name tn p2] X.env = (false, eval a X.env) :: starEach [.Name tn p2] X.env := by rfl) (he2 : starEach [.Name tn p2] X.env = (false, eval (.Name tn p2) X.env) :: starEach [] X.env := by rfl) (hpl : (backTo pos (starEach [.Name tn p2] X.env)).any (·.1) = false := by rfl) :
    EJ T X E (.Call (.Name "isinstance" p1) [a, .Name tn p2] [] pos) (mIsi t ma) := by
  constructor
  intro F γ σ H Q R hE hR hm'
  refine Ev.of (pe_callB call_isi hg hm (by decide +kernel) (pa_cons (Ev.pe X a) (pa_cons (pe_bltn (v := .ty t) hg2 hm2 hv2 rfl hn hdb) pa_nil he2) he) (by decide) (by decide) he hpl) ((ha F γ σ H _ R hE hR hm').mono fun v H1 ⟨g, w, r, q⟩ => ?_)
  dsimp only at q
  split at q
  · split at q
    · rename_i b eb
      exact ⟨v, .ty t, _, _, b, rfl, .ty t, tyX r, kit_ty eb, g, .val (.bool b), .bl b, q⟩
    · exact q.elim
  · exact q.elim

/-! list(range(..)), tuple(range(..)) -/
def rgD (a b : Int) : List PyData := (List.range (b - a).toNat).map fun i => .int (a + (i : Nat))
theorem rg_rp {F : FB} {H : Hp} (a b : Int) : Rps F H (rgV a b) (rgD a b) := by
  unfold rgV rgD
  have e1 : ((List.range (b - a).toNat).map fun (i : Nat) => V.int (a + (i : Nat))) = ((List.range (b - a).toNat).map fun (i : Nat) => a + ((i : Nat) : Int)).map V.int := by simp
  have e2 : ((List.range (b - a).toNat).map fun (i : Nat) => PyData.int (a + (i : Nat))) = ((List.range (b - a).toNat).map fun (i : Nat) => a + ((i : Nat) : Int)).map PyData.int := by simp
  rw [e1, e2]
  exact Rps.of_ints _
def RgB (a b : Int) : Prop := 0 ≤ a ∧ a ≤ 10000000 ∧ 0 ≤ b ∧ b ≤ 10000000
@[simp] def mRg (fl : Bool) (m : M) : M := fun γ Q R => m γ (fun x => match x with
  | .val (.int n) => RgB 0 n ∧ Q (.val (if fl then .list (rgD 0 n) else .tuple (rgD 0 n)))
  | _ => False) R
theorem e_listRg {a : Expr} {ma : M} {p1 p2 p3 pos : Pos} (ha : EJ T X E a ma) (hc : X.calm = true) (hg : Gl X "list") (hm : X.mg "list" = none) (hg2 : Gl X "range") (hm2 : X.mg "range" = none)
    (na : starEach [.Call (.Name "range" p2) [a] [] p3] X.env = (false, eval (.Call (.Name "range" p2) [a] [] p3) X.env) :: starEach [] X.env := by rfl) (na2 : starEach [a] X.env = (false, eval a X.env) :: starEach [] X.env := by rfl) :
    EJ T X E (.Call (.Name "list" p1) [.Call (.Name "range" p2) [a] [] p3] [] pos) (mRg true ma) := by
  constructor
  intro F γ σ H Q R hE hR hm'
  refine Ev.of (pe_listRg hc hg hm (prg_1 hg2 hm2 (Ev.pe X a) na2) na) ((ha F γ σ H _ R hE hR hm').mono fun v H1 ⟨g, w, r, q⟩ => ?_)
  dsimp only at q
  split at q
  · rename_i n
    cases r
    obtain ⟨⟨z1, z2, z3, z4⟩, q⟩ := q
    exact ⟨n, rfl, RgOk.of_le (by omega) (by omega) (by omega) (by omega), fun p hn => (PQ.newL (hE.gr g).fok hn (rg_rp 0 n) q).gr g⟩
  · exact q.elim
theorem e_tupRg {a : Expr} {ma : M} {p1 p2 p3 pos : Pos} (ha : EJ T X E a ma) (hc : X.calm = true) (hg : Gl X "tuple") (hm : X.mg "tuple" = none) (hg2 : Gl X "range") (hm2 : X.mg "range" = none)
    (na : starEach [.Call (.Name "range" p2) [a] [] p3] X.env = (false, eval (.Call (.Name "range" p2) [a] [] p3) X.env) :: starEach [] X.env := by rfl) (na2 : starEach [a] X.env = (false, eval a X.env) :: starEach [] X.env := by rfl) :
    EJ T X E (.Call (.Name "tuple" p1) [.Call (.Name "range" p2) [a] [] p3] [] pos) (mRg false ma) := by
  constructor
  intro F γ σ H Q R hE hR hm'
  refine Ev.of (pe_tupRg hc hg hm (prg_1 hg2 hm2 (Ev.pe X a) na2) na) ((ha F γ σ H _ R hE hR hm').mono fun v H1 ⟨g, w, r, q⟩ => ?_)
  dsimp only at q
  split at q
  · rename_i n
    cases r
    obtain ⟨⟨z1, z2, z3, z4⟩, q⟩ := q
    exact ⟨n, rfl, RgOk.of_le (by omega) (by omega) (by omega) (by omega), fun p hn => (PQ.newT hn (rg_rp 0 n) q).gr g⟩
  · exact q.elim
end
end GJ

/-! G5: sorted of what is collected; len(set(..)). -/
namespace GJ
open PySem PySem.Spec PyProof.Rows L2
open PySem.W (AllAlike Sortable alike alikeAll dataLe EachIs)

/-! ### sorted(x), by what x collects to -/
section
variable {prog : Program} {w : World} {A : Around} {E : Value → Shared → Prop} {s : Shared}
theorem collect_tup {l : Addr} {vs : List Value} {Q : List Value → Shared → Prop} (hl : IsTup s.heap l vs.toArray)
    (h : Q vs { s with heap := (s.heap.push (seqObj "list" #[] 0)).update s.heap.objs.size (Obj.mapSeq (· ++ vs.toArray)) }) (hsz : vs.length ≤ sizeLine) :
    wpAny (model prog w) A (collect (.ref l)) Q E s := by
  obtain ⟨o, ho, hc, n, hd⟩ := id hl
  unfold collect
  refine wpAny_bind (wpAny_runValue (codeAny_builtin entry_proto_collect' ?_))
  show wpAny _ _ (do again (.builtin "list.__iadd__" ⟨[← newList [], .ref l], []⟩)) _ _ s
  refine wpAny_bind (wpAny_newList (wpAny_pure ⟨Code.quiet_builtin _ (by decide +kernel), codeAny_builtin entry_list_iadd' ?_⟩))
  show wpAny _ _ (Builtin.List.listExtendWith (.ref s.heap.objs.size) (.ref l) (.ref s.heap.objs.size)) _ _ { s with heap := s.heap.push (seqObj "list" #[] 0) }
  unfold Builtin.List.listExtendWith
  have ho' : (s.heap.push (seqObj "list" #[] 0)).get? l = some o := Heap.get?_push_of_some _ ho
  refine wpAny_bind (wpAny_typeOf (T := "tuple") ⟨o, ho', hc⟩ ?_)
  have ht : (Value.type "tuple" == Value.type "tuple") = true := by rfl
  rw [if_pos (by rw [ht]; simp)]
  refine wpAny_bind (listItems_at ho' hd ?_)
  refine wpAny_bind (listItems_at (xs := #[]) (n := 0) (Heap.get?_push_size _ rfl) rfl ?_)
  rw [if_neg (by simp)]
  refine wpAny_bind (listUpdate_at (xs := #[]) (n := 0) (Heap.get?_push_size _ rfl) rfl ?_ (Nat.zero_le _) (by show (#[] ++ vs.toArray).size ≤ sizeLine + 1; simp only [Array.size_append, List.size_toArray, List.length_nil]; omega))
  refine wpAny_pure ?_
  show wpAny (model prog w) A (do
      let o ← load s.heap.objs.size
      match o.data with
      | .seq xs _ => pure xs.toList
      | _ => unsupported "internal:collect") Q E { s with heap := (s.heap.push (seqObj "list" #[] 0)).update s.heap.objs.size (Obj.mapSeq (· ++ vs.toArray)) }
  refine wpAny_bind (wpAny_load (get?_update_seq (Heap.get?_push_size _ rfl) _) ?_)
  show wpAny _ _ (pure ((#[] : Array Value) ++ vs.toArray).toList) Q E _
  rw [show ((#[] : Array Value) ++ vs.toArray).toList = vs by simp]
  exact wpAny_pure h
/-- values beside what they stand for -/
theorem each_of {R : Value → V × PyData → Prop} : ∀ {us : List Value} {ps : List (V × PyData)}, us.length = ps.length → (∀ (i : Nat) u p, us[i]? = some u → ps[i]? = some p → R u p) → EachIs R us ps
  | [], [], _, _ => .nil
  | [], _ :: _, h, _ => by simp at h
  | _ :: _, [], h, _ => by simp at h
  | u :: us, p :: ps, h, k => .cons (k 0 u p rfl rfl) (each_of (by simpa using h) fun i u' p' e1 e2 => k (i + 1) u' p' (by simpa using e1) (by simpa using e2))
theorem each_length {α β : Type} {R : α → β → Prop} : ∀ {as : List α} {bs : List β}, EachIs R as bs → as.length = bs.length
  | _, _, .nil => rfl
  | _, _, .cons _ t => by simp [each_length t]
theorem each_vals {h : Heap} : ∀ {us : List Value} {ps : List (V × PyData)}, EachIs (fun u p => RelV p.1 u) us ps → Vals (ps.map (·.1)) us
  | _, _, .nil => .nil
  | _, _, .cons r t => .cons r (each_vals (h := h) t)
mutual
theorem reads_mem {h : Heap} {a : Addr} : ∀ (d : PyData) (v : Value) (as : List Addr), d.canLay0 = true → Reads h v d as → a ∈ as → ∃ o, h.get? a = some o
  | .none, _, _, _, r, m => by cases r; cases m
  | .bool _, _, _, _, r, m => by cases r; cases m
  | .int _, _, _, _, r, m => by cases r; cases m
  | .str _, _, _, _, r, m => by cases r; cases m
  | .list xs, _, _, hl, r, m => by
    cases r with
    | list h1 h2 h3 h4 =>
      rcases List.mem_cons.mp m with e | m
      · subst e; exact ⟨_, h1⟩
      · exact readsAll_mem xs _ _ hl h4 m
  | .tuple xs, _, _, hl, r, m => by
    cases r with
    | tuple h1 h2 h3 h4 => exact readsAll_mem xs _ _ hl h4 m
  | .dict _, _, _, hl, _, _ => nomatch hl
theorem readsAll_mem {h : Heap} {a : Addr} : ∀ (ds : List PyData) (vs : List Value) (as : List Addr), PyData.canLayAll0 ds = true → ReadsAll h vs ds as → a ∈ as → ∃ o, h.get? a = some o
  | [], _, _, _, r, m => by cases r; cases m
  | d :: ds, _, _, hl, r, m => by
    have hl' : d.canLay0 = true ∧ PyData.canLayAll0 ds = true := by simpa [PyData.canLayAll0] using hl
    cases r with
    | cons h1 h2 =>
      rcases List.mem_append.mp m with m | m
      · exact reads_mem d _ _ hl'.1 h1 m
      · exact readsAll_mem ds _ _ hl'.2 h2 m
end
/-- ps: what the items are, and stand for -/
theorem sorted_coll {x : Value} {ps : List (V × PyData)} {Q : Value → Shared → Prop}
    (hc : ∀ (E' : Value → Shared → Prop) (Rr : List Value → Shared → Prop), (∀ (h1 : Heap) (tk : Nat) (us : List Value), (∀ b o, s.heap.get? b = some o → h1.get? b = some o) → EachIs (fun u p => RelV p.1 u ∧ p.2.canLay0 = true ∧ ∃ as, Reads s.heap u p.2 as) us ps → Rr us { s with heap := h1, toks := tk }) → wpAny (model prog w) A.in1 (collect x) Rr E' s)
    (hal : AllAlike (ps.map (·.2))) (hk : Sortable (ps.map (·.2))) (hL : ps.length ≤ sizeLine) (hu : ∀ p, p ∈ ps → A.units + 2 + p.2.depth < cLine)
    (h : ∀ (h1 h2 : Heap) (tk n : Nat) (out : List Value), (∀ b o, s.heap.get? b = some o → h1.get? b = some o) → (∀ b o, h1.get? b = some o → h2.get? b = some o) → h2.get? h1.objs.size = some (seqObj "list" out.toArray n) → Vals ((ps.mergeSort (dataLe false (·.2))).map (·.1)) out → Q (.ref h1.objs.size) { s with heap := h2, toks := tk }) :
    wpAny (model prog w) A (call (.builtin "sorted") [x]) Q E s := by
  refine Calls.call_function_entry kind_sorted plain_sorted entry_sorted (args_sorted1 _) ?_
  unfold Builtin.«sorted»
  refine wpAny_bind (m := checkCount "sorted" 1 1 _) (wpAny_pure ?_)
  refine wpAny_bind (hc _ _ fun h1 tk us kp each => ?_)
  have hlu : us.length = ps.length := each_length each
  refine wpAny_bind (wpAny_newList ?_ (by rw [hlu]; exact hL))
  have ho : (h1.push (seqObj "list" us.toArray 0)).get? h1.objs.size = some (seqObj "list" us.toArray 0) := Heap.get?_push_size _ rfl
  have old : ∀ b o, s.heap.get? b = some o → b ≠ h1.objs.size ∧ (h1.push (seqObj "list" us.toArray 0)).get? b = some o := fun b o q => by
    have q1 := kp b o q
    exact ⟨Nat.ne_of_lt (Heap.lt_size q1), Heap.get?_push_of_some _ q1⟩
  show wpAny _ _ _ _ _ { s with heap := h1.push (seqObj "list" us.toArray 0), toks := tk }
  refine wpAny_bind (wpAny_holding (PySem.W.list_sort_data (A := A.in1) (s := { s with heap := h1.push (seqObj "list" us.toArray 0), toks := tk }) (R := fun u p => RelV p.1 u) (enc := fun p : V × PyData => p.2) (bs := ps) ho (each.mono fun _ _ z => z.1) (each.mono fun u p z => ?_) hal hk hL (fun p hp => ?_) fun out hlo he => ?_))
  · obtain ⟨_, cl, as, r⟩ := z
    refine ⟨as, PyProof.Rows.Reads.keeps (fun b o q => (old b o q).2) r, fun hm => ?_⟩
    obtain ⟨o, q⟩ := reads_mem _ _ _ cl r hm
    exact (old _ o q).1 rfl
  · have := hu p hp
    show A.units + 1 + 1 + p.2.depth < cLine
    omega
  · obtain ⟨n, hn⟩ := sortedHeap_at (vs := us) (out := out.toArray) ho
    refine wpAny_pure ⟨_, rfl, h h1 _ tk n out kp (fun b o q => ?_) hn (each_vals (h := h1) he)⟩
    have q2 := Heap.get?_push_of_some (seqObj "list" us.toArray 0) q
    rw [sortedHeap_old (Nat.ne_of_lt (Heap.lt_size q)) (Heap.lt_size q2)]
    exact q2
end
/-- canLay0 of what stands for data is a matter of its texts; here: of the data -/
theorem rps_pairs {F : FB} {H : Hp} : ∀ {vs : List V} {ds : List PyData}, Rps F H vs ds → ∃ ps : List (V × PyData), ps.map (·.1) = vs ∧ ps.map (·.2) = ds ∧ ∀ p ∈ ps, Rp F H p.1 p.2
  | _, [], h => by cases h; exact ⟨[], rfl, rfl, fun p m => by cases m⟩
  | _, d :: ds, h => by
    cases h with
    | cons h1 h2 =>
      obtain ⟨ps, e1, e2, k⟩ := rps_pairs h2
      refine ⟨(_, d) :: ps, by rw [List.map_cons, e1], by rw [List.map_cons, e2], fun p m => ?_⟩
      rcases List.mem_cons.mp m with e | m
      · subst e; exact h1
      · exact k p m
theorem rps_of_pairs {F : FB} {H : Hp} : ∀ {ps : List (V × PyData)}, (∀ p ∈ ps, Rp F H p.1 p.2) → Rps F H (ps.map (·.1)) (ps.map (·.2))
  | [], _ => .nil
  | p :: ps, h => .cons (h p List.mem_cons_self) (rps_of_pairs fun q m => h q (List.mem_cons_of_mem _ m))
theorem canLayAll_mem : ∀ {ds : List PyData} {d : PyData}, PyData.canLayAll0 ds = true → d ∈ ds → d.canLay0 = true
  | [], _, _, m => by cases m
  | e :: ds, d, h, m => by
    have h' : e.canLay0 = true ∧ PyData.canLayAll0 ds = true := by simpa [PyData.canLayAll0] using h
    rcases List.mem_cons.mp m with z | m
    · subst z; exact h'.1
    · exact canLayAll_mem h'.2 m
theorem depthAll_mem : ∀ {ds : List PyData} {d : PyData}, d ∈ ds → d.depth ≤ PyData.depthAll ds
  | [], _, m => by cases m
  | e :: ds, d, m => by
    have e1 : PyData.depthAll (e :: ds) = max e.depth (PyData.depthAll ds) := by simp [PyData.depthAll]
    rw [e1]
    rcases List.mem_cons.mp m with z | m
    · subst z; exact Nat.le_max_left _ _
    · exact Nat.le_trans (depthAll_mem m) (Nat.le_max_right _ _)
theorem each_pairs {X : Cx} {pins : List (Addr × Obj)} {σ : St} {F : FB} {H : Hp} {s : Shared} (I : Inv X pins σ H s) : ∀ {ps : List (V × PyData)} {us : List Value}, (∀ p ∈ ps, Rp F H p.1 p.2) → PyData.canLayAll0 (ps.map (·.2)) = true → Vals (ps.map (·.1)) us →
    EachIs (fun u p => RelV p.1 u ∧ p.2.canLay0 = true ∧ ∃ as, Reads s.heap u p.2 as) us ps
  | [], _, _, _, r => by cases r; exact .nil
  | p :: ps, _, h, c, r => by
    have h' : p.2.canLay0 = true ∧ PyData.canLayAll0 (ps.map (·.2)) = true := by simpa [PyData.canLayAll0] using c
    cases r with
    | cons r1 r2 => exact .cons ⟨r1, h'.1, Dp.reads I _ _ _ (Rp.dp _ _ (h p List.mem_cons_self)) r1⟩ (each_pairs I (fun q m => h q (List.mem_cons_of_mem _ m)) h'.2 r2)
/-- what sorted asks -/
def SortOk (ds : List PyData) : Prop := AllAlike ds ∧ Sortable ds ∧ PyData.canLayAll0 ds = true ∧ PyData.depthAll ds ≤ 60
def sortD (ds : List PyData) : List PyData := ds.mergeSort (dataLe false id)
theorem sort_pairs (ps : List (V × PyData)) : (ps.mergeSort (dataLe false (·.2))).map (·.2) = sortD (ps.map (·.2)) := PySem.W.sort_maps _ fun _ _ _ _ => rfl
@[simp] def sortedW : WC := fun ws Q => match ws with
  | [.val (.list ds)] => SortOk ds ∧ Q (.val (.list (sortD ds)))
  | [.val (.tuple ds)] => SortOk ds ∧ Q (.val (.list (sortD ds)))
  | _ => False
section
variable {T : TabL} {X : Cx} {E : XK}
theorem sorted_end {pins : List (Addr × Obj)} {σ : St} {F : FB} {H : Hp} {s : Shared} {ps : List (V × PyData)} {Q : W → Prop} {x : Value} (fok : ∀ a, F a → ∃ xs, H a = some (.lst xs)) (hu : X.A.units + 100 < cLine) (I : Inv X pins σ H s) (hp : ∀ p ∈ ps, Rp F H p.1 p.2) (hL : ps.length ≤ sizeLine) (ok : SortOk (ps.map (·.2)))
    (hc : ∀ (E' : Value → Shared → Prop) (Rr : List Value → Shared → Prop), (∀ (h1 : Heap) (tk : Nat) (us : List Value), (∀ b o, s.heap.get? b = some o → h1.get? b = some o) → EachIs (fun u p => RelV p.1 u ∧ p.2.canLay0 = true ∧ ∃ as, Reads s.heap u p.2 as) us ps → Rr us { s with heap := h1, toks := tk }) → wpAny (model X.prog X.w) X.A.in1 (collect x) Rr E' s)
    (q : Q (.val (.list (sortD (ps.map (·.2)))))) : wpAny (model X.prog X.w) X.A (call (.builtin "sorted") [x]) (EP X pins σ (PQ T F H Q)) X.xe s := by
  refine sorted_coll hc ok.1 ok.2.1 hL (fun p m => ?_) fun h1 h2 tk n out kp kp2 ho hv => ?_
  · have h1 : p.2.depth ≤ PyData.depthAll (ps.map (·.2)) := depthAll_mem (List.mem_map.mpr ⟨p, m, rfl⟩)
    have h2 := ok.2.2.2
    omega
  · have I1 : Inv X pins σ H { s with heap := h1, toks := tk } := I.kept kp
    have fr : H h1.objs.size = none := I1.hok.fresh (Nat.le_refl _)
    have hlen : ((ps.mergeSort (dataLe false (·.2))).map (·.1)).length ≤ sizeLine := by
      rw [List.length_map, List.length_mergeSort]; exact hL
    refine ⟨.ref h1.objs.size, upd H h1.objs.size (.lst ((ps.mergeSort (dataLe false (·.2))).map (·.1))), I1.laid (t' := tk) kp2 (Nat.le_refl _) ⟨hlen, out, n, hv, ho⟩, rfl, PQ.newL (ds := sortD (ps.map (·.2))) fok fr ?_ q⟩
    rw [← sort_pairs]
    exact rps_of_pairs fun p m => hp p (List.mem_mergeSort.mp m)
theorem c_sorted (hu : X.A.units + 100 < cLine) : CallW T X (.builtin "sorted") sortedW := by
  intro F H vs ws Q fok r h
  unfold sortedW at h
  split at h
  · obtain ⟨v, rfl, rv⟩ := ws1 r
    obtain ⟨a, xs, rfl, _, e, rr⟩ := Rp.lstI rv
    obtain ⟨ps, e1, e2, hp⟩ := rps_pairs rr
    intro pins s σ us I rus
    obtain ⟨u, rfl, ru⟩ := vals1 rus
    cases ru
    obtain ⟨its, r1, p1, hz⟩ := I.list (SqL.of e)
    subst e1 e2
    refine sorted_end fok hu I hp (by rw [List.length_map] at hz; exact hz) h.1 (fun E' Rr k => ?_) h.2
    exact collect_list p1.isList (k _ s.toks its (fun b o q => by
      rw [Heap.get?_update_ne _ _ _ _ (Nat.ne_of_lt (Heap.lt_size q))]
      exact Heap.get?_push_of_some _ q) (each_pairs I hp h.1.2.2.1 r1)) (by rw [← r1.length]; exact hz)
  · obtain ⟨v, rfl, rv⟩ := ws1 r
    obtain ⟨a, xs, rfl, e, rr⟩ := Rp.tupI rv
    obtain ⟨ps, e1, e2, hp⟩ := rps_pairs rr
    intro pins s σ us I rus
    obtain ⟨u, rfl, ru⟩ := vals1 rus
    cases ru
    obtain ⟨its, r1, p1, hz⟩ := I.tuple (SqT.of e)
    subst e1 e2
    refine sorted_end fok hu I hp (by rw [List.length_map] at hz; exact hz) h.1 (fun E' Rr k => ?_) h.2
    exact collect_tup p1 (k _ s.toks its (fun b o q => by
      rw [Heap.get?_update_ne _ _ _ _ (Nat.ne_of_lt (Heap.lt_size q))]
      exact Heap.get?_push_of_some _ q) (each_pairs I hp h.1.2.2.1 r1)) (by rw [← r1.length]; exact hz)
  · exact h.elim
end
end GJ

/-! G6: statements by data. -/
namespace GJ
open PySem PySem.Spec PyProof.Rows L2

/-- changed by this def alone -/
@[simp] def isMut : W → Bool
  | .own _ => true
  | .odk _ => true
  | .odt _ => true
  | _ => false
/-- nothing but a table is told there -/
def NT (H : Hp) (a : Addr) : Prop := ∀ o, H a = some o → ∃ ps, o = .tbl ps
theorem NT.of {H : Hp} {a : Addr} (h : H a = none) : NT H a := fun o e => by rw [h] at e; cases e
theorem NT.back {T : TabL} {H0 H : Hp} {a : Addr} (g : Gr T H0 H) (h : NT H a) : NT H0 a := fun o e => by
  apply Classical.byContradiction
  intro n
  have q := g.at e fun ps z => n ⟨ps, z⟩
  exact n (h o q)
structure EnvS (T : TabL) (F0 : FB) (H0 : Hp) (γ : DEnv) (σ : St) (H : Hp) : Prop where
  ex : ∃ F, EnvOk T F γ σ H ∧ (∀ a, F0 a → F a) ∧ ∀ a, F a → F0 a ∨ NT H0 a
  gr : Gr T H0 H
  f0 : ∀ a, F0 a → ∃ xs, H0 a = some (.lst xs)
  mt : ∀ (i : Nat) (w : W) (v : V), γ[i]? = some (some w) → isMut w = true → σ[i]? = some (some v) → ∃ l, v = .ref l ∧ NT H0 l
structure DE where
  nx : DEnv → Prop
  rt : W → Prop
  ex : Addr → Prop
  bk : DEnv → Prop := fun _ => False
  ct : DEnv → Prop := fun _ => False
abbrev MS := DE → DEnv → Prop
def SD (T : TabL) (F0 : FB) (H0 : Hp) (D : DE) : Ends where
  nx := fun σ H => ∃ γ, EnvS T F0 H0 γ σ H ∧ D.nx γ
  rt := fun v H => Gr T H0 H ∧ ∃ w, RpW F0 H v w ∧ isMut w = false ∧ D.rt w
  bk := fun σ H => ∃ γ, EnvS T F0 H0 γ σ H ∧ D.bk γ
  ct := fun σ H => ∃ γ, EnvS T F0 H0 γ σ H ∧ D.ct γ
def E1 (X : Cx) (st : Stmt) : TS := fun D σ H => ∀ (pins : List (Addr × Obj)) (s : Shared), Inv X pins σ H s → wpAny (model X.prog X.w) X.A (exec st X.env) (SP X pins D) X.xe s
theorem E1.ps (X : Cx) (st : Stmt) : PS X st (E1 X st) := ⟨fun pins s _ _ _ I h => h pins s I⟩
theorem E1.of {X : Cx} {st : Stmt} {t : TS} {D : Ends} {σ : St} {H : Hp} (p : PS X st t) (h : t D σ H) : E1 X st D σ H := fun pins s I => p.run pins s σ H D I h
structure SJ (T : TabL) (X : Cx) (E : XK) (st : Stmt) (m : MS) : Prop where
  run : ∀ (F0 : FB) (H0 : Hp) (γ : DEnv) (σ : St) (H : Hp) (D : DE), EnvS T F0 H0 γ σ H → RzOk T E H0 D.ex → m D γ → E1 X st (SD T F0 H0 D) σ H
instance {T : TabL} {X : Cx} {E : XK} {st : Stmt} {m : MS} : CoeFun (SJ T X E st m) (fun _ => ∀ (F0 : FB) (H0 : Hp) (γ : DEnv) (σ : St) (H : Hp) (D : DE), EnvS T F0 H0 γ σ H → RzOk T E H0 D.ex → m D γ → E1 X st (SD T F0 H0 D) σ H) := ⟨SJ.run⟩
structure SsJ (T : TabL) (X : Cx) (E : XK) (st : List Stmt) (m : MS) : Prop where
  run : ∀ (F0 : FB) (H0 : Hp) (γ : DEnv) (σ : St) (H : Hp) (D : DE), EnvS T F0 H0 γ σ H → RzOk T E H0 D.ex → m D γ → Es X st (SD T F0 H0 D) σ H
instance {T : TabL} {X : Cx} {E : XK} {st : List Stmt} {m : MS} : CoeFun (SsJ T X E st m) (fun _ => ∀ (F0 : FB) (H0 : Hp) (γ : DEnv) (σ : St) (H : Hp) (D : DE), EnvS T F0 H0 γ σ H → RzOk T E H0 D.ex → m D γ → Es X st (SD T F0 H0 D) σ H) := ⟨SsJ.run⟩
theorem EnvS.gr' {T : TabL} {F0 : FB} {H0 : Hp} {γ : DEnv} {σ : St} {H H' : Hp} (x : EnvS T F0 H0 γ σ H) (g : Gr T H H') : EnvS T F0 H0 γ σ H' := by
  obtain ⟨F, e, s, n⟩ := x.ex
  exact ⟨⟨F, e.gr g, s, n⟩, x.gr.trans g, x.f0, x.mt⟩
/-- evaluating within a statement -/
theorem EnvS.ev {T : TabL} {X : Cx} {E : XK} {e : Expr} {m : M} {F0 : FB} {H0 : Hp} {γ : DEnv} {σ : St} {H : Hp} {Q : W → Prop} {R : Addr → Prop} (x : EnvS T F0 H0 γ σ H) (h : EJ T X E e m) (hR : RzOk T E H0 R) (hm : m γ Q R) {K : VK}
    (k : ∀ v H' w F, Gr T H H' → EnvOk T F γ σ H' → (∀ a, F0 a → F a) → (∀ a, F a → F0 a ∨ NT H0 a) → RpW F H' v w → Q w → K v H') : Ev X e σ H K := by
  obtain ⟨F, eo, s, n⟩ := x.ex
  exact (h F γ σ H Q R eo (hR.gr x.gr) hm).mono fun v H' ⟨g, w, r, q⟩ => k v H' w F g (eo.gr g) s n r q
theorem RpW.sub {F F' : FB} {H : Hp} {v : V} (s : ∀ a, F' a → F a) : ∀ {w : W}, isMut w = false → RpW F H v w → RpW F' H v w
  | .val _, _, r => Rp.sub s r
  | .own _, z, _ => by cases z
  | .odk _, z, _ => by cases z
  | .odt _, z, _ => by cases z
  | .dk _, _, ⟨l, xs, e, h, k, r⟩ => ⟨l, xs, e, h, k, r.sub s⟩
  | .dt _, _, ⟨l, xs, e, h, k, r⟩ => ⟨l, xs, e, h, k, r.sub s⟩
  | .src, _, r => r
  | .scr _ _, _, ⟨a, e, h⟩ => ⟨a, e, h.map (fun q n => ⟨q, fun z => n (s _ z)⟩) fun _ q => q⟩
section
variable {T : TabL} {X : Cx} {E : XK} {st : Stmt} {rest : List Stmt} {m m' : MS} {pos : Pos}
/-! blocks -/
@[simp] def sNext : MS := fun D γ => D.nx γ
@[simp] def sSeq (m m' : MS) : MS := fun D γ => m { D with nx := m' D } γ
theorem ss_nil : SsJ T X E [] sNext := .mk fun F0 H0 γ σ H D hS hR hm => Es.of pss_nil ⟨γ, hS, hm⟩
theorem ss_cons (h1 : SJ T X E st m) (h2 : SsJ T X E rest m') : SsJ T X E (st :: rest) (sSeq m m') := by
  constructor
  intro F0 H0 γ σ H D hS hR hm
  have q := h1 F0 H0 γ σ H { D with nx := m' D } hS hR hm
  refine Es.of (pss_cons (E1.ps X st) (Es.pss X rest)) ?_
  intro pins s I
  refine thn (q pins s I) fun f s1 z => ?_
  cases f with
  | next =>
    obtain ⟨σ', H', I', γ', hS', hm'⟩ := z
    exact ⟨σ', H', I', fun pins2 s2 I2 => h2 F0 H0 γ' σ' H' D hS' hR hm' pins2 s2 I2⟩
  | ret v => exact z
  | brk => exact z
  | cont => exact z
theorem ss_one (h : SJ T X E st m) : SsJ T X E [st] m := .mk fun F0 H0 γ σ H D hS hR hm => Es.of (pss_one (E1.ps X st)) (h F0 H0 γ σ H D hS hR hm)
@[simp] def sCont : MS := fun D γ => D.ct γ
theorem s_continue : SJ T X E (.Continue pos) sCont := .mk fun F0 H0 γ σ H D hS hR hm => E1.of ps_continue ⟨γ, hS, hm⟩
theorem s_pass : SJ T X E (.Pass pos) sNext := .mk fun F0 H0 γ σ H D hS hR hm => E1.of ps_pass ⟨γ, hS, hm⟩
/-! return -/
@[simp] def sRet (me : M) : MS := fun D γ => me γ (fun w => isMut w = false ∧ D.rt w) D.ex
theorem s_ret {e : Expr} {me : M} (h : EJ T X E e me) : SJ T X E (.Return (some e) pos) (sRet me) := by
  constructor
  intro F0 H0 γ σ H D hS hR hm
  refine E1.of (ps_ret (Ev.pe X e)) (hS.ev h hR hm fun v H' w F g eo s n r q => ?_)
  exact ⟨hS.gr.trans g, w, r.sub s q.1, q.1, q.2⟩
@[simp] def sRetN : MS := fun D _ => D.rt (.val .none)
theorem s_retN : SJ T X E (.Return none pos) sRetN := .mk fun F0 H0 γ σ H D hS hR hm => E1.of ps_retN ⟨hS.gr, .val .none, .non, rfl, hm⟩
/-- return of a list of the def's own -/
@[simp] def sRetOwn (i : Nat) : MS := fun D γ => match γ[i]? with
  | some (some (.own ds)) => D.rt (.val (.list ds))
  | _ => False
theorem s_retOwn {i : Nat} {x : Str} {p : Pos} (hv : PE X (.Name x p) (tVar i)) : SJ T X E (.Return (some (.Name x p)) pos) (sRetOwn i) := by
  constructor
  intro F0 H0 γ σ H D hS hR hm
  unfold sRetOwn at hm
  split at hm
  · rename_i ds e
    obtain ⟨F, eo, s, n⟩ := hS.ex
    obtain ⟨v, hs, l, xs, rfl, fl, el, rl⟩ := eo.slot i _ e
    obtain ⟨l', e2, h0⟩ := hS.mt i _ _ e rfl hs
    cases e2
    refine E1.of (ps_ret hv) ⟨.ref l, hs, hS.gr, .val (.list ds), ?_, rfl, hm⟩
    refine (Rp.lst (fun z => ?_) el (rl.sub s) : Rp F0 H (.ref l) (.list ds))
    obtain ⟨_, q⟩ := hS.f0 l z
    obtain ⟨_, z2⟩ := h0 _ q
    cases z2
  · exact hm.elim
/-- a list of the def's own is changed no more -/
def frz (i : Nat) (γ : DEnv) : DEnv := match γ[i]? with
  | some (some (.own ds)) => γ.set i (some (.val (.list ds)))
  | _ => γ
/-! if -/
@[simp] def sIf (mc : MB) (m m' : MS) : MS := fun D γ => mc γ (fun b => (b = true → m D γ) ∧ (b = false → m' D γ)) D.ex
theorem s_if {c : Expr} {a b : List Stmt} {mc : MB} (hc : TJ T X E c mc) (ha : SsJ T X E a m) (hb : SsJ T X E b m') : SJ T X E (.If c a b pos) (sIf mc m m') := by
  constructor
  intro F0 H0 γ σ H D hS hR hm
  obtain ⟨F, eo, s, n⟩ := hS.ex
  refine E1.of (ps_if (Et.pt X c) (Es.pss X a) (Es.pss X b)) ((hc F γ σ H _ _ eo (hR.gr hS.gr) hm).mono fun k H1 ⟨g, q1, q2⟩ => ?_)
  cases k with
  | true => exact iteT (ha F0 H0 γ σ H1 D (hS.gr' g) hR (q1 rfl))
  | false => exact iteF (hb F0 H0 γ σ H1 D (hS.gr' g) hR (q2 rfl))
/-! an expression dropped -/
@[simp] def sDrop (me : M) : MS := fun D γ => me γ (fun _ => D.nx γ) D.ex
theorem s_expr {e : Expr} {me : M} (h : EJ T X E e me) (hs : swapsWith e none pos.line X.env = pure false := by rfl) : SJ T X E (.Expr e pos) (sDrop me) := by
  constructor
  intro F0 H0 γ σ H D hS hR hm
  exact E1.of (ps_expr (Ev.pe X e) hs) (hS.ev h hR hm fun v H' w F g eo s n r q => ⟨γ, hS.gr' g, q⟩)
/-! storing a name -/
theorem EnvS.set {F0 : FB} {H0 : Hp} {γ : DEnv} {σ : St} {H : Hp} (hS : EnvS T F0 H0 γ σ H) {F : FB} (eo : EnvOk T F γ σ H) (s : ∀ a, F0 a → F a) (n : ∀ a, F a → F0 a ∨ NT H0 a) {i : Nat} {v : V} {w : W} (r : RpW F H v w) (nm : isMut w = false) : EnvS T F0 H0 (γ.set i (some w)) (σ.set i (some v)) H := by
  refine ⟨⟨F, ⟨fun j u e => ?_, eo.fok, eo.tabs, by simp [eo.len]⟩, s, n⟩, hS.gr, hS.f0, fun j u x e hu hx => ?_⟩
  · by_cases hj : i = j
    · subst hj
      have hlt : i < γ.length := by
        rcases Nat.lt_or_ge i γ.length with z | z
        · exact z
        · rw [List.getElem?_eq_none (by simpa using z)] at e; cases e
      rw [List.getElem?_set_self hlt] at e
      cases e
      exact ⟨v, by rw [List.getElem?_set_self (by rw [← eo.len]; exact hlt)], r⟩
    · rw [List.getElem?_set_ne hj] at e
      obtain ⟨v', e1, r1⟩ := eo.slot j u e
      exact ⟨v', by rw [List.getElem?_set_ne hj]; exact e1, r1⟩
  · by_cases hj : i = j
    · subst hj
      have hlt : i < γ.length := by
        rcases Nat.lt_or_ge i γ.length with z | z
        · exact z
        · rw [List.getElem?_eq_none (by simpa using z)] at e; cases e
      rw [List.getElem?_set_self hlt] at e
      cases e
      rw [nm] at hu; cases hu
    · rw [List.getElem?_set_ne hj] at e hx
      exact hS.mt j u x e hu hx
@[simp] def sSet (i : Nat) (me : M) : MS := fun D γ => me γ (fun w => isMut w = false ∧ D.nx (γ.set i (some w))) D.ex
theorem s_set {i : Nat} {x : Str} {e : Expr} {me : M} {pos' : Pos} (hN : X.N.Nodup) (hi : X.N[i]? = some x) (hx : Loc X.env.scope x) (h : EJ T X E e me) (hs : swapsWith e (some (.Name x pos')) pos.line X.env = pure false := by rfl) (hf : X.fn x = true ∨ X.env.scope.names.lookup x = some .local := by first | exact .inl rfl | exact .inr rfl | assumption) :
    SJ T X E (.Assign [.Name x pos'] e pos) (sSet i me) := by
  constructor
  intro F0 H0 γ σ H D hS hR hm
  refine E1.of (ps_set hN hi hx (Ev.pe X e) hs hf) (hS.ev h hR hm fun v H' w F g eo s n r q => ?_)
  exact ⟨_, (hS.gr' g).set eo s n r q.1, q.2⟩
end
end GJ

/-! G7: targets, assignments, loops. -/
namespace GJ
open PySem PySem.Spec PyProof.Rows L2

theorem EnvOk.set {T : TabL} {F : FB} {γ : DEnv} {σ : St} {H : Hp} (eo : EnvOk T F γ σ H) {i : Nat} {v : V} {w : W} (r : RpW F H v w) : EnvOk T F (γ.set i (some w)) (σ.set i (some v)) H := by
  refine ⟨fun j u e => ?_, eo.fok, eo.tabs, by simp [eo.len]⟩
  by_cases hj : i = j
  · subst hj
    have hlt : i < γ.length := by
      rcases Nat.lt_or_ge i γ.length with z | z
      · exact z
      · rw [List.getElem?_eq_none (by simpa using z)] at e; cases e
    rw [List.getElem?_set_self hlt] at e
    cases e
    exact ⟨v, by rw [List.getElem?_set_self (by rw [← eo.len]; exact hlt)], r⟩
  · rw [List.getElem?_set_ne hj] at e
    obtain ⟨v', e1, r1⟩ := eo.slot j u e
    exact ⟨v', by rw [List.getElem?_set_ne hj]; exact e1, r1⟩
/-- the slots of what is changed are as they were -/
def MutKeep (γ : DEnv) (σ : St) (γ' : DEnv) (σ' : St) : Prop := ∀ (i : Nat) (w : W) (v : V), γ'[i]? = some (some w) → isMut w = true → σ'[i]? = some (some v) → γ[i]? = some (some w) ∧ σ[i]? = some (some v)
theorem MutKeep.refl (γ : DEnv) (σ : St) : MutKeep γ σ γ σ := fun _ _ _ a _ b => ⟨a, b⟩
theorem MutKeep.trans {γ γ1 γ2 : DEnv} {σ σ1 σ2 : St} (a : MutKeep γ σ γ1 σ1) (b : MutKeep γ1 σ1 γ2 σ2) : MutKeep γ σ γ2 σ2 := fun i w v e1 m e2 => let ⟨x, y⟩ := b i w v e1 m e2; a i w v x m y
theorem MutKeep.set {γ : DEnv} {σ : St} (hl : γ.length = σ.length) {i : Nat} {v : V} {w : W} (nm : isMut w = false) : MutKeep γ σ (γ.set i (some w)) (σ.set i (some v)) := by
  intro j u x e hu hx
  by_cases hj : i = j
  · subst hj
    have hlt : i < γ.length := by
      rcases Nat.lt_or_ge i γ.length with z | z
      · exact z
      · rw [List.getElem?_eq_none (by simpa using z)] at e; cases e
    rw [List.getElem?_set_self hlt] at e
    cases e
    rw [nm] at hu; cases hu
  · rw [List.getElem?_set_ne hj] at e hx
    exact ⟨e, hx⟩
theorem EnvS.keep {T : TabL} {F0 : FB} {H0 : Hp} {γ γ' : DEnv} {σ σ' : St} {H : Hp} (hS : EnvS T F0 H0 γ σ H) {F : FB} (eo : EnvOk T F γ' σ' H) (s : ∀ a, F0 a → F a) (n : ∀ a, F a → F0 a ∨ NT H0 a) (mk : MutKeep γ σ γ' σ') : EnvS T F0 H0 γ' σ' H :=
  ⟨⟨F, eo, s, n⟩, hS.gr, hS.f0, fun i w v e hw hv => let ⟨x, y⟩ := mk i w v e hw hv; hS.mt i w v x hw y⟩

/-! ### targets -/
def G1 (X : Cx) (tg : Expr) : TG := fun v σ H Q => ∀ (pins : List (Addr × Obj)) (s : Shared) (u : Value), Inv X pins σ H s → L2.RelV v u → wpAny (model X.prog X.w) X.A (assign tg X.env u) (fun _ s' => ∃ σ' H', Inv X pins σ' H' s' ∧ Q σ' H') X.xe s
theorem G1.pg (X : Cx) (tg : Expr) : PG X tg (G1 X tg) := ⟨fun pins s σ H v u Q I r h => h pins s u I r⟩
theorem G1.of {X : Cx} {tg : Expr} {t : TG} {v : V} {σ : St} {H : Hp} {Q : St → Hp → Prop} (p : PG X tg t) (h : t v σ H Q) : G1 X tg v σ H Q := fun pins s u I r => p.run pins s σ H v u Q I r h
theorem G1.mono {X : Cx} {tg : Expr} {v : V} {σ : St} {H : Hp} {Q Q' : St → Hp → Prop} (h : G1 X tg v σ H Q) (k : ∀ σ' H', Q σ' H' → Q' σ' H') : G1 X tg v σ H Q' := fun pins s u I r => thn (h pins s u I r) fun _ _ ⟨σ', H', J, q⟩ => ⟨σ', H', J, k _ _ q⟩
abbrev MG := W → DEnv → (DEnv → Prop) → Prop
structure TGJ (T : TabL) (X : Cx) (tg : Expr) (g : MG) : Prop where
  run : ∀ (F : FB) (γ : DEnv) (σ : St) (H : Hp) (v : V) (w : W) (Q : DEnv → Prop), EnvOk T F γ σ H → RpW F H v w → g w γ Q → G1 X tg v σ H (fun σ' H' => H' = H ∧ ∃ γ', EnvOk T F γ' σ' H ∧ MutKeep γ σ γ' σ' ∧ Q γ')
instance {T : TabL} {X : Cx} {tg : Expr} {g : MG} : CoeFun (TGJ T X tg g) (fun _ => ∀ (F : FB) (γ : DEnv) (σ : St) (H : Hp) (v : V) (w : W) (Q : DEnv → Prop), EnvOk T F γ σ H → RpW F H v w → g w γ Q → G1 X tg v σ H (fun σ' H' => H' = H ∧ ∃ γ', EnvOk T F γ' σ' H ∧ MutKeep γ σ γ' σ' ∧ Q γ')) := ⟨TGJ.run⟩
@[simp] def gN (i : Nat) : MG := fun w γ Q => isMut w = false ∧ Q (γ.set i (some w))
section
variable {T : TabL} {X : Cx} {E : XK} {pos : Pos}
theorem tg_name {i : Nat} {x : Str} (hN : X.N.Nodup) (hi : X.N[i]? = some x) (hx : Loc X.env.scope x) (hf : X.fn x = true ∨ X.env.scope.names.lookup x = some .local := by first | exact .inl rfl | exact .inr rfl | assumption) : TGJ T X (.Name x pos) (gN i) := by
  constructor
  intro F γ σ H v w Q eo r hm
  exact G1.of (pg_name hN hi hx hf) ⟨rfl, _, eo.set r, MutKeep.set eo.len hm.1, hm.2⟩
def gNames : List Nat → TGs
  | [] => gNil
  | i :: is => gCons (gName i) (gNames is)
def setAllσ : List Nat → List V → St → St
  | i :: is, v :: vs, σ => setAllσ is vs (σ.set i (some v))
  | _, _, σ => σ
@[simp] def setAllγ : List Nat → List PyData → DEnv → DEnv
  | i :: is, d :: ds, γ => setAllγ is ds (γ.set i (some (.val d)))
  | _, _, γ => γ
theorem gNames_run : ∀ {is : List Nat} {vs : List V} {σ : St} {H : Hp} {Q : St → Hp → Prop}, vs.length = is.length → Q (setAllσ is vs σ) H → gNames is vs σ H Q
  | [], [], _, _, _, _, q => ⟨rfl, q⟩
  | [], _ :: _, _, _, _, h, _ => by simp at h
  | _ :: _, [], _, _, _, h, _ => by simp at h
  | i :: is, v :: vs, σ, H, Q, h, q => ⟨v, vs, rfl, gNames_run (is := is) (by simpa using h) q⟩
theorem setAll_ok {F : FB} {H : Hp} : ∀ {is : List Nat} {vs : List V} {ds : List PyData} {γ : DEnv} {σ : St}, Rps F H vs ds → EnvOk T F γ σ H → EnvOk T F (setAllγ is ds γ) (setAllσ is vs σ) H ∧ MutKeep γ σ (setAllγ is ds γ) (setAllσ is vs σ)
  | [], _, _, γ, σ, _, eo => ⟨eo, MutKeep.refl γ σ⟩
  | i :: is, _, [], γ, σ, r, eo => by cases r; exact ⟨eo, MutKeep.refl γ σ⟩
  | i :: is, _, d :: ds, γ, σ, r, eo => by
    cases r with
    | cons r1 r2 =>
      have e1 := eo.set (i := i) (w := .val d) r1
      obtain ⟨a, b⟩ := setAll_ok (is := is) r2 e1
      exact ⟨a, (MutKeep.set eo.len rfl).trans b⟩
@[simp] def gT (is : List Nat) : MG := fun w γ Q => match w with
  | .val (.tuple ds) => ds.length = is.length ∧ Q (setAllγ is ds γ)
  | _ => False
theorem tg_tup {es : List Expr} {k : Nat} {is : List Nat} (hc : X.calm = true) (h : PGs X es (gNames is)) (hn : (assignEach es X.env).length = is.length := by rfl) (hst : (assignEach es X.env).findIdx? (·.1) = none := by rfl) : TGJ T X (.Tuple es k pos) (gT is) := by
  constructor
  intro F γ σ H v w Q eo r hm
  unfold gT at hm
  split at hm
  · obtain ⟨a, xs, rfl, e, rr⟩ := Rp.tupI r
    obtain ⟨e1, mk⟩ := setAll_ok (is := is) rr eo
    refine G1.of (pg_tup hc h hn hst) ⟨a, xs, rfl, SqT.of e, by rw [rr.length]; exact hm.1, gNames_run (by rw [rr.length]; exact hm.1) ⟨rfl, _, e1, mk, hm.2⟩⟩
  · exact hm.elim
/-! ### target = value -/
@[simp] def sAsg (me : M) (g : MG) : MS := fun D γ => me γ (fun w => g w γ D.nx) D.ex
theorem s_asg {tg e : Expr} {me : M} {g : MG} (h : EJ T X E e me) (hg : TGJ T X tg g) (hs : swapsWithSole [tg] e pos.line X.env = pure false := by rfl) (hw : swappedStores [tg] e X.env = pure none := by rfl)
    (h1 : (assignEach [tg] X.env).map (·.2) = [assign tg X.env] := by rfl) : SJ T X E (.Assign [tg] e pos) (sAsg me g) := by
  constructor
  intro F0 H0 γ σ H D hS hR hm
  refine E1.of (ps_asg (Ev.pe X e) (G1.pg X tg) hs hw h1) (hS.ev h hR hm fun v H' w F g' eo s n r q => ?_)
  refine (hg F γ σ H' v w _ eo r q).mono fun σ' H2 ⟨eH, γ', eo', mk, q'⟩ => ?_
  subst eH
  exact ⟨γ', (hS.gr' g').keep eo' s n mk, q'⟩
/-! a, b = x, y -/
def nm2 (w u : W) : Prop := isMut w = false ∧ isMut u = false
@[simp] def sPar (i j : Nat) (ma : MA) : MS := fun D γ => ma γ (fun ws => match ws with
  | [w, u] => (isMut w = false ∧ isMut u = false) ∧ D.nx ((γ.set i (some w)).set j (some u))
  | _ => False) D.ex
theorem EnvS.ea {es : List Expr} {m : MA} {F0 : FB} {H0 : Hp} {γ : DEnv} {σ : St} {H : Hp} {Q : List W → Prop} {R : Addr → Prop} (x : EnvS T F0 H0 γ σ H) (h : AJ T X E es m) (hR : RzOk T E H0 R) (hm : m γ Q R) {K : List V → Hp → Prop}
    (k : ∀ vs H' ws F, Gr T H H' → EnvOk T F γ σ H' → (∀ a, F0 a → F a) → (∀ a, F a → F0 a ∨ NT H0 a) → RpWs F H' vs ws → Q ws → K vs H') : Ea X es σ H K := by
  obtain ⟨F, eo, s, n⟩ := x.ex
  exact (h F γ σ H Q R eo (hR.gr x.gr) hm).mono fun v H' ⟨g, w, r, q⟩ => k v H' w F g (eo.gr g) s n r q
theorem s_par {i j : Nat} {x y : Str} {a b : Expr} {ma : MA} {px py pt : Pos} {kt k2 pt2} (hc : X.calm = true) (hN : X.N.Nodup) (hi : X.N[i]? = some x) (hj : X.N[j]? = some y) (hij : i ≠ j)
    (hx : X.env.scope.names.lookup x = some .local) (hy : X.env.scope.names.lookup y = some .local) (ha : AJ T X E [a, b] ma)
    (hw : swappedStores [.Tuple [.Name x px, .Name y py] kt pt] (.Tuple [a, b] k2 pt2) X.env = pure (some [x, y]) := by rfl)
    (hs : swapsWithSole [.Tuple [.Name x px, .Name y py] kt pt] (.Tuple [a, b] k2 pt2) pos.line X.env = pure false := by rfl) :
    SJ T X E (.Assign [.Tuple [.Name x px, .Name y py] kt pt] (.Tuple [a, b] k2 pt2) pos) (sPar i j ma) := by
  constructor
  intro F0 H0 γ σ H D hS hR hm
  refine E1.of (ps_par hc hN hi hj hij hx hy (Ea.pa X _) hw hs) (hS.ea ha hR hm fun vs H' ws F g eo s n r q => ?_)
  split at q
  · obtain ⟨v, z, rfl, r1, r2⟩ := ws2 r
    refine ⟨v, z, rfl, _, (hS.gr' g).keep ((eo.set r1).set r2) s n ((MutKeep.set eo.len q.1.1).trans (MutKeep.set (by simp [eo.len]) q.1.2)), q.2⟩
  · exact q.elim
@[simp] def sPar3 (i j l : Nat) (ma : MA) : MS := fun D γ => ma γ (fun ws => match ws with
  | [w, u, t] => (isMut w = false ∧ isMut u = false ∧ isMut t = false) ∧ D.nx (((γ.set i (some w)).set j (some u)).set l (some t))
  | _ => False) D.ex
theorem ws3 {F : FB} {H : Hp} {vs : List V} {w u t : W} (r : RpWs F H vs [w, u, t]) : ∃ v z y, vs = [v, z, y] ∧ RpW F H v w ∧ RpW F H z u ∧ RpW F H y t := by
  cases r with
  | cons r rr => obtain ⟨z, y, rfl, q⟩ := ws2 rr; exact ⟨_, _, _, rfl, r, q⟩
theorem s_par3 {i j l : Nat} {x y z : Str} {a b c : Expr} {ma : MA} {px py pz pt : Pos} {kt k2 pt2} (hc : X.calm = true) (hN : X.N.Nodup) (hi : X.N[i]? = some x) (hj : X.N[j]? = some y) (hl : X.N[l]? = some z) (hij : i ≠ j) (hil : i ≠ l) (hjl : j ≠ l)
    (hx : X.env.scope.names.lookup x = some .local) (hy : X.env.scope.names.lookup y = some .local) (hz : X.env.scope.names.lookup z = some .local) (ha : AJ T X E [a, b, c] ma)
    (hw : swappedStores [.Tuple [.Name x px, .Name y py, .Name z pz] kt pt] (.Tuple [a, b, c] k2 pt2) X.env = pure (some [x, y, z]) := by rfl)
    (hs : swapsWithSole [.Tuple [.Name x px, .Name y py, .Name z pz] kt pt] (.Tuple [a, b, c] k2 pt2) pos.line X.env = pure false := by rfl) :
    SJ T X E (.Assign [.Tuple [.Name x px, .Name y py, .Name z pz] kt pt] (.Tuple [a, b, c] k2 pt2) pos) (sPar3 i j l ma) := by
  constructor
  intro F0 H0 γ σ H D hS hR hm
  refine E1.of (ps_par3 hc hN hi hj hl hij hil hjl hx hy hz (Ea.pa X _) hw hs) (hS.ea ha hR hm fun vs H' ws F g eo s n r q => ?_)
  split at q
  · obtain ⟨v, z, y, rfl, r1, r2, r3⟩ := ws3 r
    refine ⟨v, z, y, rfl, _, (hS.gr' g).keep (((eo.set r1).set r2).set r3) s n (((MutKeep.set eo.len q.1.1).trans (MutKeep.set (by simp [eo.len]) q.1.2.1)).trans (MutKeep.set (by simp [eo.len]) q.1.2.2)), q.2⟩
  · exact q.elim

/-! ### what a loop walks -/
/-- J yields the data ds, wherever P holds -/
structure ItD (T : TabL) (F : FB) (J : It) (P : Hp → Prop) (ds : List PyData) : Prop where
  gr : ∀ H H', Gr T H H' → P H → P H'
  go : ∀ i H, i < ds.length → P H → J.go i H
  stop : ∀ H, P H → J.stop ds.length H
  yld : ∀ i H x H', P H → J.yld i H x H' → ∀ d, ds[i]? = some d → Gr T H H' ∧ Rp F H' x d
/-- what is kept by a loop: all but what this def changes -/
def UU (H0 : Hp) (F : FB) (H1 : Hp) (a : Addr) : Prop := NT H0 a ∧ (F a ∨ (∃ kvs, H1 a = some (.dK kvs)) ∨ ∃ kvs, H1 a = some (.dT kvs))
noncomputable def restr (H0 : Hp) (F : FB) (H1 : Hp) : Hp := fun a => open Classical in if UU H0 F H1 a then none else H1 a
theorem restr_some {H0 : Hp} {F : FB} {H1 : Hp} {a : Addr} {o : HO} (h : restr H0 F H1 a = some o) : ¬ UU H0 F H1 a ∧ H1 a = some o := by
  unfold restr at h
  split at h
  · cases h
  · exact ⟨by assumption, h⟩
theorem restr_of {H0 : Hp} {F : FB} {H1 : Hp} {a : Addr} (h : ¬ UU H0 F H1 a) : restr H0 F H1 a = H1 a := by
  unfold restr
  rw [if_neg h]
theorem restr_no {H0 : Hp} {F : FB} {H1 : Hp} {a : Addr} (h : UU H0 F H1 a) : restr H0 F H1 a = none := by
  unfold restr
  rw [if_pos h]
theorem restr_gr {T : TabL} {H0 : Hp} {F : FB} {H1 : Hp} (t : LamX.Tabs T H1) : Gr T (restr H0 F H1) H1 := ⟨fun _ _ e _ => (restr_some e).2, fun _ => t⟩
theorem restr_rp {H0 : Hp} {F : FB} {H1 : Hp} (fok : ∀ a, F a → ∃ xs, H1 a = some (.lst xs)) {v : V} {d : PyData} (r : Rp F H1 v d) : Rp F (restr H0 F H1) v d :=
  Rp.map (fun a xs e n => ⟨n, by
    rw [restr_of]
    · exact e
    · rintro ⟨_, z | ⟨_, z⟩ | ⟨_, z⟩⟩
      · exact n z
      · rw [e] at z; cases z
      · rw [e] at z; cases z⟩) (fun a xs e => by
    rw [restr_of]
    · exact e
    · rintro ⟨_, z | ⟨_, z⟩ | ⟨_, z⟩⟩
      · obtain ⟨_, q⟩ := fok a z
        rw [e] at q; cases q
      · rw [e] at z; cases z
      · rw [e] at z; cases z) d v r
theorem restr_rps {H0 : Hp} {F : FB} {H1 : Hp} (fok : ∀ a, F a → ∃ xs, H1 a = some (.lst xs)) : ∀ {vs : List V} {ds : List PyData}, Rps F H1 vs ds → Rps F (restr H0 F H1) vs ds
  | _, [], r => by cases r; exact .nil
  | _, d :: ds, r => by
    cases r with
    | cons r1 r2 => exact .cons (restr_rp fok r1) (restr_rps fok r2)
/-- into a loop -/
theorem EnvS.enter {F0 : FB} {H0 : Hp} {γ : DEnv} {σ : St} {H1 : Hp} (hS : EnvS T F0 H0 γ σ H1) {F : FB} (eo : EnvOk T F γ σ H1) (s : ∀ a, F0 a → F a) (n : ∀ a, F a → F0 a ∨ NT H0 a) : EnvS T F0 (restr H0 F H1) γ σ H1 := by
  have f0 : ∀ a, F0 a → ¬ NT H0 a := fun a fa z => by
    obtain ⟨xs, e⟩ := hS.f0 a fa
    obtain ⟨_, q⟩ := z _ e
    cases q
  refine ⟨⟨F, eo, s, fun a fa => ?_⟩, restr_gr eo.tabs, fun a fa => ?_, fun i w v e hm hv => ?_⟩
  · rcases n a fa with z | z
    · exact .inl z
    · exact .inr (NT.of (restr_no ⟨z, .inl fa⟩))
  · obtain ⟨xs, e⟩ := hS.f0 a fa
    exact ⟨xs, by rw [restr_of fun z => f0 a fa z.1]; exact hS.gr.lst e⟩
  · obtain ⟨l, e2, h0⟩ := hS.mt i w v e hm hv
    obtain ⟨v', e3, r⟩ := eo.slot i w e
    rw [hv] at e3
    cases e3
    refine ⟨l, e2, NT.of (restr_no ⟨h0, ?_⟩)⟩
    cases w with
    | own ds =>
      obtain ⟨l', xs, e4, fl, _⟩ := r
      rw [e2] at e4; cases e4
      exact .inl fl
    | odk ds =>
      obtain ⟨l', xs, e4, fl, _⟩ := r
      rw [e2] at e4; cases e4
      exact .inr (.inl ⟨_, fl⟩)
    | odt ds =>
      obtain ⟨l', xs, e4, fl, _⟩ := r
      rw [e2] at e4; cases e4
      exact .inr (.inr ⟨_, fl⟩)
    | _ => cases hm
/-- and out again -/
theorem EnvS.exit {F0 : FB} {H0 : Hp} {γ γ' : DEnv} {σ σ' : St} {H1 H' : Hp} {F : FB} (hS : EnvS T F0 H0 γ σ H1) (h : EnvS T F0 (restr H0 F H1) γ' σ' H') : EnvS T F0 H0 γ' σ' H' := by
  have nt : ∀ a, NT (restr H0 F H1) a → NT H0 a := fun a z o e => by
    apply Classical.byContradiction
    intro q
    have e1 := hS.gr.at e fun ps z => q ⟨ps, z⟩
    have nu : ¬ UU H0 F H1 a := fun u => q (u.1 o e)
    have e2 : restr H0 F H1 a = some o := by rw [restr_of nu]; exact e1
    exact q (z o e2)
  obtain ⟨F', eo, s, n⟩ := h.ex
  refine ⟨⟨F', eo, s, fun a fa => (n a fa).imp id (nt a)⟩, ⟨fun a o e ntb => ?_, fun t => ?_⟩, hS.f0, fun i w v e hm hv => ?_⟩
  · have e1 := hS.gr.at e ntb
    have nu : ¬ UU H0 F H1 a := fun u => by
      obtain ⟨ps, z⟩ := u.1 o e
      exact ntb ps z
    exact h.gr.at (by rw [restr_of nu]; exact e1) ntb
  · exact eo.tabs
  · obtain ⟨l, e2, z⟩ := h.mt i w v e hm hv
    exact ⟨l, e2, nt l z⟩
/-- a loop, over the items left -/
def mFor (g : MG) (mb : MS) : List PyData → MS
  | [], D, γ => D.nx γ
  | d :: ds, D, γ => g (.val d) γ fun γ1 => mb { D with nx := mFor g mb ds D, ct := mFor g mb ds D, bk := D.nx } γ1
theorem RzOk.sub {E : XK} {H0 H' : Hp} {R : Addr → Prop} (h : RzOk T E H0 R) (k : ∀ H2, Gr T H' H2 → Gr T H0 H2) : RzOk T E H' R := fun C H2 r g => h C H2 r (k H2 g)
theorem restr_trans {F0 : FB} {H0 : Hp} {γ : DEnv} {σ : St} {H1 : Hp} {F : FB} (hS : EnvS T F0 H0 γ σ H1) (t : LamX.Tabs T H1) {H2 : Hp} (g : Gr T (restr H0 F H1) H2) : LamX.ExtN H0 H2 := fun a o e ntb => by
  have e1 := hS.gr.at e ntb
  have nu : ¬ UU H0 F H1 a := fun u => by
    obtain ⟨ps, z⟩ := u.1 o e
    exact ntb ps z
  exact g.at (by rw [restr_of nu]; exact e1) ntb
end
end GJ

/-! G8: loops. -/
namespace GJ
open PySem PySem.Spec PyProof.Rows L2
section
variable {T : TabL} {X : Cx} {E : XK} {pos : Pos}
theorem tabs_restr {H0 : Hp} {F : FB} {H1 : Hp} (fok : ∀ a, F a → ∃ xs, H1 a = some (.lst xs)) (t : LamX.Tabs T H1) : LamX.Tabs T (restr H0 F H1) := fun p hp => by
  obtain ⟨ps, h1, h2, h3⟩ := t p hp
  have keep : ∀ a o, H1 a = some o → (∀ xs, o ≠ .lst xs) → (∀ k, o ≠ .dK k) → (∀ k, o ≠ .dT k) → restr H0 F H1 a = some o := fun a o e n1 n2 n3 => by
    rw [restr_of]
    · exact e
    · rintro ⟨_, z | ⟨_, z⟩ | ⟨_, z⟩⟩
      · obtain ⟨_, q⟩ := fok a z
        rw [e] at q; cases q
        exact n1 _ rfl
      · rw [e] at z; cases z
        exact n2 _ rfl
      · rw [e] at z; cases z
        exact n3 _ rfl
  refine ⟨ps, keep _ _ h1 (fun _ z => by cases z) (fun _ z => by cases z) (fun _ z => by cases z), h2, fun pos cv hc => ?_⟩
  obtain ⟨c, e1, e2⟩ := h3 pos cv hc
  exact ⟨c, e1, keep _ _ e2 (fun _ z => by unfold LamX.CodeO at z; cases z) (fun _ z => by unfold LamX.CodeO at z; cases z) (fun _ z => by unfold LamX.CodeO at z; cases z)⟩
theorem RzOk.enter {F0 : FB} {H0 : Hp} {γ : DEnv} {σ : St} {H1 : Hp} {F : FB} {R : Addr → Prop} (hR : RzOk T E H0 R) (hS : EnvS T F0 H0 γ σ H1) (eo : EnvOk T F γ σ H1) : RzOk T E (restr H0 F H1) R := fun C H2 r g =>
  hR C H2 r ⟨restr_trans hS eo.tabs g, fun _ => g.2 (tabs_restr eo.fok eo.tabs)⟩

/-- J yields the data ds, wherever P holds -/
structure ItD2 (T : TabL) (F : FB) (J : It) (P : Hp → Prop) (ds : List PyData) : Prop where
  gr : ∀ H H', Gr T H H' → P H → P H'
  go : ∀ i H, i < ds.length → P H → J.go i H
  stop : ∀ H, P H → J.stop ds.length H
  yld : ∀ i H x H' d, P H → J.yld i H x H' → ds[i]? = some d → Gr T H H' ∧ ∀ (Hk : Hp) (F' : FB), P Hk → Gr T Hk H' → (∀ a, F' a → F a ∨ NT Hk a) → Rp F' H' x d
abbrev MI := DEnv → (List PyData → Prop) → (Addr → Prop) → Prop
def Ei (X : Cx) (tg iter : Expr) : TI := fun σ H R => ∀ (pins : List (Addr × Obj)) (s : Shared), Inv X pins σ H s →
  wpAny (model X.prog X.w) X.A (eval iter X.env) (fun v s1 => wpAny (model X.prog X.w) X.A (pyIter v) (PIE X pins σ tg R) X.xe s1) X.xe s
theorem Ei.pi (X : Cx) (tg iter : Expr) : PI X tg iter (Ei X tg iter) := ⟨fun pins s _ _ _ I h => h pins s I⟩
theorem Ei.of {tg iter : Expr} {wi : TI} {σ : St} {H : Hp} {R : It → Hp → Prop} (p : PI X tg iter wi) (h : wi σ H R) : Ei X tg iter σ H R := fun pins s I => p.run pins s σ H R I h
theorem Ei.mono {tg iter : Expr} {σ : St} {H : Hp} {R R' : It → Hp → Prop} (h : Ei X tg iter σ H R) (k : ∀ J H', R J H' → R' J H') : Ei X tg iter σ H R' := fun pins s I =>
  thn (h pins s I) fun v s1 z => thn z fun itv s2 ⟨it, fp, tn, J, H', e, I', t, t0, f, r⟩ => ⟨it, fp, tn, J, H', e, I', t, t0, f, k J H' r⟩
structure IJ (T : TabL) (X : Cx) (E : XK) (tg iter : Expr) (mi : MI) : Prop where
  run : ∀ (F : FB) (γ : DEnv) (σ : St) (H : Hp) (Qd : List PyData → Prop) (R : Addr → Prop), EnvOk T F γ σ H → RzOk T E H R → mi γ Qd R →
  Ei X tg iter σ H (fun J H1 => Gr T H H1 ∧ ∃ ds P, ItD2 T F J P ds ∧ P H1 ∧ (∀ H0, P (restr H0 F H1)) ∧ Qd ds)
instance {T : TabL} {X : Cx} {E : XK} {tg iter : Expr} {mi : MI} : CoeFun (IJ T X E tg iter mi) (fun _ => ∀ (F : FB) (γ : DEnv) (σ : St) (H : Hp) (Qd : List PyData → Prop) (R : Addr → Prop), EnvOk T F γ σ H → RzOk T E H R → mi γ Qd R →
  Ei X tg iter σ H (fun J H1 => Gr T H H1 ∧ ∃ ds P, ItD2 T F J P ds ∧ P H1 ∧ (∀ H0, P (restr H0 F H1)) ∧ Qd ds)) := ⟨IJ.run⟩
@[simp] def sFor (mi : MI) (g : MG) (mb : MS) : MS := fun D γ => mi γ (fun ds => mFor g mb ds D γ) D.ex
theorem s_for {tg iter : Expr} {body : List Stmt} {mi : MI} {g : MG} {mb : MS} (hp : PassesOwn (model X.prog X.w) X.A X.env X.xe) (hc : X.calm = true) (hi : IJ T X E tg iter mi) (hg : TGJ T X tg g) (hb : SsJ T X E body mb)
    (hs : ∀ x, foldedSetIterable iter X.env x = pure x := by intro _; rfl) : SJ T X E (.For tg iter body [] pos) (sFor mi g mb) := by
  constructor
  intro F0 H0 γ σ H D hS hR hm
  obtain ⟨F, eo, s, n⟩ := hS.ex
  refine E1.of (ps_for hp hc (Ei.pi X tg iter) (G1.pg X tg) (Es.pss X body) hs) ((hi F γ σ H _ D.ex eo (hR.gr hS.gr) hm).mono fun J H1 ⟨g1, ds, P, it, p1, p2, hq⟩ => ?_)
  have hS1 := hS.gr' g1
  have eo1 := eo.gr g1
  have hE := hS1.enter eo1 s n
  have hR1 : RzOk T E (restr H0 F H1) D.ex := hR.enter hS1 eo1
  have pk := p2 H0
  refine ⟨fun i m σ' H' => m = ds.length - i ∧ i ≤ ds.length ∧ P H' ∧ ∃ γ', EnvS T F0 (restr H0 F H1) γ' σ' H' ∧ mFor g mb (ds.drop i) D γ', ⟨ds.length, by simp, Nat.zero_le _, p1, γ, hE, by simpa using hq⟩, ?_⟩
  rintro i m σ' H' ⟨rfl, hi', pH, γ', hS', hm'⟩
  by_cases hlt : i < ds.length
  · right
    have hd : ds[i]? = some ds[i] := by simp [hlt]
    rw [List.drop_eq_getElem_cons hlt] at hm'
    refine ⟨it.go i H' hlt pH, fun σ2 H2 => P H2 ∧ ∃ γ2, EnvS T F0 (restr H0 F H1) γ2 σ2 H2 ∧ mFor g mb (ds.drop (i + 1)) D γ2, fun σ2 H2 q => ⟨ds.length - (i + 1), by omega, rfl, hlt, q⟩, fun x H2 y => ?_⟩
    obtain ⟨g2, rx⟩ := it.yld i H' x H2 _ pH y hd
    have hS2 := hS'.gr' g2
    obtain ⟨F2, eo2, s2, n2⟩ := hS2.ex
    have r2 : Rp F2 H2 x ds[i] := rx _ F2 pk hS2.gr fun a fa => (n2 a fa).imp (s a) id
    refine (hg F2 γ' σ' H2 x (.val ds[i]) _ eo2 r2 hm').mono fun σ3 H3 ⟨eH, γ3, eo3, mk3, q3⟩ => ?_
    subst eH
    have hS3 := hS2.keep eo3 s2 n2 mk3
    have z := hb F0 (restr H0 F H1) γ3 σ3 H3 { D with nx := mFor g mb (ds.drop (i + 1)) D, ct := mFor g mb (ds.drop (i + 1)) D, bk := D.nx } hS3 hR1 q3
    intro pins st I
    refine thn (z pins st I) fun f s4 q4 => ?_
    cases f with
    | next =>
      obtain ⟨σ5, H5, I5, γ5, hS5, q5⟩ := q4
      exact ⟨σ5, H5, I5, it.gr _ _ hS5.gr pk, γ5, hS5, q5⟩
    | cont =>
      obtain ⟨σ5, H5, I5, γ5, hS5, q5⟩ := q4
      exact ⟨σ5, H5, I5, it.gr _ _ hS5.gr pk, γ5, hS5, q5⟩
    | brk =>
      obtain ⟨σ5, H5, I5, γ5, hS5, q5⟩ := q4
      exact ⟨σ5, H5, I5, γ5, hS1.exit hS5, q5⟩
    | ret v =>
      obtain ⟨x5, σ5, H5, I5, r5, g5, w, rw5, q5⟩ := q4
      exact ⟨x5, σ5, H5, I5, r5, ⟨restr_trans hS1 eo1.tabs g5, fun _ => g5.2 (tabs_restr eo1.fok eo1.tabs)⟩, w, rw5, q5⟩
  · left
    have e : i = ds.length := by omega
    subst e
    rw [List.drop_eq_nil_of_le (Nat.le_refl _)] at hm'
    exact ⟨it.stop H' pH, γ', hS1.exit hS', hm'⟩

/-! ### sources -/
theorem itD_list {F : FB} {K : PySem.W.Frag} {a : Addr} {xs : List V} {ds : List PyData} (hF : ¬ F a) : ItD2 T F (Itl K a) (fun H => H a = some (.lst xs) ∧ Rps F H xs ds) ds where
  gr := fun H H' g h => ⟨g.lst h.1, h.2.gr g⟩
  go := fun i H hi h => ⟨xs, xs[i]'(by rw [h.2.length]; exact hi), SqL.of h.1, by simp [h.2.length, hi]⟩
  stop := fun H h => ⟨xs, SqL.of h.1, by rw [h.2.length]; exact Nat.le_refl _⟩
  yld := fun i H x H' d h y hd => by
    obtain ⟨e, y⟩ := y
    subst e
    refine ⟨Gr.refl _ _, fun Hk F' hk g hf => ?_⟩
    obtain ⟨v, hv, rv⟩ := hk.2.get hd
    have := y xs (SqL.of h.1)
    have ev : v = x := Option.some.inj (hv.symm.trans this)
    rw [← ev]
    exact Rp.map (fun b ys e nF => ⟨fun z => (hf b z).elim nF (fun w => (by
      obtain ⟨_, q⟩ := w _ e
      cases q)), g.lst e⟩) (fun b ys e => g.tup e) d v rv
theorem itD_tup {F : FB} {K : PySem.W.Frag} {a : Addr} {xs : List V} {ds : List PyData} : ItD2 T F (Itt K a) (fun H => H a = some (.tup xs) ∧ Rps F H xs ds) ds where
  gr := fun H H' g h => ⟨g.tup h.1, h.2.gr g⟩
  go := fun i H hi h => ⟨xs, xs[i]'(by rw [h.2.length]; exact hi), SqT.of h.1, by simp [h.2.length, hi]⟩
  stop := fun H h => ⟨xs, SqT.of h.1, by rw [h.2.length]; exact Nat.le_refl _⟩
  yld := fun i H x H' d h y hd => by
    obtain ⟨e, y⟩ := y
    subst e
    refine ⟨Gr.refl _ _, fun Hk F' hk g hf => ?_⟩
    obtain ⟨v, hv, rv⟩ := hk.2.get hd
    have := y xs (SqT.of h.1)
    have ev : v = x := Option.some.inj (hv.symm.trans this)
    rw [← ev]
    exact Rp.map (fun b ys e nF => ⟨fun z => (hf b z).elim nF (fun w => (by
      obtain ⟨_, q⟩ := w _ e
      cases q)), g.lst e⟩) (fun b ys e => g.tup e) d v rv
theorem restr_tup {H0 : Hp} {F : FB} {H1 : Hp} (fok : ∀ a, F a → ∃ xs, H1 a = some (.lst xs)) {a : Addr} {xs : List V} (e : H1 a = some (.tup xs)) : restr H0 F H1 a = some (.tup xs) := by
  rw [restr_of]
  · exact e
  · rintro ⟨_, z | ⟨_, z⟩ | ⟨_, z⟩⟩
    · obtain ⟨_, q⟩ := fok a z
      rw [e] at q; cases q
    · rw [e] at z; cases z
    · rw [e] at z; cases z
theorem restr_lst {H0 : Hp} {F : FB} {H1 : Hp} {a : Addr} {xs : List V} (hF : ¬ F a) (e : H1 a = some (.lst xs)) : restr H0 F H1 a = some (.lst xs) := by
  rw [restr_of]
  · exact e
  · rintro ⟨_, z | ⟨_, z⟩ | ⟨_, z⟩⟩
    · exact hF z
    · rw [e] at z; cases z
    · rw [e] at z; cases z
/-- a list's or a tuple's items -/
@[simp] def onL (Q : List PyData → Prop) : W → Prop
  | .val (.list ds) => Q ds
  | _ => False
@[simp] def onT (Q : List PyData → Prop) : W → Prop
  | .val (.tuple ds) => Q ds
  | _ => False
theorem onL.out {F : FB} {H : Hp} {v : V} {w : W} {Q : List PyData → Prop} (r : RpW F H v w) (h : onL Q w) : ∃ a xs ds, v = .ref a ∧ ¬ F a ∧ H a = some (.lst xs) ∧ Rps F H xs ds ∧ Q ds := by
  cases w with
  | val d =>
    cases d with
    | list ds =>
      obtain ⟨a, xs, e, nF, ea, rr⟩ := Rp.lstI r
      exact ⟨a, xs, ds, e, nF, ea, rr, h⟩
    | _ => exact (show False from h).elim
  | _ => exact (show False from h).elim
theorem onT.out {F : FB} {H : Hp} {v : V} {w : W} {Q : List PyData → Prop} (r : RpW F H v w) (h : onT Q w) : ∃ a xs ds, v = .ref a ∧ H a = some (.tup xs) ∧ Rps F H xs ds ∧ Q ds := by
  cases w with
  | val d =>
    cases d with
    | tuple ds =>
      obtain ⟨a, xs, e, ea, rr⟩ := Rp.tupI r
      exact ⟨a, xs, ds, e, ea, rr, h⟩
    | _ => exact (show False from h).elim
  | _ => exact (show False from h).elim
@[simp] def miL (m : M) : MI := fun γ Qd R => m γ (onL Qd) R
@[simp] def miT (m : M) : MI := fun γ Qd R => m γ (onT Qd) R
theorem i_list {tg e : Expr} {m : M} (h : EJ T X E e m) : IJ T X E tg e (miL m) := by
  constructor
  intro F γ σ H Qd R eo hR hm
  refine Ei.of (pi_list (Ev.pe X e)) ((h F γ σ H _ R eo hR hm).mono fun v H1 ⟨g, w, r, q⟩ => ?_)
  obtain ⟨a, xs, ds, rfl, nF, ea, rr, q⟩ := onL.out r q
  exact ⟨a, rfl, ⟨xs, SqL.of ea⟩, g, _, _, itD_list nF, ⟨ea, rr⟩, fun H0 => ⟨restr_lst nF ea, restr_rps (eo.gr g).fok rr⟩, q⟩
theorem i_tup {tg e : Expr} {m : M} (h : EJ T X E e m) : IJ T X E tg e (miT m) := by
  constructor
  intro F γ σ H Qd R eo hR hm
  refine Ei.of (pi_tup (Ev.pe X e)) ((h F γ σ H _ R eo hR hm).mono fun v H1 ⟨g, w, r, q⟩ => ?_)
  obtain ⟨a, xs, ds, rfl, ea, rr, q⟩ := onT.out r q
  exact ⟨a, rfl, ⟨xs, SqT.of ea⟩, g, _, _, itD_tup, ⟨ea, rr⟩, fun H0 => ⟨restr_tup (eo.gr g).fok ea, restr_rps (eo.gr g).fok rr⟩, q⟩
/-! range -/
theorem itD_rng {F : FB} {lo : Int} {n : Nat} : ItD2 T F (Itr lo n) (fun _ => True) ((List.range n).map fun i => .int (lo + (i : Nat))) where
  gr := fun _ _ _ _ => trivial
  go := fun i H hi _ => by
    have : i < n := by simpa using hi
    exact this
  stop := fun H _ => by
    show n ≤ _
    simp
  yld := fun i H x H' d _ y hd => by
    obtain ⟨e, y⟩ := y
    subst e y
    refine ⟨Gr.refl _ _, fun _ F' _ _ _ => ?_⟩
    have hi : i < n := by
      rcases Nat.lt_or_ge i n with z | z
      · exact z
      · rw [List.getElem?_eq_none (by simpa using z)] at hd; cases hd
    rw [List.getElem?_map, List.getElem?_range hi] at hd
    cases hd
    exact .int _
def rgL (lo hi : Int) : List PyData := (List.range (hi - lo).toNat).map fun i => .int (lo + (i : Nat))
def RgS (i : Int) : Prop := -1000000000000 ≤ i ∧ i ≤ 1000000000000
@[simp] def miR1 (m : MA) : MI := fun γ Qd R => m γ (fun ws => match ws with
  | [.val (.int j)] => RgS j ∧ Qd (rgL 0 j)
  | _ => False) R
@[simp] def miR2 (m : MA) : MI := fun γ Qd R => m γ (fun ws => match ws with
  | [.val (.int i), .val (.int j)] => (RgS i ∧ RgS j) ∧ Qd (rgL i j)
  | _ => False) R
theorem i_range1 {tg a : Expr} {m : MA} {p pos : Pos} (hg : Gl X "range") (hm : X.mg "range" = none) (ha : AJ T X E [a] m) (hs : starEach [a] X.env = [(false, eval a X.env)] := by rfl) : IJ T X E tg (.Call (.Name "range" p) [a] [] pos) (miR1 m) := by
  constructor
  intro F γ σ H Qd R eo hR hm'
  refine Ei.of (pi_range1 hg hm (Ea.pa X _) hs) ((ha F γ σ H _ R eo hR hm').mono fun vs H1 ⟨g, ws, r, q⟩ => ?_)
  dsimp only at q
  split at q
  · rename_i j
    obtain ⟨v, rfl, rv⟩ := ws1 r
    cases rv
    refine ⟨j, rfl, by have := q.1.1; omega, by have := q.1.2; omega, g, _, _, itD_rng, trivial, fun _ => trivial, ?_⟩
    have := q.2
    unfold rgL at this
    rw [Int.sub_zero] at this
    exact this
  · exact q.elim
theorem i_range2 {tg a b : Expr} {m : MA} {p pos : Pos} (hg : Gl X "range") (hm : X.mg "range" = none) (ha : AJ T X E [a, b] m) (hs : starEach [a, b] X.env = [(false, eval a X.env), (false, eval b X.env)] := by rfl) (hs2 : starEach [b] X.env = [(false, eval b X.env)] := by rfl) : IJ T X E tg (.Call (.Name "range" p) [a, b] [] pos) (miR2 m) := by
  constructor
  intro F γ σ H Qd R eo hR hm'
  refine Ei.of (pi_range2 hg hm (Ea.pa X _) hs hs2) ((ha F γ σ H _ R eo hR hm').mono fun vs H1 ⟨g, ws, r, q⟩ => ?_)
  dsimp only at q
  split at q
  · rename_i i j
    obtain ⟨v, z, rfl, rv, rz⟩ := ws2 r
    cases rv; cases rz
    have b := q.1
    exact ⟨i, j, rfl, ⟨by have := b.1.1; omega, by have := b.1.2; omega, by have := b.2.1; omega, by have := b.2.2; omega⟩, g, _, _, itD_rng, trivial, fun _ => trivial, q.2⟩
  · exact q.elim
end
end GJ

/-! G9: zip, comprehensions, while. -/
namespace GJ
open PySem PySem.Spec PyProof.Rows L2

theorem Rp.grF {T : TabL} {F F' : FB} {H H' : Hp} (g : Gr T H H') (hf : ∀ a, F' a → F a ∨ NT H a) {d : PyData} {v : V} (r : Rp F H v d) : Rp F' H' v d :=
  Rp.map (fun b ys e nF => ⟨fun z => (hf b z).elim nF (fun w => (by
      obtain ⟨_, q⟩ := w _ e
      cases q)), g.lst e⟩) (fun b ys e => g.tup e) d v r
theorem Rps.grF {T : TabL} {F F' : FB} {H H' : Hp} (g : Gr T H H') (hf : ∀ a, F' a → F a ∨ NT H a) {ds : List PyData} {vs : List V} (r : Rps F H vs ds) : Rps F' H' vs ds :=
  Rps.map (fun b ys e nF => ⟨fun z => (hf b z).elim nF (fun w => (by
      obtain ⟨_, q⟩ := w _ e
      cases q)), g.lst e⟩) (fun b ys e => g.tup e) ds vs r
theorem RpW.grF {T : TabL} {F F' : FB} {H H' : Hp} (g : Gr T H H') (hf : ∀ a, F' a → F a ∨ NT H a) (hs : ∀ a, F a → F' a) {v : V} : ∀ {w : W}, RpW F H v w → RpW F' H' v w
  | .val _, r => Rp.grF g hf r
  | .own _, ⟨l, xs, e, f, h, r⟩ => ⟨l, xs, e, hs l f, g.lst h, r.grF g hf⟩
  | .dk _, ⟨l, xs, e, h, k, r⟩ => ⟨l, xs, e, g.at h (fun _ z => by cases z), k, r.grF g hf⟩
  | .dt _, ⟨l, xs, e, h, k, r⟩ => ⟨l, xs, e, g.at h (fun _ z => by cases z), k, r.grF g hf⟩
  | .odk _, ⟨l, xs, e, h, k, r⟩ => ⟨l, xs, e, g.at h (fun _ z => by cases z), k, r.grF g hf⟩
  | .odt _, ⟨l, xs, e, h, k, r⟩ => ⟨l, xs, e, g.at h (fun _ z => by cases z), k, r.grF g hf⟩
  | .src, ⟨a, e, h⟩ => ⟨a, e, g.at h srcO_tbl⟩
  | .scr _ _, ⟨a, e, h⟩ => ⟨a, e, h.map (fun q n => ⟨g.lst q, fun z => by
      rcases hf a z with z | z
      · exact n z
      · obtain ⟨_, w⟩ := z _ q
        cases w⟩) fun o q => g.at q (fun _ z => by cases z)⟩
theorem EnvOk.grF {T : TabL} {F F' : FB} {γ : DEnv} {σ : St} {H H' : Hp} (x : EnvOk T F γ σ H) (g : Gr T H H') (hf : ∀ a, F' a → F a ∨ NT H a) (hs : ∀ a, F a → F' a) (fok : ∀ a, F' a → ∃ xs, H' a = some (.lst xs)) : EnvOk T F' γ σ H' :=
  ⟨fun i w e => let ⟨v, h, r⟩ := x.slot i w e; ⟨v, h, r.grF g hf hs⟩, fok, g.2 x.tabs, x.len⟩
section
variable {T : TabL} {X : Cx} {E : XK} {pos : Pos}
/-! ### zip -/
def zipD (ds es : List PyData) : List PyData := (ds.zip es).map fun p => .tuple [p.1, p.2]
theorem zipD_get {ds es : List PyData} {i : Nat} {d : PyData} (h : (zipD ds es)[i]? = some d) : ∃ a b, ds[i]? = some a ∧ es[i]? = some b ∧ d = .tuple [a, b] := by
  unfold zipD at h
  rw [List.getElem?_map] at h
  cases e : (ds.zip es)[i]? with
  | none => rw [e] at h; cases h
  | some p =>
    rw [e] at h
    cases h
    rw [List.getElem?_zip_eq_some] at e
    exact ⟨p.1, p.2, e.1, e.2, rfl⟩
theorem zipD_len {ds es : List PyData} : (zipD ds es).length = min ds.length es.length := by unfold zipD; simp
theorem itD_zip {F : FB} {K : PySem.W.Frag} {a b : Addr} {xs ys : List V} {ds es : List PyData} (hF : ¬ F a) (hG : ¬ F b) : ItD2 T F (Itz K a b) (fun H => (H a = some (.lst xs) ∧ Rps F H xs ds) ∧ H b = some (.lst ys) ∧ Rps F H ys es) (zipD ds es) where
  gr := fun H H' g h => ⟨⟨g.lst h.1.1, h.1.2.gr g⟩, g.lst h.2.1, h.2.2.gr g⟩
  go := fun i H hi h => by
    rw [zipD_len] at hi
    exact ⟨xs, ys, xs[i]'(by rw [h.1.2.length]; omega), ys[i]'(by rw [h.2.2.length]; omega), SqL.of h.1.1, SqL.of h.2.1, by simp, by simp⟩
  stop := fun H h => ⟨xs, ys, SqL.of h.1.1, SqL.of h.2.1, by rw [h.1.2.length, h.2.2.length, zipD_len]; omega⟩
  yld := fun i H x H' d h y hd => by
    obtain ⟨Tt, u, v, rfl, hT, rfl, y1, y2⟩ := y
    refine ⟨Gr.new hT, fun Hk F' hk g hf => ?_⟩
    obtain ⟨p, q, e1, e2, rfl⟩ := zipD_get hd
    obtain ⟨w1, h1, r1⟩ := hk.1.2.get e1
    obtain ⟨w2, h2, r2⟩ := hk.2.2.get e2
    have z1 : w1 = u := Option.some.inj (h1.symm.trans (y1 xs (SqL.of h.1.1)))
    have z2 : w2 = v := Option.some.inj (h2.symm.trans (y2 ys (SqL.of h.2.1)))
    rw [← z1, ← z2]
    rw [← z1, ← z2] at g
    exact .tup upd_same (.cons (r1.grF g hf) (.cons (r2.grF g hf) .nil))
theorem itD_zipT {F : FB} {K : PySem.W.Frag} {a b : Addr} {xs ys : List V} {ds es : List PyData} : ItD2 T F (RZ.ItzT K a b) (fun H => (H a = some (.tup xs) ∧ Rps F H xs ds) ∧ H b = some (.tup ys) ∧ Rps F H ys es) (zipD ds es) where
  gr := fun H H' g h => ⟨⟨g.tup h.1.1, h.1.2.gr g⟩, g.tup h.2.1, h.2.2.gr g⟩
  go := fun i H hi h => by
    rw [zipD_len] at hi
    exact ⟨xs, ys, xs[i]'(by rw [h.1.2.length]; omega), ys[i]'(by rw [h.2.2.length]; omega), SqT.of h.1.1, SqT.of h.2.1, by simp, by simp⟩
  stop := fun H h => ⟨xs, ys, SqT.of h.1.1, SqT.of h.2.1, by rw [h.1.2.length, h.2.2.length, zipD_len]; omega⟩
  yld := fun i H x H' d h y hd => by
    obtain ⟨Tt, u, v, rfl, hT, rfl, y1, y2⟩ := y
    refine ⟨Gr.new hT, fun Hk F' hk g hf => ?_⟩
    obtain ⟨p, q, e1, e2, rfl⟩ := zipD_get hd
    obtain ⟨w1, h1, r1⟩ := hk.1.2.get e1
    obtain ⟨w2, h2, r2⟩ := hk.2.2.get e2
    have z1 : w1 = u := Option.some.inj (h1.symm.trans (y1 xs (SqT.of h.1.1)))
    have z2 : w2 = v := Option.some.inj (h2.symm.trans (y2 ys (SqT.of h.2.1)))
    rw [← z1, ← z2]
    rw [← z1, ← z2] at g
    exact .tup upd_same (.cons (r1.grF g hf) (.cons (r2.grF g hf) .nil))
@[simp] def miZip (m : MA) : MI := fun γ Qd R => m γ (fun ws => match ws with
  | [.val (.list ds), .val (.list es)] => Qd (zipD ds es)
  | [.val (.tuple ds), .val (.tuple es)] => Qd (zipD ds es)
  | _ => False) R
theorem i_zip {e e2 : Expr} {m : MA} {p pos tpos : Pos} {elts : List Expr} {kk : Nat} (hg : Gl X "zip") (hm : X.mg "zip" = none) (ha : AJ T X E [e, e2] m)
    (hs : starEach [e, e2] X.env = (false, eval e X.env) :: starEach [e2] X.env := by rfl) (hpl : (backTo pos (starEach [e2] X.env)).any (·.1) = false := by rfl) : IJ T X E (.Tuple elts kk tpos) (.Call (.Name "zip" p) [e, e2] [] pos) (miZip m) := by
  constructor
  intro F γ σ H Qd R eo hR hm'
  refine Ei.of (RZ.pi_zipA hg hm (Ea.pa X _) hs hpl) ((ha F γ σ H _ R eo hR hm').mono fun vs H1 ⟨g, ws, r, q⟩ => ?_)
  dsimp only at q
  split at q
  · obtain ⟨v, z, rfl, rv, rz⟩ := ws2 r
    obtain ⟨a, xs, rfl, nF, ea, rr⟩ := Rp.lstI rv
    obtain ⟨b, ys, rfl, nG, eb, rs⟩ := Rp.lstI rz
    exact ⟨a, b, xs, ys, rfl, .inl ⟨SqL.of ea, SqL.of eb, g, _, _, itD_zip nF nG, ⟨⟨ea, rr⟩, eb, rs⟩, fun H0 => ⟨⟨restr_lst nF ea, restr_rps (eo.gr g).fok rr⟩, restr_lst nG eb, restr_rps (eo.gr g).fok rs⟩, q⟩⟩
  · obtain ⟨v, z, rfl, rv, rz⟩ := ws2 r
    obtain ⟨a, xs, rfl, ea, rr⟩ := Rp.tupI rv
    obtain ⟨b, ys, rfl, eb, rs⟩ := Rp.tupI rz
    exact ⟨a, b, xs, ys, rfl, .inr ⟨SqT.of ea, SqT.of eb, g, _, _, itD_zipT, ⟨⟨ea, rr⟩, eb, rs⟩, fun H0 => ⟨⟨restr_tup (eo.gr g).fok ea, restr_rps (eo.gr g).fok rr⟩, restr_tup (eo.gr g).fok eb, restr_rps (eo.gr g).fok rs⟩, q⟩⟩
  · exact q.elim

/-! ### comprehensions -/
@[simp] def wipeD (γ : DEnv) : List Nat → DEnv
  | [] => γ
  | v :: vs => (wipeD γ vs).set v none
theorem EnvOk.wipe {F : FB} {γ : DEnv} {σ : St} {H : Hp} (x : EnvOk T F γ σ H) : ∀ vs : List Nat, EnvOk T F (wipeD γ vs) (wipe σ vs) H
  | [] => x
  | v :: vs => by
    have ih := EnvOk.wipe x vs
    refine ⟨fun j u e => ?_, ih.fok, ih.tabs, by unfold wipeD L2.wipe; simp [ih.len]⟩
    unfold wipeD at e
    unfold L2.wipe
    by_cases hj : v = j
    · subst hj
      rcases Nat.lt_or_ge v (wipeD γ vs).length with z | z
      · rw [List.getElem?_set_self z] at e; cases e
      · rw [List.getElem?_eq_none (by simpa using z)] at e; cases e
    · rw [List.getElem?_set_ne hj] at e ⊢
      exact ih.slot j u e
theorem wipe_set {σ : St} {i : Nat} {x : Option V} : ∀ {vs : List Nat}, i ∈ vs → wipe (σ.set i x) vs = wipe σ vs
  | [], h => by cases h
  | v :: vs, h => by
    unfold L2.wipe
    by_cases hv : i = v
    · subst hv
      by_cases hm : i ∈ vs
      · rw [wipe_set hm]
      · have e : ∀ (ws : List Nat), i ∉ ws → wipe (σ.set i x) ws = (wipe σ ws).set i x := by
          intro ws
          induction ws with
          | nil => intro _; rfl
          | cons w ws ih =>
            intro hn
            simp only [List.mem_cons, not_or] at hn
            unfold L2.wipe
            rw [ih hn.2, List.set_comm _ _ hn.1]
        rw [e vs hm, List.set_set]
    · rcases List.mem_cons.mp h with z | z
      · exact absurd z hv
      · rw [wipe_set z]
theorem wipe_get {σ : St} {j : Nat} : ∀ {vs : List Nat}, (wipe σ vs)[j]? = if j ∈ vs then (σ[j]?).map (fun _ => none) else σ[j]?
  | [] => by simp [L2.wipe]
  | v :: vs => by
    have ih := wipe_get (σ := σ) (j := j) (vs := vs)
    unfold L2.wipe
    by_cases hv : v = j
    · subst hv
      rw [if_pos List.mem_cons_self, List.getElem?_set_self']
      have hl : (wipe σ vs).length = σ.length := wipe_length σ vs
      rcases Nat.lt_or_ge v σ.length with z | z
      · simp [hl, z]
      · simp [hl, z]
    · rw [List.getElem?_set_ne hv, ih]
      have e : (j ∈ v :: vs) ↔ j ∈ vs := by simp [Ne.symm hv]
      simp only [e]
theorem wipe_wipe (σ : St) (vs : List Nat) : wipe (wipe σ vs) vs = wipe σ vs := by
  apply List.ext_getElem?
  intro j
  rw [wipe_get]
  split
  · rename_i h
    rw [wipe_get, if_pos h]
    cases σ[j]? <;> rfl
  · rfl
theorem wipe_setAll : ∀ {is : List Nat} {vs : List V} {σ : St} {ws : List Nat}, (∀ i ∈ is, i ∈ ws) → wipe (setAllσ is vs σ) ws = wipe σ ws
  | [], _, _, _, _ => rfl
  | _ :: _, [], _, _, _ => rfl
  | i :: is, v :: vs, σ, ws, h => by
    show wipe (setAllσ is vs (σ.set i (some v))) ws = wipe σ ws
    rw [wipe_setAll (is := is) fun j hj => h j (List.mem_cons_of_mem _ hj), wipe_set (h i List.mem_cons_self)]
/-- a comprehension's target: one name, or several -/
structure CT (T : TabL) (K : PySem.W.Frag) (vs : List Nat) (g : TG) (gd : MG) : Prop where
  run : ∀ (F : FB) (γ : DEnv) (σ : St) (H : Hp) (v : V) (w : W) (Q : DEnv → Prop) (K : St → Hp → Prop), EnvOk T F γ σ H → RpW F H v w → gd w γ Q → (∀ σ' γ', EnvOk T F γ' σ' H → wipe σ' vs = wipe σ vs → Q γ' → K σ' H) → g v σ H K
theorem ct_name {K : PySem.W.Frag} {vs : List Nat} {i : Nat} (h : i ∈ vs) : CT T K vs (gName i) (gN i) := ⟨fun F γ σ H v w Q K eo r q k => k _ _ (eo.set r) (wipe_set h) q.2⟩
theorem ct_tup {K : PySem.W.Frag} {vs : List Nat} {is : List Nat} {n : Nat} (hn : n = is.length) (h : ∀ i ∈ is, i ∈ vs) : CT T K vs (gTup K n (gNames is)) (gT is) := ⟨fun F γ σ H v w Q Kk eo r q k => by
  unfold gT at q
  split at q
  · obtain ⟨a, xs, rfl, e, rr⟩ := Rp.tupI r
    obtain ⟨e1, _⟩ := setAll_ok (is := is) rr eo
    exact ⟨a, xs, rfl, SqT.of e, by rw [rr.length, hn]; exact q.1, gNames_run (by rw [rr.length]; exact q.1) (k _ _ e1 (wipe_setAll h) q.2)⟩
  · exact q.elim⟩
/-- the contexts of a comprehension's block -/
abbrev BX (X : Cx) (scope : Scope) (s : Shared) (H : Hp) (C : Addr) (cl : List (Str × Addr)) (fp : List Addr) : Cx := X.blk s H scope (compEnvC scope cl C X.env) fp
abbrev noR : Addr → Prop := fun _ => False
abbrev E0' : XK := fun _ _ _ => False
def Eb (X : Cx) (scope : Scope) (e : Expr) : TE := fun σ H Q => ∀ s H0 C cl fp, Ev (BX X scope s H0 C cl fp) e σ H Q
def Etb (X : Cx) (scope : Scope) (e : Expr) : TT := fun σ H Q => ∀ s H0 C cl fp, Et (BX X scope s H0 C cl fp) e σ H Q
def EJb (T : TabL) (X : Cx) (scope : Scope) (e : Expr) (m : M) : Prop := ∀ s H0 C cl fp, EJ T (BX X scope s H0 C cl fp) E0' e m
/-- the tests of a comprehension -/
structure PTd (T : TabL) (X : Cx) (scope : Scope) (ifs : List Expr) (tt : TT) (mt : MB) : Prop where
  pts : ∀ s H0 C cl fp, PTs (BX X scope s H0 C cl fp) ifs tt
  run : ∀ (F : FB) (γ : DEnv) (σ : St) (H : Hp) (Q : Bool → Prop) (K : Bool → Hp → Prop), EnvOk T F γ σ H → mt γ Q noR → (∀ b H', Gr T H H' → Q b → K b H') → tt σ H K
@[simp] def mYes : MB := fun _ Q _ => Q true
theorem td_none {scope : Scope} : PTd T X scope [] tYes mYes := ⟨fun _ _ _ _ _ => pts_nil, fun F γ σ H Q K eo q k => k true H (Gr.refl _ _) q⟩
theorem td_one {scope : Scope} {c : Expr} {mt : MB} (h : ∀ s H0 C cl fp, TJ T (BX X scope s H0 C cl fp) E0' c mt) : PTd T X scope [c] (Etb X scope c) mt :=
  ⟨fun s H0 C cl fp => pts_one ⟨fun pins st σ H Q I q => q s H0 C cl fp pins st I⟩, fun F γ σ H Q K eo q k s H0 C cl fp => ((h s H0 C cl fp) F γ σ H Q noR eo RzOk.no q).mono fun b H' ⟨g, z⟩ => k b H' g z⟩
@[simp] def isV (k : PyData → Prop) : W → Prop
  | .val d => k d
  | _ => False
theorem isV.out {F : FB} {H : Hp} {v : V} {w : W} {k : PyData → Prop} (r : RpW F H v w) (h : isV k w) : ∃ d, Rp F H v d ∧ k d := by
  cases w with
  | val d => exact ⟨d, r, h⟩
  | _ => exact (show False from h).elim
def lcRun (gd : MG) (mt : MB) (me : M) (γ : DEnv) : List PyData → List PyData → (List PyData → Prop) → Prop
  | [], acc, K => K acc
  | d :: ds, acc, K => gd (.val d) γ fun γ1 => mt γ1 (fun b => (b = true → me γ1 (isV fun e => SzOk (acc.length + 1) ∧ lcRun gd mt me γ ds (acc ++ [e]) K) noR) ∧ (b = false → lcRun gd mt me γ ds acc K)) noR
@[simp] def mLc (mi : MI) (gd : MG) (mt : MB) (me : M) (vs : List Nat) : M := fun γ Q R => mi γ (fun ds => lcRun gd mt me (wipeD γ vs) ds [] fun acc => Q (.val (.list acc))) R
theorem lc_run {tg iter : Expr} {mi : MI} {g : TG} {gd : MG} {scope : Scope} {ifs : List Expr} {elt : Expr} {tt : TT} {mt : MB} {me : M} {vs : List Nat} (hi : IJ T X E tg iter mi) (ct : CT T X.K vs g gd) (ht : PTd T X scope ifs tt mt) (he : EJb T X scope elt me)
    {F : FB} {γ : DEnv} {σ : St} {H : Hp} {Q : W → Prop} {R : Addr → Prop} {Kk : VK} (eo : EnvOk T F γ σ H) (hR : RzOk T E H R) (hm : mLc mi gd mt me vs γ Q R) (kk : ∀ D H2 xs acc, Gr T H H2 → NT H D → H2 D = some (.lst xs) → Rps F H2 xs acc → Q (.val (.list acc)) → Kk (.ref D) H2) : tLc (Ei X tg iter) g tt (Eb X scope elt) vs σ H Kk := by
  refine (hi F γ σ H _ R eo hR hm).mono fun J H1 ⟨g1, ds, P, it, p1, p2, hq⟩ => ?_
  intro D hD
  have eo1 := eo.gr g1
  have fD : ¬ F D := fun z => by
    obtain ⟨_, q⟩ := eo1.fok D z
    rw [hD] at q; cases q
  refine ⟨fun i m H' => m = ds.length - i ∧ i ≤ ds.length ∧ Gr T H1 H' ∧ ∃ xs acc, H' D = some (.lst xs) ∧ Rps (fun a => F a ∨ a = D) H' xs acc ∧ lcRun gd mt me (wipeD γ vs) (ds.drop i) acc fun acc => Q (.val (.list acc)),
    ⟨ds.length, by simp, Nat.zero_le _, Gr.new hD, [], [], upd_same, .nil, by simpa using hq⟩, ?_⟩
  rintro i m H' ⟨rfl, hi', g2, xs, acc, hxs, rxs, hrun⟩
  have pH := it.gr _ _ g2 p1
  by_cases hlt : i < ds.length
  · right
    have hd : ds[i]? = some ds[i] := by simp [hlt]
    rw [List.drop_eq_getElem_cons hlt] at hrun
    refine ⟨it.go i H' hlt pH, fun H2 => Gr T H1 H2 ∧ ∃ xs acc, H2 D = some (.lst xs) ∧ Rps (fun a => F a ∨ a = D) H2 xs acc ∧ lcRun gd mt me (wipeD γ vs) (ds.drop (i + 1)) acc fun acc => Q (.val (.list acc)),
      fun H2 q => ⟨ds.length - (i + 1), by omega, rfl, hlt, q⟩, fun x H2 y => ?_⟩
    obtain ⟨g3, rx⟩ := it.yld i H' x H2 _ pH y hd
    have g13 := g2.trans g3
    have hfF : ∀ a, (F a ∨ a = D) → F a ∨ NT H1 a := fun a z => z.imp id fun e => by rw [e]; exact NT.of hD
    have dH2 : H2 D = some (.lst xs) := g3.lst hxs
    have eo2 : EnvOk T (fun a => F a ∨ a = D) (wipeD γ vs) (wipe σ vs) H2 := (eo1.wipe vs).grF g13 hfF (fun a z => .inl z) fun a z => by
      rcases z with z | z
      · obtain ⟨ys, q⟩ := eo1.fok a z
        exact ⟨ys, g13.lst q⟩
      · rw [z]; exact ⟨xs, dH2⟩
    have r2 : Rp (fun a => F a ∨ a = D) H2 x ds[i] := rx H1 _ p1 g13 hfF
    refine ct.run _ _ _ _ _ (.val ds[i]) _ _ eo2 r2 hrun fun σ3 γ3 eo3 hw q3 => ⟨hw.trans (wipe_wipe σ vs), ?_⟩
    refine ht.run _ _ _ _ _ _ eo3 q3 fun b H3 g4 q4 => ?_
    cases b with
    | true =>
      refine iteT fun s H0 C cl fp => ((he s H0 C cl fp) _ γ3 σ3 H3 _ noR (eo3.gr g4) RzOk.no (q4.1 rfl)).mono fun y H4 ⟨g5, w, r5, q5⟩ => ?_
      obtain ⟨e, re, hz, q6⟩ := isV.out r5 q5
      have d4 : H4 D = some (.lst xs) := g5.lst (g4.lst dH2)
      have g15 := (g13.trans g4).trans g5
      have rl : Rps (fun a => F a ∨ a = D) H4 (xs ++ [y]) (acc ++ [e]) := (((rxs.gr g3).gr g4).gr g5).append (.cons re .nil)
      refine ⟨xs, d4, by rw [rxs.length]; exact hz.le, ⟨fun a o ea ntb => ?_, fun t => ?_⟩, xs ++ [y], acc ++ [e], upd_same, ?_, q6⟩
      · have na : a ≠ D := fun z => by rw [z, hD] at ea; cases ea
        rw [upd_ne na]
        exact g15.1 a o ea ntb
      · intro p hp
        obtain ⟨ps, z1, z2, z3⟩ := g15.2 t p hp
        have ne : ∀ b o, H4 b = some o → (∀ l, o ≠ .lst l) → upd H4 D (.lst (xs ++ [y])) b = some o := fun b o eb nl => by
          rw [upd_ne]
          · exact eb
          · intro z
            rw [z, d4] at eb
            exact nl _ (Option.some.inj eb).symm
        refine ⟨ps, ne _ _ z1 (fun _ z => by cases z), z2, fun pos cv hc => ?_⟩
        obtain ⟨c, e1, e2⟩ := z3 pos cv hc
        exact ⟨c, e1, ne _ _ e2 (fun _ z => by unfold LamX.CodeO at z; cases z)⟩
      · exact Rps.map (fun a zs ea nF => ⟨nF, by
          rw [upd_ne fun z => nF (.inr z)]
          exact ea⟩) (fun a zs ea => by
          rw [upd_ne fun z => by rw [z, d4] at ea; cases ea]
          exact ea) _ _ rl
    | false =>
      refine iteF ⟨g13.trans g4, xs, acc, g4.lst dH2, (rxs.gr g3).gr g4, q4.2 rfl⟩
  · left
    have e : i = ds.length := by omega
    subst e
    rw [List.drop_eq_nil_of_le (Nat.le_refl _)] at hrun
    have hHD : NT H D := NT.back g1 (NT.of hD)
    exact ⟨it.stop H' pH, kk D H' xs acc (g1.trans g2) hHD hxs (rxs.sub fun a z => .inl z) hrun⟩
/-- as a value -/
theorem e_lc {tg iter : Expr} {mi : MI} {g : TG} {gd : MG} {scope : Scope} {ifs : List Expr} {elt : Expr} {tt : TT} {mt : MB} {me : M} {own : List (Str × Nat)} {vs : List Nat} (hc : X.calm = true) (hN : X.N.Nodup) (hi : IJ T X E tg iter mi) (ok : BlkOk X.N X.env.scope scope own)
    (hg : ∀ s H C cl fp, PG (BX X scope s H C cl fp) tg g) (ct : CT T X.K vs g gd) (ht : PTd T X scope ifs tt mt) (he : EJb T X scope elt me) (hv : own.map (·.2) = vs := by rfl) (hs : ∀ x, foldedSetIterable iter X.env x = pure x := by intro _; rfl) :
    EJ T X E (.ListComp elt [⟨tg, iter, ifs, 0⟩] scope pos) (mLc mi gd mt me vs) := by
  constructor
  intro F γ σ H Q R eo hR hm
  refine Ev.of (pe_lc hc hN (Ei.pi X tg iter) ok hg ht.pts (te := Eb X scope elt) (fun s H0 C cl fp => ⟨fun pins st σ H Q I q => q s H0 C cl fp pins st I⟩) hs) ?_
  rw [hv]
  refine lc_run hi ct ht he eo hR hm fun D H2 xs acc g nt e rr q => ⟨g, .val (.list acc), .lst (fun z => ?_) e rr, q⟩
  obtain ⟨_, z2⟩ := eo.fok D z
  obtain ⟨_, z3⟩ := nt _ z2
  cases z3
/-- name = [..] on one line -/
theorem s_setLc {i : Nat} {y : Str} {py spos : Pos} {tg iter : Expr} {mi : MI} {g : TG} {gd : MG} {scope : Scope} {ifs : List Expr} {elt : Expr} {tt : TT} {mt : MB} {me : M} {own : List (Str × Nat)} {vs : List Nat} (hc : X.calm = true) (hN : X.N.Nodup) (hy : X.N[i]? = some y) (hyl : X.env.scope.names.lookup y = some .local)
    (hsw : swapsWith (.ListComp elt [⟨tg, iter, ifs, 0⟩] scope pos) (some (.Name y py)) spos.line X.env = pure true) (hi : IJ T X E tg iter mi) (ok : BlkOk X.N X.env.scope scope own)
    (hg : ∀ s H C cl fp, PG (BX X scope s H C cl fp) tg g) (ct : CT T X.K vs g gd) (ht : PTd T X scope ifs tt mt) (he : EJb T X scope elt me) (hv : own.map (·.2) = vs := by rfl) (hs : ∀ x, foldedSetIterable iter X.env x = pure x := by intro _; rfl) :
    SJ T X E (.Assign [.Name y py] (.ListComp elt [⟨tg, iter, ifs, 0⟩] scope pos) spos) (sSet i (mLc mi gd mt me vs)) := by
  constructor
  intro F0 H0 γ σ H D hS hR hm
  obtain ⟨F, eo, s, n⟩ := hS.ex
  refine E1.of (ps_setLc hc hN hy hyl hsw (Ei.pi X tg iter) ok hg ht.pts (te := Eb X scope elt) (fun s H0 C cl fp => ⟨fun pins st σ H Q I q => q s H0 C cl fp pins st I⟩) hs) ?_
  rw [hv]
  refine lc_run (Q := fun w => isMut w = false ∧ D.nx (γ.set i (some w))) hi ct ht he eo (hR.gr hS.gr) hm fun Dl H2 xs acc g nt e rr q => ?_
  have r : Rp F H2 (.ref Dl) (.list acc) := .lst (fun z => by
    obtain ⟨_, z2⟩ := eo.fok Dl z
    obtain ⟨_, z3⟩ := nt _ z2
    cases z3) e rr
  exact ⟨_, (hS.gr' g).set (eo.gr g) s n (w := .val (.list acc)) r q.1, q.2⟩
/-! ### while -/
def sWhile (mc : MB) (mb : MS) : MS := fun D γ => ∃ W : Nat → DEnv → Prop, (∃ m, W m γ) ∧ ∀ m γ, W m γ →
  mc γ (fun b => (b = true → mb { D with nx := fun γ' => ∃ m', m' < m ∧ W m' γ', ct := fun γ' => ∃ m', m' < m ∧ W m' γ', bk := D.nx } γ) ∧ (b = false → D.nx γ)) D.ex
theorem s_while {c : Expr} {body : List Stmt} {mc : MB} {mb : MS} (hp : PassesOwn (model X.prog X.w) X.A X.env X.xe) (hc : TJ T X E c mc) (hb : SsJ T X E body mb) : SJ T X E (.While c body [] pos) (sWhile mc mb) := by
  constructor
  intro F0 H0 γ σ H D hS hR hm
  obtain ⟨W, ⟨m0, w0⟩, turn⟩ := hm
  refine E1.of (ps_while hp (Et.pt X c) (Es.pss X body)) ⟨fun m σ' H' => ∃ γ', EnvS T F0 H0 γ' σ' H' ∧ W m γ', ⟨m0, γ, hS, w0⟩, ?_⟩
  rintro m σ1 H1 ⟨γ1, hS1, w1⟩
  obtain ⟨F, eo, s, n⟩ := hS1.ex
  refine (hc F γ1 σ1 H1 _ _ eo (hR.gr hS1.gr) (turn m γ1 w1)).mono fun b H2 ⟨g, q⟩ => ?_
  cases b with
  | true =>
    refine iteT ⟨fun σ' H' => ∃ γ', EnvS T F0 H0 γ' σ' H' ∧ ∃ m', m' < m ∧ W m' γ', fun σ' H' ⟨γ', a, m', b, c⟩ => ⟨m', b, γ', a, c⟩, ?_⟩
    exact hb F0 H0 γ1 σ1 H2 { D with nx := fun γ' => ∃ m', m' < m ∧ W m' γ', ct := fun γ' => ∃ m', m' < m ∧ W m' γ', bk := D.nx } (hS1.gr' g) hR (q.1 rfl)
  | false => exact iteF ⟨γ1, hS1.gr' g, q.2 rfl⟩
end
end GJ

/-! G10: lists and dicts of the def's own; calls, raise, defs. -/
namespace GJ
open PySem PySem.Spec PyProof.Rows L2

@[simp] def isOwn : Option W → Bool
  | some (.own _) => true
  | _ => false
@[simp] def noOwn : DEnv → Bool
  | [] => true
  | x :: r => !isOwn x && noOwn r
/-- no other list of the def's own -/
@[simp] def sole : Nat → DEnv → Bool
  | _, [] => true
  | 0, _ :: r => noOwn r
  | i + 1, x :: r => !isOwn x && sole i r
theorem noOwn_get : ∀ {γ : DEnv} {j : Nat} {ds : List PyData}, noOwn γ = true → γ[j]? = some (some (.own ds)) → False
  | [], _, _, _, e => by simp at e
  | x :: r, 0, _, h, e => by
    simp only [noOwn, Bool.and_eq_true, Bool.not_eq_true'] at h
    simp at e
    subst e
    exact absurd h.1 (by simp [isOwn])
  | x :: r, j + 1, _, h, e => by
    simp only [noOwn, Bool.and_eq_true] at h
    exact noOwn_get h.2 (by simpa using e)
theorem sole_get : ∀ {γ : DEnv} {i j : Nat} {ds : List PyData}, sole i γ = true → j ≠ i → γ[j]? = some (some (.own ds)) → False
  | [], _, _, _, _, _, e => by simp at e
  | x :: r, 0, 0, _, _, h, _ => h rfl
  | x :: r, 0, j + 1, _, h, _, e => noOwn_get h (by simpa using e)
  | x :: r, i + 1, 0, _, h, _, e => by
    simp only [sole, Bool.and_eq_true, Bool.not_eq_true'] at h
    simp at e
    subst e
    exact absurd h.1 (by simp [isOwn])
  | x :: r, i + 1, j + 1, _, h, n, e => by
    simp only [sole, Bool.and_eq_true] at h
    exact sole_get (i := i) (j := j) h.2 (fun z => n (by omega)) (by simpa using e)
section
variable {T : TabL} {X : Cx} {E : XK} {pos : Pos}
theorem set_lt {α : Type} {l : List α} {i : Nat} {a b : α} (h : (l.set i a)[i]? = some b) : i < l.length := by
  rcases Nat.lt_or_ge i l.length with z | z
  · exact z
  · rw [List.getElem?_eq_none (by simpa using z)] at h; cases h
theorem gr_updL {H0 H : Hp} {l : Addr} {xs ys : List V} (g : Gr T H0 H) (n : NT H0 l) (e : H l = some (.lst xs)) (t : LamX.Tabs T H) : LamX.Tabs T (upd H l (.lst ys)) ∧ Gr T H0 (upd H l (.lst ys)) := by
  have ne : ∀ b o, H b = some o → (∀ l, o ≠ .lst l) → upd H l (.lst ys) b = some o := fun b o eb nl => by
    rw [upd_ne]
    · exact eb
    · intro z
      rw [z, e] at eb
      exact nl _ (Option.some.inj eb).symm
  have tt : LamX.Tabs T (upd H l (.lst ys)) := fun p hp => by
    obtain ⟨ps, z1, z2, z3⟩ := t p hp
    refine ⟨ps, ne _ _ z1 (fun _ z => by cases z), z2, fun pos cv hc => ?_⟩
    obtain ⟨c, e1, e2⟩ := z3 pos cv hc
    exact ⟨c, e1, ne _ _ e2 (fun _ z => by unfold LamX.CodeO at z; cases z)⟩
  refine ⟨tt, fun b o eb ntb => ?_, fun _ => tt⟩
  have nb : b ≠ l := fun z => by
    subst z
    obtain ⟨ps, q⟩ := n o eb
    exact ntb ps q
  rw [upd_ne nb]
  exact g.1 b o eb ntb
theorem rps_updL {F : FB} {H : Hp} {l : Addr} {xs ys : List V} (fl : F l) (e : H l = some (.lst xs)) {vs : List V} {ds : List PyData} (r : Rps F H vs ds) : Rps F (upd H l (.lst ys)) vs ds :=
  Rps.map (fun a zs ea nF => ⟨nF, by rw [upd_ne fun z => nF (by rw [z]; exact fl)]; exact ea⟩) (fun a zs ea => by rw [upd_ne fun z => by rw [z, e] at ea; cases ea]; exact ea) _ _ r
theorem rp_updL {F : FB} {H : Hp} {l : Addr} {xs ys : List V} (fl : F l) (e : H l = some (.lst xs)) {v : V} {d : PyData} (r : Rp F H v d) : Rp F (upd H l (.lst ys)) v d :=
  Rp.map (fun a zs ea nF => ⟨nF, by rw [upd_ne fun z => nF (by rw [z]; exact fl)]; exact ea⟩) (fun a zs ea => by rw [upd_ne fun z => by rw [z, e] at ea; cases ea]; exact ea) _ _ r
theorem rpW_updL {F : FB} {H : Hp} {l : Addr} {xs ys : List V} (fl : F l) (e : H l = some (.lst xs)) {v : V} : ∀ {w : W}, isOwn (some w) = false → RpW F H v w → RpW F (upd H l (.lst ys)) v w
  | .val _, _, r => rp_updL fl e r
  | .own _, z, _ => by cases z
  | .dk _, _, ⟨b, zs, eb, h, k, r⟩ => ⟨b, zs, eb, by rw [upd_ne fun z => by rw [z, e] at h; cases h]; exact h, k, rps_updL fl e r⟩
  | .dt _, _, ⟨b, zs, eb, h, k, r⟩ => ⟨b, zs, eb, by rw [upd_ne fun z => by rw [z, e] at h; cases h]; exact h, k, rps_updL fl e r⟩
  | .odk _, _, ⟨b, zs, eb, h, k, r⟩ => ⟨b, zs, eb, by rw [upd_ne fun z => by rw [z, e] at h; cases h]; exact h, k, rps_updL fl e r⟩
  | .odt _, _, ⟨b, zs, eb, h, k, r⟩ => ⟨b, zs, eb, by rw [upd_ne fun z => by rw [z, e] at h; cases h]; exact h, k, rps_updL fl e r⟩
  | .src, _, ⟨b, eb, h⟩ => ⟨b, eb, by rw [upd_ne fun z => by rw [z, e] at h; unfold SrcO at h; cases h]; exact h⟩
  | .scr _ _, _, ⟨b, eb, h⟩ => ⟨b, eb, h.map (fun q n => ⟨by rw [upd_ne fun z => n (by rw [z]; exact fl)]; exact q, n⟩) fun o q => by rw [upd_ne fun z => by rw [z, e] at q; cases q]; exact q⟩
/-- a list of the def's own has changed -/
theorem EnvS.updL {F0 : FB} {H0 : Hp} {γ : DEnv} {σ : St} {H : Hp} {F : FB} {i : Nat} {l : Addr} {xs ys : List V} {ds es : List PyData} (hS : EnvS T F0 H0 γ σ H) (eo : EnvOk T F γ σ H) (s : ∀ a, F0 a → F a) (n : ∀ a, F a → F0 a ∨ NT H0 a)
    (hi : γ[i]? = some (some (.own ds))) (hv : σ[i]? = some (some (.ref l))) (fl : F l) (e : H l = some (.lst xs)) (so : sole i γ = true) (r : Rps F H ys es) : EnvS T F0 H0 (γ.set i (some (.own es))) σ (upd H l (.lst ys)) := by
  obtain ⟨l', e2, nt⟩ := hS.mt i _ _ hi rfl hv
  cases e2
  obtain ⟨tt, g⟩ := gr_updL (ys := ys) hS.gr nt e eo.tabs
  refine ⟨⟨F, ⟨fun j w ej => ?_, fun a fa => ?_, tt, by simp [eo.len]⟩, s, n⟩, g, hS.f0, fun j w v ej hm hx => ?_⟩
  · by_cases hj : i = j
    · subst hj
      rw [List.getElem?_set_self (set_lt ej)] at ej
      cases ej
      exact ⟨.ref l, hv, l, ys, rfl, fl, upd_same, rps_updL fl e r⟩
    · rw [List.getElem?_set_ne hj] at ej
      obtain ⟨v, hv2, rv⟩ := eo.slot j w ej
      refine ⟨v, hv2, rpW_updL fl e ?_ rv⟩
      cases w with
      | own q => exact (sole_get so (Ne.symm hj) ej).elim
      | _ => rfl
  · by_cases ha : a = l
    · subst ha; exact ⟨ys, upd_same⟩
    · obtain ⟨zs, q⟩ := eo.fok a fa
      exact ⟨zs, by rw [upd_ne ha]; exact q⟩
  · by_cases hj : i = j
    · subst hj
      rw [hv] at hx
      cases hx
      exact ⟨l, rfl, nt⟩
    · rw [List.getElem?_set_ne hj] at ej
      exact hS.mt j w v ej hm hx
/-! new lists -/
structure NJ (T : TabL) (X : Cx) (E : XK) (e : Expr) (m : MI) : Prop where
  run : ∀ (F : FB) (γ : DEnv) (σ : St) (H : Hp) (Q : List PyData → Prop) (R : Addr → Prop), EnvOk T F γ σ H → RzOk T E H R → m γ Q R →
  Ev X e σ H (fun v H' => ∃ p H1 xs ds, v = .ref p ∧ Gr T H H1 ∧ H1 p = none ∧ H' = upd H1 p (.lst xs) ∧ Rps F H1 xs ds ∧ Q ds)
instance {T : TabL} {X : Cx} {E : XK} {e : Expr} {m : MI} : CoeFun (NJ T X E e m) (fun _ => ∀ (F : FB) (γ : DEnv) (σ : St) (H : Hp) (Q : List PyData → Prop) (R : Addr → Prop), EnvOk T F γ σ H → RzOk T E H R → m γ Q R →
  Ev X e σ H (fun v H' => ∃ p H1 xs ds, v = .ref p ∧ Gr T H H1 ∧ H1 p = none ∧ H' = upd H1 p (.lst xs) ∧ Rps F H1 xs ds ∧ Q ds)) := ⟨NJ.run⟩
@[simp] def nLst (m : MA) : MI := fun γ Q R => m γ (onV fun ds => ds.length ≤ 1000 ∧ Q ds) R
theorem n_lst {es : List Expr} {m : MA} (h : AJ T X E es m) : NJ T X E (.List es pos) (nLst m) := by
  constructor
  intro F γ σ H Q R hE hR hm
  refine Ev.of (pe_lst (Ea.pa X es)) ((h F γ σ H _ R hE hR hm).mono fun vs H1 ⟨g, ws, r, q⟩ => ?_)
  obtain ⟨ds, rr, z, q⟩ := onV.out r q
  exact ⟨by rw [rr.length]; exact Nat.le_trans z (by decide), fun p n => ⟨p, H1, vs, ds, rfl, g, n, rfl, rr, q⟩⟩
@[simp] def nRep (m : MI) (mb : M) : MI := fun γ Q R => m γ (fun ds => mb γ (fun w => match w with
  | .val (.int k) => (-1000000 ≤ k ∧ k < 1000000) ∧ SzOk (ds.length * k.toNat) ∧ Q (List.replicate k.toNat ds).flatten
  | _ => False) R) R
theorem n_rep {a b : Expr} {m : MI} {mb : M} (ha : NJ T X E a m) (hb : EJ T X E b mb) : NJ T X E (.BinOp a .Mult b pos) (nRep m mb) := by
  constructor
  intro F γ σ H Q R hE hR hm
  refine Ev.of (pe_op op_rep (Ev.pe X a) (Ev.pe X b)) ((ha F γ σ H _ R hE hR hm).mono fun v H1 ⟨p, H2, xs, ds, e1, g, hp, e2, rr, q⟩ => ?_)
  subst e1 e2
  have g2 := g.trans (Gr.new (T := T) (o := .lst xs) hp)
  refine (hb F γ σ _ _ R (hE.gr g2) (hR.gr g2) q).mono fun y H3 ⟨g3, w, r, q3⟩ => ?_
  dsimp only at q3
  split at q3
  · rename_i k
    cases r
    refine ⟨p, k, xs, rfl, rfl, g3.lst upd_same, by omega, by omega, by rw [rr.length]; exact q3.2.1.le, fun p2 n2 => ⟨p2, H3, _, _, rfl, g2.trans g3, n2, rfl, ((rr.gr (Gr.new (T := T) hp)).gr g3).rep _, q3.2.2⟩⟩
  · exact q3.elim
@[simp] def sNew (i : Nat) (m : MI) : MS := fun D γ => m γ (fun ds => i < γ.length ∧ D.nx (γ.set i (some (.own ds)))) D.ex
theorem s_new {i : Nat} {x : Str} {e : Expr} {m : MI} {pos' : Pos} (hN : X.N.Nodup) (hi : X.N[i]? = some x) (hx : Loc X.env.scope x) (h : NJ T X E e m) (hs : swapsWith e (some (.Name x pos')) pos.line X.env = pure false := by rfl) (hf : X.fn x = true ∨ X.env.scope.names.lookup x = some .local := by first | exact .inl rfl | exact .inr rfl | assumption) :
    SJ T X E (.Assign [.Name x pos'] e pos) (sNew i m) := by
  constructor
  intro F0 H0 γ σ H D hS hR hm
  obtain ⟨F, eo, s, n⟩ := hS.ex
  refine E1.of (ps_set hN hi hx (Ev.pe X e) hs hf) ((h F γ σ H _ _ eo (hR.gr hS.gr) hm).mono fun v H' ⟨p, H1, xs, ds, e1, g, hp, e2, rr, hlt, q⟩ => ?_)
  subst e1 e2
  have gp := Gr.new (T := T) (o := .lst xs) hp
  have g2 := g.trans gp
  have fp : ∀ a, (F a ∨ a = p) → F a ∨ NT H1 a := fun a z => z.imp id fun e => by rw [e]; exact NT.of hp
  have eo1 := eo.gr g
  have eo2 : EnvOk T (fun a => F a ∨ a = p) γ σ (upd H1 p (.lst xs)) := eo1.grF gp fp (fun a z => .inl z) fun a z => by
    rcases z with z | z
    · obtain ⟨ys, q⟩ := eo1.fok a z
      exact ⟨ys, gp.lst q⟩
    · rw [z]; exact ⟨xs, upd_same⟩
  have gr0 := hS.gr.trans g
  have nt : NT H0 p := NT.back gr0 (NT.of hp)
  have rw' : RpW (fun a => F a ∨ a = p) (upd H1 p (.lst xs)) (.ref p) (.own ds) := ⟨p, xs, rfl, .inr rfl, upd_same, rr.grF gp fp⟩
  refine ⟨γ.set i (some (.own ds)), ⟨⟨_, eo2.set rw', fun a z => .inl (s a z), fun a z => ?_⟩, hS.gr.trans g2, hS.f0, fun j w v ej hm hv => ?_⟩, q⟩
  · rcases z with z | z
    · exact n a z
    · rw [z]; exact .inr nt
  · by_cases hj : i = j
    · subst hj
      rw [List.getElem?_set_self (set_lt hv)] at hv
      cases hv
      exact ⟨p, rfl, nt⟩
    · rw [List.getElem?_set_ne hj] at ej hv
      exact hS.mt j w v ej hm hv
/-! append, [..] = -/
@[simp] def sApp (i : Nat) (me : M) : MS := fun D γ => match γ[i]? with
  | some (some (.own ds)) => me γ (isV fun d => SzOk (ds.length + 1) ∧ sole i γ = true ∧ D.nx (γ.set i (some (.own (ds ++ [d]))))) D.ex
  | _ => False
theorem s_app {i : Nat} {x : Str} {e : Expr} {me : M} {p1 apos cpos : Pos} (hv : PE X (.Name x p1) (tVar i)) (h : EJ T X E e me) (hbm : ∀ {te : TE}, PE X e te → PE X (.Call (.Attribute (.Name x p1) "append" apos) [e] [] cpos) (tBM X.K "list" rAppend (tVar i) (tCons te tNil)))
    (hs : swapsWith (.Call (.Attribute (.Name x p1) "append" apos) [e] [] cpos) none pos.line X.env = pure false := by rfl) : SJ T X E (.Expr (.Call (.Attribute (.Name x p1) "append" apos) [e] [] cpos) pos) (sApp i me) := by
  constructor
  intro F0 H0 γ σ H D hS hR hm
  unfold sApp at hm
  split at hm
  · rename_i ds ei
    obtain ⟨F, eo, s, n⟩ := hS.ex
    obtain ⟨v, hv2, l, xs, rfl, fl, el, rl⟩ := eo.slot i _ ei
    refine E1.of (ps_expr (hbm (Ev.pe X e)) hs) ⟨.ref l, hv2, .inl ⟨rfl, _, SqL.of el⟩, ?_⟩
    refine (h F γ σ H _ _ eo (hR.gr hS.gr) hm).mono fun y H1 ⟨g, w, r, q⟩ => ?_
    obtain ⟨d, rd, hz, so, q⟩ := isV.out r q
    refine ⟨l, xs, y, rfl, rfl, g.lst el, by rw [rl.length]; exact Nat.lt_of_succ_le hz.le, _, ?_, q⟩
    exact (hS.gr' g).updL (eo.gr g) s n ei hv2 fl (g.lst el) so ((rl.gr g).append (.cons rd .nil))
  · exact hm.elim
end
end GJ

/-! G11: stores by place; dicts; calls, raise, defs. -/
namespace GJ
open PySem PySem.Spec PyProof.Rows L2
section
variable {T : TabL} {X : Cx} {E : XK} {pos : Pos}
theorem Rps.set {F : FB} {H : Hp} : ∀ {vs : List V} {ds : List PyData} (j : Nat) {v : V} {d : PyData}, Rps F H vs ds → Rp F H v d → Rps F H (vs.set j v) (ds.set j d)
  | _, [], _, _, _, r, _ => by cases r; exact .nil
  | _, e :: ds, 0, v, d, r, q => by
    cases r with
    | cons r1 r2 => exact .cons q r2
  | _, e :: ds, j + 1, v, d, r, q => by
    cases r with
    | cons r1 r2 => exact .cons r1 (Rps.set j r2 q)
@[simp] def sIxOwn (i : Nat) (mi mv : M) : MS := fun D γ => mv γ (isV fun d => match γ[i]? with
  | some (some (.own ds)) => mi γ (isV fun k => match k with
    | .int k => (match ixN ds.length k with
      | some j => sole i γ = true ∧ D.nx (γ.set i (some (.own (ds.set j d))))
      | none => False)
    | _ => False) D.ex
  | _ => False) D.ex
theorem s_ixOwn {i : Nat} {x : Str} {ix e : Expr} {mi mv : M} {p1 ppos : Pos} (hv : PE X (.Name x p1) (tVar i)) (hi : EJ T X E ix mi) (he : EJ T X E e mv)
    (ha : ∀ v, assign (.Subscript (.Name x p1) ix ppos) X.env v = (do
      let ov ← holding [v] (eval (.Name x p1) X.env)
      let iv ← holding [v, ov] (eval ix X.env)
      standAt ppos
      holding [v, ov, iv] (setItem ov iv v)
      release [v, ov, iv] []) := by intro _; rfl) (hs : swapsWithSole [.Subscript (.Name x p1) ix ppos] e pos.line X.env = pure false := by rfl) (hw : swappedStores [.Subscript (.Name x p1) ix ppos] e X.env = pure none := by rfl)
    (h1 : (assignEach [.Subscript (.Name x p1) ix ppos] X.env).map (·.2) = [assign (.Subscript (.Name x p1) ix ppos) X.env] := by rfl) :
    SJ T X E (.Assign [.Subscript (.Name x p1) ix ppos] e pos) (sIxOwn i mi mv) := by
  constructor
  intro F0 H0 γ σ H D hS hR hm
  refine E1.of (ps_asg (Ev.pe X e) (pg_sub hv (Ev.pe X ix) set_list ha) hs hw h1) (hS.ev he hR hm fun v H1 w F g eo s n r q => ?_)
  obtain ⟨d, rd, q⟩ := isV.out r q
  split at q
  · rename_i ds ei
    obtain ⟨u, hv2, l, xs, rfl, fl, el, rl⟩ := eo.slot i _ ei
    refine ⟨.ref l, hv2, ?_⟩
    have hS1 := hS.gr' g
    refine (hi F γ σ H1 _ _ eo (hR.gr hS1.gr) q).mono fun y H2 ⟨g2, w2, r2, q2⟩ => ?_
    obtain ⟨k, rk, q3⟩ := isV.out r2 q2
    split at q3
    · split at q3
      · rename_i j ej
        cases rk
        have el2 := g2.lst el
        refine ⟨l, xs, _, j, rfl, rfl, el2, by rw [rl.length]; exact ej, _, ?_, q3.2⟩
        exact (hS1.gr' g2).updL (eo.gr g2) s n ei hv2 fl el2 q3.1 ((rl.gr g2).set j (Rp.gr g2 rd))
      · exact q3.elim
    · exact q3.elim
  · exact q.elim

/-! ### dicts -/
section
variable {κ : Type} [DecidableEq κ]
def getA (kvs : List (κ × PyData)) (k : κ) : Option PyData := (kvs.find? fun kv => decide (kv.1 = k)).map (·.2)
def putA (kvs : List (κ × PyData)) (k : κ) (d : PyData) : List (κ × PyData) :=
  if (kvs.any fun kv => decide (kv.1 = k)) = true then kvs.map (fun kv => if kv.1 = k then (kv.1, d) else kv) else kvs ++ [(k, d)]
theorem dict_get {F : FB} {H : Hp} {k : κ} : ∀ {xs : List (κ × V)} {kvs : List (κ × PyData)}, xs.map (·.1) = kvs.map (·.1) → Rps F H (xs.map (·.2)) (kvs.map (·.2)) → (∀ d, getA kvs k = some d → ∃ v, valV xs k = some v ∧ Rp F H v d) ∧ (getA kvs k = none → valV xs k = none)
  | [], [], _, _ => ⟨fun d h => by simp [getA] at h, fun _ => rfl⟩
  | [], _ :: _, h, _ => by simp at h
  | _ :: _, [], h, _ => by simp at h
  | (a, v) :: xs, (b, d) :: kvs, h, r => by
    have e : a = b := by simpa using (List.cons.inj h).1
    subst e
    have h2 : xs.map (·.1) = kvs.map (·.1) := (List.cons.inj h).2
    cases r with
    | cons r1 r2 =>
      have ih := dict_get (k := k) h2 r2
      by_cases hk : a = k
      · refine ⟨fun d' hd => ?_, fun hn => ?_⟩
        · have : d = d' := by simpa [getA, List.find?_cons, hk] using hd
          subst this
          exact ⟨v, by simp [valV, List.find?_cons, hk], r1⟩
        · exact absurd hn (by simp [getA, List.find?_cons, hk])
      · have e1 : getA ((a, d) :: kvs) k = getA kvs k := by simp [getA, List.find?_cons, hk]
        have e2 : valV ((a, v) :: xs) k = valV xs k := by simp [valV, List.find?_cons, hk]
        rw [e1, e2]
        exact ih
theorem any_keys {k : κ} {α β : Type} : ∀ {xs : List (κ × α)} {kvs : List (κ × β)}, xs.map (·.1) = kvs.map (·.1) → (xs.any fun kv => decide (kv.1 = k)) = kvs.any fun kv => decide (kv.1 = k)
  | [], [], _ => rfl
  | [], _ :: _, h => by simp at h
  | _ :: _, [], h => by simp at h
  | (a, v) :: xs, (b, d) :: kvs, h => by
    have e : a = b := by simpa using (List.cons.inj h).1
    subst e
    rw [List.any_cons, List.any_cons, any_keys (List.cons.inj h).2]
theorem map_put {F : FB} {H : Hp} {k : κ} {v : V} {d : PyData} (q : Rp F H v d) : ∀ {xs : List (κ × V)} {kvs : List (κ × PyData)}, xs.map (·.1) = kvs.map (·.1) → Rps F H (xs.map (·.2)) (kvs.map (·.2)) →
    (xs.map fun kv => if kv.1 = k then (kv.1, v) else kv).map (·.1) = (kvs.map fun kv => if kv.1 = k then (kv.1, d) else kv).map (·.1) ∧ Rps F H ((xs.map fun kv => if kv.1 = k then (kv.1, v) else kv).map (·.2)) ((kvs.map fun kv => if kv.1 = k then (kv.1, d) else kv).map (·.2))
  | [], [], _, _ => ⟨rfl, .nil⟩
  | [], _ :: _, h, _ => by simp at h
  | _ :: _, [], h, _ => by simp at h
  | (a, u) :: xs, (b, e) :: kvs, h, r => by
    have e1 : a = b := by simpa using (List.cons.inj h).1
    subst e1
    cases r with
    | cons r1 r2 =>
      obtain ⟨i1, i2⟩ := map_put q (List.cons.inj h).2 r2
      by_cases hk : a = k
      · simp only [List.map_cons, hk, if_true]
        exact ⟨by rw [i1], .cons q i2⟩
      · simp only [List.map_cons, hk, if_false]
        exact ⟨by rw [i1], .cons r1 i2⟩
theorem dict_put {F : FB} {H : Hp} {k : κ} {v : V} {d : PyData} (q : Rp F H v d) {xs : List (κ × V)} {kvs : List (κ × PyData)} (h : xs.map (·.1) = kvs.map (·.1)) (r : Rps F H (xs.map (·.2)) (kvs.map (·.2))) :
    (putK xs k v).map (·.1) = (putA kvs k d).map (·.1) ∧ Rps F H ((putK xs k v).map (·.2)) ((putA kvs k d).map (·.2)) := by
  unfold putK putA
  rw [any_keys h]
  by_cases hk : (kvs.any fun kv => decide (kv.1 = k)) = true
  · rw [if_pos hk, if_pos hk]
    exact map_put q h r
  · rw [if_neg hk, if_neg hk]
    simp only [List.map_append]
    exact ⟨by rw [h]; rfl, r.append (.cons q .nil)⟩
end
/-- a key that is whole numbers -/
@[simp] def keyT? (d : PyData) : Option (List L2.Key) := match d with
  | .tuple ds => (ints? ds).map fun ns => ns.map Sum.inl
  | _ => none
@[simp] def keyK? (d : PyData) : Option L2.Key := match d with
  | .int i => some (.inl i)
  | .str x => some (.inr x)
  | _ => none
theorem keyK_rp {F : FB} {H : Hp} {v : V} {d : PyData} {k : L2.Key} (r : Rp F H v d) (h : keyK? d = some k) : v = kV k := by
  cases r with
  | int i => cases h; rfl
  | str x => cases h; rfl
  | _ => cases h
theorem keyT_rp {F : FB} {H : Hp} {v : V} {d : PyData} {k : List L2.Key} (r : Rp F H v d) (h : keyT? d = some k) : ∃ b, v = .ref b ∧ H b = some (.tup (k.map kV)) := by
  cases d with
  | tuple ds =>
    have h : (ints? ds).map (fun ns => ns.map Sum.inl) = some k := h
    cases e : ints? ds with
    | none => rw [e] at h; cases h
    | some ns =>
      rw [e] at h
      cases h
      rw [ints_map e] at r
      obtain ⟨a, xs, rfl, ea, rr⟩ := Rp.tupI r
      refine ⟨a, rfl, ?_⟩
      rw [rr.ints] at ea
      rw [ea, List.map_map]
      rfl
  | _ => cases h
theorem DGet_K {F : FB} {H : Hp} {l : Addr} {xs : List (L2.Key × V)} {k : L2.Key} {v : V} (e : H l = some (.dK xs)) (h : valV xs k = some v) : DGet H l (kV k) (some v) := by rw [← h]; exact DGet.k e
theorem DGet_T {F : FB} {H : Hp} {l b : Addr} {xs : List (List L2.Key × V)} {k : List L2.Key} {v : V} (e : H l = some (.dT xs)) (eb : H b = some (.tup (k.map kV))) (h : valV xs k = some v) : DGet H l (.ref b) (some v) := by rw [← h]; exact DGet.t e eb
/-- d[k] -/
@[simp] def onO (Q : W → Prop) : Option PyData → Prop
  | some e => Q (.val e)
  | none => False
theorem onO.out {Q : W → Prop} {o : Option PyData} (h : onO Q o) : ∃ e, o = some e ∧ Q (.val e) := by
  cases o with
  | none => exact (show False from h).elim
  | some e => exact ⟨e, rfl, h⟩
@[simp] def dgW : W2 := fun x y Q => match x, y with
  | .dk kvs, .val d => onO Q ((keyK? d).bind (getA kvs))
  | .dt kvs, .val d => onO Q ((keyT? d).bind (getA kvs))
  | _, _ => False
theorem e_dget {a b : Expr} {ma mb : M} (hu : X.A.units + 100 < cLine) (ha : EJ T X E a ma) (hb : EJ T X E b mb) (hs : NoSl b := by intro _ _; rfl) : EJ T X E (.Subscript a b pos) (mBin dgW ma mb) := by
  constructor
  intro F γ σ H Q R hE hR hm
  refine Ev.of (pe_dget (by omega) (Ev.pe X a) (Ev.pe X b) hs) (ev2 (ta := Ev X a) ha hb hE hR hm fun x y H2 wx wy g r1 r2 q => ?_)
  unfold dgW at q
  split at q
  · obtain ⟨e, eb, q⟩ := onO.out q
    obtain ⟨k, ek, eg⟩ := Option.bind_eq_some_iff.mp eb
    obtain ⟨l, xs, rfl, el, hk, rr⟩ := r1
    obtain ⟨v, hv, rv⟩ := (dict_get (k := k) hk rr).1 _ eg
    rw [keyK_rp r2 ek]
    exact ⟨l, v, rfl, DGet_K (F := F) el hv, g, .val e, rv, q⟩
  · obtain ⟨e, eb, q⟩ := onO.out q
    obtain ⟨k, ek, eg⟩ := Option.bind_eq_some_iff.mp eb
    obtain ⟨l, xs, rfl, el, hk, rr⟩ := r1
    obtain ⟨v, hv, rv⟩ := (dict_get (k := k) hk rr).1 _ eg
    obtain ⟨b', rfl, eb'⟩ := keyT_rp r2 ek
    exact ⟨l, v, rfl, DGet_T (F := F) el eb' hv, g, .val e, rv, q⟩
  · exact q.elim
/-- d.get(k, x) of a dict keyed by whole numbers -/
def onDk (k : List (L2.Key × PyData) → Prop) : W → Prop
  | .dk kvs => k kvs
  | _ => False
theorem onDk.out {F : FB} {H : Hp} {v : V} {w : W} {k : List (L2.Key × PyData) → Prop} (r : RpW F H v w) (h : onDk k w) : ∃ kvs, RpW F H v (.dk kvs) ∧ k kvs := by
  cases w with
  | dk kvs => exact ⟨kvs, r, h⟩
  | _ => exact (show False from h).elim
@[simp] def onKey (k : L2.Key → Prop) (d : PyData) : Prop := match keyK? d with
  | some x => k x
  | none => False
theorem onKey.out {d : PyData} {k : L2.Key → Prop} (h : onKey k d) : ∃ x, keyK? d = some x ∧ k x := by
  unfold onKey at h
  split at h
  · exact ⟨_, by assumption, h⟩
  · exact h.elim
@[simp] def mGet2 (md mk mx : M) : M := fun γ Q R => md γ (onDk fun kvs => mk γ (isV (onKey fun k => mx γ (isV fun x => Q (.val ((getA kvs k).getD x))) R)) R) R
theorem e_get2 {o e f : Expr} {md mk mx : M} {apos cpos : Pos} (hu : X.A.units + 100 < cLine) (ho : EJ T X E o md) (he : EJ T X E e mk) (hf : EJ T X E f mx) (m : M2 X o "get" apos e f cpos) : EJ T X E (.Call (.Attribute o "get" apos) [e, f] [] cpos) (mGet2 md mk mx) := by
  constructor
  intro F γ σ H Q R hE hR hm
  refine Ev.of (pe_dget2 (by omega) (Ev.pe X o) (Ev.pe X e) (Ev.pe X f) m) ((ho F γ σ H _ R hE hR hm).mono fun x H1 ⟨g1, w1, r1, q1⟩ => ?_)
  obtain ⟨kvs, ⟨l, xs, rfl, el, hk, rr⟩, q1⟩ := onDk.out r1 q1
  refine ⟨l, rfl, .inl ⟨_, .inl el⟩, ?_⟩
  refine (he F γ σ H1 _ R (hE.gr g1) (hR.gr g1) q1).mono fun y H2 ⟨g2, w2, r2, q2⟩ => ?_
  obtain ⟨dk, rk, q2⟩ := isV.out r2 q2
  obtain ⟨k, ek, q2⟩ := onKey.out q2
  refine (hf F γ σ H2 _ R (hE.gr (g1.trans g2)) (hR.gr (g1.trans g2)) q2).mono fun z H3 ⟨g3, w3, r3, q3⟩ => ?_
  obtain ⟨d, rd, q4⟩ := isV.out r3 q3
  have el3 := g3.at (g2.at el (fun _ z => by cases z)) (fun _ z => by cases z)
  have rr3 := (rr.gr g2).gr g3
  have hv := dict_get (k := k) hk rr3
  have g := (g1.trans g2).trans g3
  rw [keyK_rp (Rp.gr g3 rk) ek]
  refine ⟨valV xs k, DGet.k el3, ?_⟩
  cases eg : getA kvs k with
  | none =>
    rw [eg] at q4
    rw [hv.2 eg]
    exact ⟨g, .val d, rd, q4⟩
  | some e =>
    rw [eg] at q4
    obtain ⟨v, hv2, rv⟩ := hv.1 e eg
    rw [hv2]
    exact ⟨g, .val e, rv, q4⟩
/-! dicts of the def's own -/
@[simp] def isOd : Option W → Bool
  | some (.odk _) => true
  | some (.odt _) => true
  | some (.dk _) => true
  | some (.dt _) => true
  | _ => false
@[simp] def noOd : DEnv → Bool
  | [] => true
  | x :: r => !isOd x && noOd r
/-- no other dict at hand -/
@[simp] def soleD : Nat → DEnv → Bool
  | _, [] => true
  | 0, _ :: r => noOd r
  | i + 1, x :: r => !isOd x && soleD i r
theorem noOd_get : ∀ {γ : DEnv} {j : Nat} {w : W}, noOd γ = true → γ[j]? = some (some w) → isOd (some w) = false
  | [], _, _, _, e => by simp at e
  | x :: r, 0, _, h, e => by
    simp only [noOd, Bool.and_eq_true, Bool.not_eq_true'] at h
    simp at e
    subst e
    exact h.1
  | x :: r, j + 1, _, h, e => by
    simp only [noOd, Bool.and_eq_true] at h
    exact noOd_get (j := j) h.2 (by simpa using e)
theorem soleD_get : ∀ {γ : DEnv} {i j : Nat} {w : W}, soleD i γ = true → j ≠ i → γ[j]? = some (some w) → isOd (some w) = false
  | [], _, _, _, _, _, e => by simp at e
  | x :: r, 0, 0, _, _, h, _ => absurd rfl h
  | x :: r, 0, j + 1, _, h, _, e => noOd_get (j := j) h (by simpa using e)
  | x :: r, i + 1, 0, _, h, _, e => by
    simp only [soleD, Bool.and_eq_true, Bool.not_eq_true'] at h
    simp at e
    subst e
    exact h.1
  | x :: r, i + 1, j + 1, _, h, n, e => by
    simp only [soleD, Bool.and_eq_true] at h
    exact soleD_get (i := i) (j := j) h.2 (fun z => n (by omega)) (by simpa using e)
/-- what stands at a dict -/
def DictO (o : HO) : Prop := (∃ k, o = .dK k) ∨ ∃ k, o = .dT k
theorem tabs_updD {H : Hp} {l : Addr} {o : HO} (d : ∀ u, H l = some u → DictO u) (t : LamX.Tabs T H) : LamX.Tabs T (upd H l o) := fun p hp => by
  have ne : ∀ b u, H b = some u → ¬ DictO u → upd H l o b = some u := fun b u eb nl => by
    rw [upd_ne]
    · exact eb
    · intro z
      rw [z] at eb
      exact nl (d u eb)
  obtain ⟨ps, z1, z2, z3⟩ := t p hp
  refine ⟨ps, ne _ _ z1 (by rintro (⟨_, z⟩ | ⟨_, z⟩) <;> cases z), z2, fun pos cv hc => ?_⟩
  obtain ⟨c, e1, e2⟩ := z3 pos cv hc
  exact ⟨c, e1, ne _ _ e2 (by unfold LamX.CodeO; rintro (⟨_, z⟩ | ⟨_, z⟩) <;> cases z)⟩
theorem ne_dict {H : Hp} {l b : Addr} {u : HO} (d : ∀ u, H l = some u → DictO u) (e : H b = some u) (n : ¬ DictO u) : b ≠ l := fun z => by
  rw [z] at e
  exact n (d u e)
theorem rp_updD {F : FB} {H : Hp} {l : Addr} {o : HO} (d : ∀ u, H l = some u → DictO u) {v : V} {x : PyData} (r : Rp F H v x) : Rp F (upd H l o) v x :=
  Rp.map (fun a zs ea nF => ⟨nF, by rw [upd_ne (ne_dict d ea (by rintro (⟨_, z⟩ | ⟨_, z⟩) <;> cases z))]; exact ea⟩) (fun a zs ea => by rw [upd_ne (ne_dict d ea (by rintro (⟨_, z⟩ | ⟨_, z⟩) <;> cases z))]; exact ea) _ _ r
theorem rps_updD {F : FB} {H : Hp} {l : Addr} {o : HO} (d : ∀ u, H l = some u → DictO u) {v : List V} {x : List PyData} (r : Rps F H v x) : Rps F (upd H l o) v x :=
  Rps.map (fun a zs ea nF => ⟨nF, by rw [upd_ne (ne_dict d ea (by rintro (⟨_, z⟩ | ⟨_, z⟩) <;> cases z))]; exact ea⟩) (fun a zs ea => by rw [upd_ne (ne_dict d ea (by rintro (⟨_, z⟩ | ⟨_, z⟩) <;> cases z))]; exact ea) _ _ r
theorem rpW_updD {F : FB} {H : Hp} {l : Addr} {o : HO} (d : ∀ u, H l = some u → DictO u) {v : V} : ∀ {w : W}, isOd (some w) = false → RpW F H v w → RpW F (upd H l o) v w
  | .val _, _, r => rp_updD d r
  | .own _, _, ⟨b, xs, eb, f, h, r⟩ => ⟨b, xs, eb, f, by rw [upd_ne (ne_dict d h (by rintro (⟨_, z⟩ | ⟨_, z⟩) <;> cases z))]; exact h, rps_updD d r⟩
  | .dk _, z, _ => by cases z
  | .dt _, z, _ => by cases z
  | .odk _, z, _ => by cases z
  | .odt _, z, _ => by cases z
  | .src, _, ⟨b, eb, h⟩ => ⟨b, eb, by rw [upd_ne (ne_dict d h (by unfold SrcO; rintro (⟨_, z⟩ | ⟨_, z⟩) <;> cases z))]; exact h⟩
  | .scr _ _, _, ⟨b, eb, h⟩ => ⟨b, eb, h.map (fun q n => ⟨by rw [upd_ne (ne_dict d q (by rintro (⟨_, z⟩ | ⟨_, z⟩) <;> cases z))]; exact q, n⟩) fun o q => by rw [upd_ne (ne_dict d q (by rintro (⟨_, z⟩ | ⟨_, z⟩) <;> cases z))]; exact q⟩
/-- a dict of the def's own, new or changed -/
theorem EnvS.updD {F0 : FB} {H0 : Hp} {γ : DEnv} {σ : St} {H : Hp} {F : FB} {i : Nat} {l : Addr} {o : HO} {w : W} (hS : EnvS T F0 H0 γ σ H) (eo : EnvOk T F γ σ H) (s : ∀ a, F0 a → F a) (n : ∀ a, F a → F0 a ∨ NT H0 a)
    (hl : i < γ.length) (nt : NT H0 l) (d : ∀ u, H l = some u → DictO u) (so : soleD i γ = true) (r : RpW F (upd H l o) (.ref l) w) : EnvS T F0 H0 (γ.set i (some w)) (σ.set i (some (.ref l))) (upd H l o) := by
  have tt := tabs_updD (o := o) d eo.tabs
  refine ⟨⟨F, ⟨fun j u ej => ?_, fun a fa => ?_, tt, by simp [eo.len]⟩, s, n⟩, ⟨fun b u eb ntb => ?_, fun _ => tt⟩, hS.f0, fun j u v ej hm hx => ?_⟩
  · by_cases hj : i = j
    · subst hj
      rw [List.getElem?_set_self (set_lt ej)] at ej
      cases ej
      exact ⟨.ref l, by rw [List.getElem?_set_self (by rw [← eo.len]; exact hl)], r⟩
    · rw [List.getElem?_set_ne hj] at ej
      obtain ⟨v, hv2, rv⟩ := eo.slot j u ej
      exact ⟨v, by rw [List.getElem?_set_ne hj]; exact hv2, rpW_updD d (soleD_get so (Ne.symm hj) ej) rv⟩
  · obtain ⟨zs, q⟩ := eo.fok a fa
    exact ⟨zs, by rw [upd_ne (ne_dict d q (by rintro (⟨_, z⟩ | ⟨_, z⟩) <;> cases z))]; exact q⟩
  · have nb : b ≠ l := fun z => by
      subst z
      obtain ⟨ps, q⟩ := nt u eb
      exact ntb ps q
    rw [upd_ne nb]
    exact hS.gr.1 b u eb ntb
  · by_cases hj : i = j
    · subst hj
      rw [List.getElem?_set_self (set_lt hx)] at hx
      cases hx
      exact ⟨l, rfl, nt⟩
    · rw [List.getElem?_set_ne hj] at ej hx
      exact hS.mt j u v ej hm hx
@[simp] def sNewK (i : Nat) : MS := fun D γ => (i < γ.length ∧ soleD i γ = true) ∧ D.nx (γ.set i (some (.odk [])))
@[simp] def sNewT (i : Nat) : MS := fun D γ => (i < γ.length ∧ soleD i γ = true) ∧ D.nx (γ.set i (some (.odt [])))
theorem s_newK {i : Nat} {x : Str} {p1 pos' : Pos} (hN : X.N.Nodup) (hi : X.N[i]? = some x) (hx : Loc X.env.scope x) (hs : swapsWith (.Dict [] [] p1) (some (.Name x pos')) pos.line X.env = pure false := by rfl) (hf : X.fn x = true ∨ X.env.scope.names.lookup x = some .local := by first | exact .inl rfl | exact .inr rfl | assumption) :
    SJ T X E (.Assign [.Name x pos'] (.Dict [] [] p1) pos) (sNewK i) := by
  constructor
  intro F0 H0 γ σ H D hS hR hm
  obtain ⟨F, eo, s, n⟩ := hS.ex
  refine E1.of (ps_set hN hi hx pe_dnewK hs hf) fun p hp => ⟨_, hS.updD eo s n hm.1.1 (NT.back hS.gr (NT.of hp)) (fun u z => by rw [hp] at z; cases z) hm.1.2 ?_, hm.2⟩
  exact ⟨p, [], rfl, upd_same, rfl, .nil⟩
theorem s_newT {i : Nat} {x : Str} {p1 pos' : Pos} (hN : X.N.Nodup) (hi : X.N[i]? = some x) (hx : Loc X.env.scope x) (hs : swapsWith (.Dict [] [] p1) (some (.Name x pos')) pos.line X.env = pure false := by rfl) (hf : X.fn x = true ∨ X.env.scope.names.lookup x = some .local := by first | exact .inl rfl | exact .inr rfl | assumption) :
    SJ T X E (.Assign [.Name x pos'] (.Dict [] [] p1) pos) (sNewT i) := by
  constructor
  intro F0 H0 γ σ H D hS hR hm
  obtain ⟨F, eo, s, n⟩ := hS.ex
  refine E1.of (ps_set hN hi hx pe_dnewT hs hf) fun p hp => ⟨_, hS.updD eo s n hm.1.1 (NT.back hS.gr (NT.of hp)) (fun u z => by rw [hp] at z; cases z) hm.1.2 ?_, hm.2⟩
  exact ⟨p, [], rfl, upd_same, rfl, .nil⟩
/-- d[k] = v -/
@[simp] def sPut (i : Nat) (mi mv : M) : MS := fun D γ => mv γ (isV fun d => match γ[i]? with
  | some (some (.odk kvs)) => mi γ (isV (onKey fun k => (SzOk (kvs.length + 1) ∧ soleD i γ = true) ∧ D.nx (γ.set i (some (.odk (putA kvs k d)))))) D.ex
  | some (some (.odt kvs)) => mi γ (isV fun kd => match keyT? kd with
    | some k => (SzOk (kvs.length + 1) ∧ soleD i γ = true) ∧ D.nx (γ.set i (some (.odt (putA kvs k d))))
    | none => False) D.ex
  | _ => False) D.ex
theorem set_self {σ : St} {i : Nat} {x : Option V} (h : σ[i]? = some x) : σ.set i x = σ := by
  apply List.ext_getElem?
  intro j
  by_cases hj : i = j
  · subst hj
    have hlt : i < σ.length := by
      rcases Nat.lt_or_ge i σ.length with z | z
      · exact z
      · rw [List.getElem?_eq_none z] at h; cases h
    rw [List.getElem?_set_self hlt, h]
  · rw [List.getElem?_set_ne hj]
theorem get_lt {α : Type} {l : List α} {i : Nat} {b : α} (h : l[i]? = some b) : i < l.length := by
  rcases Nat.lt_or_ge i l.length with z | z
  · exact z
  · rw [List.getElem?_eq_none z] at h; cases h
theorem s_put {i : Nat} {x : Str} {ix e : Expr} {mi mv : M} {p1 ppos : Pos} (hu : X.A.units + 100 < cLine) (hv : PE X (.Name x p1) (tVar i)) (hi : EJ T X E ix mi) (he : EJ T X E e mv) (hs : swapsWith e (some (.Subscript (.Name x p1) ix ppos)) pos.line X.env = pure false := by rfl) :
    SJ T X E (.Assign [.Subscript (.Name x p1) ix ppos] e pos) (sPut i mi mv) := by
  constructor
  intro F0 H0 γ σ H D hS hR hm
  refine E1.of (ps_dput (by omega) hv (Ev.pe X ix) (Ev.pe X e) hs) (hS.ev he hR hm fun v H1 w F g eo s n r q => ?_)
  obtain ⟨d, rd, q⟩ := isV.out r q
  split at q
  · rename_i kvs ei
    obtain ⟨u, hv2, l, xs, rfl, el, hk, rr⟩ := eo.slot i _ ei
    obtain ⟨l', e2, nt⟩ := hS.mt i _ _ ei rfl hv2
    cases e2
    refine ⟨.ref l, hv2, ?_⟩
    have hS1 := hS.gr' g
    refine (hi F γ σ H1 _ _ eo (hR.gr hS1.gr) q).mono fun y H2 ⟨g2, w2, r2, q2⟩ => ?_
    obtain ⟨kd, rk, q3⟩ := isV.out r2 q2
    obtain ⟨k, ek, ⟨hz, so⟩, q4⟩ := onKey.out q3
    have el2 := g2.at el (fun _ z => by cases z)
    have rr2 := rr.gr g2
    have hlen : xs.length = kvs.length := by have := congrArg List.length hk; simpa using this
    obtain ⟨p1', p2'⟩ := dict_put (k := k) (Rp.gr g2 rd) hk rr2
    rw [keyK_rp rk ek]
    refine ⟨l, _, rfl, DPut.k el2 (by rw [hlen]; exact Nat.lt_of_succ_le hz.le), _, ?_, q4⟩
    have hh := (hS1.gr' g2).updD (i := i) (l := l) (o := .dK (putK xs k v)) (w := .odk (putA kvs k d)) (eo.gr g2) s n (get_lt ei) nt (fun u z => by rw [el2] at z; cases z; exact .inl ⟨_, rfl⟩) so ⟨l, _, rfl, upd_same, p1', rps_updD (fun u z => by rw [el2] at z; cases z; exact .inl ⟨_, rfl⟩) p2'⟩
    rw [set_self hv2] at hh
    exact hh
  · rename_i kvs ei
    obtain ⟨u, hv2, l, xs, rfl, el, hk, rr⟩ := eo.slot i _ ei
    obtain ⟨l', e2, nt⟩ := hS.mt i _ _ ei rfl hv2
    cases e2
    refine ⟨.ref l, hv2, ?_⟩
    have hS1 := hS.gr' g
    refine (hi F γ σ H1 _ _ eo (hR.gr hS1.gr) q).mono fun y H2 ⟨g2, w2, r2, q2⟩ => ?_
    obtain ⟨kd, rk, q3⟩ := isV.out r2 q2
    split at q3
    · rename_i k ek
      obtain ⟨⟨hz, so⟩, q4⟩ := q3
      have el2 := g2.at el (fun _ z => by cases z)
      have rr2 := rr.gr g2
      have hlen : xs.length = kvs.length := by have := congrArg List.length hk; simpa using this
      obtain ⟨p1', p2'⟩ := dict_put (k := k) (Rp.gr g2 rd) hk rr2
      obtain ⟨b, rfl, eb⟩ := keyT_rp rk ek
      refine ⟨l, _, rfl, DPut.t el2 eb (by rw [hlen]; exact Nat.lt_of_succ_le hz.le), _, ?_, q4⟩
      have hh := (hS1.gr' g2).updD (i := i) (l := l) (o := .dT (putK xs k v)) (w := .odt (putA kvs k d)) (eo.gr g2) s n (get_lt ei) nt (fun u z => by rw [el2] at z; cases z; exact .inr ⟨_, rfl⟩) so ⟨l, _, rfl, upd_same, p1', rps_updD (fun u z => by rw [el2] at z; cases z; exact .inr ⟨_, rfl⟩) p2'⟩
      rw [set_self hv2] at hh
      exact hh
    · exact q3.elim
  · exact q.elim
end
end GJ

/-! G12: calls, raise, defs. -/
namespace GJ
open PySem PySem.Spec PyProof.Rows L2

/-- where one stands -/
structure CtxE (X : Cx) (E : XK) (k : Nat) : Prop where
  calm : X.calm = true
  nd : X.N.Nodup
  room : Room k X.A
  takes : Takes X (fun cls d _ H => E cls d H)
theorem CtxE.hu {X : Cx} {E : XK} {k : Nat} (c : CtxE X E k) : X.A.units + 100 < cLine := by have := c.room.un; omega
theorem CtxE.blk {X : Cx} {E : XK} {k : Nat} (c : CtxE X E k) {scope : Scope} {s : Shared} {H : Hp} {C : Addr} {cl : List (Str × Addr)} {fp : List Addr} : CtxE (BX X scope s H C cl fp) E0' k := ⟨c.calm, c.nd, c.room, takes0⟩
/-- what a def promises, by data -/
abbrev SpD := List W → (W → Prop) → (Addr → Prop) → Prop
def noMuts : List W → Prop := fun ws => ∀ w ∈ ws, isMut w = false
def dsp (T : TabL) (n : Nat) (S : SpD) : Sp := fun vs H Q E => vs.length = n ∧ ∃ (F : FB) (ws : List W) (Qd : W → Prop) (R : Addr → Prop), (∀ a, F a → ∃ xs, H a = some (.lst xs)) ∧ LamX.Tabs T H ∧ RpWs F H vs ws ∧ noMuts ws ∧ S ws Qd R ∧
  (∀ v H' w, Gr T H H' → RpW F H' v w → isMut w = false → Qd w → Q v H') ∧ RzOk T E H R
section
variable {T : TabL} {X : Cx} {E : XK} {pos : Pos}
@[simp] def mutB : List W → Bool
  | [] => false
  | w :: ws => isMut w || mutB ws
theorem mutB_no : ∀ {ws : List W}, mutB ws = false → noMuts ws
  | [], _ => fun w m => by cases m
  | w :: ws, h => by
    simp only [mutB, Bool.or_eq_false_iff] at h
    intro u m
    rcases List.mem_cons.mp m with e | m
    · subst e; exact h.1
    · exact mutB_no h.2 u m
@[simp] def mFn (n : Nat) (S : SpD) (m : MA) : M := fun γ Q R => m γ (fun ws => ws.length = n ∧ mutB ws = false ∧ S ws Q R) R
theorem e_call {k j : Nat} {f : Addr} {fd : FuncData} {ps : List Str} {S : SpD} {x : Str} {p : Pos} {e : Expr} {es : List Expr} {m : MA} (c : CtxE X E k) (Fn : FnOk X.prog X.w X.K X.mg X.base (L2.CX X.prog X.w) j f fd ps (dsp T ps.length S)) (hj : j ≤ k) (hk : PySem.W.keepIn X.K (.ref f) = true) (hb : Binds X.K fd ps [])
    (hm : X.mg x = some (.ref f)) (hg : Gl X x) (ha : AJ T X E (e :: es) m) (hdb : (x == ("__debug__" : Str)) = false := by decide) (he : starEach (e :: es) X.env = (false, eval e X.env) :: starEach es X.env := by rfl) (hpl : (backTo pos (starEach es X.env)).any (·.1) = false := by rfl) :
    EJ T X E (.Call (.Name x p) (e :: es) [] pos) (mFn ps.length S m) := by
  constructor
  intro F γ σ H Q R hE hR hm'
  refine Ev.of (pe_call (dvs := []) (E := E) Fn (c.room.mono hj) hg hm hk hb .nil (passes_call c.takes fun _ _ _ _ h => h) (Ea.pa X _) hdb he hpl) ((ha F γ σ H _ R hE hR hm').mono fun vs H1 ⟨g, ws, r, l, mu, q⟩ => ?_)
  show dsp T ps.length S (vs ++ []) H1 (PQ T F H Q) E
  rw [List.append_nil]
  exact ⟨by rw [r.length]; exact l, F, ws, Q, R, (hE.gr g).fok, (hE.gr g).tabs, r, mutB_no mu, q, fun v H' w g' rw' _ qd => ⟨g.trans g', w, rw', qd⟩, hR.gr g⟩
theorem e_call0 {k j : Nat} {f : Addr} {fd : FuncData} {ps : List Str} {S : SpD} {x : Str} {p : Pos} (c : CtxE X E k) (Fn : FnOk X.prog X.w X.K X.mg X.base (L2.CX X.prog X.w) j f fd ps (dsp T ps.length S)) (hj : j ≤ k) (hk : PySem.W.keepIn X.K (.ref f) = true) (hb : Binds X.K fd ps [])
    (hm : X.mg x = some (.ref f)) (hg : Gl X x) (hdb : (x == ("__debug__" : Str)) = false := by decide) :
    EJ T X E (.Call (.Name x p) [] [] pos) (mFn ps.length S maNil) := by
  constructor
  intro F γ σ H Q R hE hR hm'
  refine Ev.of (pe_call0 (dvs := []) (E := E) Fn (c.room.mono hj) hg hm hk hb .nil (passes_call c.takes fun _ _ _ _ h => h) hdb) ?_
  show dsp T ps.length S ([] ++ []) H (PQ T F H Q) E
  obtain ⟨l, mu, q⟩ := hm'
  exact ⟨l, F, [], Q, R, hE.fok, hE.tabs, .nil, (fun w m => by cases m), q, fun v H' w g' rw' _ qd => ⟨g', w, rw', qd⟩, hR⟩
/-- raise C('..') -/
@[simp] def sRaise (C : Addr) : MS := fun D _ => D.ex C
theorem s_raise {k : Nat} {C : Addr} {e : Expr} (c : CtxE X E k) (hp : PMk X e (fun _ H Q => Q (.ref C) none H)) : SJ T X E (.Raise (some e) none pos) (sRaise C) := by
  constructor
  intro F0 H0 γ σ H D hS hR hm
  exact E1.of (ps_raise c.calm c.takes hp) (hR C H hm hS.gr)
end

/-! ### a def -/
section
variable {P : Program} {w : World} {K : PySem.W.Frag} {mg : Str → Option Value} {base : Heap} {T : TabL}
@[simp] def ini (N : List Str) (ws : List W) : DEnv := ws.map some ++ List.replicate (N.length - ws.length) none
theorem ini_ok {F : FB} {H : Hp} {N : List Str} {vs : List V} {ws : List W} (r : RpWs F H vs ws) (fok : ∀ a, F a → ∃ xs, H a = some (.lst xs)) (t : LamX.Tabs T H) : EnvOk T F (ini N ws) (L2.start N vs) H := by
  refine ⟨fun i w e => ?_, fok, t, by unfold ini L2.start; simp [r.length]⟩
  unfold ini at e
  unfold L2.start
  rcases Nat.lt_or_ge i ws.length with z | z
  · rw [List.getElem?_append_left (by simpa using z), List.getElem?_map] at e
    cases q : ws[i]? with
    | none => rw [q] at e; cases e
    | some u =>
      rw [q] at e
      cases e
      obtain ⟨v, hv, rv⟩ := r.get q
      refine ⟨v, ?_, rv⟩
      rw [List.getElem?_append_left (by rw [List.length_map, r.length]; exact z), List.getElem?_map, hv]
      rfl
  · rw [List.getElem?_append_right (by simpa using z)] at e
    have := List.getElem?_replicate ▸ e
    split at this <;> cases this
/-- the context of a def's body -/
abbrev DX (P : Program) (w : World) (K : PySem.W.Frag) (mg : Str → Option Value) (base : Heap) (N : List Str) (qual : Str) (scope : Scope) (f : Addr) (cdv : Value) (A : Around) (outer : List Env) (s : Shared) (H : Hp) (E : XK) : Cx := cxOf (L2.CX P w) P w K mg base N qual scope f cdv A outer s H E
theorem dx_ctx {N ps : List Str} {qual : Str} {scope : Scope} {f : Addr} {cdv : Value} {A : Around} {outer : List Env} {s : Shared} {H : Hp} {E : XK} {k : Nat} (S : FnScope N ps scope) (hr : Room k (A.deeper (envOfC qual scope s.heap.objs.size f cdv))) : CtxE (DX P w K mg base N qual scope f cdv A outer s H E) E k :=
  ⟨rfl, S.nd, hr, takes_of rfl rfl rfl rfl⟩
theorem dx_own {N : List Str} {qual : Str} {scope : Scope} {f : Addr} {cdv : Value} {A : Around} {outer : List Env} {s : Shared} {H : Hp} {E : XK} : PassesOwn (model P w) (DX P w K mg base N qual scope f cdv A outer s H E).A (DX P w K mg base N qual scope f cdv A outer s H E).env (DX P w K mg base N qual scope f cdv A outer s H E).xe := PassesOwn.leaving
theorem fn_def {x qual : Str} {st : Stmt} {f : Addr} {fd : FuncData} {N ps : List Str} {k : Nat} {S : SpD} {m : MS} (Fn : Fun K x qual st f fd) (Sc : FnScope N ps (defScope st))
    (body : ∀ (cdv : Value) (A : Around) (outer : List Env) (s : Shared) (H : Hp) (E : XK), CtxE (DX P w K mg base N qual (defScope st) f cdv A outer s H E) E k → SsJ T (DX P w K mg base N qual (defScope st) f cdv A outer s H E) E (defBody st) m)
    (law : ∀ (ws : List W) (Q : W → Prop) (R : Addr → Prop), ws.length = ps.length → S ws Q R → m { nx := fun _ => Q (.val .none), rt := Q, ex := R } (ini N ws)) :
    FnOk P w K mg base (L2.CX P w) (k + 1) f fd ps (dsp T ps.length S) := by
  refine Fn.okX Sc (fun vs H Q E h => h.1) (fun cdv A outer s H vs Q E hr h => ?_)
  obtain ⟨hl, F, ws, Qd, R, fok, tb, r, nm, hS, hQ, hR⟩ := h
  have c := dx_ctx (P := P) (w := w) (K := K) (mg := mg) (base := base) (E := E) (H := H) (outer := outer) Sc hr
  have b := body cdv A outer s H E c
  have eo : EnvOk T F (ini N ws) (L2.start N vs) H := ini_ok r fok tb
  have eS : EnvS T F H (ini N ws) (L2.start N vs) H := ⟨⟨F, eo, fun _ z => z, fun _ z => .inl z⟩, Gr.refl _ _, fok, fun i w v e hm _ => by
    exfalso
    unfold ini at e
    rcases Nat.lt_or_ge i ws.length with z | z
    · rw [List.getElem?_append_left (by simpa using z), List.getElem?_map] at e
      cases q : ws[i]? with
      | none => rw [q] at e; cases e
      | some u =>
        rw [q] at e
        cases e
        rw [nm _ (List.mem_of_getElem? q)] at hm
        cases hm
    · rw [List.getElem?_append_right (by simpa using z)] at e
      have := List.getElem?_replicate ▸ e
      split at this <;> cases this⟩
  have q := b F H (ini N ws) (L2.start N vs) H { nx := fun _ => Qd (.val .none), rt := Qd, ex := R } eS hR (law ws Qd R (by rw [← r.length]; exact hl) hS)
  refine ⟨_, Es.pss _ _, ?_⟩
  intro pins st I
  refine thn (q pins st I) fun fl s1 z => ?_
  cases fl with
  | next =>
    obtain ⟨σ', H', I', γ', hS', hq⟩ := z
    exact ⟨σ', H', I', hQ .non H' (.val .none) hS'.gr .non rfl hq⟩
  | ret v =>
    obtain ⟨u, σ', H', I', ru, g, w', rw', nm', hq⟩ := z
    exact ⟨u, σ', H', I', ru, hQ u H' w' g rw' nm' hq⟩
  | brk =>
    obtain ⟨σ', H', I', γ', hS', hq⟩ := z
    exact hq.elim
  | cont =>
    obtain ⟨σ', H', I', γ', hS', hq⟩ := z
    exact hq.elim
theorem dsp_imp {n : Nat} {S S' : SpD} (h : ∀ ws Q R, S' ws Q R → S ws Q R) : ∀ vs H Q E, dsp T n S' vs H Q E → dsp T n S vs H Q E := fun vs H Q E ⟨l, F, ws, Qd, R, a, b, c, d, e, f, g⟩ => ⟨l, F, ws, Qd, R, a, b, c, d, h ws Qd R e, f, g⟩
theorem fn_imp {k j : Nat} {f : Addr} {fd : FuncData} {ps : List Str} {S S' : SpD} (Fn : FnOk P w K mg base (L2.CX P w) k f fd ps (dsp T ps.length S)) (hk : k ≤ j) (h : ∀ ws Q R, S' ws Q R → S ws Q R) : FnOk P w K mg base (L2.CX P w) j f fd ps (dsp T ps.length S') := (Fn.imp (dsp_imp h)).mono hk
end
end GJ

/-! G13: sets of whole numbers. -/
namespace GJ
open PySem PySem.Spec PyProof.Rows L2
section
variable {P : Program} {w : World} {A : Around} {E : Value → Shared → Prop} {s : Shared}
set_option maxRecDepth 100000 in
set_option maxHeartbeats 3200000 in
theorem call_set_lstI {l : Addr} {items : Array Value} (ns : List Int) {Q : Value → Shared → Prop} (hh : A.handled = none) (hl : s.heap.IsList l items) (hit : IntsAre items.toList ns) (hb : ns.length + 1 < scanBound)
    (h : ∀ (h' : Heap) (tk c : Nat), SetR w h' s.heap.objs.size (fun j => decide (j ∈ ns)) c → c ≤ ns.length → (∀ b o, s.heap.get? b = some o → h'.get? b = some o) → Q (.ref s.heap.objs.size) { s with heap := h', toks := tk }) :
    wpAny (model P w) A (call (.type "set") [.ref l]) Q E s := by
  have hisz : items.size = ns.length := by
    have q := IntsAre.length hit
    rw [Array.length_toList] at q
    exact q
  obtain ⟨c, tl, hmro⟩ := F.called_set.mro
  have hmade := F.called_set.made
  have hsub := F.called_set.sub
  refine wpAny_call (codeAny_of_tree ?_)
  show wpAny _ _ (callAny (.type "set") _) _ _ _
  refine wpAny_pure ⟨Code.quiet_builtin _ (by decide +kernel), codeAny_builtin F.entry_type_call ?_⟩
  rw [Around.under_plain (weight_type_call_type "set" [.ref l] []) rfl]
  have h1 := F.called_set.notType
  have h2 := F.called_set.canCreate
  have hct := F.typeCall_set_1 (.ref l)
  repeat (any_goals (first | assumption | wp_step))

  refine codeAny_mono (code_set_led1 (.ref l) (E := E) (Q₁ := fun obj s₁ => obj = .ref s.heap.objs.size ∧ s₁ = { s with heap := s.heap.push { cls := .type "set", dict := none, data := .set #[] 0 (.fresh 0 0 (!w.params.followText "set-order")) } }) ⟨rfl, rfl⟩) fun r s₁ hr => ?_
  cases r with
  | error e => exact hr
  | ok fl =>
    cases fl with
    | ret obj =>
      obtain ⟨rfl, rfl⟩ := hr
      have hS : (s.heap.push { cls := .type "set", dict := none, data := .set #[] 0 (.fresh 0 0 (!w.params.followText "set-order")) }).get? s.heap.objs.size = some { cls := .type "set", dict := none, data := .set #[] 0 (.fresh 0 0 (!w.params.followText "set-order")) } := Heap.get?_push_size _ rfl
      have hT : Shared.TypeIs { s with heap := s.heap.push { cls := .type "set", dict := none, data := .set #[] 0 (.fresh 0 0 (!w.params.followText "set-order")) } } (.ref s.heap.objs.size) "set" := ⟨_, hS, rfl⟩
      have hli := F.called_set.init.lookup
      have hbi := F.called_set.init.bind (.ref s.heap.objs.size)
      repeat (any_goals (first | assumption | wp_step))

      refine codeAny_mono (codeAny_call_builtin (R := wants (fun r s₂ => r = .none ∧ ∃ h' tk c, s₂ = { s with heap := h', toks := tk } ∧ SetR w h' s.heap.objs.size (fun j => decide (j ∈ ns)) c ∧ c ≤ ns.length ∧
          (∀ b o, s.heap.get? b = some o → h'.get? b = some o)) E) F.called_set.init.plain F.entry_set_init (check_set_init_1 hT ?_)) fun r₂ s₂ hr₂ => ?_
      · obtain ⟨ol, hol, hcl, nl, hdl⟩ := hl
        obtain ⟨ocls, odict, odata, oslots⟩ := ol
        simp only at hcl hdl
        subst hcl; subst hdl
        have hol' : (s.heap.push { cls := .type "set", dict := none, data := .set #[] 0 (.fresh 0 0 (!w.params.followText "set-order")) }).get? l = some { cls := .type "list", dict := odict, data := .seq items nl, slots := oslots } := Heap.get?_push_of_some _ hol
        have hsls := F.sub_list_set
        have hslf := F.sub_list_frozenset
        have hne : (Value.type "list" == Value.type "dict") = false := by decide
        have hl1 : (s.heap.push { cls := .type "set", dict := none, data := .set #[] 0 (.fresh 0 0 (!w.params.followText "set-order")) }).IsList l items := ⟨_, hol', rfl, nl, rfl⟩
        unfold Builtin.«set.__init__» noKeywords Builtin.Frozenset.updateFrom
        generalize hPI : pyIter = PI
        wp_walk
        subst hPI

        refine wpAny_pyIter_list hl1 ?_
        refine wpAny_bind (wpAny_runValue ?_)
        have hlS : l < s.heap.objs.size := Heap.lt_size hol
        have hh3 : A.in1.in1.in1.handled = none := by simp [hh]
        have hz1 : (s.heap.push { cls := .type "set", dict := none, data := .set #[] 0 (.fresh 0 0 (!w.params.followText "set-order")) }).objs.size = s.heap.objs.size + 1 := Heap.size_push ..
        have hneI : l ≠ (s.heap.push { cls := .type "set", dict := none, data := .set #[] 0 (.fresh 0 0 (!w.params.followText "set-order")) }).objs.size := by
          rw [Heap.size_push]; exact Nat.ne_of_lt (Nat.lt_succ_of_lt hlS)
        have hSf : s.heap.objs.size ∉ [(s.heap.push { cls := .type "set", dict := none, data := .set #[] 0 (.fresh 0 0 (!w.params.followText "set-order")) }).objs.size, l] := by
          rw [Heap.size_push]; simp only [List.mem_cons, List.mem_singleton, List.not_mem_nil, or_false, not_or]
          exact ⟨Nat.ne_of_lt (Nat.lt_succ_self _), Nat.ne_of_gt hlS⟩
        have hval : ∀ (i : Nat) (v : Value), items[i]? = some v → ∃ k t, ns[i]? = some k ∧ v = .int k t := fun i v hv => by
          have hi : i < ns.length := by rw [← hisz]; exact (Array.getElem?_eq_some_iff.mp hv).1
          obtain ⟨t, e⟩ := PyProof.Rows.IntsAre.int_at hit i v (by rw [Array.getElem?_toList]; exact hv)
          refine ⟨ns[i], t, List.getElem?_eq_getElem hi, ?_⟩
          rw [e, List.getD_eq_getElem?_getD, List.getElem?_eq_getElem hi] <;> rfl
        refine set_update_ints ((Walks.list hh3 _ l hneI items).toS) s.heap.objs.size
          hSf ns hisz hb hval (items.size - 0) 0 _ (by omega) (Nat.zero_le _)
          ⟨⟨_, Heap.get?_push_size _ rfl, rfl, rfl⟩, (hl1.push _)⟩ ?hS0 ?hR
        case hS0 =>
          have hget : ((s.heap.push { cls := .type "set", dict := none, data := .set #[] 0 (.fresh 0 0 (!w.params.followText "set-order")) }).push { cls := .type "list_iterator", data := .fields #[.ref l, .int 0 0] }).get? s.heap.objs.size
              = some { cls := .type "set", dict := none, data := .set #[] 0 (.fresh 0 0 (!w.params.followText "set-order")) } := Heap.get?_push_of_some _ hS
          exact ⟨0, Nat.le_refl 0, setR_new_at hget⟩
        case hR =>
          intro s' c' hm hc' hS'
          obtain ⟨h', g2, d', tk', os'⟩ := s'
          have eg : g2 = s.gens := hm.gens
          have ed : d' = s.drawn := hm.drawn
          have eo : os' = s.os := hm.os
          subst eg; subst ed; subst eo
          show wpAny _ _ _ _ _ _
          refine wpAny_pure ?_
          show wpAny _ _ (ret Value.none) _ _ _
          rw [hisz] at hc'
          refine wpAny_pure ⟨rfl, h', tk', c', rfl, hS', hc', fun b o e => ?_⟩
          have hb0 : b < s.heap.objs.size := Heap.lt_size e
          have hb1 : b ≠ s.heap.objs.size := Nat.ne_of_lt hb0
          have hb2 : b ≠ (s.heap.push { cls := .type "set", dict := none, data := .set #[] 0 (.fresh 0 0 (!w.params.followText "set-order")) }).objs.size := by
            rw [Heap.size_push]; exact Nat.ne_of_lt (Nat.lt_succ_of_lt hb0)
          exact hm.heap b o (by simp only [List.mem_cons, List.mem_singleton, List.not_mem_nil, or_false, not_or]; exact ⟨hb1, hb2⟩) (Heap.get?_push_of_some _ (Heap.get?_push_of_some _ e))

      · cases r₂ with
        | error e => exact hr₂
        | ok fl₂ =>
          cases fl₂ with
          | ret r =>
            obtain ⟨rfl, h', tk, c', rfl, hS', hc', hk'⟩ := hr₂
            repeat (any_goals (first | assumption | wp_step))
            exact h _ _ _ hS' hc' hk'
          | _ => exact hr₂.elim
    | _ => exact hr.elim

end
/-! ### the distinct ones -/
def distinct (ns : List Int) : List Int := ns.eraseDups
theorem setR_count {w : World} {h : Heap} {a : Addr} {S : Int → Bool} {n : Nat} {l : List Int} (R : SetR w h a S n) (nd : l.Nodup) (m : ∀ k, S k = true ↔ k ∈ l) : n = l.length := by
  obtain ⟨o, es, ep, t, ho, hex, hd, g, nd2, hm, hb, hf, hn, hr, hl⟩ := R
  have p : (es.toList.map L2.keyOf).Perm l := (List.perm_ext_iff_of_nodup nd2 nd).mpr fun k => by rw [← hm k, m k]
  rw [← hn, ← p.length_eq, List.length_map, Array.length_toList]
/-! ### set(x), of whole numbers -/
def StP (X : Cx) (pins : List (Addr × Obj)) (σ : St) (Q : List Int → Hp → Prop) : Value → Shared → Prop := fun u s' => ∃ (a : Addr) (ns : List Int) (S : Int → Bool) (n : Nat) (H' : Hp), u = .ref a ∧ Inv X pins σ H' s' ∧ SetR X.w s'.heap a S n ∧ (∀ k, S k = true ↔ k ∈ ns) ∧ n ≤ ns.length ∧ Q ns H'
structure StJ (T : TabL) (X : Cx) (E : XK) (e : Expr) (m : DEnv → (List Int → Prop) → (Addr → Prop) → Prop) : Prop where
  run : ∀ (F : FB) (γ : DEnv) (σ : St) (H : Hp) (Q : List Int → Prop) (R : Addr → Prop), EnvOk T F γ σ H → RzOk T E H R → m γ Q R →
  ∀ (pins : List (Addr × Obj)) (s : Shared), Inv X pins σ H s → wpAny (model X.prog X.w) X.A (eval e X.env) (StP X pins σ fun ns H' => Gr T H H' ∧ Q ns) X.xe s
instance {T : TabL} {X : Cx} {E : XK} {e : Expr} {m : DEnv → (List Int → Prop) → (Addr → Prop) → Prop} : CoeFun (StJ T X E e m) (fun _ => ∀ (F : FB) (γ : DEnv) (σ : St) (H : Hp) (Q : List Int → Prop) (R : Addr → Prop), EnvOk T F γ σ H → RzOk T E H R → m γ Q R →
  ∀ (pins : List (Addr × Obj)) (s : Shared), Inv X pins σ H s → wpAny (model X.prog X.w) X.A (eval e X.env) (StP X pins σ fun ns H' => Gr T H H' ∧ Q ns) X.xe s) := ⟨StJ.run⟩
@[simp] def mSet (m : M) : DEnv → (List Int → Prop) → (Addr → Prop) → Prop := fun γ Q R => m γ (fun w => match w with
  | .val (.list ds) => (match ints? ds with
    | some ns => ns.length ≤ 1000 ∧ Q ns
    | none => False)
  | .val (.tuple ds) => (match ints? ds with
    | some ns => ns.length ≤ 1000 ∧ Q ns
    | none => False)
  | _ => False) R
section
variable {T : TabL} {X : Cx} {E : XK} {e : Expr} {m : M} {p p2 pos pos2 : Pos}
theorem st_set (hc : X.calm = true) (hg : Gl X "set") (hm : X.mg "set" = none) (he : EJ T X E e m) (hs : starEach [e] X.env = (false, eval e X.env) :: starEach [] X.env := by rfl) : StJ T X E (.Call (.Name "set" p) [e] [] pos) (mSet m) := by
  constructor
  intro F γ σ H Q R hE hR hm' pins s I
  have ev := he F γ σ H _ R hE hR hm'
  refine Call_ (ld_blt I hg hm PyProof.Rows.boot_set (PyProof.Rows.callWith_type1 (args_cons (thn (ev pins s I) fun u s1 hu => args_nil ?_) hs) hs))
  obtain ⟨v, H1, I1, ru, g, w, r, q⟩ := hu
  split at q
  · rename_i ds
    split at q
    · rename_i ns hns
      have ed := ints_map hns
      subst ed
      obtain ⟨a, xs, rfl, _, ea, rr⟩ := Rp.lstI r
      cases ru
      have ex := rr.ints
      subst ex
      obtain ⟨its, rv, pt, hz⟩ := I1.list (SqL.of ea)
      have hi : IntsAre its.toArray.toList ns := ints_of_vals rv
      exact call_set_lstI ns (I1.ok.hd hc) pt.isList hi (by unfold scanBound; omega) fun h' tk c R1 hcn k => ⟨_, ns, _, c, H1, rfl, I1.kept k, R1, fun k => by simp, hcn, g, q.2⟩
    · exact q.elim
  · rename_i ds
    split at q
    · rename_i ns hns
      have ed := ints_map hns
      subst ed
      obtain ⟨a, xs, rfl, ea, rr⟩ := Rp.tupI r
      cases ru
      have ex := rr.ints
      subst ex
      obtain ⟨its, rv, pt, hz⟩ := I1.tuple (SqT.of ea)
      have hi : IntsAre its.toArray.toList ns := ints_of_vals rv
      exact call_set_tupI ns (I1.ok.hd hc) (show s1.heap.IsTuple a its.toArray from pt) hi (by unfold scanBound; omega) fun h' tk c R1 hcn k => ⟨_, ns, _, c, H1, rfl, I1.kept k, R1, fun k => by simp, hcn, g, q.2⟩
    · exact q.elim
  · exact q.elim
@[simp] def mLenSet (m : DEnv → (List Int → Prop) → (Addr → Prop) → Prop) : M := fun γ Q R => m γ (fun ns => ∀ l : List Int, l.Nodup → (∀ k, k ∈ l ↔ k ∈ ns) → Q (.val (.int l.length))) R
theorem e_lenSet {m : DEnv → (List Int → Prop) → (Addr → Prop) → Prop} (hg : Gl X "len") (hm : X.mg "len" = none) (he : StJ T X E e m) (hs : starEach [e] X.env = (false, eval e X.env) :: starEach [] X.env := by rfl) : EJ T X E (.Call (.Name "len" p) [e] [] pos) (mLenSet m) := by
  constructor
  intro F γ σ H Q R hE hR hm' pins s I
  refine Call_ (ld_blt I hg hm boot_len (PyProof.Rows.callWith_builtin1 (args_cons (thn (he F γ σ H _ R hE hR hm' pins s I) fun u s1 hu => args_nil ?_) hs) hs))
  obtain ⟨a, ns, S, n, H1, rfl, I1, R1, hS, hn, g, q⟩ := hu
  have R2 := R1
  obtain ⟨o, es, ep, t, ho, hex, hd, gg, nd, hmm, hb, hf, hsz, hr, hl⟩ := R1
  have hk : ∀ k, k ∈ es.toList.map L2.keyOf ↔ k ∈ ns := fun k => by rw [← hmm k, hS k]
  have hlen : (es.toList.map L2.keyOf).length = es.size := by rw [List.length_map, Array.length_toList]
  refine call_len_set ho hex hd hf (by unfold scanBound at hb; omega) ⟨.int es.size, H1, I1.tok _, ⟨_, rfl⟩, g, .val (.int es.size), .int _, ?_⟩
  have := q _ nd hk
  rw [hlen] at this
  exact this
@[simp] def mSortedSet (m : DEnv → (List Int → Prop) → (Addr → Prop) → Prop) : M := fun γ Q R => m γ (fun ns => ns.length < 64 ∧ ∀ l : List Int, l.Pairwise (· < ·) → (∀ k, k ∈ l ↔ k ∈ ns) → Q (.val (.list (l.map .int)))) R
theorem e_sortedSet {m : DEnv → (List Int → Prop) → (Addr → Prop) → Prop} (hc : X.calm = true) (hg : Gl X "sorted") (hm : X.mg "sorted" = none) (he : StJ T X E e m) (hs : starEach [e] X.env = (false, eval e X.env) :: starEach [] X.env := by rfl) : EJ T X E (.Call (.Name "sorted" p) [e] [] pos) (mSortedSet m) := by
  constructor
  intro F γ σ H Q R hE hR hm' pins s I
  refine Call_ (ld_blt I hg hm boot_sorted (PyProof.Rows.callWith_builtin1 (args_cons (thn (he F γ σ H _ R hE hR hm' pins s I) fun u s1 hu => args_nil ?_) hs) hs))
  obtain ⟨a, ns, S, n, H1, rfl, I1, R1, hS, hn, g, h64, q⟩ := hu
  refine sorted_set R1 (I1.ok.hd hc) (by omega) fun s' pp out c ms k gg os hp hg' hi hs' hmm hl => ?_
  have fr : H1 pp = none := I1.hok.fresh hp
  have new : ObjOk X.prog X.w (upd H1 pp (.lst (ms.map V.int))) s'.heap pp (.lst (ms.map V.int)) := ⟨by rw [List.length_map, hl, sizeLine_eq]; omega, out.toList, c, vals_of_ints hi, by rw [Array.toArray_toList]; exact hg'⟩
  have I2 : Inv X pins σ (upd H1 pp (.lst (ms.map V.int))) s' := I1.call' (ch := []) os (Un.laid k hp fr) (I1.hok.laid k hp new) (by rw [gg]; exact I1.bare) (fun b hb => nomatch hb)
  exact ⟨.ref pp, _, I2, rfl, (PQ.newL (hE.gr g).fok fr (Rps.of_ints ms) (q ms hs' fun k => by rw [hmm k, hS k])).gr g⟩
end
end GJ

/-! G14: facts of the head, by places; sorted(dict); a written tuple; the source of draws. -/
namespace GJ
open PySem PySem.Spec PyProof.Rows L2
/-! ### facts -/
structure Fac (fa : List He.Fa) (fn : List He.DefD) (K : PySem.W.Frag) (mg : Str → Option Value) : Prop where
  says : He.SaysD fa fn K
  inn : ∃ h : Heap, K.In h ∧ h.Ns mainGlobals mg
section
variable {fa : List He.Fa} {fn : List He.DefD} {K : PySem.W.Frag} {mg : Str → Option Value}
theorem Fac.glo (c : Fac fa fn K mg) (i : Nat) {x : Str} (h : fa[i]? = some (.glo x)) : mg x = some (.ref (He.ga K x)) := by
  obtain ⟨hp, h1, h2⟩ := c.inn
  exact He.glo_ok h1 h2 (c.says.fact i h)
theorem Fac.fre (c : Fac fa fn K mg) (i : Nat) {x : Str} (h : fa[i]? = some (.free x)) : mg x = none := by
  obtain ⟨hp, h1, h2⟩ := c.inn
  exact He.free_ok h1 h2 (c.says.fact i h)
theorem Fac.int (c : Fac fa fn K mg) (i : Nat) {x : Str} {n : Int} (h : fa[i]? = some (.int x n)) : ∃ t, mg x = some (.int n t) := by
  obtain ⟨hp, h1, h2⟩ := c.inn
  exact He.int_ok h1 h2 (c.says.fact i h)
def FdP (K : PySem.W.Frag) (x : Str) (fd : FuncData) : Prop := ∃ (oc : Value) (od : Option Addr) (osl : Array (Option Value)), K.lookup (He.ga K x) = some ⟨oc, od, .func fd, osl⟩
open Classical in
/-- the function object of a global name -/
noncomputable def fdOf (K : PySem.W.Frag) (x : Str) : FuncData := if h : ∃ fd, FdP K x fd then h.choose else PySem.W.fnOf x x ⟨[], [], none, [], [], none, []⟩ [] ⟨.function, [], false, false, []⟩ .none .none .none .none none .none .none
theorem fdOf_eq {x : Str} {oc : Value} {od : Option Addr} {fd : FuncData} {osl : Array (Option Value)} (h : K.lookup (He.ga K x) = some ⟨oc, od, .func fd, osl⟩) : fdOf K x = fd := by
  have e : ∃ fd, FdP K x fd := ⟨fd, _, _, _, h⟩
  have e1 : fdOf K x = e.choose := by
    unfold fdOf
    exact dif_pos e
  obtain ⟨_, _, _, z⟩ := e.choose_spec
  rw [h] at z
  cases z
  exact e1
theorem Fac.fun (c : Fac fa fn K mg) (i : Nat) {x : Str} {st : Stmt} (h : fn[i]? = some ⟨(x, none), x, x, defArgs st, defBody st, defScope st, [], []⟩) : Fun K x x st (He.ga K x) (fdOf K x) := by
  obtain ⟨fd, F⟩ := c.says.def_ i h
  obtain ⟨oc, od, dV, kV, doc, pm, an, cdv, ct, osl, rfl, lk, hcd, hD, hK⟩ := F.ex
  rcases hD with ⟨_, rfl⟩ | ⟨e, _⟩
  · rw [fdOf_eq lk]
    exact ⟨⟨oc, od, kV, doc, pm, an, cdv, ct, osl, rfl, lk, hcd⟩, F.kp⟩
  · exact absurd rfl e
end
/-- a def's promise, told by its name -/
abbrev OkF (P : Program) (w : World) (K : PySem.W.Frag) (mg : Str → Option Value) (base : Heap) (T : TabL) (j : Nat) (x : Str) (ps : List Str) (S : SpD) : Prop :=
  FnOk P w K mg base (L2.CX P w) j (He.ga K x) (fdOf K x) ps (dsp T ps.length S)
section
variable {fa : List He.Fa} {fn : List He.DefD} {T : TabL} {X : Cx} {E : XK} {pos : Pos}
/-- raise C('..') -/
theorem s_raiseC {k i g : Nat} {x m : Str} {p p2 p3 : Pos} {j : Nat} (c : CtxE X E k) (f : Fac fa fn X.K X.mg) (h : fa[i]? = some (.exc x)) (h2 : fa[g]? = some (.glo x)) (hg : Gl X x) (hdb : (x == ("__debug__" : Str)) = false := by decide) :
    SJ T X E (.Raise (some (.Call (.Name x p) [.Constant (.str m) j p2] [] p3)) none pos) (sRaise (He.ga X.K x)) := by
  obtain ⟨e1, e2, e3, e4⟩ := He.exc_ok (f.says.fact i h)
  exact s_raise c (pmk_own PySem.F.excBase_ValueError e1 (f.glo g h2) e2 (raises_own e3 e4) hg hdb)
/-- a module's int -/
theorem e_globInt {i : Nat} {x : Str} {n : Int} (f : Fac fa fn X.K X.mg) (h : fa[i]? = some (.int x n)) (hg : Gl X x) (hd : (x == ("__debug__" : Str)) = false := by decide) : EJ T X E (.Name x pos) (mInt n) := by
  obtain ⟨t, e⟩ := f.int i h
  exact e_globI hg e hd
/-! ### sorted(d) -/
@[simp] def intK? : List L2.Key → Option (List Int)
  | [] => some []
  | .inl i :: ks => (intK? ks).map (i :: ·)
  | .inr _ :: _ => none
theorem intK_map : ∀ {ks : List L2.Key} {ns : List Int}, intK? ks = some ns → ks = ns.map Sum.inl
  | [], _, h => by cases h; rfl
  | .inl i :: ks, ns, h => by
    rw [intK?] at h
    cases e : intK? ks with
    | none => rw [e] at h; cases h
    | some ms => rw [e] at h; cases h; rw [intK_map e]; rfl
  | .inr _ :: _, _, h => by cases h
theorem intK_of : ∀ (ns : List Int), intK? (ns.map Sum.inl) = some ns
  | [] => rfl
  | n :: ns => by rw [List.map_cons, intK?, intK_of ns]; rfl
@[simp] def sortDkW : WC := fun ws Q => match ws with
  | [.dk kvs] => (match intK? (kvs.map (·.1)) with
    | some ns => ns.length < 64 ∧ ∀ ys : List Int, ys.Perm ns → ys.Pairwise (· ≤ ·) → Q (.val (.list (ys.map .int)))
    | none => False)
  | _ => False
theorem c_sortDk (hc : X.calm = true) : CallW T X (.builtin "sorted") sortDkW := by
  intro F H vs ws Q fok r h
  unfold sortDkW at h
  split at h
  · rename_i kvs
    split at h
    · rename_i ns hns
      obtain ⟨v, rfl, l, xs, rfl, el, hk, rr⟩ := ws1 r
      exact cW.of (call_sortedDI hc) ⟨l, xs, ns, rfl, .inl el, by rw [hk]; exact intK_map hns, h.1, fun ys p pm pw hp => PQ.newL fok hp (Rps.of_ints ys) (h.2 ys pm pw)⟩
    · exact h.elim
  · exact h.elim
/-! ### a written tuple of texts -/
/-- what stands at a global name: a tuple of texts -/
def Wr (X : Cx) (x : Str) (xs : List Str) : Prop := ∃ a, X.mg x = some (.ref a) ∧ ∀ H, SqT X.K H a (xs.map V.str)
@[simp] def mNotInG (xs : List Str) (m : M) : M := fun γ Q R => m γ (fun w => match w with
  | .val d => flatD d = true ∧ Q (.val (.bool (!inD d (xs.map .str))))
  | _ => False) R
theorem inV_strs {F : FB} {H : Hp} {v : V} {d : PyData} (r : Rp F H v d) (h : flatD d = true) : ∀ xs : List Str, inV v (xs.map V.str) = inD d (xs.map .str)
  | [] => rfl
  | x :: xs => by
    have ih := inV_strs r h xs
    have e := eqV_D (F := F) (H := H) (v := .str x) (u := v) (d := .str x) (e := d) (.str x) r rfl h
    unfold L2.inV at ih ⊢
    unfold inD at ih ⊢
    rw [List.map_cons, List.map_cons, List.any_cons, List.any_cons, ih, e]
theorem e_notInG {a : Expr} {x : Str} {m : M} {p : Pos} {xs : List Str} (hw : Wr X x xs) (hg : Gl X x) (ha : EJ T X E a m) (hm : behindInMarks .NotIn (.Name x p) = false := by rfl) (hd : (x == ("__debug__" : Str)) = false := by decide) : EJ T X E (.Compare a [.NotIn] [.Name x p] pos) (mNotInG xs m) := by
  obtain ⟨b, e1, e2⟩ := hw
  constructor
  intro F γ σ H Q R hE hR hm'
  refine Ev.of (pe_cmpR op_notIn_seq (Ev.pe X a) (pe_glob (v := .ref b) hg e1 rfl hd) hm) ((ha F γ σ H _ R hE hR hm').mono fun v H1 ⟨g, w, r, q⟩ => ?_)
  dsimp only at q
  split at q
  · rename_i d
    refine ⟨b, xs.map V.str, rfl, .inr (e2 H1), flat_V r q.1, by simp [flatV], ?_⟩
    rw [if_pos rfl, inV_strs r q.1]
    exact (PQ.val (.bl _) q.2).gr g
  · exact q.elim
/-- for x in METHODS -/
theorem itD_wr {F : FB} {K : PySem.W.Frag} {a : Addr} {xs : List Str} (e : ∀ H, SqT K H a (xs.map V.str)) : ItD2 T F (Itt K a) (fun _ => True) (xs.map .str) where
  gr := fun _ _ _ _ => trivial
  go := fun i H hi _ => ⟨_, V.str (xs[i]'(by simpa using hi)), e H, by simp at hi; simp [hi]⟩
  stop := fun H _ => ⟨_, e H, by simp⟩
  yld := fun i H x H' d _ y hd => by
    obtain ⟨rfl, y⟩ := y
    refine ⟨Gr.refl _ _, fun Hk F' hk g hf => ?_⟩
    have z := y _ (e H')
    rw [List.getElem?_map] at z hd
    cases q : xs[i]? with
    | none => rw [q] at z; cases z
    | some t =>
      rw [q] at z hd
      cases z; cases hd
      exact .str t
theorem i_wr {tg : Expr} {x : Str} {p : Pos} {xs : List Str} (hw : Wr X x xs) (hg : Gl X x) (hd : (x == ("__debug__" : Str)) = false := by decide) : IJ T X E tg (.Name x p) (fun _ Qd _ => Qd (xs.map .str)) := by
  obtain ⟨b, e1, e2⟩ := hw
  constructor
  intro F γ σ H Qd R eo hR hm
  refine Ei.of (pi_tup (pe_glob (v := .ref b) hg e1 rfl hd)) ⟨b, rfl, ⟨_, e2 H⟩, Gr.refl _ _, _, _, itD_wr e2, trivial, fun _ => trivial, hm⟩
end
end GJ

/-! G15: the source of draws. -/
namespace GJ
open PySem PySem.Spec PyProof.Rows L2
section
variable {T : TabL} {X : Cx} {E : XK} {pos : Pos} {pins : List (Addr × Obj)} {σ : St} {H : Hp} {s : Shared} {a : Addr}
theorem upd_upd {H : Hp} {a : Addr} {o o' : HO} : upd (upd H a o) a o' = upd H a o' := by
  funext b
  unfold upd
  by_cases h : b = a <;> simp [h]
theorem upd_id {H : Hp} {a : Addr} {o : HO} (h : H a = some o) : upd H a o = H := by
  funext b
  unfold upd
  by_cases hb : b = a
  · rw [if_pos hb, hb, h]
  · rw [if_neg hb]
theorem src_open (I : Inv X pins σ H s) (h : H a = some (SrcO a)) : ∃ x y, SrcOk x y ∧ Inv X pins σ (upd H a (.lst [.int x, .int y])) s := by
  obtain ⟨⟨x, y, t, u, n, ok, e⟩, _, _⟩ := I.hok a _ h
  have new : ObjOk X.prog X.w (upd H a (.lst [.int x, .int y])) s.heap a (.lst [.int x, .int y]) := ⟨by show 2 ≤ sizeLine; rw [sizeLine_eq]; omega, [.int x t, .int y u], n, .cons ⟨t, rfl⟩ (.cons ⟨u, rfl⟩ .nil), e⟩
  have J := I.write (x := a) (e := a) (t' := s.toks) (o := .lst [.int x, .int y]) (h' := s.heap) (by rw [h]; exact trivial) (.inl rfl) (fun b u _ q => q) ⟨_, e⟩ new
  exact ⟨x, y, ok, J⟩
theorem src_close {x y : Int} (I : Inv X pins σ H s) (h : H a = some (.lst [.int x, .int y])) (ok : SrcOk x y) : Inv X pins σ (upd H a (SrcO a)) s := by
  obtain ⟨_, its, n, r, e⟩ := I.hok a _ h
  cases r with
  | cons r1 r2 =>
    cases r2 with
    | cons r3 r4 =>
      cases r4
      obtain ⟨t, rfl⟩ := r1
      obtain ⟨u, rfl⟩ := r3
      have new : ObjOk X.prog X.w (upd H a (SrcO a)) s.heap a (SrcO a) := ⟨⟨x, y, t, u, n, ok, e⟩, ⟨_, e⟩, fun h1 h2 ⟨x, y, t, u, n, ok, e⟩ k => ⟨x, y, t, u, n, ok, k _ e⟩⟩
      exact I.write (x := a) (e := a) (t' := s.toks) (o := SrcO a) (h' := s.heap) (by rw [h]; exact trivial) (.inl rfl) (fun b u _ q => q) ⟨_, e⟩ new
/-- s[0], s[1] -/
@[simp] def mSrcIx (i j : Nat) : M := fun γ Q _ => match γ[i]? with
  | some (some .src) => ∀ x y, SrcOk x y → Q (.val (.int (if j = 0 then x else y)))
  | _ => False
theorem e_srcIx {i j : Nat} {x : Str} {p1 p2 : Pos} {k : Nat} (hj : j < 2) (hv : PE X (.Name x p1) (tVar i)) : EJ T X E (.Subscript (.Name x p1) (.Constant (.int (j : Nat)) k p2) pos) (mSrcIx i j) := by
  constructor
  intro F γ σ H Q R hE hR hm
  unfold mSrcIx at hm
  split at hm
  · rename_i ei
    obtain ⟨v, hs', a, rfl, ha⟩ := hE.slot i _ ei
    intro pins s I
    obtain ⟨u, y, ok, J⟩ := src_open I ha
    have z : Ev X (.Subscript (.Name x p1) (.Constant (.int (j : Nat)) k p2) pos) σ (upd H a (.lst [.int u, .int y])) (fun v H' => H' = upd H a (.lst [.int u, .int y]) ∧ v = .int (if j = 0 then u else y)) := by
      refine Ev.of (pe_ix ix_list hv (pe_int (i := (j : Nat))) (fun _ _ => rfl)) ⟨.ref a, hs', ?_⟩
      refine ⟨a, [.int u, .int y], (j : Nat), .int (if j = 0 then u else y), rfl, rfl, SqL.of upd_same, ?_, rfl, rfl⟩
      rcases (by omega : j = 0 ∨ j = 1) with e | e <;> subst e <;> rfl
    refine thn (z pins s J) fun w s1 ⟨v, H', J1, rv, e1, e2⟩ => ?_
    subst e1 e2
    have J2 := src_close J1 upd_same ok
    rw [upd_upd, upd_id ha] at J2
    exact ⟨_, H, J2, rv, PQ.val (.int _) (hm u y ok)⟩
  · exact hm.elim
/-- s[j] = e -/
@[simp] def sSrcPut (i j : Nat) (me : M) : MS := fun D γ => me γ (fun w => match w, γ[i]? with
  | .val (.int n), some (some .src) => (0 ≤ n ∧ (j = 1 → n < 2 ^ 40)) ∧ D.nx γ
  | _, _ => False) D.ex
theorem s_srcPut {i j : Nat} {x : Str} {p1 p2 ppos : Pos} {k : Nat} {e : Expr} {me : M} (hj : j < 2) (hv : PE X (.Name x p1) (tVar i)) (he : EJ T X E e me)
    (ha : ∀ v, assign (.Subscript (.Name x p1) (.Constant (.int (j : Nat)) k p2) ppos) X.env v = (do
      let ov ← holding [v] (eval (.Name x p1) X.env)
      let iv ← holding [v, ov] (eval (.Constant (.int (j : Nat)) k p2) X.env)
      standAt ppos
      holding [v, ov, iv] (setItem ov iv v)
      release [v, ov, iv] []) := by intro _; rfl) (hs : swapsWithSole [.Subscript (.Name x p1) (.Constant (.int (j : Nat)) k p2) ppos] e pos.line X.env = pure false := by rfl) (hw : swappedStores [.Subscript (.Name x p1) (.Constant (.int (j : Nat)) k p2) ppos] e X.env = pure none := by rfl)
    (h1 : (assignEach [.Subscript (.Name x p1) (.Constant (.int (j : Nat)) k p2) ppos] X.env).map (·.2) = [assign (.Subscript (.Name x p1) (.Constant (.int (j : Nat)) k p2) ppos) X.env] := by rfl) :
    SJ T X E (.Assign [.Subscript (.Name x p1) (.Constant (.int (j : Nat)) k p2) ppos] e pos) (sSrcPut i j me) := by
  constructor
  intro F0 H0 γ σ H D hS hR hm
  refine E1.of (ps_asg (Ev.pe X e) (G1.pg X _) hs hw h1) (hS.ev he hR hm fun v H1 w F g eo sb n r q => ?_)
  split at q
  · rename_i m ei
    cases r
    obtain ⟨v, hs', a, rfl, ha'⟩ := eo.slot i _ ei
    intro pins s u I ru
    obtain ⟨x0, y0, ok, J⟩ := src_open I ha'
    have z : G1 X (.Subscript (.Name x p1) (.Constant (.int (j : Nat)) k p2) ppos) (.int m) σ (upd H1 a (.lst [.int x0, .int y0])) (fun σ' H' => σ' = σ ∧ H' = upd (upd H1 a (.lst [.int x0, .int y0])) a (.lst ([V.int x0, .int y0].set j (.int m)))) := by
      refine G1.of (pg_sub hv (pe_int (i := (j : Nat))) set_list ha) ⟨.ref a, hs', ?_⟩
      refine ⟨a, [.int x0, .int y0], (j : Nat), j, rfl, rfl, upd_same, ?_, rfl, rfl⟩
      rcases (by omega : j = 0 ∨ j = 1) with e | e <;> subst e <;> rfl
    refine thn (z pins s u J ru) fun _ s1 ⟨σ', H', J1, e1, e2⟩ => ?_
    subst e1 e2
    rw [upd_upd] at J1
    have fin : Inv X pins σ' H1 s1 := by
      rcases (by omega : j = 0 ∨ j = 1) with e | e
      · subst e
        have J2 := src_close (x := m) (y := y0) J1 upd_same ⟨q.1.1, ok.2⟩
        rw [upd_upd, upd_id ha'] at J2
        exact J2
      · subst e
        have J2 := src_close (x := x0) (y := m) J1 upd_same ⟨ok.1, q.1.1, q.1.2 rfl⟩
        rw [upd_upd, upd_id ha'] at J2
        exact J2
    exact ⟨σ', H1, fin, γ, hS.gr' g, q.2⟩
  · exact q.elim
/-- return [x, y]: a source -/
@[simp] def sRetSrc (m : MI) : MS := fun D γ => m γ (fun ds => match ds with
  | [.int x, .int y] => SrcOk x y ∧ D.rt .src
  | _ => False) D.ex
theorem s_retSrc {e : Expr} {m : MI} (h : NJ T X E e m) : SJ T X E (.Return (some e) pos) (sRetSrc m) := by
  constructor
  intro F0 H0 γ σ H D hS hR hm
  obtain ⟨F, eo, s, n⟩ := hS.ex
  refine E1.of (ps_ret (Ev.pe X e)) ?_
  intro pins st I
  refine thn (h F γ σ H _ _ eo (hR.gr hS.gr) hm pins st I) fun u s1 ⟨v, H', J, ru, p, H1, xs, ds, e1, g, hp, e2, rr, q⟩ => ?_
  subst e1 e2
  split at q
  · rename_i x y
    have ex : xs = [.int x, .int y] := rr.ints (ns := [x, y])
    subst ex
    have J2 := src_close J upd_same q.1
    rw [upd_upd] at J2
    exact ⟨.ref p, _, J2, ru, (hS.gr.trans g).trans (Gr.new hp), .src, ⟨p, rfl, upd_same⟩, rfl, q.2⟩
  · exact q.elim
/-- of a script: an item -/
@[simp] def mScrIx (K : PySem.W.Frag) (i : Nat) (mb : M) : M := fun γ Q R => match γ[i]? with
  | some (some (.scr K' ns)) => K' = K ∧ mb γ (fun y => match y with
    | .val (.int k) => (match L2.atI ns k with
      | some d => Q (.val (.int d))
      | none => False)
    | _ => False) R
  | _ => False
theorem atI_map {ns : List Int} {k d : Int} (h : L2.atI ns k = some d) : L2.atI (ns.map V.int) k = some (.int d) := by
  unfold L2.atI at h ⊢
  rw [List.length_map]
  obtain ⟨j, e1, e2⟩ := Option.bind_eq_some_iff.mp h
  rw [e1]
  show (ns.map V.int)[j]? = _
  rw [List.getElem?_map, e2]
  rfl
theorem e_scrIx {i : Nat} {x : Str} {b : Expr} {mb : M} {p1 : Pos} (hv : PE X (.Name x p1) (tVar i)) (hb : EJ T X E b mb) (hs : PlainIx b := by intro _ _; rfl) : EJ T X E (.Subscript (.Name x p1) b pos) (mScrIx X.K i mb) := by
  constructor
  intro F γ σ H Q R hE hR hm
  unfold mScrIx at hm
  split at hm
  · rename_i K' ns e
    obtain ⟨rfl, hm⟩ := hm
    obtain ⟨v, hs', a, rfl, ea⟩ := hE.slot i _ e
    refine Ev.of (pe_ix ix_list hv (Ev.pe X b) hs) ⟨.ref a, hs', ?_⟩
    refine (hb F γ σ H _ R hE hR hm).mono fun y H1 ⟨g, wy, ry, q⟩ => ?_
    dsimp only at q
    split at q
    · split at q
      · rename_i ed
        cases ry
        exact ⟨a, _, _, _, rfl, rfl, (ea.map (F' := F) (H' := H1) (fun q n => ⟨g.lst q, n⟩) fun o q => g.at q (fun _ z => by cases z)).sql, atI_map ed, g, .val _, .int _, q⟩
      · exact q.elim
    · exact q.elim
  · exact hm.elim
end
end GJ

/-! G16: small words for the derivations. -/
namespace GJ
open PySem PySem.Spec PyProof.Rows L2
theorem bb_abs : bootBuiltins "abs" = some (.builtin "abs") := by decide +kernel
theorem bb_len : bootBuiltins "len" = some (.builtin "len") := by decide +kernel
theorem bb_max : bootBuiltins "max" = some (.builtin "max") := by decide +kernel
theorem bb_min : bootBuiltins "min" = some (.builtin "min") := by decide +kernel
theorem bb_all : bootBuiltins "all" = some (.builtin "all") := by decide +kernel
theorem bb_any : bootBuiltins "any" = some (.builtin "any") := by decide +kernel
theorem bb_sum : bootBuiltins "sum" = some (.builtin "sum") := by decide +kernel
theorem bb_sorted : bootBuiltins "sorted" = some (.builtin "sorted") := by decide +kernel
theorem bb_int : bootBuiltins "int" = some (.type "int") := by decide +kernel
theorem bb_bool : bootBuiltins "bool" = some (.type "bool") := by decide +kernel
theorem bb_tuple : bootBuiltins "tuple" = some (.type "tuple") := by decide +kernel
theorem bb_list : bootBuiltins "list" = some (.type "list") := by decide +kernel
theorem bb_str : bootBuiltins "str" = some (.type "str") := by decide +kernel
theorem bb_set : bootBuiltins "set" = some (.type "set") := by decide +kernel
section
variable {X : Cx}
theorem pe_append {i : Nat} {o e : Expr} {te : TE} {apos cpos : Pos} (ho : PE X o (tVar i)) (he : PE X e te) (hbase : attributeBase o "append" X.env (eval o X.env) = eval o X.env := by rfl)
    (hfew : ((backTo cpos (starEach [e] X.env)).all (fun x => !x.1) && (backToKw cpos (keywordEach [] X.env)).all (fun x => x.1.isSome)
      && decide (([e] : List Expr).length + ([] : List Keyword).length + (if ([] : List Keyword).isEmpty then 0 else 1) < 30)) = true := by rfl)
    (hline : (apos.endLine == cpos.line) = true := by rfl) (hs : starEach [e] X.env = (false, eval e X.env) :: starEach [] X.env := by rfl) (hplain : (backTo cpos (starEach [] X.env)).any (·.1) = false := by rfl) :
    PE X (.Call (.Attribute o "append" apos) [e] [] cpos) (tBM X.K "list" rAppend (tVar i) (tCons te tNil)) :=
  pe_bm PySem.F.plainAttrs_list PySem.F.slot_list_append PySem.F.type_list_append mt_append ho (pa_cons he pa_nil hs) hbase hfew hline hs hplain
end
/-! ### plain arguments -/
def notStar : Expr → Bool
  | .Starred _ _ => false
  | _ => true
def allNS : List Expr → Bool
  | [] => true
  | e :: es => notStar e && allNS es
theorem star_of {a : Expr} {es : List Expr} {env : Env} (h : notStar a = true) : starEach (a :: es) env = (false, eval a env) :: starEach es env := by
  cases a <;> first | rfl | cases h
theorem star_one {a : Expr} {env : Env} (h : notStar a = true) : starEach [a] env = [(false, eval a env)] := star_of h
theorem back_plain {pos : Pos} {env : Env} : ∀ {es : List Expr}, allNS es = true → (backTo pos (starEach es env)).any (·.1) = false
  | [], _ => rfl
  | e :: es, h => by
    simp only [allNS, Bool.and_eq_true] at h
    rw [star_of h.1]
    have ih := back_plain (pos := pos) (env := env) (es := es) h.2
    unfold backTo at ih ⊢
    rw [List.map_cons, List.any_cons, ih]
    rfl
section
variable {T : TabL} {X : Cx} {E : XK} {a b : Expr} {ma mb : M} {pos : Pos}
theorem a_cons2 {es : List Expr} {mr : MA} (ha : EJ T X E a ma) (hr : AJ T X E es mr) (h : notStar a = true := by kernel_rfl) : AJ T X E (a :: es) (maCons ma mr) := a_cons ha hr (star_of h)
theorem e_call2 {k j : Nat} {f : Addr} {fd : FuncData} {ps : List Str} {S : SpD} {x : Str} {p : Pos} {e : Expr} {es : List Expr} {m : MA} (c : CtxE X E k) (Fn : FnOk X.prog X.w X.K X.mg X.base (L2.CX X.prog X.w) j f fd ps (dsp T ps.length S)) (hj : j ≤ k) (hk : PySem.W.keepIn X.K (.ref f) = true) (hb : Binds X.K fd ps [])
    (hm : X.mg x = some (.ref f)) (hg : Gl X x) (ha : AJ T X E (e :: es) m) (h : allNS (e :: es) = true := by kernel_rfl) (hdb : (x == ("__debug__" : Str)) = false := by decide) :
    EJ T X E (.Call (.Name x p) (e :: es) [] pos) (mFn ps.length S m) := by
  have h' : notStar e = true ∧ allNS es = true := by simpa only [allNS, Bool.and_eq_true] using h
  exact e_call c Fn hj hk hb hm hg ha hdb (star_of h'.1) (back_plain h'.2)
theorem e_callB2 {x : Str} {id : String} {e : Expr} {es : List Expr} {o : WC} {m : MA} {p pos : Pos} (hc : CallW T X (.builtin id) o) (hg : Gl X x) (hm : X.mg x = none) (hv : bootBuiltins x = some (.builtin id)) (ha : AJ T X E (e :: es) m)
    (h : allNS (e :: es) = true := by kernel_rfl) (hn : x ≠ "__name__" := by decide) (hdb : (x == ("__debug__" : Str)) = false := by decide) : EJ T X E (.Call (.Name x p) (e :: es) [] pos) (mCall o m) := by
  have h' : notStar e = true ∧ allNS es = true := by simpa only [allNS, Bool.and_eq_true] using h
  exact e_callB hc hg hm hv ha hn hdb (star_of h'.1) (back_plain h'.2)
theorem e_callTy2 {x : Str} {id : String} {e : Expr} {es : List Expr} {o : WC} {m : MA} {p pos : Pos} (hc : CallW T X (.type id) o) (hg : Gl X x) (hm : X.mg x = none) (hv : bootBuiltins x = some (.type id)) (ha : AJ T X E (e :: es) m)
    (h : allNS (e :: es) = true := by kernel_rfl) (hn : x ≠ "__name__" := by decide) (hdb : (x == ("__debug__" : Str)) = false := by decide) : EJ T X E (.Call (.Name x p) (e :: es) [] pos) (mCall o m) := by
  have h' : notStar e = true ∧ allNS es = true := by simpa only [allNS, Bool.and_eq_true] using h
  exact e_callTy hc hg hm hv ha hn hdb (star_of h'.1) (back_plain h'.2)
theorem t_ownNe {i : Nat} {x : Str} {p1 : Pos} (hu : X.A.units + 100 < cLine) (hv : PE X (.Name x p1) (tVar i)) (hb : EJ T X E b mb) : TJ T X E (.Compare (.Name x p1) [.NotEq] [b] pos) (mTest (mOwnEq true i mb)) := by
  constructor
  intro F γ σ H Q R hE hR hm
  unfold mTest mOwnEq at hm
  split at hm
  · rename_i ds e
    obtain ⟨v, hs', l, xs, rfl, fl, el, rl⟩ := hE.slot i _ e
    refine Et.of (pt_cmpR (rW_ok X _) hv (Ev.pe X b) (nomark _)) ⟨.ref l, hs', ?_⟩
    refine (hb F γ σ H _ R hE hR hm).mono fun y H1 ⟨g, wy, ry, q⟩ => ?_
    dsimp only at q
    split at q
    · intro pins s σ' v u I rv ru
      obtain ⟨as, r1⟩ := Dp.reads I (.list ds) (.ref l) v (.lst (SqL.of (g.lst el)) (Rps.dp _ _ (rl.gr g))) rv
      obtain ⟨bs, r2⟩ := Dp.reads I _ y u (Rp.dp _ _ ry) ru
      exact SeqAt.compareNe_reads r1 r2 q.1.1 q.1.2.1 (by have := q.1.2.2; omega) ⟨.bl _, H1, I, rfl, _, rfl, g, q.2⟩
    · exact q.elim
  · exact hm.elim
theorem t_notInG {x : Str} {m : M} {p : Pos} {xs : List Str} (hw : Wr X x xs) (hg : Gl X x) (ha : EJ T X E a m) (hm : behindInMarks .NotIn (.Name x p) = false := by rfl) (hd : (x == ("__debug__" : Str)) = false := by decide) : TJ T X E (.Compare a [.NotIn] [.Name x p] pos) (mTest (mNotInG xs m)) := by
  obtain ⟨b, e1, e2⟩ := hw
  constructor
  intro F γ σ H Q R hE hR hm'
  refine Et.of (pt_cmpR op_notIn_seq (Ev.pe X a) (pe_glob (v := .ref b) hg e1 rfl hd) hm) ((ha F γ σ H _ R hE hR hm').mono fun v H1 ⟨g, w, r, q⟩ => ?_)
  dsimp only at q
  split at q
  · rename_i d
    refine ⟨b, xs.map V.str, rfl, .inr (e2 H1), flat_V r q.1, by simp [flatV], ?_⟩
    rw [if_pos rfl, inV_strs r q.1]
    exact ⟨_, rfl, g, q.2⟩
  · exact q.elim
end
/-! ### written data -/
@[simp] def mC (d : PyData) : M := fun _ Q _ => Q (.val d)
def constsD (k : Expr → Option PyData) : List Expr → Option (List PyData)
  | [] => some []
  | e :: es => match k e, constsD k es with
    | some d, some ds => some (d :: ds)
    | _, _ => none
def constD : Nat → Expr → Option PyData
  | _, .Constant (.int i) _ _ => some (.int i)
  | _, .Constant (.bool b) _ _ => some (.bool b)
  | _, .Constant .none _ _ => some .none
  | _, .Constant (.str x) _ _ => some (.str x)
  | _, .UnaryOp .USub (.Constant (.int i) _ _) _ => some (.int (-i))
  | n + 1, .Tuple es _ _ => if es.length ≤ 1000 then (constsD (constD n) es).map .tuple else none
  | n + 1, .List es _ => if es.length ≤ 1000 then (constsD (constD n) es).map .list else none
  | _, _ => none
section
variable {T : TabL} {X : Cx} {E : XK}
theorem vals_of : ∀ (ds : List PyData), vals? (wd ds) = some ds
  | [] => rfl
  | d :: ds => by
    show (vals? (wd ds)).map (d :: ·) = _
    rw [vals_of ds]; rfl
theorem constsD_len {k : Expr → Option PyData} : ∀ {es : List Expr} {ds : List PyData}, constsD k es = some ds → ds.length = es.length
  | [], _, h => by cases h; rfl
  | e :: es, ds, h => by
    unfold constsD at h
    split at h
    · rename_i d ds' e1 e2
      cases h
      simp [constsD_len e2]
    · cases h
theorem a_consts {k : Expr → Option PyData} (hk : ∀ e d, k e = some d → EJ T X E e (mC d) ∧ notStar e = true) : ∀ {es : List Expr} {ds : List PyData}, constsD k es = some ds → AJ T X E es (fun _ Q _ => Q (wd ds))
  | [], ds, h => by cases h; exact a_nil
  | e :: es, ds, h => by
    unfold constsD at h
    split at h
    · rename_i d ds' e1 e2
      cases h
      exact a_cons2 (hk e d e1).1 (a_consts hk e2) (hk e d e1).2
    · cases h
theorem e_const' : ∀ (n : Nat) (e : Expr) (d : PyData), constD n e = some d → EJ T X E e (mC d) ∧ notStar e = true := by
  intro n
  induction n with
  | zero =>
    intro e d h
    unfold constD at h
    split at h <;> first
      | omega | (cases h; exact ⟨e_int, rfl⟩) | (cases h; exact ⟨e_bool, rfl⟩) | (cases h; exact ⟨e_none, rfl⟩) | (cases h; exact ⟨e_str, rfl⟩) | (cases h; exact ⟨e_neg e_int, rfl⟩) | cases h
  | succ n ih =>
    intro e d h
    unfold constD at h
    split at h
    · cases h; exact ⟨e_int, rfl⟩
    · cases h; exact ⟨e_bool, rfl⟩
    · cases h; exact ⟨e_none, rfl⟩
    · cases h; exact ⟨e_str, rfl⟩
    · cases h; exact ⟨e_neg e_int, rfl⟩
    · rename_i n' es k p hn
      have hn : n' = n := by omega
      subst hn
      split at h
      · rename_i hl
        obtain ⟨ds, e1, rfl⟩ := Option.map_eq_some_iff.mp h
        refine ⟨.mk fun F γ σ H Q R hE hR hm => e_tup (a_consts ih e1) F γ σ H Q R hE hR ?_, rfl⟩
        show onV _ (wd ds)
        unfold onV
        rw [vals_of]
        exact ⟨by rw [constsD_len e1]; exact hl, hm⟩
      · cases h
    · rename_i n' es p hn
      have hn : n' = n := by omega
      subst hn
      split at h
      · rename_i hl
        obtain ⟨ds, e1, rfl⟩ := Option.map_eq_some_iff.mp h
        refine ⟨.mk fun F γ σ H Q R hE hR hm => e_lst (a_consts ih e1) F γ σ H Q R hE hR ?_, rfl⟩
        show onV _ (wd ds)
        unfold onV
        rw [vals_of]
        exact ⟨by rw [constsD_len e1]; exact hl, hm⟩
      · cases h
    · cases h
theorem e_const (n : Nat) {e : Expr} {d : PyData} (h : constD n e = some d) : EJ T X E e (mC d) := (e_const' n e d h).1
end
/-! ### places in a text -/
def eNone : Expr := .Constant .none 0 ⟨0, 0, 0, 0⟩
def asgV : Option Stmt → Expr
  | some (.Assign _ e _) => e
  | _ => eNone
def retV : Option Stmt → Expr
  | some (.Return (some e) _) => e
  | _ => eNone
def tupAt (e : Expr) (i : Nat) : Expr := match e with
  | .Tuple es _ _ => es.getD i eNone
  | _ => eNone
end GJ

/-! H1: try with several except clauses with names; a def that calls what it got and tells a word for its error; a lambda handed to it. -/
namespace GJ
open PySem PySem.Spec PyProof.Rows L2
section
def wManyAs (K : PySem.W.Frag) (i : Nat) (Wout : WX) (D : Ends) : List (Value × (Addr → Value → Option Addr → TS)) → WX
  | [] => Wout
  | (c, ts) :: r => fun cls d σ H => ∃ b, PySem.W.exmOne K cls c = some b ∧ (b = true → ∀ a, H a = none → ts a cls d { nx := fun σ' H' => D.nx (σ'.set i none) H', rt := D.rt, bk := fun σ' H' => D.bk (σ'.set i none) H', ct := fun σ' H' => D.ct (σ'.set i none) H' } (σ.set i (some (.ref a))) H) ∧ (b = false → wManyAs K i Wout D r cls d σ H)
inductive HdsAs (X : Cx) (n : Str) : List ExceptHandler → List (Value × (Addr → Value → Option Addr → TS)) → Prop
  | nil : HdsAs X n [] []
  | cons {x : Str} {c : Value} {ts : Addr → Value → Option Addr → TS} {b₀ : Stmt} {suite : List Stmt} {np pos' : Pos} {hds : List ExceptHandler} {l : List (Value × (Addr → Value → Option Addr → TS))} (hc : Names X x c)
      (hsu : ∀ (a : Addr) (oe : Obj) (cls : Value) (d : Option Addr) (pn : List (Addr × Obj)), Zc cls d oe → (∃ vs, oe.data = .fields vs) → PSs (X.suite a ((a, oe) :: pn)) (b₀ :: suite) (ts a cls d)) (r : HdsAs X n hds l) :
      HdsAs X n (.ExceptHandler (some (.Name x np)) (some n) (b₀ :: suite) pos' :: hds) ((c, ts) :: l)
variable {X : Cx} {body : List Stmt} {h₀ : ExceptHandler} {hds : List ExceptHandler} {l : List (Value × (Addr → Value → Option Addr → TS))} {pos : Pos} {tb : WX → TS} {Wout : WX} {n : Str} {i : Nat}
/-- an error of the body at a, on the ground at sC: what is known when the clauses are asked -/
structure Caught (X : Cx) (pins : List (Addr × Obj)) (σ : St) (H : Hp) (cls : Value) (d : Option Addr) (a : Addr) (B : Heap) (sI sC : Shared) : Prop where
  inv : Inv X pins σ H sI
  old : ∀ b o, sI.heap.get? b = some o → b ∉ frs X.stack → B.get? b = some o
  up : sI.heap.UpToSlots sC.heap
  fly : HandSPX.FlyingZ B (X.env :: X.outer) a (Zc cls d) sC.heap
  new : H a = none
  same : sC.os = sI.os
  bare : AllBare sC.gens
section
variable {pins : List (Addr × Obj)} {σ : St} {H : Hp} {cls : Value} {d : Option Addr} {a : Addr} {B : Heap} {sI sC : Shared} {D : Ends}
theorem Caught.here (C : Caught X pins σ H cls d a B sI sC) : Inv X pins σ H sC := C.inv.landed C.old C.fly.1 C.up C.same C.bare
theorem Caught.at_ (C : Caught X pins σ H cls d a B sI sC) {h : Heap} (f : HandSPX.FlyingZ B (X.env :: X.outer) a (Zc cls d) h) (u : sC.heap.UpToSlots h) : Caught X pins σ H cls d a B sI { sC with heap := h } :=
  ⟨C.inv, C.old, C.up.trans u, f, C.new, C.same, C.bare⟩
/-- the suite's ground -/
theorem Caught.suite (C : Caught X pins σ H cls d a B sI sC) (hs : X.stack = X.env :: X.outer) (hf : X.env.frame = some X.env.locals) :
    ∃ ob : Obj, sC.heap.get? a = some ob ∧ Zc cls d ob ∧ (∃ vs, ob.data = .fields vs) ∧ Inv (X.suite a ((a, ob) :: (X.pn ++ pins))) [] σ H sC := by
  obtain ⟨ob, vs, g, z, e⟩ := C.fly.there
  have away : ∀ fr ∈ X.env :: X.outer, fr.frame ≠ some a := fun fr m q => by
    obtain ⟨_, o2, g2, no⟩ := C.fly.2.2.1.mem (List.mem_filterMap.mpr ⟨fr, m, q⟩)
    rw [g, Option.some.injEq] at g2
    subst g2
    exact no _ e
  refine ⟨ob, g, z, ⟨vs, e⟩, C.here.suite g e C.new (fun q => away _ List.mem_cons_self (by rw [hf, q])) fun m => ?_⟩
  obtain ⟨fr, m2, q⟩ := List.mem_filterMap.mp m
  exact away fr (List.mem_cons_of_mem _ m2) q
/-- no clause takes it -/
theorem Caught.out (C : Caught X pins σ H cls d a B sI sC) (hs : X.stack = X.env :: X.outer) (hf : X.env.frame = some X.env.locals) (tk : Takes X Wout) (w : Wout cls d σ H) :
    wpAny (model X.prog X.w) X.A (handleBy (.ref a) X.env []) (SP X pins D) X.xe sC := by
  obtain ⟨_, _, _, oe, vs, t, ot, ts, g, _, e, q, _⟩ := id C.fly
  refine wpAny_handleBy_nil ?_
  have raise_ : wpAny (model X.prog X.w) X.A (setFlight (.ref a) X.env.frame) (fun _ z => wpAny (model X.prog X.w) X.A (throw (.ref a) : Sem Flow) (SP X pins D) X.xe z) X.xe sC := by
    rw [hf]
    exact HandSPX.setFlight_upZ C.fly fun h held u => wpAny_throw (tk _ _ ⟨a, B, sI, pins, σ, H, cls, d, rfl, C.inv, C.old, C.up.trans u, .inr (.inr (hs.symm ▸ held)), C.new, C.same, C.bare, w⟩)
  have no : ¬ ((Value.ref t == Value.none) = true) := by simp
  unfold PySem.passOn
  refine wpAny_bind (wpAny_field g e q ?_)
  rw [if_neg no]
  first
    | exact wpAny_bind raise_
    | exact wpAny_bind (wpAny_pure (wpAny_bind raise_))
/-- the clauses, one after the other -/
theorem Caught.ask (C : Caught X pins σ H cls d a B sI sC) (hs : X.stack = X.env :: X.outer) (hf : X.env.frame = some X.env.locals) (hN : X.N.Nodup) (hi : X.N[i]? = some n) (hln : X.env.kindOf n = some .local) (tk : Takes X Wout) :
    ∀ {cs : List ExceptHandler} {ws : List (Value × (Addr → Value → Option Addr → TS))}, HdsAs X n cs ws → wManyAs X.K i Wout D ws cls d σ H → wpAny (model X.prog X.w) X.A (handleBy (.ref a) X.env cs) (SP X pins D) X.xe sC
  | _, _, .nil, w => C.out hs hf tk w
  | _, _, .cons (x := x) (c := c) (np := np) (pos' := p') nm su more, w => by
    obtain ⟨yes, hit, h1, h2⟩ := w
    obtain ⟨ob, g, z, _, S⟩ := C.suite hs hf
    have isOf : PySem.W.Looks (model X.prog X.w) sC.heap (typeOf (.ref a)) cls := fun _ _ _ _ same q => wpAny_typeOf_ref (same _ _ g) (z.1 ▸ q)
    have look := PySem.W.exm_one (M := model X.prog X.w) C.here.kIn isOf hit
    have named : ∀ {Q E : Value → Shared → Prop}, Q c sC → wpAny (model X.prog X.w) (X.A.mark (some (.ref a))) (eval (.Name x np) X.env) Q E sC := fun q => by
      rcases nm with ⟨gl, nd, m | ⟨m, v, nn⟩⟩
      · exact ld_glob (X := X.suite a ((a, ob) :: (X.pn ++ pins))) S gl m q nd
      · exact ld_blt (X := X.suite a ((a, ob) :: (X.pn ++ pins))) S gl m v q nn nd
    refine wpAny_handleBy_cons (codeAny_handlers_test (named (look.here ?_))) (fun q => by cases q)
    cases yes with
    | false => exact C.ask hs hf hN hi hln tk more (h2 rfl)
    | true =>
      refine codeAny_handlers_suite_as (HandSPX.lands_againZ C.fly fun h f u => ?_)
      obtain ⟨o2, g2, z2, e2, S2⟩ := (C.at_ f u).suite hs hf
      refine store_ok (X := X.suite a ((a, o2) :: (X.pn ++ pins))) (v := .ref a) S2 hN hi (.inl hln) rfl (fun s5 S5 => ?_) (.inr hln)
      refine wpAny_mono ((su a o2 cls d (X.pn ++ pins) z2 e2).run [] s5 _ H _ S5 (h1 rfl a C.new)) (fun fl s6 r => ?_) (fun _ _ no => no.elim)
      have gone : ∀ {σ6 : St} {H6 : Hp} {Q : Shared → Prop}, Inv (X.suite a ((a, o2) :: (X.pn ++ pins))) [] σ6 H6 s6 → (∀ s7, Inv X pins (σ6.set i none) H6 s7 → Q s7) → wpAny (model X.prog X.w) X.A (do bindName X.env n .none; unbindBehindTheSuite X.env n p') (fun _ s7 => Q s7) X.xe s6 :=
        fun S6 q => gone_ok (S6.unsuite C.inv.ok) hN hi hln q
      match fl, r with
      | .next, ⟨_, _, S6, q⟩ => exact gone S6 fun _ J => ⟨_, _, J, q⟩
      | .brk, ⟨_, _, S6, q⟩ => exact gone S6 fun _ J => ⟨_, _, J, q⟩
      | .cont, ⟨_, _, S6, q⟩ => exact gone S6 fun _ J => ⟨_, _, J, q⟩
      | .ret _, ⟨_, _, _, S6, rv, q⟩ => exact gone S6 fun _ J => ⟨_, _, _, J, rv, q⟩
end
/-- try: body / except C1 as n: .. / except C2 as n: .. -/
theorem ps_try_manyAs (hs : X.stack = X.env :: X.outer) (hf : X.env.frame = some X.env.locals) (hN : X.N.Nodup) (hi : X.N[i]? = some n) (hln : X.env.kindOf n = some .local) (tk : Takes X Wout)
    (hb : ∀ (W : WX) (pn : List (Addr × Obj)) (xe : Value → Shared → Prop), Takes (X.tr pn xe) W → PassesOwn (model X.prog X.w) X.A X.env xe → PSs (X.tr pn xe) body (tb W))
    (hh : HdsAs X n (h₀ :: hds) l) : PS X (.Try body (h₀ :: hds) [] [] pos) (fun D σ H => tb (wManyAs X.K i Wout D l) D σ H) := by
  constructor
  intro pins s σ H D I h
  have fr : X.A.frames = some (X.env :: X.outer) := hs ▸ I.ok.frames
  have err : ∀ (W : WX) (u : Value) (s' : Shared), (∀ cls d σ H, W cls d σ H → wManyAs X.K i Wout D l cls d σ H) → ∀ xe, XE (X.tr (X.pn ++ pins) xe) W u s' →
      wpAny (model X.prog X.w) X.A (noteFrame u X.env) (fun _ s2 => wpAny (model X.prog X.w) X.A (setFlight u none) (fun _ s3 => wpAny (model X.prog X.w) X.A (handleBy u X.env (h₀ :: hds)) (SP X pins D) X.xe s3) X.xe s2) X.xe s' := by
    intro W u s' hW xe x
    obtain ⟨a, B, sI, _, σ', H', cls, d, rfl, J, nb, up, sky, na, os, ag, w⟩ := x
    have sky2 : Sky B (X.env :: X.outer) a (Zc cls d) X.env.locals s'.heap := hs ▸ sky
    exact Sky.land Zc.steady fr hf sky2 fun h f u => Caught.ask (sC := { s' with heap := h }) ⟨J.ofTry I.ok, nb, up.trans u, f, na, os, ag⟩ hs hf hN hi hln tk hh (hW _ _ _ _ w)
  refine wpAny_Try_except (wpAny_mono ((hb _ _ _ (fun u s' x => err _ u s' (fun _ _ _ _ w => w) _ x) PassesOwn.looking).run [] s σ H D (I.toTry _) h) (fun fl s1 r => ?_) fun _ _ e => e)
  match fl, r with
  | .next, ⟨_, _, J, q⟩ => exact wpAny_execs_nil ⟨_, _, J.ofTry I.ok, q⟩
  | .brk, ⟨_, _, J, q⟩ => exact ⟨_, _, J.ofTry I.ok, q⟩
  | .cont, ⟨_, _, J, q⟩ => exact ⟨_, _, J.ofTry I.ok, q⟩
  | .ret _, ⟨_, _, _, J, rv, q⟩ => exact ⟨_, _, _, J.ofTry I.ok, rv, q⟩
end
/-! ### a word for an error -/
/-- the suite's reading: return word if isinstance(e, J) else .. -/
def tWord (K : PySem.W.Frag) (J : Addr) (word : Str) (i : Nat) : Addr → Value → Option Addr → TS := fun a cls d D σ H =>
  (∃ C : Addr, cls = .ref C ∧ d = none ∧ ExcC K C ∧ PySem.W.kitOne K (.ref C) (.ref J) = some true) ∧ (∃ σ0 : St, σ = σ0.set i (some (.ref a))) ∧ D.rt (.str word) H
section
variable {X : Cx}
theorem suite_word {J : Addr} {word other en jn : Str} {i : Nat} {p1 p2 p3 p4 p5 p6 p7 p8 : Pos} {k1 k2 : Nat} (hg : Gl X "isinstance") (hm : X.mg "isinstance" = none) (hj : Gl X jn) (hmj : X.mg jn = some (.ref J)) (hdj : (jn == ("__debug__" : Str)) = false)
    (hN : X.N[i]? = some en) (hv : Vis X.env.scope en) (hde : (en == ("__debug__" : Str)) = false) (hce : (en == ("__classdict__" : Str)) = false)
    (a : Addr) (oe : Obj) (cls : Value) (d : Option Addr) (pn : List (Addr × Obj)) (hz : Zc cls d oe) (hf : ∃ vs, oe.data = .fields vs) :
    PSs (X.suite a ((a, oe) :: pn)) [.Return (some (.IfExp (.Call (.Name "isinstance" p1) [.Name en p2, .Name jn p3] [] p4) (.Constant (.str word) k1 p5) (.Constant (.str other) k2 p6) p7)) p8] (tWord X.K J word i a cls d) := by
  refine ⟨fun pins s σ H D I h => ?_⟩
  obtain ⟨⟨C, rfl, rfl, ec, kt⟩, ⟨σ0, rfl⟩, hr⟩ := h
  have hs : (σ0.set i (some (.ref a)))[i]? = some (some (V.ref a)) := by
    have h1 := I.len
    rw [List.length_set] at h1
    have h2 : i < X.N.length := (List.getElem?_eq_some_iff.mp hN).1
    have h3 : (X.suite a ((a, oe) :: pn)).N = X.N := rfl
    rw [h3] at h1
    rw [List.getElem?_set_self (by omega)]
  have hg' : Gl (X.suite a ((a, oe) :: pn)) "isinstance" := hg
  have hj' : Gl (X.suite a ((a, oe) :: pn)) jn := hj
  have P := pss_one (X := X.suite a ((a, oe) :: pn)) (ps_ret (pos := p8) (pe_ifExp (pos := p7) (pt_val (pe_callB (p := p1) (pos := p4) (call_isE (X := X) (pn := pn) ec hz hf) hg' hm (by decide +kernel) (pa_cons (pe_var (pos := p2) (i := i) hN hv hde hce) (pa_cons (pe_glob (pos := p3) (v := .ref J) hj' hmj rfl hdj) pa_nil)))) (pe_str (x := word) (j := k1) (pos := p5)) (pe_str (x := other) (j := k2) (pos := p6))))
  refine P.run pins s _ H D I ?_
  exact ⟨.ref a, hs, .ref J, .ref J, true, rfl, fun u r => by cases r; rfl, kt, true, rfl, iteT hr⟩
/-- which word an error of the class at C gets -/
def Wd (K : PySem.W.Frag) (J : Addr) : List (Addr × Str) → Addr → Str → Prop
  | [], _, _ => False
  | (D, s) :: r, C, t => ∃ b, PySem.W.exmOne K (.ref C) (.ref D) = some b ∧ (b = true → s = t ∧ ExcC K C ∧ PySem.W.kitOne K (.ref C) (.ref J) = some true) ∧ (b = false → Wd K J r C t)
def wdTs (K : PySem.W.Frag) (J : Addr) (i : Nat) (l : List (Addr × Str)) : List (Value × (Addr → Value → Option Addr → TS)) := l.map fun p => (.ref p.1, tWord K J p.2 i)
theorem wd_many {K : PySem.W.Frag} {J C : Addr} {i : Nat} {t : Str} {D : Ends} {σ : St} {H : Hp} (hr : D.rt (.str t) H) : ∀ {l : List (Addr × Str)}, Wd K J l C t → wManyAs K i (fun _ _ _ _ => False) D (wdTs K J i l) (.ref C) none σ H
  | [], h => h.elim
  | (E, s) :: r, ⟨b, h1, h2, h3⟩ => ⟨b, h1, fun hb a _ => by
      obtain ⟨e1, e2, e3⟩ := h2 hb
      subst e1
      exact ⟨⟨C, rfl, rfl, e2, e3⟩, ⟨σ, rfl⟩, hr⟩, fun hb => wd_many hr (h3 hb)⟩
/-- what a def does that calls what it got and tells a word for its error -/
def TWd (K : PySem.W.Frag) (J : Addr) (l : List (Addr × Str)) (no : Str) : (XK → Hp → VK → Prop) → Hp → VK → Prop := fun tl H Q =>
  tl (fun cls d H' => ∃ C t, cls = .ref C ∧ d = none ∧ Wd K J l C t ∧ Q (.str t) H') H (fun _ H' => Q (.str no) H')
theorem word_gives {Ng : List Str} {x a q en no : Str} {sg : Scope} {g J : Addr} {cdg : Value} {i j : Nat} {l : List (Addr × Str)} {h₀ : ExceptHandler} {hds : List ExceptHandler} {p1 p2 p3 p4 p5 p6 : Pos} (hN : Ng.Nodup) (hi : Ng[i]? = some en) (hln : sg.names.lookup en = some .local) (h0 : ∀ f : Addr, (L2.start Ng [V.ref f])[0]? = some (some (V.ref f)))
    (hh : ∀ (s : Shared) (H : Hp), HdsAs (cxOf C8.CX0 X.prog X.w X.K X.mg X.base Ng x sg g cdg X.A X.stack s H C8.E0).nox en (h₀ :: hds) (wdTs X.K J i l))
    (hsw : ∀ env : Env, swapsWith (.Call (.Name a p1) [] [] p2) none p3.line env = pure false) :
    LamX.GivesTo X Ng x sg g cdg [.Try [.Expr (.Call (.Name a p1) [] [] p2) p3] (h₀ :: hds) [] [] p4, .Return (some (.Constant (.str no) j p5)) p6] a q (TWd X.K J l no) := by
  intro f c' s H Q tl act hc h
  refine ⟨_, pss_cons (ps_try_manyAs (X := (cxOf C8.CX0 X.prog X.w X.K X.mg X.base Ng x sg g cdg X.A X.stack s H C8.E0).nox) (n := en) (i := i) (l := wdTs X.K J i l)
      (tb := fun W D σ H => ∃ Ech : XK, (∀ cls d σ' H', Ech cls d H' → W cls d σ' H') ∧ σ[0]? = some (some (.ref f)) ∧ H c' = some (LamX.CodeO c' q) ∧ tl Ech H (fun _ H' => D.nx σ H'))
      rfl rfl hN hi hln takes0 (fun W pn xe tk _ => ?_) (hh s H)) (pss_one (ps_ret (pe_str (x := no) (j := j) (pos := p5)))), ?_⟩
  · refine ⟨fun pins s' σ H' D I h' => ?_⟩
    obtain ⟨Ech, hW, h1, h2, h3⟩ := h'
    have hp := act W pn xe Ech p1 p2 tk hW
    have hq := pss_one (ps_expr (pos := p3) hp (hsw _))
    exact hq.run pins s' σ H' D I ⟨h1, h2, h3⟩
  · refine ⟨fun cls d H' => ∃ C t, cls = .ref C ∧ d = none ∧ Wd X.K J l C t ∧ Q (.str t) H', fun cls d σ' H' ⟨C, t, e1, e2, e3, e4⟩ => ?_, h0 f, hc, h⟩
    subst e1 e2
    exact wd_many e4 e3
end
end GJ

/-! H2: f(lambda: e), f as in H1; a def that makes lambdas; what the law promises. -/
namespace GJ
open PySem PySem.Spec PyProof.Rows L2
/-- the name of a lambda in a def -/
abbrev lamQ (q : Str) : Str := (q ++ ".<locals>.") ++ "<lambda>"
section
variable {T : TabL} {X : Cx} {E : XK}
@[simp] def mWord (Wd : Addr → Str → Prop) (no : Str) (m : M) : M := fun γ Q R => m γ (fun _ => Q (.val (.str no))) (fun C => ∃ t, Wd C t ∧ Q (.val (.str t)))
/-- the reading of a lambda's body, at any heap to come -/
def tJ (T : TabL) (m : M) (E : XK) : TE := fun σ H Q => ∃ (F : FB) (γ : DEnv) (Qd : W → Prop) (R : Addr → Prop), EnvOk T F γ σ H ∧ RzOk T E H R ∧ m γ Qd R ∧ ∀ v H', PQ T F H Qd v H' → Q v H'
theorem tJ_pe {e : Expr} {m : M} (h : EJ T X E e m) : PE X e (tJ T m E) := ⟨fun pins s σ H Q I ⟨F, γ, Qd, R, hE, hR, hm, k⟩ => ((h F γ σ H Qd R hE hR hm).mono k) pins s I⟩
theorem lam_ctx {A : Around} {outer : List Env} {s : Shared} {H : Hp} {scope : Scope} {f c' : Addr} {k : Nat} (nd : X.N.Nodup) (hr : Room k (A.deeper (LamX.lamEnv X scope s.heap.objs.size f c'))) : CtxE (LamX.lamCx X A outer s H E scope f c') E k :=
  ⟨rfl, nd, hr, takes_of rfl rfl rfl rfl⟩
theorem e_word {x a no : Str} {st : Stmt} {g J c P : Addr} {fd : FuncData} {Ng : List Str} {k : Nat} {wl : List (Addr × Str)} {params : Arguments} {body : Expr} {scope : Scope} {m : M} {p lpos pos : Pos} (hg : Gl X x) (hm : X.mg x = some (.ref g)) (Fn : Fun X.K x x st g fd) (hb : Binds X.K fd [a] []) (Sg : FnScope Ng [a] (defScope st)) (hNg : Ng[0]? = some a) (hva : Vis (defScope st) a)
    (hG : ∀ cdg, LamX.GivesTo X Ng x (defScope st) g cdg (defBody st) a (X.env.qual ++ "<lambda>") (TWd X.K J wl no))
    (TB : LamX.TabB X.base X.mg c P) (hcode : X.env.code = .ref c) (hmT : (P, X.env.qual ++ "<lambda>") ∈ T) (hu : ∀ p ∈ T, p.1 = P → p.2 = X.env.qual ++ "<lambda>") (hr : Room (k + 2) X.A) (L : LamX.LamS X.env.scope scope) (hdef : defaultsOf params X.env = ([], []))
    (hbind : ∀ (q : Str) (cl : List (Str × Addr)) (pm cv ctv : Value), bindArgs (PySem.W.kla_fn "<lambda>" q params body scope cl pm cv ctv) ⟨[], []⟩ = pure [])
    (hbody : ∀ (A : Around) (outer : List Env) (s : Shared) (H : Hp) (E : XK) (f c' : Addr), Room k (A.deeper (LamX.lamEnv X scope s.heap.objs.size f c')) → EJ T (LamX.lamCx X A outer s H E scope f c') E body m)
    (hdb : (x == ("__debug__" : Str)) = false := by decide) (hd : (a == ("__debug__" : Str)) = false := by decide) (hcd : (a == ("__classdict__" : Str)) = false := by decide) :
    EJ T X E (.Call (.Name x p) [.Lambda params body scope lpos] [] pos) (mWord (Wd X.K J wl) no m) := by
  obtain ⟨oc, od, kV, doc, pm, an, cdv, ct, osl, rfl, lk, hcg⟩ := Fn.ex
  constructor
  intro F γ σ H Q R hE hR hm'
  refine Ev.of (LamX.pe_lamcall (t := tJ T m) (k := k) hg hm Fn.kp lk hcg hb Sg hNg hva (hG cdv) TB hcode hmT hu hr L hdef hbind (fun A outer s H E f c' hr2 => tJ_pe (hbody A outer s H E f c' hr2)) hdb hd hcd) ⟨hE.tabs, fun H1 ext tabs1 => ?_⟩
  have g1 : Gr T H H1 := ⟨ext, fun _ => tabs1⟩
  refine ⟨F, γ, fun _ => Q (.val (.str no)), fun C => ∃ t, Wd X.K J wl C t ∧ Q (.val (.str t)), hE.gr g1, fun C H' ⟨t, wd, q⟩ g2 => ⟨C, t, rfl, rfl, wd, g1.trans g2, .val (.str t), .str t, q⟩, hm', fun v H' ⟨g2, w, r, q⟩ => ⟨g1.trans g2, .val (.str no), .str no, q⟩⟩
end
/-! ### a def that makes lambdas: its code object is known -/
section
variable {P : Program} {w : World} {K : PySem.W.Frag} {mg : Str → Option Value} {base : Heap} {T : TabL}
theorem fn_defC {x qual : Str} {st : Stmt} {f : Addr} {fd : FuncData} {N ps : List Str} {k : Nat} {S : SpD} {m : MS} (Fn : Fun K x qual st f fd) (Sc : FnScope N ps (defScope st))
    (body : ∀ (A : Around) (outer : List Env) (s : Shared) (H : Hp) (E : XK), CtxE (DX P w K mg base N qual (defScope st) f fd.code A outer s H E) E k → SsJ T (DX P w K mg base N qual (defScope st) f fd.code A outer s H E) E (defBody st) m)
    (law : ∀ (ws : List W) (Q : W → Prop) (R : Addr → Prop), ws.length = ps.length → S ws Q R → m { nx := fun _ => Q (.val .none), rt := Q, ex := R } (ini N ws)) :
    FnOk P w K mg base (L2.CX P w) (k + 1) f fd ps (dsp T ps.length S) := by
  obtain ⟨oc, od, kV, doc, pm, an, cdv, ct, osl, rfl, lk, hcd⟩ := Fn.ex
  refine fn_of lk hcd Sc (fun vs H Q E h => h.1) (fun A outer s H vs Q E hr h => ?_)
  obtain ⟨hl, F, ws, Qd, R, fok, tb, r, nm, hS, hQ, hR⟩ := h
  have c := dx_ctx (P := P) (w := w) (K := K) (mg := mg) (base := base) (E := E) (H := H) (outer := outer) (cdv := cdv) Sc hr
  have b := body A outer s H E c
  have eo : EnvOk T F (ini N ws) (L2.start N vs) H := ini_ok r fok tb
  have eS : EnvS T F H (ini N ws) (L2.start N vs) H := ⟨⟨F, eo, fun _ z => z, fun _ z => .inl z⟩, Gr.refl _ _, fok, fun i w v e hm _ => by
    exfalso
    unfold ini at e
    rcases Nat.lt_or_ge i ws.length with z | z
    · rw [List.getElem?_append_left (by simpa using z), List.getElem?_map] at e
      cases q : ws[i]? with
      | none => rw [q] at e; cases e
      | some u =>
        rw [q] at e
        cases e
        rw [nm _ (List.mem_of_getElem? q)] at hm
        cases hm
    · rw [List.getElem?_append_right (by simpa using z)] at e
      have := List.getElem?_replicate ▸ e
      split at this <;> cases this⟩
  have q := b F H (ini N ws) (L2.start N vs) H { nx := fun _ => Qd (.val .none), rt := Qd, ex := R } eS hR (law ws Qd R (by rw [← r.length]; exact hl) hS)
  refine ⟨_, Es.pss _ _, ?_⟩
  intro pins st I
  refine thn (q pins st I) fun fl s1 z => ?_
  cases fl with
  | next =>
    obtain ⟨σ', H', I', γ', hS', hq⟩ := z
    exact ⟨σ', H', I', hQ .non H' (.val .none) hS'.gr .non rfl hq⟩
  | ret v =>
    obtain ⟨u, σ', H', I', ru, g, w', rw', nm', hq⟩ := z
    exact ⟨u, σ', H', I', ru, hQ u H' w' g rw' nm' hq⟩
  | brk =>
    obtain ⟨σ', H', I', γ', hS', hq⟩ := z
    exact hq.elim
  | cont =>
    obtain ⟨σ', H', I', γ', hS', hq⟩ := z
    exact hq.elim
end
end GJ

namespace GJ
open PySem PySem.Spec PyProof.Rows L2
def wr_METHODS : List Str := ["hash", "index", "loop"]
def N_is_number : List Str := ["value", "least", "most"]
def m_is_number : MS := sRet (mAnd (mIsi "int" (mVar 0)) (mAnd (mNot (mIsi "bool" (mVar 0))) (mChain (cmpI fun i j => decide (i ≤ j)) (cmpI fun i j => decide (i ≤ j)) (mVar 1) (mVar 0) (mVar 2))))

def N_is_tuple : List Str := ["value", "least", "most"]
def m_is_tuple : MS := sRet (mAnd (mIsi "tuple" (mVar 0)) (mChain (cmpI fun i j => decide (i ≤ j)) (cmpI fun i j => decide (i ≤ j)) (mVar 1) (mCall lenW (maCons (mVar 0) (maNil))) (mVar 2)))

def N_divisor : List Str := ["one", "other"]
def m_divisor : MS := sSeq (sWhile (mTest (mBin neW (mVar 1) (mInt 0))) (sPar 0 1 (maCons (mVar 1) (maCons (mBin modW (mVar 0) (mVar 1)) (maNil))))) (sRet (mCall absW (maCons (mVar 0) (maNil))))

def N_reduced : List Str := ["top", "below", "common"]
def m_reduced (S_divisor : SpD) : MS := sSeq (sSet 2 (mFn 2 S_divisor (maCons (mVar 0) (maCons (mVar 1) (maNil))))) (sRet (mTup (maCons (mBin fdivW (mVar 0) (mVar 2)) (maCons (mBin fdivW (mVar 1) (mVar 2)) (maNil)))))

def N_need_n : List Str := ["value", "most"]
def m_need_n (S_is_number : SpD) (C_InvalidNumber : Addr) : MS := sIf (mNotT (mTest (mFn 3 S_is_number (maCons (mVar 0) (maCons (mInt 1) (maCons (mVar 1) (maNil))))))) (sRaise C_InvalidNumber) (sNext)

def N_form_of : List Str := ["parts", "found", "power", "top", "below", "old"]
def m_form_of (S_reduced : SpD) : MS := sSeq (sNewK 1) (sSeq (sFor (miL (mVar 0)) (gT [2, 3, 4]) (sSeq (sSet 5 (mGet2 (mVar 1) (mVar 2) (mC (PyData.tuple ((PyData.int 0) :: (PyData.int 1) :: List.nil))))) (sPut 1 (mVar 2) (mFn 2 S_reduced (maCons (mBin addW (mBin mulW (mBin ixD (mVar 5) (mInt 0)) (mVar 4)) (mBin mulW (mVar 3) (mBin ixD (mVar 5) (mInt 1)))) (maCons (mBin mulW (mBin ixD (mVar 5) (mInt 1)) (mVar 4)) (maNil))))))) (sRet (mCall tupleW (maCons (mLc (miL (mCall sortDkW (maCons (mVar 1) (maNil)))) (gN 2) (mTest (mBin neW (mBin ixD (mBin dgW (mVar 1) (mVar 2)) (mInt 0)) (mInt 0))) (mBin addW (mTup (maCons (mVar 2) (maNil))) (mBin dgW (mVar 1) (mVar 2))) [2]) (maNil)))))

def N_added : List Str := ["forms", "parts", "form"]
def m_added (S_form_of : SpD) : MS := sSeq (sSet 1 (mC (PyData.list (List.nil)))) (sSeq (sFor (miL (mVar 0)) (gN 2) (sSet 1 (mBin addW (mVar 1) (mCall listW (maCons (mVar 2) (maNil)))))) (sRet (mFn 1 S_form_of (maCons (mVar 1) (maNil)))))

def N_scaled : List Str := ["form", "many", "power", "top", "below"]
def m_scaled (S_form_of : SpD) : MS := sRet (mFn 1 S_form_of (maCons (mLc (miT (mVar 0)) (gT [2, 3, 4]) (mYes) (mTup (maCons (mVar 2) (maCons (mBin mulW (mVar 3) (mVar 1)) (maCons (mVar 4) (maNil))))) [2, 3, 4]) (maNil)))

def N_product : List Str := ["one", "other", "parts", "power", "top", "below", "more", "up", "down"]
def m_product (S_form_of : SpD) : MS := sSeq (sSet 2 (mC (PyData.list (List.nil)))) (sSeq (sFor (miT (mVar 0)) (gT [3, 4, 5]) (sSet 2 (mBin addW (mVar 2) (mLc (miT (mVar 1)) (gT [6, 7, 8]) (mYes) (mTup (maCons (mBin addW (mVar 3) (mVar 6)) (maCons (mBin mulW (mVar 4) (mVar 7)) (maCons (mBin mulW (mVar 5) (mVar 8)) (maNil))))) [6, 7, 8])))) (sRet (mFn 1 S_form_of (maCons (mVar 2) (maNil)))))

def N_power_of : List Str := ["n", "many", "found", "turn"]
def m_power_of : MS := sSeq (sSet 2 (mInt 1)) (sSeq (sFor (miR1 (maCons (mVar 1) (maNil))) (gN 3) (sSet 2 (mBin mulW (mVar 2) (mVar 0)))) (sRet (mVar 2)))

def N_worth_of : List Str := ["form", "n", "low", "top", "below", "power", "up", "down"]
def m_worth_of (S_reduced S_power_of : SpD) : MS := sSeq (sIf (mTest (mBin eqW (mVar 0) (mC (PyData.tuple (List.nil))))) (sRet (mC (PyData.tuple ((PyData.int 0) :: (PyData.int 1) :: List.nil)))) (sNext)) (sSeq (sSet 2 (mBin ixD (mBin ixD (mVar 0) (mInt 0)) (mInt 0))) (sSeq (sAsg (mC (PyData.tuple ((PyData.int 0) :: (PyData.int 1) :: List.nil))) (gT [3, 4])) (sSeq (sFor (miT (mVar 0)) (gT [5, 6, 7]) (sAsg (mFn 2 S_reduced (maCons (mBin addW (mBin mulW (mVar 3) (mVar 7)) (mBin mulW (mBin mulW (mVar 6) (mFn 2 S_power_of (maCons (mVar 1) (maCons (mBin subW (mVar 5) (mVar 2)) (maNil))))) (mVar 4))) (maCons (mBin mulW (mVar 4) (mVar 7)) (maNil)))) (gT [3, 4]))) (sRet (mFn 2 S_reduced (maCons (mBin mulW (mVar 3) (mFn 2 S_power_of (maCons (mVar 1) (maCons (mVar 2) (maNil))))) (maCons (mBin mulW (mVar 4) (mFn 2 S_power_of (maCons (mVar 1) (maCons (mNeg (mVar 2)) (maNil))))) (maNil))))))))

def N_is_table : List Str := ["value"]
def m_is_table (S_is_tuple S_is_number : SpD) : MS := sRet (mAnd (mFn 3 S_is_tuple (maCons (mVar 0) (maCons (mInt 2) (maCons (mInt 2) (maNil))))) (mAnd (mFn 3 S_is_number (maCons (mBin ixD (mVar 0) (mInt 0)) (maCons (mInt 1) (maCons (mInt 99) (maNil))))) (mFn 3 S_is_number (maCons (mBin ixD (mVar 0) (mInt 1)) (maCons (mInt 0) (maCons (mInt 2) (maNil)))))))

def N_is_link : List Str := ["tables", "value"]
def m_is_link (S_is_tuple S_is_number : SpD) : MS := sSeq (sIf (mOrT (mNotT (mTest (mFn 3 S_is_tuple (maCons (mVar 1) (maCons (mInt 4) (maCons (mInt 4) (maNil))))))) (mOrT (mNotT (mTest (mFn 3 S_is_number (maCons (mBin ixD (mVar 1) (mInt 0)) (maCons (mInt 0) (maCons (mBin subW (mVar 0) (mInt 1)) (maNil))))))) (mNotT (mTest (mFn 3 S_is_number (maCons (mBin ixD (mVar 1) (mInt 1)) (maCons (mInt 0) (maCons (mBin subW (mVar 0) (mInt 1)) (maNil))))))))) (sRet (mBool false)) (sNext)) (sRet (mAnd (mBin ltW (mBin ixD (mVar 1) (mInt 0)) (mBin ixD (mVar 1) (mInt 1))) (mAnd (mFn 3 S_is_number (maCons (mBin ixD (mVar 1) (mInt 2)) (maCons (mInt 1) (maCons (mInt 99) (maNil))))) (mFn 3 S_is_number (maCons (mBin ixD (mVar 1) (mInt 3)) (maCons (mInt 0) (maCons (mInt 2) (maNil))))))))

def N_are_numbers : List Str := ["tables", "value", "least", "left", "right", "item"]
def m_are_numbers (S_is_tuple S_is_number : SpD) : MS := sSeq (sIf (mOrT (mNotT (mTest (mFn 3 S_is_tuple (maCons (mVar 1) (maCons (mVar 2) (maCons (mVar 0) (maNil))))))) (mNotT (mTest (mCall allW (maCons (mLc (miT (mVar 1)) (gN 5) (mYes) (mFn 3 S_is_number (maCons (mVar 5) (maCons (mInt 0) (maCons (mBin subW (mVar 0) (mInt 1)) (maNil))))) [5]) (maNil)))))) (sRet (mBool false)) (sNext)) (sRet (mCall allW (maCons (mLc (miZip (maCons (mVar 1) (maCons (mSl (mVar 1) (moSome (mInt 1)) (moNone)) (maNil)))) (gT [3, 4]) (mYes) (mBin ltW (mVar 3) (mVar 4)) [3, 4]) (maNil))))

def N_is_good_question : List Str := ["value", "many", "left", "right", "item", "link"]
def m_is_good_question (S_is_tuple S_is_table S_is_link S_are_numbers : SpD) : MS := sSeq (sIf (mOrT (mNotT (mTest (mFn 3 S_is_tuple (maCons (mVar 0) (maCons (mInt 3) (maCons (mInt 3) (maNil))))))) (mOrT (mNotT (mTest (mFn 3 S_is_tuple (maCons (mBin ixD (mVar 0) (mInt 0)) (maCons (mInt 2) (maCons (mInt 4) (maNil))))))) (mNotT (mTest (mCall allW (maCons (mLc (miT (mBin ixD (mVar 0) (mInt 0))) (gN 4) (mYes) (mFn 1 S_is_table (maCons (mVar 4) (maNil))) [4]) (maNil))))))) (sRet (mBool false)) (sNext)) (sSeq (sSet 1 (mCall lenW (maCons (mBin ixD (mVar 0) (mInt 0)) (maNil)))) (sSeq (sIf (mOrT (mNotT (mTest (mFn 3 S_is_tuple (maCons (mBin ixD (mVar 0) (mInt 1)) (maCons (mInt 0) (maCons (mInt 6) (maNil))))))) (mNotT (mTest (mCall allW (maCons (mLc (miT (mBin ixD (mVar 0) (mInt 1))) (gN 5) (mYes) (mFn 2 S_is_link (maCons (mVar 1) (maCons (mVar 5) (maNil)))) [5]) (maNil)))))) (sRet (mBool false)) (sNext)) (sSeq (sIf (mNotT (mTest (mCall allW (maCons (mLc (miZip (maCons (mBin ixD (mVar 0) (mInt 1)) (maCons (mSl (mBin ixD (mVar 0) (mInt 1)) (moSome (mInt 1)) (moNone)) (maNil)))) (gT [2, 3]) (mYes) (mBin ltW (mSl (mVar 2) (moNone) (moSome (mInt 2))) (mSl (mVar 3) (moNone) (moSome (mInt 2)))) [2, 3]) (maNil))))) (sRet (mBool false)) (sNext)) (sRet (mFn 3 S_are_numbers (maCons (mVar 1) (maCons (mBin ixD (mVar 0) (mInt 2)) (maCons (mInt 0) (maNil)))))))))

def N_are_linked : List Str := ["question", "left", "right", "one", "other", "b", "p"]
def m_are_linked : MS := sRet (mCall anyW (maCons (mLc (miT (mBin ixD (mVar 0) (mInt 1))) (gT [3, 4, 5, 6]) (mYes) (mOr (mAnd (mBin inW (mVar 3) (mVar 1)) (mBin inW (mVar 4) (mVar 2))) (mAnd (mBin inW (mVar 3) (mVar 2)) (mBin inW (mVar 4) (mVar 1)))) [3, 4, 5, 6]) (maNil)))

def N_can_stand : List Str := ["question", "left", "right", "method", "mine", "yours"]
def m_can_stand (S_tables_in S_are_linked : SpD) : MS := sSeq (sPar 4 5 (maCons (mFn 1 S_tables_in (maCons (mVar 1) (maNil))) (maCons (mFn 1 S_tables_in (maCons (mVar 2) (maNil))) (maNil)))) (sSeq (sIf (mTest (mBin eqW (mVar 3) (mStr "loop"))) (sRet (mBool true)) (sNext)) (sSeq (sIf (mAndT (mTest (mBin eqW (mVar 3) (mStr "index"))) (mOrT (mNotT (mTest (mIsi "int" (mVar 2)))) (mTest (mBin notInW (mVar 2) (mBin ixD (mVar 0) (mInt 2)))))) (sRet (mBool false)) (sNext)) (sRet (mFn 3 S_are_linked (maCons (mVar 0) (maCons (mVar 4) (maCons (mVar 5) (maNil))))))))

def N_tables_in : List Str := ["plan"]
def m_tables_in (S_tables_in : SpD) : MS := sSeq (sIf (mTest (mIsi "int" (mVar 0))) (sRet (mTup (maCons (mVar 0) (maNil)))) (sNext)) (sRet (mCall tupleW (maCons (mCall sortedW (maCons (mBin addW (mFn 1 S_tables_in (maCons (mBin ixD (mVar 0) (mInt 0)) (maNil))) (mFn 1 S_tables_in (maCons (mBin ixD (mVar 0) (mInt 1)) (maNil)))) (maNil))) (maNil))))

def N_is_shape : List Str := ["question", "value", "deep"]
def m_is_shape (S_is_number S_is_tuple S_is_shape : SpD) : MS := sSeq (sIf (mTest (mFn 3 S_is_number (maCons (mVar 1) (maCons (mInt 0) (maCons (mBin subW (mCall lenW (maCons (mBin ixD (mVar 0) (mInt 0)) (maNil))) (mInt 1)) (maNil)))))) (sRet (mBool true)) (sNext)) (sSeq (sIf (mOrT (mTest (mBin eqW (mVar 2) (mInt 0))) (mOrT (mNotT (mTest (mFn 3 S_is_tuple (maCons (mVar 1) (maCons (mInt 3) (maCons (mInt 3) (maNil))))))) (mOrT (mNotT (mTest (mIsi "str" (mBin ixD (mVar 1) (mInt 2))))) (mTest (mNotInG wr_METHODS (mBin ixD (mVar 1) (mInt 2))))))) (sRet (mBool false)) (sNext)) (sRet (mAnd (mFn 3 S_is_shape (maCons (mVar 0) (maCons (mBin ixD (mVar 1) (mInt 0)) (maCons (mBin subW (mVar 2) (mInt 1)) (maNil))))) (mFn 3 S_is_shape (maCons (mVar 0) (maCons (mBin ixD (mVar 1) (mInt 1)) (maCons (mBin subW (mVar 2) (mInt 1)) (maNil))))))))

def N_can_be_led : List Str := ["question", "plan"]
def m_can_be_led (S_can_be_led S_can_stand : SpD) : MS := sSeq (sIf (mTest (mIsi "int" (mVar 1))) (sRet (mBool true)) (sNext)) (sSeq (sIf (mOrT (mNotT (mTest (mFn 2 S_can_be_led (maCons (mVar 0) (maCons (mBin ixD (mVar 1) (mInt 0)) (maNil)))))) (mNotT (mTest (mFn 2 S_can_be_led (maCons (mVar 0) (maCons (mBin ixD (mVar 1) (mInt 1)) (maNil))))))) (sRet (mBool false)) (sNext)) (sRet (mFn 4 S_can_stand (maCons (mVar 0) (maCons (mBin ixD (mVar 1) (mInt 0)) (maCons (mBin ixD (mVar 1) (mInt 1)) (maCons (mBin ixD (mVar 1) (mInt 2)) (maNil))))))))

def N_is_part_plan : List Str := ["question", "value", "tables"]
def m_is_part_plan (S_is_shape S_tables_in S_can_be_led : SpD) : MS := sSeq (sIf (mNotT (mTest (mFn 3 S_is_shape (maCons (mVar 0) (maCons (mVar 1) (maCons (mInt 3) (maNil))))))) (sRet (mBool false)) (sNext)) (sSeq (sSet 2 (mFn 1 S_tables_in (maCons (mVar 1) (maNil)))) (sRet (mAnd (mBin eqW (mLenSet (mSet (mVar 2))) (mCall lenW (maCons (mVar 2) (maNil)))) (mFn 2 S_can_be_led (maCons (mVar 0) (maCons (mVar 1) (maNil)))))))

def N_is_good_plan : List Str := ["question", "value"]
def m_is_good_plan (S_is_part_plan S_tables_in : SpD) : MS := sRet (mAnd (mFn 2 S_is_part_plan (maCons (mVar 0) (maCons (mVar 1) (maNil)))) (mBin eqW (mCall lenW (maCons (mFn 1 S_tables_in (maCons (mVar 1) (maNil))) (maNil))) (mCall lenW (maCons (mBin ixD (mVar 0) (mInt 0)) (maNil)))))

def N_need_question : List Str := ["value"]
def m_need_question (S_is_good_question : SpD) (C_InvalidQuestion : Addr) : MS := sIf (mNotT (mTest (mFn 1 S_is_good_question (maCons (mVar 0) (maNil))))) (sRaise C_InvalidQuestion) (sNext)

def N_need_plan : List Str := ["question", "value"]
def m_need_plan (S_is_good_plan : SpD) (C_InvalidPlan : Addr) : MS := sIf (mNotT (mTest (mFn 2 S_is_good_plan (maCons (mVar 0) (maCons (mVar 1) (maNil)))))) (sRaise C_InvalidPlan) (sNext)

def N_need_both : List Str := ["question", "plan"]
def m_need_both (S_need_question S_need_plan : SpD) : MS := sSeq (sDrop (mFn 1 S_need_question (maCons (mVar 0) (maNil)))) (sDrop (mFn 2 S_need_plan (maCons (mVar 0) (maCons (mVar 1) (maNil)))))

def N_size_of : List Str := ["question", "tables", "power", "top", "below", "number", "one", "other", "many", "less"]
def m_size_of (S_reduced : SpD) : MS := sSeq (sAsg (mC (PyData.tuple ((PyData.int 0) :: (PyData.int 1) :: (PyData.int 1) :: List.nil))) (gT [2, 3, 4])) (sSeq (sFor (miT (mVar 1)) (gN 5) (sPar 3 2 (maCons (mBin mulW (mVar 3) (mBin ixD (mBin ixD (mBin ixD (mVar 0) (mInt 0)) (mVar 5)) (mInt 0))) (maCons (mBin addW (mVar 2) (mBin ixD (mBin ixD (mBin ixD (mVar 0) (mInt 0)) (mVar 5)) (mInt 1))) (maNil))))) (sSeq (sFor (miT (mBin ixD (mVar 0) (mInt 1))) (gT [6, 7, 8, 9]) (sIf (mAndT (mTest (mBin inW (mVar 6) (mVar 1))) (mTest (mBin inW (mVar 7) (mVar 1)))) (sPar 4 2 (maCons (mBin mulW (mVar 4) (mVar 8)) (maCons (mBin subW (mVar 2) (mVar 9)) (maNil)))) (sNext))) (sRet (mTup (maCons (mBin addW (mTup (maCons (mVar 2) (maNil))) (mFn 2 S_reduced (maCons (mVar 3) (maCons (mVar 4) (maNil))))) (maNil))))))

def N_join_form : List Str := ["question", "left", "right", "method", "first", "second", "whole"]
def m_join_form (S_size_of S_added S_product S_scaled : SpD) : MS := sSeq (sPar 4 5 (maCons (mFn 2 S_size_of (maCons (mVar 0) (maCons (mVar 1) (maNil)))) (maCons (mFn 2 S_size_of (maCons (mVar 0) (maCons (mVar 2) (maNil)))) (maNil)))) (sSeq (sSet 6 (mFn 2 S_size_of (maCons (mVar 0) (maCons (mCall tupleW (maCons (mCall sortedW (maCons (mBin addW (mVar 1) (mVar 2)) (maNil))) (maNil))) (maNil))))) (sSeq (sIf (mTest (mBin eqW (mVar 3) (mStr "loop"))) (sRet (mFn 1 S_added (maCons (mLst (maCons (mVar 6) (maCons (mFn 2 S_product (maCons (mVar 4) (maCons (mVar 5) (maNil)))) (maNil)))) (maNil)))) (sNext)) (sSeq (sIf (mTest (mBin eqW (mVar 3) (mStr "hash"))) (sRet (mFn 1 S_added (maCons (mLst (maCons (mVar 6) (maCons (mVar 4) (maCons (mVar 5) (maNil))))) (maNil)))) (sNext)) (sRet (mFn 1 S_added (maCons (mLst (maCons (mVar 6) (maCons (mFn 2 S_scaled (maCons (mVar 4) (maCons (mInt 3) (maNil)))) (maNil)))) (maNil)))))))

def N_cost_of : List Str := ["question", "plan", "parts"]
def m_cost_of (S_size_of S_cost_of S_join_form S_tables_in S_added : SpD) : MS := sSeq (sIf (mTest (mIsi "int" (mVar 1))) (sRet (mFn 2 S_size_of (maCons (mVar 0) (maCons (mTup (maCons (mVar 1) (maNil))) (maNil))))) (sNext)) (sSeq (sSet 2 (mLst (maCons (mFn 2 S_cost_of (maCons (mVar 0) (maCons (mBin ixD (mVar 1) (mInt 0)) (maNil)))) (maCons (mFn 4 S_join_form (maCons (mVar 0) (maCons (mFn 1 S_tables_in (maCons (mBin ixD (mVar 1) (mInt 0)) (maNil))) (maCons (mFn 1 S_tables_in (maCons (mBin ixD (mVar 1) (mInt 1)) (maNil))) (maCons (mBin ixD (mVar 1) (mInt 2)) (maNil)))))) (maNil))))) (sRet (mFn 1 S_added (maCons (mBin addW (mVar 2) (mIf (mTest (mBin neW (mBin ixD (mVar 1) (mInt 2)) (mStr "index"))) (mLst (maCons (mFn 2 S_cost_of (maCons (mVar 0) (maCons (mBin ixD (mVar 1) (mInt 1)) (maNil)))) (maNil))) (mC (PyData.list (List.nil))))) (maNil)))))

def N_cost : List Str := ["question", "plan"]
def m_cost (S_need_both S_cost_of : SpD) : MS := sSeq (sDrop (mFn 2 S_need_both (maCons (mVar 0) (maCons (mVar 1) (maNil))))) (sRet (mFn 2 S_cost_of (maCons (mVar 0) (maCons (mVar 1) (maNil)))))

def N_cost_at : List Str := ["question", "plan", "n"]
def m_cost_at (S_need_both S_need_n S_worth_of S_cost_of : SpD) : MS := sSeq (sDrop (mFn 2 S_need_both (maCons (mVar 0) (maCons (mVar 1) (maNil))))) (sSeq (sDrop (mFn 2 S_need_n (maCons (mVar 2) (maCons (mInt (1000000000000000000000000000000)) (maNil))))) (sRet (mFn 2 S_worth_of (maCons (mFn 2 S_cost_of (maCons (mVar 0) (maCons (mVar 1) (maNil)))) (maCons (mVar 2) (maNil))))))

def N_law_source : List Str := ["_law_script", "_law_k", "_law_cell"]
def m_law_source (K_ : PySem.W.Frag) : MS := sSeq (sSet 2 (mInt 0)) (sSeq (sIf (mTest (mBin ltW (mVar 1) (mCall (lenSW K_) (maCons (mVar 0) (maNil))))) (sSet 2 (mCall absW (maCons (mCall intW (maCons (mScrIx K_ 0 (mVar 1)) (maNil))) (maNil)))) (sNext)) (sSeq (sIf (mTest (mBin ltW (mVar 2) (mBin powW (mInt 10) (mInt 18)))) (sRetSrc (nLst (maCons (mInt 0) (maCons (mBin addW (mInt 1) (mBin modW (mCall intW (maCons (mBin addW (mBin mulW (mVar 2) (mInt 7919)) (mBin mulW (mInt 104729) (mVar 1))) (maNil))) (mInt 2147483646))) (maNil))))) (sNext)) (sRetSrc (nLst (maCons (mVar 2) (maCons (mBin addW (mInt 1) (mBin modW (mCall intW (maCons (mBin addW (mVar 2) (mVar 1)) (maNil))) (mInt 2147483646))) (maNil)))))))

def N_law_draw : List Str := ["_law_source_here", "_law_many", "_law_found"]
def m_law_draw : MS := sSeq (sIf (mTest (mBin (cmpI fun i j => decide (j < i)) (mSrcIx 0 0) (mInt 0))) (sSeq (sSet 2 (mBin modW (mCall intW (maCons (mSrcIx 0 0) (maNil))) (mVar 1))) (sSeq (sSrcPut 0 0 (mBin fdivW (mSrcIx 0 0) (mVar 1))) (sRet (mVar 2)))) (sNext)) (sSeq (sSrcPut 0 1 (mBin modW (mCall intW (maCons (mBin mulW (mSrcIx 0 1) (mInt 48271)) (maNil))) (mInt 2147483647))) (sRet (mBin modW (mCall intW (maCons (mBin fdivW (mBin modW (mCall intW (maCons (mBin mulW (mSrcIx 0 1) (mSrcIx 0 1)) (maNil))) (mInt 2147483629)) (mInt 64)) (maNil))) (mVar 1))))

def N_law_of : List Str := ["_law_source_here", "_law_items"]
def m_law_of (S_law_draw : SpD) : MS := sRet (mBin ixD (mVar 1) (mFn 2 S_law_draw (maCons (mVar 0) (maCons (mCall lenW (maCons (mVar 1) (maNil))) (maNil)))))

def N_law_common : List Str := ["_law_one", "_law_other"]
def m_law_common : MS := sSeq (sPar 0 1 (maCons (mCall absW (maCons (mVar 0) (maNil))) (maCons (mCall absW (maCons (mVar 1) (maNil))) (maNil)))) (sSeq (sWhile (mTest (mBin neW (mVar 1) (mInt 0))) (sPar 0 1 (maCons (mVar 1) (maCons (mBin modW (mVar 0) (mVar 1)) (maNil))))) (sRet (mVar 0)))

def N_law_fraction : List Str := ["_law_top", "_law_below", "_law_common_here"]
def m_law_fraction (S_law_common : SpD) : MS := sSeq (sSet 2 (mFn 2 S_law_common (maCons (mVar 0) (maCons (mVar 1) (maNil))))) (sRet (mTup (maCons (mBin fdivW (mVar 0) (mVar 2)) (maCons (mBin fdivW (mVar 1) (mVar 2)) (maNil)))))

def N_law_power : List Str := ["_law_n", "_law_many", "_law_found", "_law_turn"]
def m_law_power : MS := sSeq (sSet 2 (mInt 1)) (sSeq (sFor (miR1 (maCons (mVar 1) (maNil))) (gN 3) (sSet 2 (mBin mulW (mVar 2) (mVar 0)))) (sRet (mVar 2)))

def N_law_worth : List Str := ["_law_form", "_law_n", "_law_top", "_law_below", "_law_deep", "_law_power_here", "_law_up", "_law_down", "_law_more"]
def m_law_worth (S_law_power S_law_fraction : SpD) : MS := sSeq (sAsg (mC (PyData.tuple ((PyData.int 0) :: (PyData.int 1) :: (PyData.int 0) :: List.nil))) (gT [2, 3, 4])) (sSeq (sFor (miT (mVar 0)) (gT [5, 6, 7]) (sSet 4 (mCall maxW (maCons (mVar 4) (maCons (mBin subW (mInt 0) (mVar 5)) (maNil)))))) (sSeq (sFor (miT (mVar 0)) (gT [5, 6, 7]) (sSeq (sSet 8 (mBin mulW (mVar 6) (mFn 2 S_law_power (maCons (mVar 1) (maCons (mBin addW (mVar 5) (mVar 4)) (maNil)))))) (sPar 2 3 (maCons (mBin addW (mBin mulW (mVar 2) (mVar 7)) (mBin mulW (mVar 8) (mVar 3))) (maCons (mBin mulW (mVar 3) (mVar 7)) (maNil)))))) (sRet (mFn 2 S_law_fraction (maCons (mVar 2) (maCons (mBin mulW (mVar 3) (mFn 2 S_law_power (maCons (mVar 1) (maCons (mVar 4) (maNil))))) (maNil)))))))

def N_law_sum : List Str := ["_law_one", "_law_other"]
def m_law_sum (S_law_fraction : SpD) : MS := sRet (mFn 2 S_law_fraction (maCons (mBin addW (mBin mulW (mBin ixD (mVar 0) (mInt 0)) (mBin ixD (mVar 1) (mInt 1))) (mBin mulW (mBin ixD (mVar 1) (mInt 0)) (mBin ixD (mVar 0) (mInt 1)))) (maCons (mBin mulW (mBin ixD (mVar 0) (mInt 1)) (mBin ixD (mVar 1) (mInt 1))) (maNil))))

def N_law_question : List Str := ["_law_source_here", "_law_most", "_law_many", "_law_tables_here", "_law_links", "_law_indexes", "_law_number", "_law_small", "_law_other", "_law_below"]
def m_law_question (S_law_draw S_law_of : SpD) : MS := sSeq (sSet 2 (mBin addW (mInt 2) (mFn 2 S_law_draw (maCons (mVar 0) (maCons (mBin subW (mVar 1) (mInt 1)) (maNil)))))) (sSeq (sAsg (mC (PyData.tuple ((PyData.tuple (List.nil)) :: (PyData.tuple (List.nil)) :: (PyData.tuple (List.nil)) :: List.nil))) (gT [3, 4, 5])) (sSeq (sFor (miR1 (maCons (mVar 2) (maNil))) (gN 6) (sSeq (sSet 7 (mFn 2 S_law_of (maCons (mVar 0) (maCons (mLst (maCons (mInt 1) (maCons (mInt 2) (maCons (mInt 5) (maCons (mBin addW (mInt 1) (mFn 2 S_law_draw (maCons (mVar 0) (maCons (mInt 99) (maNil))))) (maNil)))))) (maNil))))) (sSeq (sSet 3 (mBin addW (mVar 3) (mTup (maCons (mTup (maCons (mVar 7) (maCons (mFn 2 S_law_of (maCons (mVar 0) (maCons (mC (PyData.list ((PyData.int 0) :: (PyData.int 1) :: (PyData.int 1) :: (PyData.int 2) :: List.nil))) (maNil)))) (maNil)))) (maNil))))) (sSeq (sFor (miR1 (maCons (mVar 6) (maNil))) (gN 8) (sIf (mTest (mBin (cmpI fun i j => decide (j < i)) (mFn 2 S_law_draw (maCons (mVar 0) (maCons (mInt 3) (maNil)))) (mInt 0))) (sSeq (sSet 9 (mFn 2 S_law_of (maCons (mVar 0) (maCons (mLst (maCons (mInt 1) (maCons (mInt 2) (maCons (mBin addW (mInt 1) (mFn 2 S_law_draw (maCons (mVar 0) (maCons (mInt 99) (maNil))))) (maNil))))) (maNil))))) (sSet 4 (mBin addW (mVar 4) (mTup (maCons (mTup (maCons (mVar 8) (maCons (mVar 6) (maCons (mVar 9) (maCons (mFn 2 S_law_draw (maCons (mVar 0) (maCons (mInt 3) (maNil)))) (maNil)))))) (maNil)))))) (sNext))) (sIf (mTest (mBin eqW (mFn 2 S_law_draw (maCons (mVar 0) (maCons (mInt 2) (maNil)))) (mInt 0))) (sSet 5 (mBin addW (mVar 5) (mTup (maCons (mVar 6) (maNil))))) (sNext)))))) (sRet (mTup (maCons (mVar 3) (maCons (mCall tupleW (maCons (mCall sortedW (maCons (mVar 4) (maNil))) (maNil))) (maCons (mVar 5) (maNil))))))))

def N_law_size : List Str := ["_law_question_here", "_law_tables_here", "_law_n", "_law_top", "_law_below", "_law_number", "_law_many", "_law_power_here", "_law_one", "_law_other"]
def m_law_size (S_law_power S_law_fraction : SpD) : MS := sSeq (sAsg (mC (PyData.tuple ((PyData.int 1) :: (PyData.int 1) :: List.nil))) (gT [3, 4])) (sSeq (sFor (miL (mVar 1)) (gN 5) (sSeq (sAsg (mBin ixD (mBin ixD (mVar 0) (mInt 0)) (mVar 5)) (gT [6, 7])) (sSet 3 (mBin mulW (mBin mulW (mVar 3) (mVar 6)) (mFn 2 S_law_power (maCons (mVar 2) (maCons (mVar 7) (maNil)))))))) (sSeq (sFor (miT (mBin ixD (mVar 0) (mInt 1))) (gT [8, 9, 6, 7]) (sIf (mAndT (mTest (mBin inW (mVar 8) (mVar 1))) (mTest (mBin inW (mVar 9) (mVar 1)))) (sSet 4 (mBin mulW (mBin mulW (mVar 4) (mVar 6)) (mFn 2 S_law_power (maCons (mVar 2) (maCons (mVar 7) (maNil)))))) (sNext))) (sRet (mFn 2 S_law_fraction (maCons (mVar 3) (maCons (mVar 4) (maNil)))))))

def N_law_tables : List Str := ["_law_plan"]
def m_law_tables (S_law_tables : SpD) : MS := sSeq (sIf (mTest (mIsi "int" (mVar 0))) (sRet (mLst (maCons (mVar 0) (maNil)))) (sNext)) (sRet (mCall sortedW (maCons (mBin addW (mFn 1 S_law_tables (maCons (mBin ixD (mVar 0) (mInt 0)) (maNil))) (mFn 1 S_law_tables (maCons (mBin ixD (mVar 0) (mInt 1)) (maNil)))) (maNil))))

def N_law_can : List Str := ["_law_question_here", "_law_left", "_law_right_here", "_law_method", "_law_mine", "_law_yours", "_law_one", "_law_other", "_law_below", "_law_power_here"]
def m_law_can (S_law_tables : SpD) : MS := sSeq (sIf (mTest (mBin eqW (mVar 3) (mStr "loop"))) (sRet (mBool true)) (sNext)) (sSeq (sIf (mAndT (mTest (mBin eqW (mVar 3) (mStr "index"))) (mOrT (mNotT (mTest (mIsi "int" (mVar 2)))) (mTest (mBin notInW (mVar 2) (mBin ixD (mVar 0) (mInt 2)))))) (sRet (mBool false)) (sNext)) (sSeq (sPar 4 5 (maCons (mFn 1 S_law_tables (maCons (mVar 1) (maNil))) (maCons (mFn 1 S_law_tables (maCons (mVar 2) (maNil))) (maNil)))) (sSeq (sFor (miT (mBin ixD (mVar 0) (mInt 1))) (gT [6, 7, 8, 9]) (sSeq (sIf (mAndT (mTest (mBin inW (mVar 6) (mVar 4))) (mTest (mBin inW (mVar 7) (mVar 5)))) (sRet (mBool true)) (sNext)) (sIf (mAndT (mTest (mBin inW (mVar 6) (mVar 5))) (mTest (mBin inW (mVar 7) (mVar 4)))) (sRet (mBool true)) (sNext)))) (sRet (mBool false)))))

def N_law_cost : List Str := ["_law_question_here", "_law_plan", "_law_n", "_law_left", "_law_right_here", "_law_method", "_law_mine", "_law_yours", "_law_found"]
def m_law_cost (S_law_size S_law_tables S_law_sum S_law_cost : SpD) : MS := sSeq (sIf (mTest (mIsi "int" (mVar 1))) (sRet (mFn 3 S_law_size (maCons (mVar 0) (maCons (mLst (maCons (mVar 1) (maNil))) (maCons (mVar 2) (maNil)))))) (sNext)) (sSeq (sAsg (mVar 1) (gT [3, 4, 5])) (sSeq (sSet 6 (mFn 3 S_law_size (maCons (mVar 0) (maCons (mFn 1 S_law_tables (maCons (mVar 3) (maNil))) (maCons (mVar 2) (maNil)))))) (sSeq (sSet 7 (mFn 3 S_law_size (maCons (mVar 0) (maCons (mFn 1 S_law_tables (maCons (mVar 4) (maNil))) (maCons (mVar 2) (maNil)))))) (sSeq (sSet 8 (mFn 3 S_law_size (maCons (mVar 0) (maCons (mFn 1 S_law_tables (maCons (mVar 1) (maNil))) (maCons (mVar 2) (maNil)))))) (sSeq (sSet 8 (mFn 2 S_law_sum (maCons (mVar 8) (maCons (mFn 3 S_law_cost (maCons (mVar 0) (maCons (mVar 3) (maCons (mVar 2) (maNil))))) (maNil))))) (sSeq (sIf (mTest (mBin eqW (mVar 5) (mStr "index"))) (sRet (mFn 2 S_law_sum (maCons (mVar 8) (maCons (mTup (maCons (mBin mulW (mInt 3) (mBin ixD (mVar 6) (mInt 0))) (maCons (mBin ixD (mVar 6) (mInt 1)) (maNil)))) (maNil))))) (sNext)) (sSeq (sSet 8 (mFn 2 S_law_sum (maCons (mVar 8) (maCons (mFn 3 S_law_cost (maCons (mVar 0) (maCons (mVar 4) (maCons (mVar 2) (maNil))))) (maNil))))) (sSeq (sIf (mTest (mBin eqW (mVar 5) (mStr "hash"))) (sRet (mFn 2 S_law_sum (maCons (mVar 8) (maCons (mFn 2 S_law_sum (maCons (mVar 6) (maCons (mVar 7) (maNil)))) (maNil))))) (sNext)) (sRet (mFn 2 S_law_sum (maCons (mVar 8) (maCons (mTup (maCons (mBin mulW (mBin ixD (mVar 6) (mInt 0)) (mBin ixD (mVar 7) (mInt 0))) (maCons (mBin mulW (mBin ixD (mVar 6) (mInt 1)) (mBin ixD (mVar 7) (mInt 1))) (maNil)))) (maNil)))))))))))))

def N_law_plans : List Str := ["_law_question_here", "_law_tables_here", "_law_found", "_law_mask", "_law_left", "_law_rest", "_law_table", "_law_right_here", "_law_one", "_law_other", "_law_method"]
def m_law_plans (S_law_power S_law_plans S_law_can : SpD) : MS := sSeq (sIf (mTest (mBin eqW (mCall lenW (maCons (mVar 1) (maNil))) (mInt 1))) (sRet (mCall listW (maCons (mVar 1) (maNil)))) (sNext)) (sSeq (sNew 2 (nLst (maNil))) (sSeq (sFor (miR2 (maCons (mInt 1) (maCons (mBin subW (mFn 2 S_law_power (maCons (mInt 2) (maCons (mCall lenW (maCons (mVar 1) (maNil))) (maNil)))) (mInt 1)) (maNil)))) (gN 3) (sSeq (sAsg (mTup (maCons (mC (PyData.list (List.nil))) (maCons (mVar 3) (maNil)))) (gT [4, 5])) (sSeq (sFor (miL (mVar 1)) (gN 6) (sSeq (sSet 4 (mBin addW (mVar 4) (mIf (mTest (mBin eqW (mBin modW (mVar 5) (mInt 2)) (mInt 1))) (mLst (maCons (mVar 6) (maNil))) (mC (PyData.list (List.nil)))))) (sSet 5 (mBin fdivW (mVar 5) (mInt 2))))) (sSeq (sSet 7 (mLc (miL (mVar 1)) (gN 6) (mTest (mBin notInW (mVar 6) (mVar 4))) (mVar 6) [6])) (sFor (miL (mFn 2 S_law_plans (maCons (mVar 0) (maCons (mVar 4) (maNil))))) (gN 8) (sFor (miL (mFn 2 S_law_plans (maCons (mVar 0) (maCons (mVar 7) (maNil))))) (gN 9) (sFor (miL (mC (PyData.list ((PyData.str "hash") :: (PyData.str "index") :: (PyData.str "loop") :: List.nil)))) (gN 10) (sIf (mTest (mFn 4 S_law_can (maCons (mVar 0) (maCons (mVar 8) (maCons (mVar 9) (maCons (mVar 10) (maNil))))))) (sApp 2 (mTup (maCons (mVar 8) (maCons (mVar 9) (maCons (mVar 10) (maNil)))))) (sNext))))))))) (sRetOwn 2)))

def N_law_known : List Str := ["_law_one", "_law_two"]
def m_law_known : MS := sSeq (sSet 0 (mC (PyData.tuple ((PyData.tuple ((PyData.tuple ((PyData.int 5) :: (PyData.int 1) :: List.nil)) :: (PyData.tuple ((PyData.int 3) :: (PyData.int 0) :: List.nil)) :: List.nil)) :: (PyData.tuple ((PyData.tuple ((PyData.int 0) :: (PyData.int 1) :: (PyData.int 3) :: (PyData.int 0) :: List.nil)) :: List.nil)) :: (PyData.tuple (List.nil)) :: List.nil)))) (sSeq (sSet 1 (mC (PyData.tuple ((PyData.tuple ((PyData.tuple ((PyData.int 1) :: (PyData.int 1) :: List.nil)) :: (PyData.tuple ((PyData.int 1) :: (PyData.int 1) :: List.nil)) :: List.nil)) :: (PyData.tuple ((PyData.tuple ((PyData.int 0) :: (PyData.int 1) :: (PyData.int 1) :: (PyData.int 1) :: List.nil)) :: List.nil)) :: (PyData.tuple ((PyData.int 1) :: List.nil)) :: List.nil)))) (sRet (mTup (maCons (mVar 0) (maCons (mVar 1) (maCons (mC (PyData.tuple ((PyData.tuple ((PyData.tuple ((PyData.int 2) :: (PyData.int 1) :: List.nil)) :: (PyData.tuple ((PyData.int 10) :: (PyData.int 0) :: List.nil)) :: (PyData.tuple ((PyData.int 1) :: (PyData.int 2) :: List.nil)) :: List.nil)) :: (PyData.tuple ((PyData.tuple ((PyData.int 0) :: (PyData.int 1) :: (PyData.int 10) :: (PyData.int 0) :: List.nil)) :: (PyData.tuple ((PyData.int 1) :: (PyData.int 2) :: (PyData.int 5) :: (PyData.int 1) :: List.nil)) :: List.nil)) :: (PyData.tuple ((PyData.int 2) :: List.nil)) :: List.nil))) (maNil)))))))

def N_law_right : List Str := ["_law_source_here", "_law_question_here", "_law_plan", "_law_form", "_law_powers", "_law_power_here", "_law_top", "_law_below", "_law_great", "_law_n", "_law_due", "_law_part"]
def m_law_right (S_cost S_law_common S_law_draw S_law_cost S_cost_at S_law_worth : SpD) : MS := sSeq (sSet 3 (mFn 2 S_cost (maCons (mVar 1) (maCons (mVar 2) (maNil))))) (sSeq (sIf (mTest (mBin neW (mLc (miT (mVar 3)) (gN 11) (mOrT (mTest (mBin (cmpI fun i j => decide (i ≤ j)) (mBin ixD (mVar 11) (mInt 1)) (mInt 0))) (mTest (mBin ltW (mBin ixD (mVar 11) (mInt 2)) (mInt 1)))) (mVar 11) [11]) (mC (PyData.list (List.nil))))) (sRet (mBool false)) (sNext)) (sSeq (sSet 4 (mLc (miT (mVar 3)) (gN 11) (mYes) (mBin ixD (mVar 11) (mInt 0)) [11])) (sSeq (sIf (mTest (mBin neW (mVar 4) (mSortedSet (mSet (mVar 4))))) (sRet (mBool false)) (sNext)) (sSeq (sFor (miT (mVar 3)) (gT [5, 6, 7]) (sIf (mTest (mBin neW (mFn 2 S_law_common (maCons (mVar 6) (maCons (mVar 7) (maNil)))) (mInt 1))) (sRet (mBool false)) (sNext))) (sSeq (sSet 8 (mBin addW (mBin powW (mInt 10) (mInt 9)) (mFn 2 S_law_draw (maCons (mVar 0) (maCons (mBin powW (mInt 10) (mInt 9)) (maNil)))))) (sSeq (sFor (miL (mLst (maCons (mInt 1) (maCons (mInt 2) (maCons (mInt 3) (maCons (mInt 10) (maCons (mBin addW (mInt 1) (mFn 2 S_law_draw (maCons (mVar 0) (maCons (mInt 999) (maNil))))) (maCons (mVar 8) (maCons (mBin powW (mInt 10) (mInt 30)) (maNil)))))))))) (gN 9) (sSeq (sSet 10 (mFn 3 S_law_cost (maCons (mVar 1) (maCons (mVar 2) (maCons (mVar 9) (maNil)))))) (sIf (mOrT (mTest (mBin neW (mFn 3 S_cost_at (maCons (mVar 1) (maCons (mVar 2) (maCons (mVar 9) (maNil))))) (mVar 10))) (mTest (mBin neW (mFn 2 S_law_worth (maCons (mVar 3) (maCons (mVar 9) (maNil)))) (mVar 10)))) (sRet (mBool false)) (sNext)))) (sRet (mBool true))))))))

def N_law : List Str := ["_law_script", "_law_k", "_law_source_here", "_law_question_here", "_law_some", "_law_turn", "_law_odd", "_law_one", "_law_two", "_law_three", "_law_plan"]
def m_law (K_ : PySem.W.Frag) (S_law_source S_law_question S_law_plans S_law_right S_law_of S_cost S_cost_at S_law_known : SpD) (Wd_ : Addr → Str → Prop) : MS := sSeq (sFor (miR1 (maCons (mBin addW (mInt 1) (mCall minW (maCons (mCall (lenSW K_) (maCons (mVar 0) (maNil))) (maCons (mInt 10) (maNil))))) (maNil))) (gN 1) (sSeq (sSet 2 (mFn 2 S_law_source (maCons (mVar 0) (maCons (mVar 1) (maNil))))) (sSeq (sSet 3 (mFn 2 S_law_question (maCons (mVar 2) (maCons (mInt 4) (maNil))))) (sSeq (sSet 4 (mFn 2 S_law_plans (maCons (mVar 3) (maCons (mRg true (mCall lenW (maCons (mBin ixD (mVar 3) (mInt 0)) (maNil)))) (maNil))))) (sSeq (sFor (miR1 (maCons (mInt 8) (maNil))) (gN 5) (sIf (mNotT (mTest (mFn 3 S_law_right (maCons (mVar 2) (maCons (mVar 3) (maCons (mFn 2 S_law_of (maCons (mVar 2) (maCons (mVar 4) (maNil)))) (maNil))))))) (sRet (mBool false)) (sNext))) (sSeq (sFor (miL (mC (PyData.list ((PyData.none) :: (PyData.int 0) :: (PyData.tuple ((PyData.int 0) :: (PyData.int 0) :: (PyData.str "loop") :: List.nil)) :: (PyData.tuple ((PyData.int 0) :: (PyData.int 1) :: (PyData.str "sort") :: List.nil)) :: (PyData.list ((PyData.int 0) :: (PyData.int 1) :: (PyData.str "loop") :: List.nil)) :: (PyData.tuple ((PyData.int 0) :: (PyData.int 1) :: List.nil)) :: List.nil)))) (gN 6) (sSeq (sIf (mTest (mBin neW (mWord Wd_ "none" (mFn 2 S_cost (maCons (mVar 3) (maCons (mVar 6) (maNil))))) (mStr "plan"))) (sRet (mBool false)) (sNext)) (sIf (mTest (mBin neW (mWord Wd_ "none" (mFn 3 S_cost_at (maCons (mVar 3) (maCons (mVar 6) (maCons (mNone) (maNil)))))) (mStr "plan"))) (sRet (mBool false)) (sNext)))) (sFor (miL (mLst (maCons (mNone) (maCons (mInt 0) (maCons (mNeg (mInt 1)) (maCons (mBin addW (mBin powW (mInt 10) (mInt 30)) (mInt 1)) (maCons (mBool true) (maCons (mStr "1") (maNil))))))))) (gN 6) (sIf (mTest (mBin neW (mWord Wd_ "none" (mFn 3 S_cost_at (maCons (mVar 3) (maCons (mBin ixD (mVar 4) (mInt 0)) (maCons (mVar 6) (maNil)))))) (mStr "number"))) (sRet (mBool false)) (sNext))))))))) (sSeq (sAsg (mFn 0 S_law_known maNil) (gT [7, 8, 9])) (sSeq (sIf (mTest (mBin neW (mFn 2 S_cost (maCons (mVar 7) (maCons (mC (PyData.tuple ((PyData.int 0) :: (PyData.int 1) :: (PyData.str "loop") :: List.nil))) (maNil)))) (mC (PyData.tuple ((PyData.tuple ((PyData.int 0) :: (PyData.int 3) :: (PyData.int 1) :: List.nil)) :: (PyData.tuple ((PyData.int 1) :: (PyData.int 25) :: (PyData.int 1) :: List.nil)) :: List.nil))))) (sRet (mBool false)) (sNext)) (sSeq (sIf (mTest (mBin neW (mFn 2 S_cost (maCons (mVar 7) (maCons (mC (PyData.tuple ((PyData.int 0) :: (PyData.int 1) :: (PyData.str "hash") :: List.nil))) (maNil)))) (mC (PyData.tuple ((PyData.tuple ((PyData.int 0) :: (PyData.int 6) :: (PyData.int 1) :: List.nil)) :: (PyData.tuple ((PyData.int 1) :: (PyData.int 15) :: (PyData.int 1) :: List.nil)) :: List.nil))))) (sRet (mBool false)) (sNext)) (sSeq (sIf (mTest (mBin neW (mFn 2 S_cost (maCons (mVar 8) (maCons (mC (PyData.tuple ((PyData.int 0) :: (PyData.int 1) :: (PyData.str "loop") :: List.nil))) (maNil)))) (mC (PyData.tuple ((PyData.tuple ((PyData.int 1) :: (PyData.int 3) :: (PyData.int 1) :: List.nil)) :: (PyData.tuple ((PyData.int 2) :: (PyData.int 1) :: (PyData.int 1) :: List.nil)) :: List.nil))))) (sRet (mBool false)) (sNext)) (sSeq (sIf (mTest (mBin neW (mFn 2 S_cost (maCons (mVar 8) (maCons (mC (PyData.tuple ((PyData.int 0) :: (PyData.int 1) :: (PyData.str "index") :: List.nil))) (maNil)))) (mC (PyData.tuple ((PyData.tuple ((PyData.int 1) :: (PyData.int 5) :: (PyData.int 1) :: List.nil)) :: List.nil))))) (sRet (mBool false)) (sNext)) (sSeq (sSet 10 (mC (PyData.tuple ((PyData.tuple ((PyData.int 0) :: (PyData.int 1) :: (PyData.str "hash") :: List.nil)) :: (PyData.int 2) :: (PyData.str "index") :: List.nil)))) (sSeq (sIf (mTest (mBin neW (mFn 2 S_cost (maCons (mVar 9) (maCons (mVar 10) (maNil)))) (mC (PyData.tuple ((PyData.tuple ((PyData.int 0) :: (PyData.int 20) :: (PyData.int 1) :: List.nil)) :: (PyData.tuple ((PyData.int 1) :: (PyData.int 12) :: (PyData.int 1) :: List.nil)) :: (PyData.tuple ((PyData.int 2) :: (PyData.int 2) :: (PyData.int 5) :: List.nil)) :: List.nil))))) (sRet (mBool false)) (sNext)) (sRet (mBin eqW (mFn 3 S_cost_at (maCons (mVar 9) (maCons (mVar 10) (maCons (mInt 10) (maNil))))) (mC (PyData.tuple ((PyData.int 180) :: (PyData.int 1) :: List.nil))))))))))))

end GJ

/-! P1: fractions, their sizes. -/
namespace GJ
/-! ### fractions -/
abbrev qd (t b : Int) : Rat := Rat.divInt t b
theorem qd_num {t b : Int} (hb : 0 < b) : t / (Int.gcd t b : Int) = (qd t b).num := by
  rw [Rat.num_divInt, Int.sign_eq_one_of_pos hb, Int.one_mul, Int.gcd_comm]
theorem qd_den {t b : Int} (hb : 0 < b) : b / (Int.gcd t b : Int) = ((qd t b).den : Int) := by
  rw [Rat.den_divInt, if_neg (by omega), Int.gcd_comm, Int.natCast_ediv]
  congr 1
  omega
theorem den_pos (x : Rat) : 0 < (x.den : Int) := by have := x.den_nz; omega
theorem den_ne (x : Rat) : ((x.den : Int) : Rat) ≠ 0 := by
  have := x.den_nz
  intro h
  have h2 : (x.den : Int) = 0 := by exact_mod_cast h
  omega
theorem qd_self (x : Rat) : qd x.num x.den = x := by
  have := Rat.num_divInt_den x
  exact this
theorem qd_eq (t b : Int) : qd t b = (t : Rat) / (b : Rat) := Rat.divInt_eq_div t b
theorem rat_eq (x : Rat) : x = (x.num : Rat) / ((x.den : Int) : Rat) := by rw [← qd_eq, qd_self]
theorem ic_ne {b : Int} (h : 0 < b) : (b : Rat) ≠ 0 := by
  intro e
  have h2 : b = 0 := by exact_mod_cast e
  omega
/-- the sum of two fractions -/
theorem qd_add {t b u d : Int} (hb : 0 < b) (hd : 0 < d) : qd (t * d + u * b) (b * d) = qd t b + qd u d := by
  rw [qd_eq, qd_eq, qd_eq, Rat.intCast_add, Rat.intCast_mul, Rat.intCast_mul, Rat.intCast_mul]
  have h1 := ic_ne hb
  have h2 := ic_ne hd
  grind
theorem qd_mul {t b u d : Int} : qd (t * u) (b * d) = qd t b * qd u d := by
  rw [qd_eq, qd_eq, qd_eq, Rat.intCast_mul, Rat.intCast_mul]
  by_cases h1 : (b : Rat) = 0
  · rw [h1]; grind
  · by_cases h2 : (d : Rat) = 0
    · rw [h2]; grind
    · grind
theorem add_qd (x y : Rat) : qd (x.num * y.den + y.num * x.den) (x.den * y.den) = x + y := by
  rw [qd_add (den_pos x) (den_pos y), qd_self, qd_self]
theorem mul_qd (x y : Rat) : qd (x.num * y.num) (x.den * y.den) = x * y := by
  rw [qd_mul, qd_self, qd_self]
/-! ### the length in bits -/
def bl (n : Nat) : Nat := n.log2 + 1
theorem bl_lt (n : Nat) : n < 2 ^ bl n := Nat.lt_log2_self
theorem bl_le {n k : Nat} (h : n < 2 ^ k) (hk : 0 < k) : bl n ≤ k := by
  unfold bl
  by_cases h0 : n = 0
  · subst h0
    have : Nat.log2 0 = 0 := by decide
    omega
  · have := (Nat.log2_lt h0).mpr h
    omega
theorem bl_pos (n : Nat) : 0 < bl n := Nat.succ_pos _
theorem bl_mono {m n : Nat} (h : m ≤ n) : bl m ≤ bl n := bl_le (Nat.lt_of_le_of_lt h (bl_lt n)) (bl_pos n)
theorem bl_mul (m n : Nat) : bl (m * n) ≤ bl m + bl n := by
  refine bl_le ?_ (by have := bl_pos m; omega)
  rw [Nat.pow_add]
  by_cases h : n = 0
  · subst h
    rw [Nat.mul_zero]
    exact Nat.mul_pos (Nat.two_pow_pos _) (Nat.two_pow_pos _)
  · calc m * n < 2 ^ bl m * n := Nat.mul_lt_mul_of_pos_right (bl_lt m) (by omega)
      _ ≤ 2 ^ bl m * 2 ^ bl n := Nat.mul_le_mul_left _ (Nat.le_of_lt (bl_lt n))
theorem bl_add (m n : Nat) : bl (m + n) ≤ max (bl m) (bl n) + 1 := by
  refine bl_le ?_ (by omega)
  have h1 := bl_lt m
  have h2 := bl_lt n
  have h3 : 2 ^ bl m ≤ 2 ^ max (bl m) (bl n) := Nat.pow_le_pow_right (by omega) (by omega)
  have h4 : 2 ^ bl n ≤ 2 ^ max (bl m) (bl n) := Nat.pow_le_pow_right (by omega) (by omega)
  rw [Nat.pow_succ]
  omega
theorem bl_pow (m : Nat) : ∀ k : Nat, bl (m ^ k) ≤ k * bl m + 1
  | 0 => by simp [bl]; decide
  | k + 1 => by
    have ih := bl_pow m k
    have h := bl_mul (m ^ k) m
    rw [Nat.pow_succ, Nat.succ_mul]
    omega
/-- the bits of a whole number -/
def bi (i : Int) : Nat := bl i.natAbs
theorem bi_pos (i : Int) : 0 < bi i := bl_pos _
theorem bi_mul (i j : Int) : bi (i * j) ≤ bi i + bi j := by
  unfold bi
  rw [Int.natAbs_mul]
  exact bl_mul _ _
theorem bi_add (i j : Int) : bi (i + j) ≤ max (bi i) (bi j) + 1 := by
  unfold bi
  exact Nat.le_trans (bl_mono (Int.natAbs_add_le i j)) (bl_add _ _)
theorem bi_neg (i : Int) : bi (-i) = bi i := by unfold bi; rw [Int.natAbs_neg]
theorem bi_sub (i j : Int) : bi (i - j) ≤ max (bi i) (bi j) + 1 := by
  rw [Int.sub_eq_add_neg, ← bi_neg j]
  exact bi_add _ _
theorem bi_pow (i : Int) (k : Nat) : bi (i ^ k) ≤ k * bi i + 1 := by
  unfold bi
  rw [Int.natAbs_pow]
  exact bl_pow _ _
/-- the bits of a fraction -/
def sz (x : Rat) : Nat := max (bi x.num) (bl x.den)
theorem sz_num (x : Rat) : bi x.num ≤ sz x := Nat.le_max_left _ _
theorem sz_den (x : Rat) : bi (x.den : Int) ≤ sz x := by
  have : bi (x.den : Int) = bl x.den := by unfold bi; rw [Int.natAbs_natCast]
  rw [this]
  exact Nat.le_max_right _ _
theorem sz_pos (x : Rat) : 0 < sz x := Nat.lt_of_lt_of_le (bi_pos _) (sz_num x)
theorem natAbs_div_le (t g : Int) (hg : 0 ≤ g) : (t / g).natAbs ≤ t.natAbs := by
  by_cases h : g = 0
  · subst h; simp
  · have hp : 0 < g := by omega
    rcases Int.le_total 0 t with h0 | h0
    · have h1 : 0 ≤ t / g := Int.ediv_nonneg h0 (by omega)
      have h2 : t / g ≤ t := Int.ediv_le_self _ h0
      omega
    · have h2 : t / g ≤ 0 := Int.ediv_le_of_le_mul hp (by omega)
      have h3 : t ≤ t / g := by
        rw [Int.le_ediv_iff_mul_le hp]
        have : t * g ≤ t * 1 := Int.mul_le_mul_of_nonpos_left h0 (by omega)
        omega
      omega
theorem sz_qd {t b : Int} (hb : 0 < b) : sz (qd t b) ≤ max (bi t) (bi b) := by
  unfold sz
  have e1 : bi (qd t b).num ≤ bi t := by
    rw [← qd_num hb]
    exact bl_mono (natAbs_div_le _ _ (Int.natCast_nonneg _))
  have e2 : bl (qd t b).den ≤ bi b := by
    have e := qd_den (t := t) hb
    have h := natAbs_div_le b (Int.gcd t b : Int) (Int.natCast_nonneg _)
    rw [e] at h
    exact bl_mono (by simpa using h)
  omega
theorem sz_add (x y : Rat) : sz (x + y) ≤ sz x + sz y + 1 := by
  rw [← add_qd x y]
  have h := sz_qd (t := x.num * y.den + y.num * x.den) (b := x.den * y.den) (Int.mul_pos (den_pos x) (den_pos y))
  have h1 := bi_add (x.num * y.den) (y.num * x.den)
  have h2 := bi_mul x.num y.den
  have h3 := bi_mul y.num x.den
  have h4 := bi_mul (x.den : Int) y.den
  have a1 := sz_num x
  have a2 := sz_num y
  have a3 := sz_den x
  have a4 := sz_den y
  omega
theorem sz_mul (x y : Rat) : sz (x * y) ≤ sz x + sz y := by
  rw [← mul_qd x y]
  have h := sz_qd (t := x.num * y.num) (b := x.den * y.den) (Int.mul_pos (den_pos x) (den_pos y))
  have h2 := bi_mul x.num y.num
  have h4 := bi_mul (x.den : Int) y.den
  have a1 := sz_num x
  have a2 := sz_num y
  have a3 := sz_den x
  have a4 := sz_den y
  omega
end GJ

/-! F1: forms as lists of (power, coefficient). -/
namespace GJ
abbrev Fm := List (Int × Rat)
/-- the sum of what a list has at a power -/
def cf : Fm → Int → Rat
  | [], _ => 0
  | x :: l, q => (if x.1 = q then x.2 else 0) + cf l q
/-- the worth of a list of parts -/
def wv (x : Int → Rat) : Fm → Rat
  | [] => 0
  | a :: l => a.2 * x a.1 + wv x l
theorem wv_append (x : Int → Rat) : ∀ l m : Fm, wv x (l ++ m) = wv x l + wv x m
  | [], m => by simp [wv, Rat.zero_add]
  | a :: l, m => by simp only [List.cons_append, wv, wv_append x l m, Rat.add_assoc]
theorem cf_append (q : Int) : ∀ l m : Fm, cf (l ++ m) q = cf l q + cf m q
  | [], m => by simp [cf, Rat.zero_add]
  | a :: l, m => by simp only [List.cons_append, cf, cf_append q l m, Rat.add_assoc]
/-- sums over powers -/
def sm (x : Int → Rat) (f : Int → Rat) : List Int → Rat
  | [] => 0
  | p :: l => f p * x p + sm x f l
theorem sm_add (x f g : Int → Rat) : ∀ l, sm x (fun p => f p + g p) l = sm x f l + sm x g l
  | [] => by simp [sm, Rat.add_zero]
  | p :: l => by simp only [sm, sm_add x f g l]; grind
theorem sm_zero (x : Int → Rat) : ∀ l, sm x (fun _ => 0) l = 0
  | [] => rfl
  | p :: l => by simp only [sm, sm_zero x l]; grind
theorem sm_off (x : Int → Rat) (p : Int) (c : Rat) : ∀ l : List Int, ¬ p ∈ l → sm x (fun q => if p = q then c else 0) l = 0
  | [], _ => rfl
  | q :: l, h => by
    have h1 : ¬ p = q := fun e => h (e ▸ List.mem_cons_self)
    have h2 := sm_off x p c l fun m => h (List.mem_cons_of_mem _ m)
    simp only [sm, h2, if_neg h1]; grind
theorem sm_one (x : Int → Rat) (p : Int) (c : Rat) : ∀ l : List Int, l.Nodup → p ∈ l → sm x (fun q => if p = q then c else 0) l = c * x p
  | [], _, m => by cases m
  | q :: l, nd, m => by
    obtain ⟨n1, n2⟩ := List.nodup_cons.mp nd
    by_cases e : p = q
    · subst e
      simp only [sm, if_pos, sm_off x p c l n1]; grind
    · have m2 : p ∈ l := by
        rcases List.mem_cons.mp m with h | h
        · exact absurd h e
        · exact h
      simp only [sm, if_neg e, sm_one x p c l n2 m2]; grind
theorem sm_cf (x : Int → Rat) (l : List Int) (nd : l.Nodup) : ∀ ps : Fm, (∀ a ∈ ps, a.1 ∈ l) → sm x (cf ps) l = wv x ps
  | [], _ => sm_zero x l
  | a :: ps, h => by
    have ih := sm_cf x l nd ps fun b m => h b (List.mem_cons_of_mem _ m)
    have e : cf (a :: ps) = fun q => (if a.1 = q then a.2 else 0) + cf ps q := rfl
    rw [e, sm_add, ih, sm_one x a.1 a.2 l nd (h a List.mem_cons_self)]
    rfl
/-- the form at some powers -/
def atP (f : Int → Rat) : List Int → Fm
  | [] => []
  | p :: l => if f p = 0 then atP f l else (p, f p) :: atP f l
theorem wv_atP (x f : Int → Rat) : ∀ l, wv x (atP f l) = sm x f l
  | [] => rfl
  | p :: l => by
    have ih := wv_atP x f l
    simp only [atP, sm]
    by_cases e : f p = 0
    · rw [if_pos e, ih, e]; grind
    · rw [if_neg e]; simp only [wv, ih]
theorem mem_atP {f : Int → Rat} {a : Int × Rat} : ∀ {l : List Int}, a ∈ atP f l ↔ a.1 ∈ l ∧ a.2 = f a.1 ∧ f a.1 ≠ 0
  | [] => by simp [atP]
  | p :: l => by
    have ih := mem_atP (f := f) (a := a) (l := l)
    simp only [atP]
    by_cases e : f p = 0
    · rw [if_pos e, ih]
      constructor
      · rintro ⟨h1, h2, h3⟩; exact ⟨List.mem_cons_of_mem _ h1, h2, h3⟩
      · rintro ⟨h1, h2, h3⟩
        rcases List.mem_cons.mp h1 with h | h
        · rw [h] at h3; exact absurd e h3
        · exact ⟨h, h2, h3⟩
    · rw [if_neg e, List.mem_cons, ih]
      constructor
      · rintro (h | ⟨h1, h2, h3⟩)
        · subst h; exact ⟨List.mem_cons_self, rfl, e⟩
        · exact ⟨List.mem_cons_of_mem _ h1, h2, h3⟩
      · rintro ⟨h1, h2, h3⟩
        rcases List.mem_cons.mp h1 with h | h
        · left; obtain ⟨a1, a2⟩ := a; simp only at h h2; rw [h2, h]
        · exact .inr ⟨h, h2, h3⟩
theorem atP_pw {f : Int → Rat} : ∀ {l : List Int}, l.Pairwise (· < ·) → (atP f l).Pairwise fun a b => a.1 < b.1
  | [], _ => .nil
  | p :: l, h => by
    obtain ⟨h1, h2⟩ := List.pairwise_cons.mp h
    have ih := atP_pw (f := f) h2
    simp only [atP]
    by_cases e : f p = 0
    · rw [if_pos e]; exact ih
    · rw [if_neg e, List.pairwise_cons]
      exact ⟨fun b m => h1 b.1 (mem_atP.mp m).1, ih⟩
theorem atP_len {f : Int → Rat} : ∀ l : List Int, (atP f l).length ≤ l.length
  | [] => Nat.le_refl _
  | p :: l => by
    have ih := atP_len (f := f) l
    simp only [atP]
    split <;> simp <;> omega
/-- ascending, each once -/
def insI (a : Int) : List Int → List Int
  | [] => [a]
  | b :: l => if a < b then a :: b :: l else if a = b then b :: l else b :: insI a l
def usort : List Int → List Int
  | [] => []
  | a :: l => insI a (usort l)
theorem mem_insI {a x : Int} : ∀ {l : List Int}, x ∈ insI a l ↔ x = a ∨ x ∈ l
  | [] => by simp [insI]
  | b :: l => by
    have ih := mem_insI (a := a) (x := x) (l := l)
    simp only [insI]
    split
    · simp
    · split
      · rename_i h; subst h; simp
      · simp only [List.mem_cons, ih]
        constructor
        · rintro (h | h | h) <;> simp [h]
        · rintro (h | h | h) <;> simp [h]
theorem mem_usort {x : Int} : ∀ {l : List Int}, x ∈ usort l ↔ x ∈ l
  | [] => by simp [usort]
  | a :: l => by simp [usort, mem_insI, mem_usort (l := l)]
theorem insI_pw {a : Int} : ∀ {l : List Int}, l.Pairwise (· < ·) → (insI a l).Pairwise (· < ·)
  | [], _ => by simp [insI]
  | b :: l, h => by
    obtain ⟨h1, h2⟩ := List.pairwise_cons.mp h
    simp only [insI]
    split
    · rename_i z
      rw [List.pairwise_cons]
      refine ⟨fun c m => ?_, h⟩
      rcases List.mem_cons.mp m with e | m
      · omega
      · have := h1 c m; omega
    · split
      · exact h
      · rw [List.pairwise_cons]
        refine ⟨fun c m => ?_, insI_pw h2⟩
        rcases mem_insI.mp m with e | m
        · omega
        · exact h1 c m
theorem usort_pw : ∀ l : List Int, (usort l).Pairwise (· < ·)
  | [] => .nil
  | a :: l => insI_pw (usort_pw l)
theorem insI_len {a : Int} : ∀ l : List Int, (insI a l).length ≤ l.length + 1
  | [] => by simp [insI]
  | b :: l => by
    have ih := insI_len (a := a) l
    simp only [insI]
    split
    · simp
    · split <;> simp <;> omega
theorem usort_len : ∀ l : List Int, (usort l).length ≤ l.length
  | [] => Nat.le_refl _
  | a :: l => by
    have h1 := usort_len l
    have h2 := insI_len (a := a) (usort l)
    simp only [usort, List.length_cons]
    omega
theorem pw_nodup {l : List Int} (h : l.Pairwise (· < ·)) : l.Nodup := h.imp fun h e => by omega
/-- two ascending lists with the same members are one -/
theorem pw_ext : ∀ {l m : List Int}, l.Pairwise (· < ·) → m.Pairwise (· < ·) → (∀ x, x ∈ l ↔ x ∈ m) → l = m
  | [], [], _, _, _ => rfl
  | [], b :: m, _, _, h => by have := (h b).mpr List.mem_cons_self; cases this
  | a :: l, [], _, _, h => by have := (h a).mp List.mem_cons_self; cases this
  | a :: l, b :: m, h1, h2, h => by
    obtain ⟨a1, a2⟩ := List.pairwise_cons.mp h1
    obtain ⟨b1, b2⟩ := List.pairwise_cons.mp h2
    have e : a = b := by
      rcases List.mem_cons.mp ((h a).mp List.mem_cons_self) with e | e
      · exact e
      · rcases List.mem_cons.mp ((h b).mpr List.mem_cons_self) with e' | e'
        · exact e'.symm
        · have := a1 b e'; have := b1 a e; omega
    subst e
    rw [pw_ext a2 b2 fun x => ?_]
    constructor
    · intro hx
      rcases List.mem_cons.mp ((h x).mp (List.mem_cons_of_mem _ hx)) with e | e
      · have := a1 x hx; omega
      · exact e
    · intro hx
      rcases List.mem_cons.mp ((h x).mpr (List.mem_cons_of_mem _ hx)) with e | e
      · have := b1 x hx; omega
      · exact e
/-- the form of a list of parts -/
def formOf (ps : Fm) : Fm := atP (cf ps) (usort (ps.map (·.1)))
theorem wv_formOf (x : Int → Rat) (ps : Fm) : wv x (formOf ps) = wv x ps := by
  unfold formOf
  rw [wv_atP, sm_cf x _ (pw_nodup (usort_pw _)) ps fun a m => mem_usort.mpr (List.mem_map.mpr ⟨a, m, rfl⟩)]
theorem formOf_pw (ps : Fm) : (formOf ps).Pairwise fun a b => a.1 < b.1 := atP_pw (usort_pw _)
theorem formOf_len (ps : Fm) : (formOf ps).length ≤ ps.length :=
  Nat.le_trans (atP_len _) (by have := usort_len (ps.map (·.1)); simpa using this)
theorem formOf_mem {ps : Fm} {a : Int × Rat} (h : a ∈ formOf ps) : a.2 = cf ps a.1 ∧ a.2 ≠ 0 ∧ ∃ b ∈ ps, b.1 = a.1 := by
  obtain ⟨h1, h2, h3⟩ := mem_atP.mp h
  obtain ⟨b, hb, e⟩ := List.mem_map.mp (mem_usort.mp h1)
  exact ⟨h2, by rw [h2]; exact h3, b, hb, e⟩
theorem formOf_all {P : Int → Prop} {ps : Fm} (h : ∀ a ∈ ps, P a.1) : ∀ a ∈ formOf ps, P a.1 := fun a m => by
  obtain ⟨_, _, b, hb, e⟩ := formOf_mem m
  exact e ▸ h b hb
/-- what holds of sums -/
theorem cf_ind {P : Rat → Prop} (h0 : P 0) (ha : ∀ x y, P x → P y → P (x + y)) : ∀ {ps : Fm}, (∀ a ∈ ps, P a.2) → ∀ q, P (cf ps q)
  | [], _, _ => h0
  | a :: ps, h, q => by
    unfold cf
    refine ha _ _ ?_ (cf_ind h0 ha (fun b m => h b (List.mem_cons_of_mem _ m)) q)
    split
    · exact h a List.mem_cons_self
    · exact h0
theorem formOf_ind {P : Rat → Prop} (h0 : P 0) (ha : ∀ x y, P x → P y → P (x + y)) {ps : Fm} (h : ∀ a ∈ ps, P a.2) : ∀ a ∈ formOf ps, P a.2 := fun a m => by
  rw [(formOf_mem m).1]
  exact cf_ind h0 ha h _
theorem formOf_pos {ps : Fm} (h : ∀ a ∈ ps, (0 : Rat) ≤ a.2) : ∀ a ∈ formOf ps, (0 : Rat) < a.2 := fun a m => by
  have h1 := formOf_ind (P := fun c => (0 : Rat) ≤ c) (Rat.le_refl) (fun x y hx hy => by grind) h a m
  have h2 := (formOf_mem m).2.1
  grind
/-! denominators -/
def DD (D : Nat) (x : Rat) : Prop := x.den ∣ D
theorem DD.zero (D : Nat) : DD D 0 := Nat.one_dvd D
theorem dd_iff {D : Nat} {x : Rat} : DD D x ↔ ∃ z : Int, (D : Rat) * x = (z : Rat) := by
  constructor
  · rintro ⟨k, hk⟩
    refine ⟨k * x.num, ?_⟩
    have h1 := rat_eq x
    have h2 := den_ne x
    have h3 : (D : Rat) = ((x.den : Int) : Rat) * (k : Rat) := by rw [hk, Rat.natCast_mul, Rat.intCast_natCast]
    rw [Rat.intCast_mul, h3]
    have h4 : ((x.den : Int) : Rat) * x = (x.num : Rat) := by
      have : ((x.den : Int) : Rat) * ((x.num : Rat) / ((x.den : Int) : Rat)) = (x.num : Rat) := by grind
      rw [← h1] at this
      exact this
    have h5 : ((k : Int) : Rat) = (k : Rat) := Rat.intCast_natCast k
    rw [h5]
    grind
  · rintro ⟨z, hz⟩
    have h1 := rat_eq x
    have h2 := den_ne x
    have h4 : ((x.den : Int) : Rat) * x = (x.num : Rat) := by
      have : ((x.den : Int) : Rat) * ((x.num : Rat) / ((x.den : Int) : Rat)) = (x.num : Rat) := by grind
      rw [← h1] at this
      exact this
    have h5 : ((D : Int) : Rat) * (x.num : Rat) = (z : Rat) * ((x.den : Int) : Rat) := by
      have : ((D : Int) : Rat) = (D : Rat) := Rat.intCast_natCast D
      rw [this, ← h4, ← hz]; grind
    have h6 : (D : Int) * x.num = z * x.den := by
      rw [← Rat.intCast_mul, ← Rat.intCast_mul] at h5
      exact_mod_cast h5
    have h7 : (x.den : Int) ∣ (D : Int) * x.num := ⟨z, by rw [h6, Int.mul_comm]⟩
    have h8 : x.den ∣ D * x.num.natAbs := by
      have := Int.natAbs_dvd_natAbs.mpr h7
      simpa [Int.natAbs_mul] using this
    have h9 : Nat.Coprime x.den x.num.natAbs := x.reduced.symm
    exact h9.dvd_of_dvd_mul_right h8
theorem DD.add {D : Nat} {x y : Rat} (hx : DD D x) (hy : DD D y) : DD D (x + y) := by
  rw [dd_iff] at *
  obtain ⟨u, hu⟩ := hx
  obtain ⟨v, hv⟩ := hy
  exact ⟨u + v, by rw [Rat.mul_add, hu, hv, Rat.intCast_add]⟩
theorem DD.mul {D E : Nat} {x y : Rat} (hx : DD D x) (hy : DD E y) : DD (D * E) (x * y) := by
  rw [dd_iff] at *
  obtain ⟨u, hu⟩ := hx
  obtain ⟨v, hv⟩ := hy
  refine ⟨u * v, ?_⟩
  rw [Rat.intCast_mul, ← hu, ← hv, Rat.natCast_mul]
  grind
theorem DD.mono {D E : Nat} {x : Rat} (hx : DD D x) (h : D ∣ E) : DD E x := Nat.dvd_trans hx h
theorem DD.int (D : Nat) (z : Int) : DD D (z : Rat) := Nat.one_dvd D
theorem DD.qd {t b : Int} (hb : 0 < b) : DD b.toNat (qd t b) := by
  rw [dd_iff]
  refine ⟨t, ?_⟩
  have h : ((b.toNat : Nat) : Rat) = (b : Rat) := by
    have : ((b.toNat : Int) : Rat) = (b : Rat) := by rw [Int.toNat_of_nonneg (by omega)]
    rw [← this, Rat.intCast_natCast]
  rw [h, qd_eq]
  have := ic_ne hb
  grind
theorem DD.bits {D : Nat} {x : Rat} (h : DD D x) (hD : 0 < D) : bi (x.den : Int) ≤ bl D := by
  have : bi (x.den : Int) = bl x.den := by unfold bi; rw [Int.natAbs_natCast]
  rw [this]
  exact bl_mono (Nat.le_of_dvd hD h)
end GJ

/-! F2: powers; questions, plans, sizes and costs. -/
namespace GJ
theorem cast_ne {n : Int} (h : 0 < n) : (n : Rat) ≠ 0 := ic_ne h
/-- n to a whole power -/
abbrev zp (n : Int) (p : Int) : Rat := (n : Rat) ^ p
theorem zp_nat (n : Int) (k : Nat) : zp n k = ((n ^ k : Int) : Rat) := by
  show (n : Rat) ^ (k : Int) = _
  rw [Rat.zpow_natCast, Rat.intCast_pow]
theorem zp_add {n : Int} (h : 0 < n) (p q : Int) : zp n (p + q) = zp n p * zp n q := Rat.zpow_add (cast_ne h) p q
theorem zp_neg (n : Int) (p : Int) : zp n (-p) = (zp n p)⁻¹ := Rat.zpow_neg _ p
theorem zp_pos {n : Int} (h : 0 < n) (p : Int) : 0 < zp n p := Rat.zpow_pos (by exact_mod_cast h)
theorem zp_ne {n : Int} (h : 0 < n) (p : Int) : zp n p ≠ 0 := by have := zp_pos h p; grind
theorem zp_0 (n : Int) : zp n 0 = 1 := Rat.zpow_zero _
theorem zp_1 (n : Int) : zp n 1 = n := Rat.zpow_one _
theorem zp_sub {n : Int} (h : 0 < n) (p q : Int) : zp n (p - q) = zp n p / zp n q := by
  rw [Int.sub_eq_add_neg, zp_add h, zp_neg, Rat.div_def]
/-! ### plans -/
inductive Mth where
  | hash | index | loop
  deriving DecidableEq
inductive Plan where
  | leaf (i : Int)
  | join (l r : Plan) (m : Mth)
  deriving DecidableEq
def Plan.depth : Plan → Nat
  | .leaf _ => 0
  | .join l r _ => max l.depth r.depth + 1
def Plan.joins : Plan → Nat
  | .leaf _ => 0
  | .join l r _ => l.joins + r.joins + 1
def sortI (l : List Int) : List Int := l.mergeSort fun i j => decide (i ≤ j)
theorem mem_sortI {l : List Int} {x : Int} : x ∈ sortI l ↔ x ∈ l := List.mem_mergeSort
theorem sortI_perm (l : List Int) : (sortI l).Perm l := List.mergeSort_perm _ _
theorem sortI_pw (l : List Int) : (sortI l).Pairwise (· ≤ ·) := by
  have h := List.pairwise_mergeSort (le := fun i j : Int => decide (i ≤ j)) (by intro a b c; simp; omega) (by intro a b; simp; omega) l
  exact h.imp (by simp)
theorem sortI_len (l : List Int) : (sortI l).length = l.length := List.length_mergeSort l
/-- the tables of a plan, ascending -/
def tabs : Plan → List Int
  | .leaf i => [i]
  | .join l r _ => sortI (tabs l ++ tabs r)
theorem tabs_len : ∀ p : Plan, (tabs p).length = p.joins + 1
  | .leaf _ => rfl
  | .join l r _ => by
    simp only [tabs, sortI_len, List.length_append, Plan.joins, tabs_len l, tabs_len r]
    omega
theorem joins_le : ∀ p : Plan, p.joins + 1 ≤ 2 ^ p.depth
  | .leaf _ => by simp [Plan.joins, Plan.depth]
  | .join l r _ => by
    have h1 := joins_le l
    have h2 := joins_le r
    have h3 : 2 ^ l.depth ≤ 2 ^ max l.depth r.depth := Nat.pow_le_pow_right (by omega) (by omega)
    have h4 : 2 ^ r.depth ≤ 2 ^ max l.depth r.depth := Nat.pow_le_pow_right (by omega) (by omega)
    simp only [Plan.joins, Plan.depth, Nat.pow_succ]
    omega
theorem depth_le : ∀ p : Plan, p.depth ≤ p.joins
  | .leaf _ => Nat.le_refl _
  | .join l r _ => by
    have h1 := depth_le l
    have h2 := depth_le r
    simp only [Plan.joins, Plan.depth]
    omega
theorem tabs_small {p : Plan} {n : Nat} (h : p.depth ≤ n) (hn : n ≤ 10) : (tabs p).length ≤ 1024 := by
  have h1 := joins_le p
  have h2 : 2 ^ p.depth ≤ 2 ^ 10 := Nat.pow_le_pow_right (by omega) (by omega)
  rw [tabs_len]
  omega
/-! ### questions -/
structure Qn where
  ts : List (Int × Int)
  ls : List (Int × Int × Int × Int)
  ix : List Int
  deriving DecidableEq
def linkD (a b : List Int) (l : Int × Int × Int × Int) : Bool := (decide (l.1 ∈ a) && decide (l.2.1 ∈ b)) || (decide (l.1 ∈ b) && decide (l.2.1 ∈ a))
def linked (q : Qn) (a b : List Int) : Bool := q.ls.any (linkD a b)
def hasIx (q : Qn) : Plan → Bool
  | .leaf i => decide (i ∈ q.ix)
  | .join _ _ _ => false
def canStand (q : Qn) (l r : Plan) (m : Mth) : Bool := match m with
  | .loop => true
  | .index => hasIx q r && linked q (tabs l) (tabs r)
  | .hash => linked q (tabs l) (tabs r)
def canLed (q : Qn) : Plan → Bool
  | .leaf _ => true
  | .join l r m => canLed q l && (canLed q r && canStand q l r m)
structure TabOk (t : Int × Int) : Prop where
  a1 : 1 ≤ t.1
  a2 : t.1 ≤ 99
  p0 : 0 ≤ t.2
  p2 : t.2 ≤ 2
structure LnkOk (k : Int) (l : Int × Int × Int × Int) : Prop where
  o0 : 0 ≤ l.1
  lt : l.1 < l.2.1
  u : l.2.1 ≤ k - 1
  b1 : 1 ≤ l.2.2.1
  b2 : l.2.2.1 ≤ 99
  p0 : 0 ≤ l.2.2.2
  p2 : l.2.2.2 ≤ 2
/-- what of a question its sizes ask -/
structure QOk (q : Qn) : Prop where
  n2 : 2 ≤ q.ts.length
  n4 : q.ts.length ≤ 4
  tab : ∀ t ∈ q.ts, TabOk t
  nl : q.ls.length ≤ 6
  lnk : ∀ l ∈ q.ls, LnkOk q.ts.length l
abbrev InT (q : Qn) (ns : List Int) : Prop := ∀ i ∈ ns, 0 ≤ i ∧ i < q.ts.length
def tb (q : Qn) (i : Int) : Int × Int := q.ts.getD i.toNat (1, 0)
theorem tb_mem {q : Qn} {i : Int} (h0 : 0 ≤ i) (h : i < q.ts.length) : tb q i ∈ q.ts := by
  have h2 : i.toNat < q.ts.length := by omega
  unfold tb
  rw [List.getD_eq_getElem?_getD, List.getElem?_eq_getElem h2]
  exact List.getElem_mem h2
theorem tb_ok {q : Qn} (hq : QOk q) {i : Int} (h0 : 0 ≤ i) (h : i < q.ts.length) : TabOk (tb q i) := hq.tab _ (tb_mem h0 h)
/-! the size of some tables: (power, top, below) -/
def szT (q : Qn) : List Int → Int × Int
  | [] => (0, 1)
  | i :: l => ((szT q l).1 + (tb q i).2, (szT q l).2 * (tb q i).1)
def szL (ns : List Int) : List (Int × Int × Int × Int) → Int × Int
  | [] => (0, 1)
  | l :: ls => if l.1 ∈ ns ∧ l.2.1 ∈ ns then ((szL ns ls).1 + l.2.2.2, (szL ns ls).2 * l.2.2.1) else szL ns ls
def sizeP (q : Qn) (ns : List Int) : Int × Rat := ((szT q ns).1 - (szL ns q.ls).1, qd (szT q ns).2 (szL ns q.ls).2)
theorem szT_ok {q : Qn} (hq : QOk q) : ∀ {ns : List Int}, InT q ns → (0 ≤ (szT q ns).1 ∧ (szT q ns).1 ≤ 2 * ns.length) ∧ (1 ≤ (szT q ns).2 ∧ bi (szT q ns).2 ≤ 7 * ns.length + 1)
  | [], _ => ⟨⟨by simp [szT], by simp [szT]⟩, by simp [szT], by simp [szT]; decide⟩
  | i :: l, h => by
    obtain ⟨⟨h1, h2⟩, h3, h4⟩ := szT_ok hq fun j m => h j (List.mem_cons_of_mem _ m)
    obtain ⟨i1, i2⟩ := h i List.mem_cons_self
    obtain ⟨t1, t2, t3, t4⟩ := tb_ok hq i1 i2
    have b : bi (tb q i).1 ≤ 7 := bl_le (by omega) (by omega)
    have m := bi_mul (szT q l).2 (tb q i).1
    have p : 1 * 1 ≤ (szT q l).2 * (tb q i).1 := Int.mul_le_mul h3 t1 (by omega) (by omega)
    simp only [szT, List.length_cons]
    refine ⟨⟨by omega, by omega⟩, by omega, by omega⟩
theorem szL_ok {k : Int} (ns : List Int) : ∀ {ls : List (Int × Int × Int × Int)}, (∀ l ∈ ls, LnkOk k l) → (0 ≤ (szL ns ls).1 ∧ (szL ns ls).1 ≤ 2 * ls.length) ∧ (1 ≤ (szL ns ls).2 ∧ bi (szL ns ls).2 ≤ 7 * ls.length + 1)
  | [], _ => ⟨⟨by simp [szL], by simp [szL]⟩, by simp [szL], by simp [szL]; decide⟩
  | l :: ls, h => by
    obtain ⟨⟨h1, h2⟩, h3, h4⟩ := szL_ok ns (ls := ls) fun j m => h j (List.mem_cons_of_mem _ m)
    have o := h l List.mem_cons_self
    have t1 := o.b1
    have t2 := o.b2
    have t3 := o.p0
    have t4 := o.p2
    have b : bi l.2.2.1 ≤ 7 := bl_le (by omega) (by omega)
    have m := bi_mul (szL ns ls).2 l.2.2.1
    have p : 1 * 1 ≤ (szL ns ls).2 * l.2.2.1 := Int.mul_le_mul h3 t1 (by omega) (by omega)
    simp only [szL, List.length_cons]
    split
    · refine ⟨⟨by simp only; omega, by simp only; omega⟩, by simp only; omega, by simp only; omega⟩
    · refine ⟨⟨by omega, by omega⟩, by omega, by omega⟩
/-- the product of the numbers of all links -/
def belows : List (Int × Int × Int × Int) → Nat
  | [] => 1
  | l :: ls => belows ls * l.2.2.1.toNat
theorem belows_ok {k : Int} : ∀ {ls : List (Int × Int × Int × Int)}, (∀ l ∈ ls, LnkOk k l) → 0 < belows ls ∧ bl (belows ls) ≤ 7 * ls.length + 1
  | [], _ => ⟨by simp [belows], by simp [belows]; decide⟩
  | l :: ls, h => by
    obtain ⟨h1, h2⟩ := belows_ok (ls := ls) fun j m => h j (List.mem_cons_of_mem _ m)
    have o := h l List.mem_cons_self
    have t1 := o.b1
    have t2 := o.b2
    have b : bl l.2.2.1.toNat ≤ 7 := bl_le (by omega) (by omega)
    have m := bl_mul (belows ls) l.2.2.1.toNat
    refine ⟨Nat.mul_pos h1 (by omega), ?_⟩
    simp only [belows, List.length_cons]
    omega
theorem szL_dvd {k : Int} (ns : List Int) : ∀ {ls : List (Int × Int × Int × Int)}, (∀ l ∈ ls, LnkOk k l) → (szL ns ls).2.toNat ∣ belows ls
  | [], _ => by simp [szL, belows]
  | l :: ls, h => by
    have ih := szL_dvd ns (ls := ls) fun j m => h j (List.mem_cons_of_mem _ m)
    have o := (h l List.mem_cons_self).b1
    have p := (szL_ok ns (ls := ls) fun j m => h j (List.mem_cons_of_mem _ m)).2.1
    simp only [szL, belows]
    split
    · simp only
      rw [Int.toNat_mul (by omega) (by omega)]
      exact Nat.mul_dvd_mul ih (Nat.dvd_refl _)
    · exact Nat.dvd_trans ih (Nat.dvd_mul_right _ _)
theorem qd_pos {t b : Int} (ht : 0 < t) (hb : 0 < b) : 0 < qd t b := by
  rw [qd_eq, Rat.div_def]
  have h1 : (0 : Rat) < t := by exact_mod_cast ht
  have h2 : (0 : Rat) < b := by exact_mod_cast hb
  exact Rat.mul_pos h1 (Rat.inv_pos.mpr h2)
theorem sizeP_ok {q : Qn} (hq : QOk q) {ns : List Int} (h : InT q ns) : (-12 ≤ (sizeP q ns).1 ∧ (sizeP q ns).1 ≤ 2 * ns.length) ∧ 0 < (sizeP q ns).2 ∧ DD (belows q.ls) (sizeP q ns).2 ∧ sz (sizeP q ns).2 ≤ 7 * ns.length + 44 := by
  obtain ⟨⟨a1, a2⟩, a3, a4⟩ := szT_ok hq h
  obtain ⟨⟨b1, b2⟩, b3, b4⟩ := szL_ok ns hq.lnk
  have hl := hq.nl
  have e := sz_qd (t := (szT q ns).2) (b := (szL ns q.ls).2) (by omega)
  refine ⟨⟨by simp only [sizeP]; omega, by simp only [sizeP]; omega⟩, qd_pos (by omega) (by omega), (DD.qd (by omega)).mono (szL_dvd ns hq.lnk), ?_⟩
  simp only [sizeP]
  omega
/-! costs -/
def cst1 (f : Int × Rat) (m : Rat) : Fm := formOf [(f.1, f.2 * m)]
def joinF (q : Qn) (a b : List Int) : Mth → Fm
  | .loop => formOf [sizeP q (sortI (a ++ b)), ((sizeP q a).1 + (sizeP q b).1, (sizeP q a).2 * (sizeP q b).2)]
  | .hash => formOf [sizeP q (sortI (a ++ b)), sizeP q a, sizeP q b]
  | .index => formOf [sizeP q (sortI (a ++ b)), ((sizeP q a).1, (sizeP q a).2 * 3)]
def costF (q : Qn) : Plan → Fm
  | .leaf i => [sizeP q [i]]
  | .join l r m => formOf (costF q l ++ joinF q (tabs l) (tabs r) m ++ (if m = .index then [] else costF q r))
/-- the size for an n -/
def sizeR (q : Qn) (n : Int) (ns : List Int) : Rat := (sizeP q ns).2 * zp n (sizeP q ns).1
def joinR (q : Qn) (n : Int) (a b : List Int) : Mth → Rat
  | .loop => sizeR q n (sortI (a ++ b)) + sizeR q n a * sizeR q n b
  | .hash => sizeR q n (sortI (a ++ b)) + (sizeR q n a + sizeR q n b)
  | .index => sizeR q n (sortI (a ++ b)) + 3 * sizeR q n a
def costR (q : Qn) (n : Int) : Plan → Rat
  | .leaf i => sizeR q n [i]
  | .join l r m => costR q n l + joinR q n (tabs l) (tabs r) m + (if m = .index then 0 else costR q n r)
abbrev wr (n : Int) (f : Fm) : Rat := wv (fun p => zp n p) f
theorem wr_joinF (q : Qn) {n : Int} (h : 0 < n) (a b : List Int) (m : Mth) : wr n (joinF q a b m) = joinR q n a b m := by
  cases m <;> simp only [joinF, joinR, wr, wv_formOf, wv, sizeR, zp_add h] <;> grind
theorem wr_costF (q : Qn) {n : Int} (h : 0 < n) : ∀ p : Plan, wr n (costF q p) = costR q n p
  | .leaf i => by simp only [costF, costR, wr, wv, sizeR]; grind
  | .join l r m => by
    have h1 := wr_costF q h l
    have h2 := wr_costF q h r
    have h3 := wr_joinF q h (tabs l) (tabs r) m
    simp only [costF, costR, wr, wv_formOf, wv_append] at *
    rw [h1, h3]
    split
    · simp only [wv]
    · rw [h2]
/-! what stands in a form -/
structure FmOk (D : Nat) (lo hi : Int) (f : Fm) : Prop where
  pw : f.Pairwise fun a b => a.1 < b.1
  pos : ∀ a ∈ f, 0 < a.2
  dd : ∀ a ∈ f, DD D a.2
  lo : ∀ a ∈ f, lo ≤ a.1
  hi : ∀ a ∈ f, a.1 ≤ hi
structure PtOk (D : Nat) (lo hi : Int) (a : Int × Rat) : Prop where
  pos : 0 < a.2
  dd : DD D a.2
  lo : lo ≤ a.1
  hi : a.1 ≤ hi
theorem FmOk.pt {D : Nat} {lo hi : Int} {f : Fm} (h : FmOk D lo hi f) : ∀ a ∈ f, PtOk D lo hi a := fun a m => ⟨h.pos a m, h.dd a m, h.lo a m, h.hi a m⟩
theorem formOf_ok {D : Nat} {lo hi : Int} {ps : Fm} (h : ∀ a ∈ ps, PtOk D lo hi a) : FmOk D lo hi (formOf ps) :=
  ⟨formOf_pw ps, formOf_pos fun a m => by have := (h a m).pos; grind, formOf_ind (DD.zero D) (fun _ _ => DD.add) fun a m => (h a m).dd, formOf_all (P := fun p => lo ≤ p) fun a m => (h a m).lo, formOf_all (P := fun p => p ≤ hi) fun a m => (h a m).hi⟩
abbrev DQ (q : Qn) : Nat := belows q.ls * belows q.ls
theorem dd_sq {D : Nat} {x : Rat} (h : DD D x) : DD (D * D) x := h.mono (Nat.dvd_mul_right _ _)
theorem sizeP_pt {q : Qn} (hq : QOk q) {ns : List Int} (h : InT q ns) (hn : ns.length ≤ 4) : PtOk (DQ q) (-24) 16 (sizeP q ns) := by
  obtain ⟨⟨a1, a2⟩, a3, a4, a5⟩ := sizeP_ok hq h
  exact ⟨a3, dd_sq a4, by omega, by omega⟩
theorem InT.app {q : Qn} {a b : List Int} (ha : InT q a) (hb : InT q b) : InT q (sortI (a ++ b)) := fun i m => by
  rcases List.mem_append.mp (mem_sortI.mp m) with m | m
  · exact ha i m
  · exact hb i m
theorem joinF_ok {q : Qn} (hq : QOk q) {a b : List Int} (ha : InT q a) (hb : InT q b) (hn : a.length + b.length ≤ 4) (m : Mth) : FmOk (DQ q) (-24) 16 (joinF q a b m) ∧ (joinF q a b m).length ≤ 3 := by
  have w := sizeP_pt hq (ha.app hb) (by rw [sortI_len, List.length_append]; omega)
  have wa := sizeP_pt hq ha (by omega)
  have wb := sizeP_pt hq hb (by omega)
  obtain ⟨⟨a1, a2⟩, a3, a4, a5⟩ := sizeP_ok hq ha
  obtain ⟨⟨b1, b2⟩, b3, b4, b5⟩ := sizeP_ok hq hb
  cases m
  · refine ⟨formOf_ok ?_, formOf_len _⟩
    simp only [List.mem_cons, List.not_mem_nil, or_false]
    rintro x (rfl | rfl | rfl) <;> assumption
  · refine ⟨formOf_ok ?_, Nat.le_trans (formOf_len _) (by simp)⟩
    simp only [List.mem_cons, List.not_mem_nil, or_false]
    rintro x (rfl | rfl)
    · assumption
    · exact ⟨Rat.mul_pos a3 (by decide), by have := (DD.mul a4 (DD.int 1 3)); rw [Nat.mul_one] at this; exact dd_sq this, by simp only; omega, by simp only; omega⟩
  · refine ⟨formOf_ok ?_, Nat.le_trans (formOf_len _) (by simp)⟩
    simp only [List.mem_cons, List.not_mem_nil, or_false]
    rintro x (rfl | rfl)
    · assumption
    · exact ⟨Rat.mul_pos a3 b3, DD.mul a4 b4, by simp only; omega, by simp only; omega⟩
theorem tabs_mem {l r : Plan} {m : Mth} {i : Int} : i ∈ tabs (.join l r m) ↔ i ∈ tabs l ∨ i ∈ tabs r := by
  simp only [tabs, mem_sortI, List.mem_append]
theorem costF_ok {q : Qn} (hq : QOk q) : ∀ {p : Plan}, InT q (tabs p) → p.joins ≤ 3 → FmOk (DQ q) (-24) 16 (costF q p) ∧ (costF q p).length ≤ 4 * p.joins + 1
  | .leaf i, h, _ => by
    have w := sizeP_pt hq (ns := [i]) h (by simp)
    refine ⟨⟨by simp [costF], ?_, ?_, ?_, ?_⟩, by simp [costF]⟩ <;> simp only [costF, List.mem_singleton] <;> rintro a rfl
    · exact w.pos
    · exact w.dd
    · exact w.lo
    · exact w.hi
  | .join l r m, h, hj => by
    simp only [Plan.joins] at hj
    have hl : InT q (tabs l) := fun i z => h i (tabs_mem.mpr (.inl z))
    have hr : InT q (tabs r) := fun i z => h i (tabs_mem.mpr (.inr z))
    obtain ⟨l1, l2⟩ := costF_ok hq hl (by omega)
    obtain ⟨r1, r2⟩ := costF_ok hq hr (by omega)
    obtain ⟨j1, j2⟩ := joinF_ok hq hl hr (by rw [tabs_len, tabs_len]; omega) m
    refine ⟨formOf_ok ?_, Nat.le_trans (formOf_len _) ?_⟩
    · intro a ma
      rcases List.mem_append.mp ma with ma | ma
      rcases List.mem_append.mp ma with ma | ma
      · exact l1.pt a ma
      · exact j1.pt a ma
      · split at ma
        · cases ma
        · exact r1.pt a ma
    · rw [List.length_append, List.length_append]
      have e : (if m = Mth.index then [] else costF q r).length ≤ 4 * r.joins + 1 := by
        split
        · simp
        · exact r2
      simp only [Plan.joins]
      omega
end GJ

/-! P2: what the readings of the validators answer. -/
namespace GJ
open PySem PySem.Spec PyProof.Rows L2
/-! ### isinstance by data -/
@[simp] theorem kit_NoneType_int : kitB "NoneType" "int" = some false := by decide +kernel
@[simp] theorem kit_bool_int : kitB "bool" "int" = some true := by decide +kernel
@[simp] theorem kit_int_int : kitB "int" "int" = some true := by decide +kernel
@[simp] theorem kit_str_int : kitB "str" "int" = some false := by decide +kernel
@[simp] theorem kit_list_int : kitB "list" "int" = some false := by decide +kernel
@[simp] theorem kit_tuple_int : kitB "tuple" "int" = some false := by decide +kernel
@[simp] theorem kit_dict_int : kitB "dict" "int" = some false := by decide +kernel
@[simp] def isInt (d : PyData) : Bool := match d with
  | .bool _ => true
  | .int _ => true
  | _ => false
@[simp] theorem kit_int (d : PyData) : kitB (tyD d) "int" = some (isInt d) := by cases d <;> simp
@[simp] theorem kit_NoneType_bool : kitB "NoneType" "bool" = some false := by decide +kernel
@[simp] theorem kit_bool_bool : kitB "bool" "bool" = some true := by decide +kernel
@[simp] theorem kit_int_bool : kitB "int" "bool" = some false := by decide +kernel
@[simp] theorem kit_str_bool : kitB "str" "bool" = some false := by decide +kernel
@[simp] theorem kit_list_bool : kitB "list" "bool" = some false := by decide +kernel
@[simp] theorem kit_tuple_bool : kitB "tuple" "bool" = some false := by decide +kernel
@[simp] theorem kit_dict_bool : kitB "dict" "bool" = some false := by decide +kernel
@[simp] def isBool (d : PyData) : Bool := match d with
  | .bool _ => true
  | _ => false
@[simp] theorem kit_bool (d : PyData) : kitB (tyD d) "bool" = some (isBool d) := by cases d <;> simp
@[simp] theorem kit_NoneType_tuple : kitB "NoneType" "tuple" = some false := by decide +kernel
@[simp] theorem kit_bool_tuple : kitB "bool" "tuple" = some false := by decide +kernel
@[simp] theorem kit_int_tuple : kitB "int" "tuple" = some false := by decide +kernel
@[simp] theorem kit_str_tuple : kitB "str" "tuple" = some false := by decide +kernel
@[simp] theorem kit_list_tuple : kitB "list" "tuple" = some false := by decide +kernel
@[simp] theorem kit_tuple_tuple : kitB "tuple" "tuple" = some true := by decide +kernel
@[simp] theorem kit_dict_tuple : kitB "dict" "tuple" = some false := by decide +kernel
@[simp] def isTuple (d : PyData) : Bool := match d with
  | .tuple _ => true
  | _ => false
@[simp] theorem kit_tuple (d : PyData) : kitB (tyD d) "tuple" = some (isTuple d) := by cases d <;> simp
@[simp] theorem kit_NoneType_str : kitB "NoneType" "str" = some false := by decide +kernel
@[simp] theorem kit_bool_str : kitB "bool" "str" = some false := by decide +kernel
@[simp] theorem kit_int_str : kitB "int" "str" = some false := by decide +kernel
@[simp] theorem kit_str_str : kitB "str" "str" = some true := by decide +kernel
@[simp] theorem kit_list_str : kitB "list" "str" = some false := by decide +kernel
@[simp] theorem kit_tuple_str : kitB "tuple" "str" = some false := by decide +kernel
@[simp] theorem kit_dict_str : kitB "dict" "str" = some false := by decide +kernel
@[simp] def isStr (d : PyData) : Bool := match d with
  | .str _ => true
  | _ => false
@[simp] theorem kit_str (d : PyData) : kitB (tyD d) "str" = some (isStr d) := by cases d <;> simp

/-! ### laws of readings -/
def Law (S : SpD) (m : MS) (N : List Str) : Prop := ∀ (ws : List W) (Q : W → Prop) (R : Addr → Prop), S ws Q R → m { nx := fun _ => Q (.val .none), rt := Q, ex := R } (ini N ws)
/-- an answer that is wanted -/
structure Ret (Q : W → Prop) (b : Bool) : Prop where
  run : ∀ c, c = b → Q (.val (.bool c))
theorem Ret.mk' {Q : W → Prop} {b : Bool} (h : Q (.val (.bool b))) : Ret Q b := ⟨fun _ e => e ▸ h⟩
/-! is_number, is_tuple -/
def isNum (d : PyData) (a b : Int) : Bool := match d with
  | .int i => decide (a ≤ i) && decide (i ≤ b)
  | _ => false
def isTup (d : PyData) (a b : Int) : Bool := match d with
  | .tuple ds => decide (a ≤ (ds.length : Int)) && decide ((ds.length : Int) ≤ b)
  | _ => false
@[simp] def S_is_number : SpD := fun ws Q _ => match ws with
  | [.val d, .val (.int a), .val (.int b)] => Q (.val (.bool (isNum d a b)))
  | _ => False
@[simp] def S_is_tuple : SpD := fun ws Q _ => match ws with
  | [.val d, .val (.int a), .val (.int b)] => Q (.val (.bool (isTup d a b)))
  | _ => False
theorem p_is_number : Law S_is_number m_is_number N_is_number := by
  intro ws Q R h
  unfold S_is_number at h
  split at h
  · rename_i d a b
    cases d <;> simp_all [m_is_number, N_is_number, isNum]
    rename_i i
    by_cases h1 : a ≤ i <;> simp_all <;> (intro z; omega)
  · exact h.elim
theorem p_is_tuple : Law S_is_tuple m_is_tuple N_is_tuple := by
  intro ws Q R h
  unfold S_is_tuple at h
  split at h
  · rename_i d a b
    cases d <;> simp_all [m_is_tuple, N_is_tuple, isTup]
    rename_i i
    by_cases h1 : a ≤ i.length <;> simp_all <;> (intro z; omega)
  · exact h.elim
/-! ### loops -/
def LcStep (gd : MG) (mt : MB) (me : M) (γ : DEnv) (d : PyData) (p : Bool) (e : PyData) : Prop :=
  ∀ (X : PyData → Prop) (Y : Prop), (p = true → X e) → (p = false → Y) → gd (.val d) γ fun γ1 => mt γ1 (fun b => (b = true → me γ1 (isV X) noR) ∧ (b = false → Y)) noR
theorem lcRun_ok {gd : MG} {mt : MB} {me : M} {γ : DEnv} {p : PyData → Bool} {f : PyData → PyData} : ∀ (ds acc : List PyData) (K : List PyData → Prop),
    (∀ d ∈ ds, LcStep gd mt me γ d (p d) (f d)) → ds.length + acc.length ≤ 16000000 → K (acc ++ (ds.filter p).map f) → lcRun gd mt me γ ds acc K
  | [], acc, K, _, _, k => by simpa [lcRun] using k
  | d :: ds, acc, K, h, hz, k => by
    unfold lcRun
    have hz' : ds.length + 1 + acc.length ≤ 16000000 := by simpa using hz
    refine h d List.mem_cons_self _ _ (fun e => ?_) (fun e => ?_)
    · refine ⟨by unfold SzOk; omega, lcRun_ok ds _ K (fun d' m => h d' (List.mem_cons_of_mem _ m)) (by simp; omega) ?_⟩
      rw [List.filter_cons, if_pos e] at k
      simpa using k
    · refine lcRun_ok ds _ K (fun d' m => h d' (List.mem_cons_of_mem _ m)) (by omega) ?_
      rw [List.filter_cons, if_neg (by simp [e])] at k
      exact k
/-- no test -/
theorem lcRun_map {gd : MG} {me : M} {γ : DEnv} {f : PyData → PyData} (ds : List PyData) (K : List PyData → Prop)
    (h : ∀ d ∈ ds, ∀ X : PyData → Prop, X (f d) → gd (.val d) γ fun γ1 => me γ1 (isV X) noR) (hz : ds.length ≤ 16000000) (k : K (ds.map f)) : lcRun gd mYes me γ ds [] K := by
  refine lcRun_ok (p := fun _ => true) (f := f) ds [] K (fun d m X Y h1 _ => ?_) (by simpa using hz) ?_
  · have z := h d m X (h1 rfl)
    show gd (.val d) γ fun γ1 => (true = true → me γ1 (isV X) noR) ∧ (true = false → Y)
    have e : (fun γ1 => me γ1 (isV X) noR) = fun γ1 => (true = true → me γ1 (isV X) noR) ∧ (true = false → Y) := by funext γ1; simp
    rw [← e]
    exact z
  · rw [List.filter_eq_self.mpr (fun _ _ => rfl)]
    exact k
theorem mFor_fold {α : Type} {g : MG} {mb : MS} {D : DE} {J : α → DEnv → Prop} {stp : α → PyData → α} : ∀ (ds : List PyData) (a : α) (γ : DEnv), J a γ →
    (∀ d ∈ ds, ∀ (a : α) (γ : DEnv), J a γ → ∀ N : DEnv → Prop, (∀ γ', J (stp a d) γ' → N γ') → g (.val d) γ fun γ1 => mb { D with nx := N, ct := N, bk := D.nx } γ1) →
    (∀ γ, J (ds.foldl stp a) γ → D.nx γ) → mFor g mb ds D γ
  | [], a, γ, h, _, k => k γ h
  | d :: ds, a, γ, h, hs, k => by
    unfold mFor
    exact hs d List.mem_cons_self a γ h _ fun γ' h' => mFor_fold ds (stp a d) γ' h' (fun d' m => hs d' (List.mem_cons_of_mem _ m)) k
/-! ### divisor, reduced -/
@[simp] def S_divisor : SpD := fun ws Q _ => match ws with
  | [.val (.int a), .val (.int b)] => 0 ≤ b ∧ Q (.val (.int (Int.gcd a b)))
  | _ => False
theorem eqOk_int (i j : Int) : EqOk (.int i) (.int j) := ⟨rfl, rfl, by show min 0 0 ≤ 60; omega⟩
theorem p_divisor : Law S_divisor m_divisor N_divisor := by
  intro ws Q R h
  unfold S_divisor at h
  split at h
  · rename_i a b
    refine ⟨fun m γ => ∃ a' b' : Int, γ = [some (.val (.int a')), some (.val (.int b'))] ∧ 0 ≤ b' ∧ b'.toNat = m ∧ Int.gcd a' b' = Int.gcd a b, ⟨b.toNat, a, b, by simp [N_divisor], h.1, rfl, rfl⟩, ?_⟩
    rintro m γ ⟨a', b', rfl, h1, h2, h3⟩
    simp [eqOk_int, PyData.eqv]
    refine ⟨fun hb => ⟨by omega, (a' % b').toNat, ?_, b', a' % b', ⟨rfl, rfl⟩, Int.emod_nonneg _ hb, rfl, ?_⟩, fun hb => ?_⟩
    · have := Int.emod_lt_of_pos a' (b := b') (by omega)
      have := Int.emod_nonneg a' hb
      omega
    · rw [Int.emod_def, Int.gcd_sub_mul_left_right, Int.gcd_comm, h3]
    · subst hb
      have e : Int.gcd a' 0 = a'.natAbs := by simp
      rw [← e, h3]
      exact h.2
  · exact h.elim
/-- a fraction as a pair -/
def eR (x : Rat) : PyData := .tuple (.int x.num :: .int x.den :: .nil)
@[simp] def S_reduced : SpD := fun ws Q _ => match ws with
  | [.val (.int t), .val (.int b)] => (0 < b ∧ bi b ≤ 9000) ∧ Q (.val (eR (qd t b)))
  | _ => False
theorem gcd_le {t b : Int} (hb : 0 < b) : (Int.gcd t b : Int) ≤ b := by
  have := Int.gcd_dvd_right t b
  exact Int.le_of_dvd hb this
theorem gcd_pos {t b : Int} (hb : 0 < b) : 0 < (Int.gcd t b : Int) := by
  have := Int.gcd_pos_of_ne_zero_right t (b := b) (by omega)
  omega
theorem divOk_of {j : Int} (h : 0 < j) (k : bi j ≤ 9000) : DivOk j := ⟨h, by unfold bi bl at k; omega⟩
theorem bi_mono {i j : Int} (h0 : 0 ≤ i) (h : i ≤ j) : bi i ≤ bi j := bl_mono (by omega)
theorem p_reduced : Law S_reduced (m_reduced S_divisor) N_reduced := by
  intro ws Q R h
  unfold S_reduced at h
  split at h
  · rename_i t b
    obtain ⟨⟨hb, hz⟩, h⟩ := h
    have hd : DivOk (Int.gcd t b : Int) := divOk_of (gcd_pos hb) (Nat.le_trans (bi_mono (by omega) (gcd_le hb)) hz)
    simp [m_reduced, N_reduced, hd]
    refine ⟨by omega, ?_⟩
    rw [qd_num hb, qd_den hb]
    exact h
  · exact h.elim
/-! ### validators -/
@[simp] theorem atI_0 {α : Type} (x : α) (l : List α) : atI (x :: l) 0 = some x := by simp [atI, ixN]
@[simp] theorem atI_1 {α : Type} (x y : α) (l : List α) : atI (x :: y :: l) 1 = some y := by
  have h : (1 : Int) < (l.length : Int) + 1 + 1 := by omega
  simp [atI, ixN, h]
@[simp] theorem atI_2 {α : Type} (x y z : α) (l : List α) : atI (x :: y :: z :: l) 2 = some z := by
  have h : (2 : Int) < (l.length : Int) + 1 + 1 + 1 := by omega
  simp [atI, ixN, h]
@[simp] theorem atI_3 {α : Type} (x y z u : α) (l : List α) : atI (x :: y :: z :: u :: l) 3 = some u := by
  have h : (3 : Int) < (l.length : Int) + 1 + 1 + 1 + 1 := by omega
  simp [atI, ixN, h]
theorem isTup_out {d : PyData} {a b : Int} (h : isTup d a b = true) : ∃ ds, d = .tuple ds ∧ a ≤ (ds.length : Int) ∧ (ds.length : Int) ≤ b := by
  cases d <;> simp [isTup] at h
  exact ⟨_, rfl, h⟩
theorem len2 {α : Type} {l : List α} (h : (2 : Int) ≤ l.length) (k : (l.length : Int) ≤ 2) : ∃ x y, l = [x, y] := by
  match l, h, k with
  | [x, y], _, _ => exact ⟨x, y, rfl⟩
  | [], h, _ => simp at h
  | [_], h, _ => simp at h
  | _ :: _ :: _ :: _, _, k => simp at k; omega
theorem len3 {α : Type} {l : List α} (h : (3 : Int) ≤ l.length) (k : (l.length : Int) ≤ 3) : ∃ x y z, l = [x, y, z] := by
  match l, h, k with
  | [x, y, z], _, _ => exact ⟨x, y, z, rfl⟩
  | [], h, _ => simp at h
  | [_], h, _ => simp at h
  | [_, _], h, _ => simp at h
  | _ :: _ :: _ :: _ :: _, _, k => simp at k; omega
theorem len4 {α : Type} {l : List α} (h : (4 : Int) ≤ l.length) (k : (l.length : Int) ≤ 4) : ∃ x y z u, l = [x, y, z, u] := by
  match l, h, k with
  | [x, y, z, u], _, _ => exact ⟨x, y, z, u, rfl⟩
  | [], h, _ => simp at h
  | [_], h, _ => simp at h
  | [_, _], h, _ => simp at h
  | [_, _, _], h, _ => simp at h
  | _ :: _ :: _ :: _ :: _ :: _, _, k => simp at k; omega
@[simp] theorem isNum_int (i a b : Int) : isNum (.int i) a b = (decide (a ≤ i) && decide (i ≤ b)) := rfl
@[simp] theorem isNum_none (a b : Int) : isNum .none a b = false := rfl
@[simp] theorem isNum_bool (x : Bool) (a b : Int) : isNum (.bool x) a b = false := rfl
@[simp] theorem isNum_str (x : Str) (a b : Int) : isNum (.str x) a b = false := rfl
@[simp] theorem isNum_list (x : List PyData) (a b : Int) : isNum (.list x) a b = false := rfl
@[simp] theorem isNum_tuple (x : List PyData) (a b : Int) : isNum (.tuple x) a b = false := rfl
@[simp] theorem isNum_dict (x : List (PyData × PyData)) (a b : Int) : isNum (.dict x) a b = false := rfl
def isTable (d : PyData) : Bool := match d with
  | .tuple [a, b] => isNum a 1 99 && isNum b 0 2
  | _ => false
@[simp] def S_is_table : SpD := fun ws Q _ => match ws with
  | [.val d] => Q (.val (.bool (isTable d)))
  | _ => False
theorem p_is_table : Law S_is_table (m_is_table S_is_tuple S_is_number) N_is_table := by
  intro ws Q R h
  unfold S_is_table at h
  split at h
  · rename_i d
    by_cases ht : isTup d 2 2 = true
    · obtain ⟨ds, rfl, h1, h2⟩ := isTup_out ht
      obtain ⟨x, y, rfl⟩ := len2 h1 h2
      simp [m_is_table, N_is_table, ht]
      cases e : isNum x 1 99 <;> simp_all [isTable]
    · have e : isTable d = false := by
        unfold isTable
        split
        · exact absurd rfl ht
        · rfl
      rw [e] at h
      simp [m_is_table, N_is_table, ht, h]
  · exact h.elim
def isLink (k : Int) (d : PyData) : Bool := match d with
  | .tuple [.int a, .int b, c, e] => (decide (0 ≤ a) && decide (a ≤ k - 1)) && (decide (0 ≤ b) && decide (b ≤ k - 1)) && (decide (a < b) && (isNum c 1 99 && isNum e 0 2))
  | _ => false
@[simp] def S_is_link : SpD := fun ws Q _ => match ws with
  | [.val (.int k), .val d] => Q (.val (.bool (isLink k d)))
  | _ => False
theorem p_is_link : Law S_is_link (m_is_link S_is_tuple S_is_number) N_is_link := by
  intro ws Q R h
  unfold S_is_link at h
  split at h
  · rename_i k d
    by_cases ht : isTup d 4 4 = true
    · obtain ⟨ds, rfl, h1, h2⟩ := isTup_out ht
      obtain ⟨x, y, z, u, rfl⟩ := len4 h1 h2
      simp [m_is_link, N_is_link, ht]
      have hr := Ret.mk' h
      clear h
      cases x <;> cases y <;> simp [isLink] at hr ⊢
      case int.int a b =>
        cases e1 : isNum z 1 99 <;> cases e2 : isNum u 0 2 <;> simp [e1, e2] at hr ⊢
        all_goals (repeat' (first | apply And.intro | intro _))
        all_goals exact hr.run _ (by first | rfl | (rw [Bool.eq_iff_iff]; simp; done) | (rw [Bool.eq_iff_iff]; simp; omega))
      all_goals (repeat' (first | apply And.intro | intro _))
      all_goals exact hr.run _ (by first | rfl | (rw [Bool.eq_iff_iff]; simp; done) | (rw [Bool.eq_iff_iff]; simp; omega))
    · have e : isLink k d = false := by
        unfold isLink
        split
        · exact absurd rfl ht
        · rfl
      rw [e] at h
      simp [m_is_link, N_is_link, ht, h]
  · exact h.elim
/-! are_numbers -/
def toI : PyData → Int
  | .int i => i
  | _ => 0
def asc : List Int → Bool
  | a :: b :: l => decide (a < b) && asc (b :: l)
  | _ => true
def isNums (k : Int) (d : PyData) (l : Int) : Bool := match d with
  | .tuple ds => (decide (l ≤ (ds.length : Int)) && decide ((ds.length : Int) ≤ k)) && (ds.all (isNum · 0 (k - 1)) && asc (ds.map toI))
  | _ => false
@[simp] def S_are_numbers : SpD := fun ws Q _ => match ws with
  | [.val (.int k), .val d, .val (.int l)] => k ≤ 1000 ∧ Q (.val (.bool (isNums k d l)))
  | _ => False
theorem bools_all (f : PyData → Bool) : ∀ ds : List PyData, bools? (ds.map fun d => .bool (f d)) = some (ds.map f)
  | [] => rfl
  | d :: ds => by
    simp only [List.map_cons, bools?, bools_all f ds]
    rfl
theorem num_toI {d : PyData} {a b : Int} (h : isNum d a b = true) : d = .int (toI d) := by
  cases d <;> simp [isNum] at h
  rfl
theorem asc_zip : ∀ ns : List Int, ((ns.zip (ns.drop 1)).all fun p => decide (p.1 < p.2)) = asc ns
  | [] => rfl
  | [_] => rfl
  | a :: b :: l => by
    have ih := asc_zip (b :: l)
    simp only [List.drop_succ_cons, List.drop_zero, List.zip_cons_cons, List.all_cons, asc] at ih ⊢
    rw [ih]
theorem cutD_1 (ds : List PyData) : cutD ds (some 1) none = ds.drop 1 := by
  unfold cutD HT.sIx
  cases ds with
  | nil => rfl
  | cons d ds => simp
def ltB (d : PyData) : Bool := match d with
  | .tuple [a, b] => decide (toI a < toI b)
  | _ => false
def ltP (d : PyData) : PyData := .bool (ltB d)
theorem zipD_mem {ds es : List PyData} {d : PyData} (h : d ∈ zipD ds es) : ∃ a b, a ∈ ds ∧ b ∈ es ∧ d = .tuple [a, b] := by
  obtain ⟨⟨a, b⟩, hp, rfl⟩ := List.mem_map.mp h
  exact ⟨a, b, (List.of_mem_zip hp).1, (List.of_mem_zip hp).2, rfl⟩
theorem p_are_numbers : Law S_are_numbers (m_are_numbers S_is_tuple S_is_number) N_are_numbers := by
  intro ws Q R h
  unfold S_are_numbers at h
  split at h
  · rename_i k d l
    obtain ⟨hk, h⟩ := h
    by_cases ht : isTup d l k = true
    · obtain ⟨ds, rfl, h1, h2⟩ := isTup_out ht
      have hr := Ret.mk' h
      clear h
      simp [m_are_numbers, N_are_numbers, ht]
      refine lcRun_map (f := fun d => .bool (isNum d 0 (k - 1))) ds _ (fun d m X hX => ?_) (by omega) ?_
      · simp
        exact hX
      · simp only [bools_all]
        refine ⟨fun hm => hr.run _ ?_, fun hm => ?_⟩
        · obtain ⟨d, hd, e⟩ := List.mem_map.mp hm
          have : ds.all (isNum · 0 (k - 1)) = false := by
            rw [List.all_eq_false]
            exact ⟨d, hd, by simp [e]⟩
          simp [isNums, this]
        · have hall : ∀ d ∈ ds, d = .int (toI d) := fun d hd => num_toI (a := 0) (b := k - 1) (by
            cases e : isNum d 0 (k - 1)
            · exact absurd (List.mem_map.mpr ⟨d, hd, e⟩) hm
            · rfl)
          have hall2 : ds.all (isNum · 0 (k - 1)) = true := by
            rw [List.all_eq_true]
            intro d hd
            cases e : isNum d 0 (k - 1)
            · exact absurd (List.mem_map.mpr ⟨d, hd, e⟩) hm
            · rfl
          rw [cutD_1]
          refine lcRun_map (f := ltP) _ _ (fun d m X hX => ?_) ?_ ?_
          · obtain ⟨a, b, ha, hb, rfl⟩ := zipD_mem m
            rw [hall a ha, hall b (List.mem_of_mem_drop hb)] at hX ⊢
            simp
            exact hX
          · rw [zipD_len]; omega
          · have e : (zipD ds (ds.drop 1)).map ltP = (zipD ds (ds.drop 1)).map fun d => .bool (ltB d) := rfl
            rw [e, bools_all]
            refine hr.run _ ?_
            have e2 : isNums k (.tuple ds) l = asc (ds.map toI) := by
              simp [isNums, h1, h2, hall2]
            rw [e2, ← asc_zip, List.all_map]
            have e3 : (zipD ds (ds.drop 1)) = ((ds.zip (ds.drop 1)).map fun p => .tuple [p.1, p.2]) := rfl
            rw [e3, List.all_map, ← List.map_drop, List.zip_map, List.all_map]
            rfl
    · have e : isNums k d l = false := by
        unfold isNums
        unfold isTup at ht
        split
        · simp at ht ⊢
          intro a b
          omega
        · rfl
      rw [e] at h
      simp [m_are_numbers, N_are_numbers, ht, h]
  · exact h.elim
/-! is_good_question -/
/-- the first two of a link -/
def two (d : PyData) : List PyData := match d with
  | .tuple (a :: b :: _) => [a, b]
  | _ => []
def ltL (d : PyData) : Bool := match d with
  | .tuple [a, b] => HT.lexLt ((two a).map toI) ((two b).map toI)
  | _ => false
def isQ (d : PyData) : Bool := match d with
  | .tuple [.tuple ts, .tuple ls, ix] => ((decide (2 ≤ (ts.length : Int)) && decide ((ts.length : Int) ≤ 4)) && ts.all isTable) && (((decide ((ls.length : Int) ≤ 6)) && ls.all (isLink ts.length)) && ((zipD ls (ls.drop 1)).all ltL && isNums ts.length ix 0))
  | _ => false
@[simp] def S_is_good_question : SpD := fun ws Q _ => match ws with
  | [.val d] => Q (.val (.bool (isQ d)))
  | _ => False
theorem link_out {k : Int} {d : PyData} (h : isLink k d = true) : ∃ a b c e, d = .tuple [.int a, .int b, c, e] := by
  unfold isLink at h
  split at h
  · exact ⟨_, _, _, _, rfl⟩
  · cases h
theorem cutD_2 (a b c e : PyData) : cutD [a, b, c, e] none (some 2) = [a, b] := by
  simp [cutD, HT.sIx]
theorem all_false {f : PyData → Bool} {ds : List PyData} (h : false ∈ ds.map f) : ds.all f = false := by
  obtain ⟨d, hd, e⟩ := List.mem_map.mp h
  rw [List.all_eq_false]
  exact ⟨d, hd, by simp [e]⟩
theorem all_true {f : PyData → Bool} {ds : List PyData} (h : ¬ false ∈ ds.map f) : ds.all f = true := by
  rw [List.all_eq_true]
  intro d hd
  cases e : f d
  · exact absurd (List.mem_map.mpr ⟨d, hd, e⟩) h
  · rfl
theorem isQ_eq (ts ls : List PyData) (ix : PyData) : isQ (.tuple [.tuple ts, .tuple ls, ix]) = (((decide (2 ≤ (ts.length : Int)) && decide ((ts.length : Int) ≤ 4)) && ts.all isTable) && (((decide ((ls.length : Int) ≤ 6)) && ls.all (isLink ts.length)) && ((zipD ls (ls.drop 1)).all ltL && isNums ts.length ix 0))) := rfl
theorem p_is_good_question : Law S_is_good_question (m_is_good_question S_is_tuple S_is_table S_is_link S_are_numbers) N_is_good_question := by
  intro ws Q R h
  unfold S_is_good_question at h
  split at h
  · rename_i d
    have hr := Ret.mk' h
    clear h
    by_cases ht : isTup d 3 3 = true
    · obtain ⟨ds, rfl, h1, h2⟩ := isTup_out ht
      obtain ⟨t, l, ix, rfl⟩ := len3 h1 h2
      by_cases ht2 : isTup t 2 4 = true
      · obtain ⟨ts, rfl, h3, h4⟩ := isTup_out ht2
        simp [m_is_good_question, N_is_good_question, ht, ht2]
        refine lcRun_map (f := fun d => .bool (isTable d)) ts _ (fun d m X hX => ?_) (by omega) ?_
        · simp
          exact hX
        · simp only [bools_all]
          refine ⟨fun hm => hr.run _ ?_, fun hm => ?_⟩
          · have e := all_false hm
            unfold isQ
            split
            · rename_i z
              cases z
              rw [e]
              simp only [Bool.and_false, Bool.false_and]
            · rfl
          · have et := all_true hm
            refine ⟨fun hl => hr.run _ ?_, fun hl => ?_⟩
            · unfold isQ
              split
              · rename_i z
                injection z with z
                injection z with z1 z
                injection z with z2 z
                subst z2
                simp [isTup] at hl
                have : ¬ ((_ : List PyData).length : Int) ≤ 6 := Int.not_le.mpr hl
                simp [this]
              · rfl
            · obtain ⟨ls, rfl, h5, h6⟩ := isTup_out hl
              simp
              refine lcRun_map (f := fun d => .bool (isLink ts.length d)) ls _ (fun d m X hX => ?_) (by omega) ?_
              · simp
                exact hX
              · simp only [bools_all]
                refine ⟨fun hm2 => hr.run _ ?_, fun hm2 => ?_⟩
                · have e := all_false hm2
                  simp [isQ, e]
                · have el := all_true hm2
                  rw [cutD_1]
                  refine lcRun_map (f := fun d => .bool (ltL d)) _ _ (fun d m X hX => ?_) (by rw [zipD_len]; omega) ?_
                  · obtain ⟨a, b, ha, hb, rfl⟩ := zipD_mem m
                    rw [List.all_eq_true] at el
                    obtain ⟨a1, a2, a3, a4, rfl⟩ := link_out (el a ha)
                    obtain ⟨b1, b2, b3, b4, rfl⟩ := link_out (el b (List.mem_of_mem_drop hb))
                    simp [cutD_2]
                    exact hX
                  · simp only [bools_all]
                    refine ⟨fun hm3 => hr.run _ ?_, fun hm3 => ⟨by omega, hr.run _ ?_⟩⟩
                    · have e := all_false hm3
                      rw [isQ_eq, e]
                      simp only [Bool.and_false, Bool.false_and]
                    · have ez := all_true hm3
                      rw [isQ_eq, ez, el, et, decide_eq_true h3, decide_eq_true h4, decide_eq_true h6]
                      simp only [Bool.true_and]
      · simp [m_is_good_question, N_is_good_question, ht, ht2]
        refine hr.run _ ?_
        unfold isQ
        split
        · rename_i z
          injection z with z
          injection z with z1 z
          subst z1
          simp [isTup] at ht2 ⊢
          intro a b
          omega
        · rfl
    · simp [m_is_good_question, N_is_good_question, ht]
      refine hr.run _ ?_
      unfold isQ
      split
      · simp [isTup] at ht
      · rfl
  · exact h.elim
end GJ

/-! P3: plans as data. -/
namespace GJ
open PySem PySem.Spec PyProof.Rows L2
open PySem.W (AllAlike Sortable)
def isMeth (d : PyData) : Bool := inD d (wr_METHODS.map .str)
def isShape (k : Int) : Nat → PyData → Bool
  | 0, d => isNum d 0 (k - 1)
  | n + 1, d => isNum d 0 (k - 1) || (match d with
    | .tuple [a, b, c] => (isStr c && isMeth c) && (isShape k n a && isShape k n b)
    | _ => false)
@[simp] def S_is_shape (n : Nat) : SpD := fun ws Q _ => match ws with
  | [.val (.tuple (.tuple ts :: _)), .val d, .val (.int deep)] => (0 ≤ deep ∧ deep ≤ (n : Int)) ∧ Q (.val (.bool (isShape ts.length deep.toNat d)))
  | _ => False
theorem flat_str {d : PyData} (h : isStr d = true) : flatD d = true := by cases d <;> simp_all
theorem p_is_shape0 (S : SpD) : Law (S_is_shape 0) (m_is_shape S_is_number S_is_tuple S) N_is_shape := by
  intro ws Q R h
  unfold S_is_shape at h
  split at h
  · rename_i ts rest d deep
    obtain ⟨⟨h1, h2⟩, h⟩ := h
    have e : deep = 0 := by omega
    subst e
    have hr := Ret.mk' h
    clear h
    simp [m_is_shape, N_is_shape, eqOk_int, PyData.eqv]
    refine ⟨fun h => hr.run _ ?_, fun h => hr.run _ ?_⟩
    · simp [isShape, h]
    · simp [isShape, h]
  · exact h.elim
theorem p_is_shape (n : Nat) : Law (S_is_shape (n + 1)) (m_is_shape S_is_number S_is_tuple (S_is_shape n)) N_is_shape := by
  intro ws Q R h
  unfold S_is_shape at h
  split at h
  · rename_i ts rest d deep
    obtain ⟨⟨h1, h2⟩, h⟩ := h
    have hr := Ret.mk' h
    clear h
    by_cases ht : isTup d 3 3 = true
    · obtain ⟨ds, rfl, h3, h4⟩ := isTup_out ht
      obtain ⟨a, b, c, rfl⟩ := len3 h3 h4
      simp [m_is_shape, N_is_shape, eqOk_int, PyData.eqv, ht, -tyD, -flatD, -isStr]
      refine ⟨fun e => hr.run _ ?_, fun hd => ?_⟩
      · subst e; simp [isShape]
      refine ⟨fun hs => hr.run _ ?_, fun hs => ⟨flat_str hs, fun hm => hr.run _ ?_, fun hm => ⟨⟨by omega, by omega⟩, fun ha => ⟨⟨by omega, by omega⟩, hr.run _ ?_⟩, fun ha => hr.run _ ?_⟩⟩⟩
      all_goals
        obtain ⟨j, rfl⟩ : ∃ j : Nat, deep = (j : Int) + 1 := ⟨(deep - 1).toNat, by omega⟩
        have e : ((j : Int) + 1).toNat = j + 1 := by omega
        have e2 : ((j : Int) + 1).toNat - 1 = j := by omega
        simp_all [isShape, isMeth, -tyD, -flatD, -isStr]
    · have ht' : isTup d 3 3 = false := by simpa using ht
      simp [m_is_shape, N_is_shape, eqOk_int, PyData.eqv, ht', -tyD, -flatD, -isStr]
      refine ⟨fun h => hr.run _ ?_, fun h => hr.run _ ?_⟩
      · cases deep.toNat <;> simp [isShape, h]
      · cases deep.toNat with
        | zero => simp [isShape, h]
        | succ j =>
          simp only [isShape, h, Bool.false_or]
          split
          · simp [isTup] at ht'
          · rfl
  · exact h.elim
/-! ### plans -/
def mS : Mth → Str
  | .hash => "hash"
  | .index => "index"
  | .loop => "loop"
def eP : Plan → PyData
  | .leaf i => .int i
  | .join l r m => .tuple (eP l :: eP r :: .str (mS m) :: .nil)
theorem mS_in (m : Mth) : mS m ∈ wr_METHODS := by cases m <;> simp [mS, wr_METHODS]
theorem isMeth_out {m : Str} (h : isMeth (.str m) = true) : ∃ k, m = mS k := by
  have h2 : m ∈ wr_METHODS := by
    unfold isMeth inD at h
    rw [List.any_eq_true] at h
    obtain ⟨d, hd, e⟩ := h
    obtain ⟨x, hx, rfl⟩ := List.mem_map.mp hd
    rw [PyData.eqv] at e
    have := of_decide_eq_true e
    exact this ▸ hx
  simp only [wr_METHODS, List.mem_cons, List.not_mem_nil, or_false] at h2
  rcases h2 with rfl | rfl | rfl
  · exact ⟨.hash, rfl⟩
  · exact ⟨.index, rfl⟩
  · exact ⟨.loop, rfl⟩
theorem canLay_ints : ∀ ns : List Int, PyData.canLayAll0 (ns.map .int) = true
  | [] => rfl
  | n :: ns => by
    have := canLay_ints ns
    simp_all [PyData.canLayAll0, PyData.canLay0]
theorem sortOk_ints (ns : List Int) : SortOk (ns.map .int) :=
  ⟨AllAlike.of fun _ _ => rfl, Sortable.others fun b => ⟨by simp, by simp⟩, canLay_ints ns, by rw [PySem.W.depth_ints]; omega⟩
/-- what is shaped so is a plan -/
theorem shape_plan {k : Int} : ∀ {n : Nat} {d : PyData}, isShape k n d = true → ∃ p : Plan, d = eP p ∧ p.depth ≤ n
  | 0, d, h => by
    simp only [isShape] at h
    rw [num_toI h]
    exact ⟨.leaf _, rfl, Nat.le_refl _⟩
  | n + 1, d, h => by
    simp only [isShape, Bool.or_eq_true] at h
    rcases h with h | h
    · rw [num_toI h]
      exact ⟨.leaf _, rfl, Nat.zero_le _⟩
    · split at h
      · rename_i a b c
        simp only [Bool.and_eq_true] at h
        obtain ⟨⟨h1, hm⟩, h2, h3⟩ := h
        obtain ⟨p, rfl, hp⟩ := shape_plan h2
        obtain ⟨q, rfl, hq⟩ := shape_plan h3
        obtain ⟨m, rfl⟩ : ∃ m, c = .str m := by cases c <;> simp at h1; exact ⟨_, rfl⟩
        obtain ⟨m, rfl⟩ := isMeth_out ‹_›
        exact ⟨.join p q m, rfl, by simp only [Plan.depth]; omega⟩
      · cases h
theorem sortD_ints (ns : List Int) : sortD (ns.map .int) = (sortI ns).map .int := by
  unfold sortD sortI
  have h : ∀ a b : Int, (fun i j : Int => decide (i ≤ j)) a b = PySem.W.dataLe false (id : PyData → PyData) (.int a) (.int b) := fun a b => by
    have e := congrFun (congrFun (PySem.W.dataLe_int (β := Int) id) a) b
    exact e.symm
  rw [← List.map_mergeSort]
  intro a ha b hb
  exact h a b
/-! tables_in -/
@[simp] def S_tables_in (n : Nat) : SpD := fun ws Q _ => ∃ p : Plan, ws = [.val (eP p)] ∧ p.depth ≤ n ∧ n ≤ 10 ∧ Q (.val (.tuple ((tabs p).map .int)))
theorem p_tables_in0 (S : SpD) : Law (S_tables_in 0) (m_tables_in S) N_tables_in := by
  rintro ws Q R ⟨p, rfl, h1, h2, h⟩
  cases p with
  | leaf i => simpa [m_tables_in, N_tables_in, eP, tabs] using h
  | join l r m => simp [Plan.depth] at h1
theorem p_tables_in (n : Nat) : Law (S_tables_in (n + 1)) (m_tables_in (S_tables_in n)) N_tables_in := by
  rintro ws Q R ⟨p, rfl, h1, h2, h⟩
  cases p with
  | leaf i => simpa [m_tables_in, N_tables_in, eP, tabs] using h
  | join l r m =>
    simp only [Plan.depth] at h1
    simp [m_tables_in, N_tables_in, eP, -S_tables_in]
    refine ⟨l, rfl, by omega, by omega, r, rfl, by omega, by omega, ?_⟩
    have a1 := tabs_small (p := l) (n := 10) (by omega) (by omega)
    have a2 := tabs_small (p := r) (n := 10) (by omega) (by omega)
    simp only [← List.map_append, sortD_ints]
    exact ⟨by unfold SzOk; simp; omega, sortOk_ints _, h⟩
/-! ### questions -/
def eTab (t : Int × Int) : PyData := .tuple (.int t.1 :: .int t.2 :: .nil)
def eLnk (l : Int × Int × Int × Int) : PyData := .tuple (.int l.1 :: .int l.2.1 :: .int l.2.2.1 :: .int l.2.2.2 :: .nil)
def eI (ns : List Int) : PyData := .tuple (ns.map .int)
def eQ (q : Qn) : PyData := .tuple (.tuple (q.ts.map eTab) :: .tuple (q.ls.map eLnk) :: eI q.ix :: .nil)
theorem inD_ints (i : Int) : ∀ ns : List Int, inD (.int i) (ns.map .int) = decide (i ∈ ns)
  | [] => rfl
  | n :: ns => by
    have ih := inD_ints i ns
    unfold inD at ih ⊢
    rw [List.map_cons, List.any_cons, ih]
    have h3 : PyData.eqv (.int n) (.int i) = decide (n = i) := by
      rw [PyData.eqv]
      by_cases e : n = i
      · subst e; simp
      · simp [e]
    rw [h3]
    by_cases h : n = i
    · subst h; simp
    · have h2 : ¬ i = n := fun e => h e.symm
      simp [h, h2]
theorem inOk_ints (i : Int) (ns : List Int) : InOk (.int i) (ns.map .int) := ⟨canLay_ints ns, rfl, by rw [PySem.W.depth_ints]; omega⟩
@[simp] def S_are_linked : SpD := fun ws Q _ => ∃ (q : Qn) (a b : List Int), ws = [.val (eQ q), .val (eI a), .val (eI b)] ∧ q.ls.length ≤ 1000 ∧ Q (.val (.bool (linked q a b)))
theorem p_are_linked : Law S_are_linked m_are_linked N_are_linked := by
  rintro ws Q R ⟨q, a, b, rfl, hl, h⟩
  simp [m_are_linked, N_are_linked, eQ]
  refine lcRun_ok (p := fun _ => true) (f := fun d => .bool (match d with | .tuple [.int x, .int y, .int u, .int v] => linkD a b (x, y, u, v) | _ => false)) _ [] _ (fun d m X Y hX _ => ?_) (by simp; omega) ?_
  · obtain ⟨⟨x, y, u, v⟩, hm, rfl⟩ := List.mem_map.mp m
    have hX := hX rfl
    simp only [eLnk, linkD] at hX
    simp [eLnk, eI, inD_ints, inOk_ints]
    by_cases h1 : x ∈ a <;> by_cases h2 : y ∈ b <;> by_cases h3 : x ∈ b <;> by_cases h4 : y ∈ a <;> simp_all
  · have e : (List.filter (fun _ => true) (q.ls.map eLnk)) = q.ls.map eLnk := List.filter_eq_self.mpr fun _ _ => rfl
    rw [e, List.nil_append, List.map_map]
    have e2 : q.ls.map ((fun d => PyData.bool (match d with | .tuple [.int x, .int y, .int u, .int v] => linkD a b (x, y, u, v) | _ => false)) ∘ eLnk) = q.ls.map (fun l => .bool (linkD a b l)) := rfl
    have e3 : ∀ ls : List (Int × Int × Int × Int), bools? (ls.map fun l => .bool (linkD a b l)) = some (ls.map (linkD a b)) := by
      intro ls
      induction ls with
      | nil => rfl
      | cons l ls ih => simp only [List.map_cons, bools?, ih]; rfl
    rw [e2, e3]
    show Q (.val (.bool ((q.ls.map (linkD a b)).any id)))
    rw [List.any_map]
    exact h
end GJ

/-! P4: methods, plans of a question. -/
namespace GJ
open PySem PySem.Spec PyProof.Rows L2
open PySem.W (AllAlike Sortable)
theorem mS_loop (m : Mth) : (mS m = "loop") ↔ m = .loop := by cases m <;> simp [mS] <;> decide
theorem mS_index (m : Mth) : (mS m = "index") ↔ m = .index := by cases m <;> simp [mS] <;> decide
theorem mS_hash (m : Mth) : (mS m = "hash") ↔ m = .hash := by cases m <;> simp [mS] <;> decide
theorem eqOk_loop (m : Mth) : EqOk (.str (mS m)) (.str "loop") := by cases m <;> exact ⟨by decide +kernel, by decide +kernel, by decide +kernel⟩
theorem eqOk_index (m : Mth) : EqOk (.str (mS m)) (.str "index") := by cases m <;> exact ⟨by decide +kernel, by decide +kernel, by decide +kernel⟩
theorem eqOk_hash (m : Mth) : EqOk (.str (mS m)) (.str "hash") := by cases m <;> exact ⟨by decide +kernel, by decide +kernel, by decide +kernel⟩
@[simp] def S_can_stand (n : Nat) : SpD := fun ws Q _ => ∃ (q : Qn) (l r : Plan) (m : Mth), ws = [.val (eQ q), .val (eP l), .val (eP r), .val (.str (mS m))] ∧ (l.depth ≤ n ∧ r.depth ≤ n) ∧ (n ≤ 10 ∧ q.ls.length ≤ 1000) ∧ Q (.val (.bool (canStand q l r m)))
theorem p_can_stand (n : Nat) : Law (S_can_stand n) (m_can_stand (S_tables_in n) S_are_linked) N_can_stand := by
  rintro ws Q R ⟨q, l, r, m, rfl, ⟨hl, hr⟩, ⟨hn, hq⟩, h⟩
  simp [m_can_stand, N_can_stand, -S_tables_in, -S_are_linked, eqOk_loop, eqOk_index, PyData.eqv, -tyD, -isInt, mS_loop, mS_index]
  refine ⟨l, rfl, hl, hn, ?_⟩
  refine ⟨r, rfl, hr, hn, ?_⟩
  have hR := Ret.mk' h
  clear h
  simp [eQ, -tyD, -isInt, -S_are_linked]
  refine ⟨fun hl => hR.run _ (by simp [canStand, hl]), fun hl => ⟨fun hx => ⟨fun hi => hR.run _ ?_, fun hi => ?_⟩, fun hx => ?_⟩⟩
  · subst hx
    cases r with
    | leaf i => simp [eP] at hi
    | join a b c => simp [canStand, hasIx]
  · subst hx
    cases r with
    | leaf i =>
      simp only [eP, eI, inD_ints]
      refine ⟨inOk_ints _ _, fun h => hR.run _ ?_, fun h => ⟨q, tabs l, tabs (.leaf i), rfl, hq, rfl, hR.run _ ?_⟩⟩
      · simp at h
        simp [canStand, hasIx, h]
      · simp at h
        simp [canStand, hasIx, h]
    | join a b c => simp [eP] at hi
  · refine ⟨q, tabs l, tabs r, rfl, hq, rfl, hR.run _ ?_⟩
    cases m <;> simp_all [canStand]
/-! can_be_led -/
@[simp] def S_can_be_led (n : Nat) : SpD := fun ws Q _ => ∃ (q : Qn) (p : Plan), ws = [.val (eQ q), .val (eP p)] ∧ p.depth ≤ n ∧ (n ≤ 10 ∧ q.ls.length ≤ 1000) ∧ Q (.val (.bool (canLed q p)))
theorem p_can_be_led0 (S S' : SpD) : Law (S_can_be_led 0) (m_can_be_led S S') N_can_be_led := by
  rintro ws Q R ⟨q, p, rfl, h1, h2, h⟩
  cases p with
  | leaf i => simpa [m_can_be_led, N_can_be_led, eP, canLed] using h
  | join l r m => simp [Plan.depth] at h1
theorem p_can_be_led (n : Nat) : Law (S_can_be_led (n + 1)) (m_can_be_led (S_can_be_led n) (S_can_stand n)) N_can_be_led := by
  rintro ws Q R ⟨q, p, rfl, h1, h2, h⟩
  cases p with
  | leaf i => simpa [m_can_be_led, N_can_be_led, eP, canLed] using h
  | join l r m =>
    simp only [Plan.depth] at h1
    have hR := Ret.mk' h
    clear h
    simp [m_can_be_led, N_can_be_led, eP, -S_can_be_led, -S_can_stand]
    refine ⟨q, l, rfl, by omega, ⟨by omega, h2.2⟩, ?_⟩
    simp [-S_can_be_led, -S_can_stand]
    refine ⟨fun e => hR.run _ (by simp [canLed, e]), fun e => ?_⟩
    refine ⟨q, r, rfl, by omega, ⟨by omega, h2.2⟩, ?_⟩
    simp [-S_can_be_led, -S_can_stand]
    refine ⟨fun e2 => hR.run _ (by simp [canLed, e2]), fun e2 => ?_⟩
    exact ⟨q, l, r, m, rfl, ⟨by omega, by omega⟩, ⟨by omega, h2.2⟩, by simp; exact hR.run _ (by simp [canLed, e, e2])⟩
/-! is_part_plan, is_good_plan -/
def dMth (m : Str) : Mth := if m = "hash" then .hash else if m = "index" then .index else .loop
theorem dMth_mS (m : Mth) : dMth (mS m) = m := by
  unfold dMth
  cases m
  · rfl
  · rw [if_neg (by rw [mS_hash]; decide), if_pos (by rw [mS_index])]
  · rw [if_neg (by rw [mS_hash]; decide), if_neg (by rw [mS_index]; decide)]
def dPlan : PyData → Plan
  | .int i => .leaf i
  | .tuple [a, b, .str m] => .join (dPlan a) (dPlan b) (dMth m)
  | _ => .leaf 0
theorem dPlan_eP : ∀ p : Plan, dPlan (eP p) = p
  | .leaf i => by simp [eP, dPlan]
  | .join l r m => by simp [eP, dPlan, dPlan_eP l, dPlan_eP r, dMth_mS]
end GJ

/-! P5: is_part_plan .. need_both, need_n. -/
namespace GJ
open PySem PySem.Spec PyProof.Rows L2
@[simp] theorem ints_ints : ∀ ns : List Int, ints? (ns.map .int) = some ns
  | [] => rfl
  | n :: ns => by simp [ints?, ints_ints ns]
def partPlan (q : Qn) (d : PyData) : Bool := isShape q.ts.length 3 d && (decide (tabs (dPlan d)).Nodup && canLed q (dPlan d))
def goodPlan (q : Qn) (d : PyData) : Bool := partPlan q d && decide ((tabs (dPlan d)).length = q.ts.length)
@[simp] def S_is_part_plan : SpD := fun ws Q _ => ∃ (q : Qn) (d : PyData), ws = [.val (eQ q), .val d] ∧ q.ls.length ≤ 1000 ∧ Q (.val (.bool (partPlan q d)))
theorem nodup_le : ∀ {l m : List Int}, l.Nodup → (∀ k ∈ l, k ∈ m) → l.length ≤ m.length
  | [], m, _, _ => Nat.zero_le _
  | a :: l, m, nd, h => by
    obtain ⟨n1, n2⟩ := List.nodup_cons.mp nd
    have ha := h a List.mem_cons_self
    have ih := nodup_le (m := m.erase a) n2 fun k hk => (List.mem_erase_of_ne (by rintro rfl; exact n1 hk)).mpr (h k (List.mem_cons_of_mem _ hk))
    rw [List.length_erase_of_mem ha] at ih
    have := List.length_pos_of_mem ha
    simp only [List.length_cons]
    omega
theorem nodup_of_len : ∀ {l m : List Int}, l.Nodup → (∀ k, k ∈ l ↔ k ∈ m) → l.length = m.length → m.Nodup
  | l, [], _, _, _ => .nil
  | l, a :: m, nd, h, e => by
    have ha : ¬ a ∈ m := fun z => by
      have := nodup_le (m := m) nd fun k hk => by
        rcases List.mem_cons.mp ((h k).mp hk) with e | e
        · exact e ▸ z
        · exact e
      simp only [List.length_cons] at e
      omega
    have hl : a ∈ l := (h a).mpr List.mem_cons_self
    refine List.nodup_cons.mpr ⟨ha, nodup_of_len (l := l.erase a) (nd.erase a) (fun k => ?_) ?_⟩
    · rw [nd.mem_erase_iff, h k]
      simp only [List.mem_cons]
      constructor
      · rintro ⟨h1, h2 | h2⟩
        · exact absurd h2 h1
        · exact h2
      · intro h1
        exact ⟨fun e => ha (e ▸ h1), .inr h1⟩
    · rw [List.length_erase_of_mem hl, e]; rfl
theorem nodup_len {l m : List Int} (nd : l.Nodup) (h : ∀ k, k ∈ l ↔ k ∈ m) : (l.length = m.length) ↔ m.Nodup :=
  ⟨nodup_of_len nd h, fun nm => ((List.perm_ext_iff_of_nodup nd nm).mpr h).length_eq⟩
theorem p_is_part_plan : Law S_is_part_plan (m_is_part_plan (S_is_shape 3) (S_tables_in 3) (S_can_be_led 3)) N_is_part_plan := by
  rintro ws Q R ⟨q, d, rfl, hq, h⟩
  have hR := Ret.mk' h
  clear h
  simp [m_is_part_plan, N_is_part_plan, eQ, -S_tables_in, -S_can_be_led, -tyD]
  have e3 : Int.toNat 3 = 3 := rfl
  refine ⟨fun e => hR.run _ (by simp [partPlan, e]), fun e => ?_⟩
  obtain ⟨p, rfl, hp⟩ := shape_plan e
  refine ⟨p, rfl, hp, by omega, ?_⟩
  have hl : (tabs p).length ≤ 8 := by
    have h1 := joins_le p
    have h2 : 2 ^ p.depth ≤ 2 ^ 3 := Nat.pow_le_pow_right (by omega) hp
    rw [tabs_len]
    omega
  simp [-S_can_be_led]
  refine ⟨by omega, fun l nd hm => ?_⟩
  have hn := nodup_len nd hm
  refine ⟨eqOk_int _ _, fun he => ?_, fun he => hR.run _ ?_⟩
  · refine ⟨q, p, rfl, hp, ⟨by omega, hq⟩, rfl, hR.run _ ?_⟩
    have he' : (l.length : Int) = (tabs p).length := by simpa [PyData.eqv] using he
    simp [partPlan, e, dPlan_eP, hn.mp (by omega)]
  · have he' : ¬ (l.length : Int) = (tabs p).length := by simpa [PyData.eqv] using he
    have : ¬ (tabs p).Nodup := fun z => he' (by have := hn.mpr z; omega)
    simp [partPlan, dPlan_eP, this]
@[simp] def S_is_good_plan : SpD := fun ws Q _ => ∃ (q : Qn) (d : PyData), ws = [.val (eQ q), .val d] ∧ q.ls.length ≤ 1000 ∧ Q (.val (.bool (goodPlan q d)))
theorem p_is_good_plan : Law S_is_good_plan (m_is_good_plan S_is_part_plan (S_tables_in 3)) N_is_good_plan := by
  rintro ws Q R ⟨q, d, rfl, hq, h⟩
  have hR := Ret.mk' h
  clear h
  simp [m_is_good_plan, N_is_good_plan, -S_tables_in, -S_is_part_plan, -tyD]
  refine ⟨q, d, rfl, hq, ?_⟩
  simp [-S_tables_in]
  refine ⟨fun e => ?_, fun e => hR.run _ (by simp [goodPlan, e])⟩
  have e' : isShape q.ts.length 3 d = true := by
    unfold partPlan at e
    rw [Bool.and_eq_true] at e
    exact e.1
  obtain ⟨p, rfl, hp⟩ := shape_plan e'
  refine ⟨p, rfl, hp, by omega, ?_⟩
  simp [eQ, eqOk_int]
  refine hR.run _ ?_
  simp [goodPlan, e, dPlan_eP, PyData.eqv]
  rw [Bool.eq_iff_iff]
  simp
  omega
/-! need_.. -/
@[simp] def S_need_question (C : Addr) : SpD := fun ws Q R => ∃ d, ws = [.val d] ∧ (isQ d = true → Q (.val .none)) ∧ (isQ d = false → R C)
theorem p_need_question (C : Addr) : Law (S_need_question C) (m_need_question S_is_good_question C) N_need_question := by
  rintro ws Q R ⟨d, rfl, h1, h2⟩
  simp [m_need_question, N_need_question]
  exact ⟨h2, h1⟩
@[simp] def S_need_plan (C : Addr) : SpD := fun ws Q R => ∃ (q : Qn) (d : PyData), ws = [.val (eQ q), .val d] ∧ q.ls.length ≤ 1000 ∧ (goodPlan q d = true → Q (.val .none)) ∧ (goodPlan q d = false → R C)
theorem p_need_plan (C : Addr) : Law (S_need_plan C) (m_need_plan S_is_good_plan C) N_need_plan := by
  rintro ws Q R ⟨q, d, rfl, hq, h1, h2⟩
  simp [m_need_plan, N_need_plan, -S_is_good_plan]
  refine ⟨q, d, rfl, hq, ?_⟩
  simp
  exact ⟨h2, h1⟩
/-- a question that is one -/
def isQn (q : Qn) : Prop := isQ (eQ q) = true ∧ QOk q
@[simp] def S_need_both (C : Addr) : SpD := fun ws Q R => ∃ (q : Qn) (d : PyData), ws = [.val (eQ q), .val d] ∧ isQn q ∧ (goodPlan q d = true → Q (.val .none)) ∧ (goodPlan q d = false → R C)
theorem p_need_both (C C' : Addr) : Law (S_need_both C) (m_need_both (S_need_question C') (S_need_plan C)) N_need_both := by
  rintro ws Q R ⟨q, d, rfl, hq, h1, h2⟩
  have := hq.2.nl
  simp [m_need_both, N_need_both, -S_need_plan, -S_need_question]
  refine ⟨_, rfl, fun _ => ?_, fun e => ?_⟩
  · simp [-S_need_plan]
    exact ⟨q, d, rfl, by omega, h1, h2⟩
  · rw [hq.1] at e
    cases e
@[simp] def S_need_n (C : Addr) : SpD := fun ws Q R => ∃ (d : PyData) (m : Int), ws = [.val d, .val (.int m)] ∧ (isNum d 1 m = true → Q (.val .none)) ∧ (isNum d 1 m = false → R C)
theorem p_need_n (C : Addr) : Law (S_need_n C) (m_need_n S_is_number C) N_need_n := by
  rintro ws Q R ⟨d, m, rfl, h1, h2⟩
  simp [m_need_n, N_need_n]
  exact ⟨h2, h1⟩
end GJ

/-! F3: a dict of powers, filled part by part. -/
namespace GJ
abbrev Tr := Int × Int × Int
def toQ (x : Tr) : Int × Rat := (x.1, qd x.2.1 x.2.2)
def tr (a : Int × Rat) : Tr := (a.1, a.2.num, a.2.den)
theorem toQ_tr (a : Int × Rat) : toQ (tr a) = a := by unfold toQ tr; rw [qd_self]
def getF (a : Fm) (p : Int) : Option Rat := (a.find? fun kv => decide (kv.1 = p)).map (·.2)
def putF (a : Fm) (p : Int) (c : Rat) : Fm := if (a.any fun kv => decide (kv.1 = p)) = true then a.map (fun kv => if kv.1 = p then (kv.1, c) else kv) else a ++ [(p, c)]
theorem getF_cons (x : Int × Rat) (a : Fm) (p : Int) : getF (x :: a) p = if x.1 = p then some x.2 else getF a p := by
  unfold getF
  rw [List.find?_cons]
  by_cases e : x.1 = p
  · simp [e]
  · simp [e]
theorem putF_cons (x : Int × Rat) (a : Fm) (p : Int) (c : Rat) : (putF (x :: a) p c) = if x.1 = p then (p, c) :: a.map (fun kv => if kv.1 = p then (kv.1, c) else kv) else x :: putF a p c := by
  unfold putF
  by_cases e : x.1 = p
  · simp [e]
  · simp only [List.any_cons, e, decide_false, Bool.false_or, List.map_cons, if_neg, List.cons_append, not_false_eq_true]
    split <;> rfl
theorem keys_put (p : Int) (c : Rat) : ∀ a : Fm, ((putF a p c).map (·.1)) = if p ∈ a.map (·.1) then a.map (·.1) else a.map (·.1) ++ [p]
  | [] => by simp [putF]
  | x :: a => by
    have ih := keys_put p c a
    rw [putF_cons]
    by_cases e : x.1 = p
    · rw [if_pos e]
      have h : p ∈ (x :: a).map (·.1) := by simp [e]
      rw [if_pos h]
      simp only [List.map_cons, List.map_map]
      rw [e]
      congr 1
      apply List.map_congr_left
      intro kv _
      simp only [Function.comp]
      split <;> rfl
    · rw [if_neg e]
      simp only [List.map_cons, ih, List.mem_cons]
      by_cases h : p ∈ a.map (·.1)
      · rw [if_pos h, if_pos (.inr h)]
      · have e' : ¬ p = x.1 := fun z => e z.symm
        rw [if_neg h, if_neg (by rintro (z | z); exact e' z; exact h z)]
        rfl
theorem get_put (p : Int) (c : Rat) (q : Int) : ∀ a : Fm, getF (putF a p c) q = if p = q then some c else getF a q
  | [] => by
    simp only [putF, List.any_nil, Bool.false_eq_true, if_false, List.nil_append, getF_cons]
  | x :: a => by
    have ih := get_put p c q a
    rw [putF_cons]
    by_cases e : x.1 = p
    · rw [if_pos e, getF_cons, getF_cons]
      by_cases h : p = q
      · rw [if_pos h, if_pos h]
      · rw [if_neg h, if_neg h]
        have : ¬ x.1 = q := fun z => h (e ▸ z)
        rw [if_neg this]
        clear ih
        induction a with
        | nil => rfl
        | cons y a ih2 =>
          rw [List.map_cons, getF_cons, getF_cons, ih2]
          by_cases hy : y.1 = p
          · rw [if_pos hy]
            have : ¬ y.1 = q := fun z => h (hy ▸ z)
            simp only [if_neg this]
          · rw [if_neg hy]
    · rw [if_neg e, getF_cons, getF_cons, ih]
      by_cases h : x.1 = q
      · rw [if_pos h, if_pos h]
        by_cases h2 : p = q
        · exact absurd (h.trans h2.symm) e
        · rw [if_neg h2]
      · rw [if_neg h, if_neg h]
/-- the dict of the first parts -/
def accF : List Tr → Fm → Fm
  | [], a => a
  | x :: l, a => accF l (putF a x.1 ((getF a x.1).getD 0 + qd x.2.1 x.2.2))
theorem accF_get (q : Int) : ∀ (ps : List Tr) (a : Fm), (getF (accF ps a) q).getD 0 = (getF a q).getD 0 + cf (ps.map toQ) q
  | [], a => by simp only [accF, List.map_nil, cf]; grind
  | x :: ps, a => by
    have ih := accF_get q ps (putF a x.1 ((getF a x.1).getD 0 + qd x.2.1 x.2.2))
    simp only [accF, List.map_cons, cf, ih, get_put, toQ]
    by_cases h : x.1 = q
    · rw [if_pos h, if_pos h, h]; simp only [Option.getD_some]; grind
    · rw [if_neg h, if_neg h]; grind
theorem accF_keys (q : Int) : ∀ (ps : List Tr) (a : Fm), q ∈ (accF ps a).map (·.1) ↔ q ∈ a.map (·.1) ∨ q ∈ ps.map (·.1)
  | [], a => by simp [accF]
  | x :: ps, a => by
    have ih := accF_keys q ps (putF a x.1 ((getF a x.1).getD 0 + qd x.2.1 x.2.2))
    simp only [accF]
    rw [ih, keys_put]
    by_cases h : x.1 ∈ a.map (·.1)
    · rw [if_pos h]
      simp only [List.map_cons, List.mem_cons]
      constructor
      · rintro (z | z)
        · exact .inl z
        · exact .inr (.inr z)
      · rintro (z | z | z)
        · exact .inl z
        · exact .inl (z ▸ h)
        · exact .inr z
    · rw [if_neg h]
      simp only [List.map_cons, List.mem_cons, List.mem_append, List.mem_singleton, List.not_mem_nil, or_false]
      constructor
      · rintro ((z | z) | z)
        · exact .inl z
        · exact .inr (.inl z)
        · exact .inr (.inr z)
      · rintro (z | z | z)
        · exact .inl (.inl z)
        · exact .inl (.inr z)
        · exact .inr z
theorem accF_nodup : ∀ (ps : List Tr) (a : Fm), (a.map (·.1)).Nodup → ((accF ps a).map (·.1)).Nodup
  | [], a, h => h
  | x :: ps, a, h => by
    refine accF_nodup ps _ ?_
    rw [keys_put]
    split
    · exact h
    · rename_i n
      rw [List.nodup_append]
      exact ⟨h, by simp, fun u hu v hv e => by simp only [List.mem_singleton] at hv; exact n (hv ▸ e ▸ hu)⟩
theorem accF_len : ∀ (ps : List Tr) (a : Fm), (accF ps a).length ≤ a.length + ps.length
  | [], a => Nat.le_refl _
  | x :: ps, a => by
    have ih := accF_len ps (putF a x.1 ((getF a x.1).getD 0 + qd x.2.1 x.2.2))
    have h := congrArg List.length (keys_put x.1 ((getF a x.1).getD 0 + qd x.2.1 x.2.2) a)
    simp only [List.length_map] at h
    simp only [accF, List.length_cons]
    split at h <;> simp at h <;> omega
theorem accF_append : ∀ (l m : List Tr) (a : Fm), accF (l ++ m) a = accF m (accF l a)
  | [], m, a => rfl
  | x :: l, m, a => accF_append l m _
theorem mem_getF {q : Int} : ∀ {a : Fm}, q ∈ a.map (·.1) → ∃ c, getF a q = some c
  | [], h => by simp at h
  | x :: a, h => by
    rw [getF_cons]
    by_cases e : x.1 = q
    · exact ⟨_, if_pos e⟩
    · rw [if_neg e]
      simp only [List.map_cons, List.mem_cons] at h
      rcases h with h | h
      · exact absurd h.symm e
      · exact mem_getF h
theorem acc_some {ps : List Tr} {q : Int} (h : q ∈ ps.map (·.1)) : getF (accF ps []) q = some (cf (ps.map toQ) q) := by
  obtain ⟨c, hc⟩ := mem_getF ((accF_keys q ps []).mpr (.inr h))
  have := accF_get q ps []
  rw [hc] at this
  rw [hc]
  have z : (getF [] q).getD 0 = 0 := rfl
  rw [z] at this
  simp only [Option.getD_some] at this
  rw [this]; grind
theorem acc_none {ps : List Tr} {q : Int} : (getF (accF ps []) q).getD 0 = cf (ps.map toQ) q := by
  rw [accF_get]
  have z : (getF [] q).getD 0 = 0 := rfl
  rw [z]; grind
/-- sizes of sums -/
theorem cf_sz {B : Nat} (q : Int) : ∀ {ps : Fm}, (∀ a ∈ ps, sz a.2 ≤ B) → sz (cf ps q) ≤ ps.length * (B + 1) + 1
  | [], _ => by simp [cf]; decide
  | a :: ps, h => by
    have ih := cf_sz q (ps := ps) fun b m => h b (List.mem_cons_of_mem _ m)
    have h1 := h a List.mem_cons_self
    have e : (a :: ps).length * (B + 1) = ps.length * (B + 1) + (B + 1) := by rw [List.length_cons, Nat.succ_mul]
    unfold cf
    split
    · have := sz_add a.2 (cf ps q)
      omega
    · rw [Rat.zero_add]; omega
end GJ

/-! P6: forms. -/
namespace GJ
open PySem PySem.Spec PyProof.Rows L2
theorem mFor_ix {g : MG} {mb : MS} {D : DE} {J : Nat → DEnv → Prop} : ∀ (ds : List PyData) (i : Nat) (γ : DEnv), J i γ →
    (∀ (j : Nat) (d : PyData), ds[j]? = some d → ∀ γ, J (i + j) γ → ∀ N : DEnv → Prop, (∀ γ', J (i + j + 1) γ' → N γ') → g (.val d) γ fun γ1 => mb { D with nx := N, ct := N, bk := D.nx } γ1) →
    (∀ γ, J (i + ds.length) γ → D.nx γ) → mFor g mb ds D γ
  | [], i, γ, h, _, k => k γ h
  | d :: ds, i, γ, h, hs, k => by
    unfold mFor
    refine hs 0 d rfl γ h _ fun γ' h' => mFor_ix ds (i + 1) γ' h' (fun j d' m γ2 h2 N hN => hs (j + 1) d' (by simpa using m) γ2 (by rw [show i + (j + 1) = i + 1 + j by omega]; exact h2) N (by rw [show i + (j + 1) + 1 = i + 1 + j + 1 by omega]; exact hN)) fun γ2 h2 => k γ2 (by rw [List.length_cons, show i + (ds.length + 1) = i + 1 + ds.length by omega]; exact h2)
theorem mulOk_of {i j : Int} (h : bi i + bi j ≤ 1000000) : MulOk i j := by unfold MulOk; unfold bi bl at h; omega
theorem rgL_get {lo hi : Int} {i : Nat} {d : PyData} (h : (rgL lo hi)[i]? = some d) : d = .int (lo + i) ∧ i < (hi - lo).toNat := by
  unfold rgL at h
  rw [List.getElem?_map] at h
  rcases Nat.lt_or_ge i (hi - lo).toNat with z | z
  · rw [List.getElem?_range z] at h; cases h; exact ⟨rfl, z⟩
  · rw [List.getElem?_eq_none (by simpa using z)] at h; cases h
theorem rgL_len (lo hi : Int) : (rgL lo hi).length = (hi - lo).toNat := by simp [rgL]
/-! power_of -/
@[simp] def S_power_of : SpD := fun ws Q _ => match ws with
  | [.val (.int n), .val (.int k)] => (RgS k ∧ k.toNat * bi n ≤ 500000) ∧ Q (.val (.int (n ^ k.toNat)))
  | _ => False
theorem p_power (N : List Str) (hN : N.length = 4) : Law S_power_of m_power_of N := by
  intro ws Q R h
  unfold S_power_of at h
  split at h
  · rename_i n k
    obtain ⟨⟨h1, h2⟩, h⟩ := h
    simp [m_power_of, hN, h1]
    refine mFor_ix (J := fun i γ => i ≤ k.toNat ∧ ∃ x, γ = [some (.val (.int n)), some (.val (.int k)), some (.val (.int (n ^ i))), x]) _ 0 _ ⟨Nat.zero_le _, none, by simp [List.replicate]⟩ ?_ ?_
    · rintro j d hd γ ⟨hj, x, rfl⟩ N' hN'
      obtain ⟨rfl, hlt⟩ := rgL_get hd
      simp at hlt
      have hb := bi_pow n (0 + j)
      have hm : (j + 1) * bi n ≤ k.toNat * bi n := Nat.mul_le_mul_right _ (by omega)
      rw [Nat.succ_mul] at hm
      simp
      rw [Nat.zero_add] at hb
      refine ⟨mulOk_of (by omega), hN' _ ⟨by omega, _, by rw [Nat.zero_add, Int.pow_succ]⟩⟩
    · rintro γ ⟨_, x, rfl⟩
      simp [rgL_len]
      exact h
  · exact h.elim
theorem p_power_of : Law S_power_of m_power_of N_power_of := p_power _ rfl
/-! forms as data -/
def eT (x : Tr) : PyData := .tuple (.int x.1 :: .int x.2.1 :: .int x.2.2 :: .nil)
def eF (f : Fm) : PyData := .tuple (f.map fun a => eT (tr a))
def encK (a : Fm) : List (L2.Key × PyData) := a.map fun x => (.inl x.1, eR x.2)
theorem getA_enc (p : Int) : ∀ a : Fm, getA (encK a) (.inl p) = (getF a p).map eR
  | [] => rfl
  | x :: a => by
    have ih := getA_enc p a
    unfold getA encK at ih ⊢
    rw [getF_cons, List.map_cons, List.find?_cons]
    by_cases e : x.1 = p
    · simp [e]
    · simp only [Sum.inl.injEq, e, decide_false, if_neg, not_false_eq_true]
      exact ih
theorem putA_enc (p : Int) (c : Rat) (a : Fm) : putA (encK a) (.inl p) (eR c) = encK (putF a p c) := by
  unfold putA encK putF
  simp only [List.any_map, Function.comp_def, Sum.inl.injEq, List.map_map]
  split
  · simp only [List.map_map, Function.comp_def]
    apply List.map_congr_left
    intro x _
    by_cases e : x.1 = p
    · simp [e]
    · simp [e]
  · simp
theorem encK_keys (a : Fm) : (encK a).map (·.1) = (a.map (·.1)).map Sum.inl := by
  simp [encK, List.map_map, Function.comp_def]
theorem eR_zero : PyData.tuple [.int 0, .int 1] = eR 0 := rfl
/-- parts whose sum can be reckoned -/
structure PsOk (ps : List Tr) : Prop where
  len : ps.length ≤ 60
  den : ∃ D : Nat, 0 < D ∧ bl D ≤ 4000 ∧ ∀ x ∈ ps, DD D (qd x.2.1 x.2.2)
  pos : ∀ x ∈ ps, 0 < x.2.2
  top : ∀ x ∈ ps, bi x.2.1 ≤ 4000
  bel : ∀ x ∈ ps, bi x.2.2 ≤ 4000
@[simp] def S_form_of : SpD := fun ws Q _ => ∃ ps : List Tr, ws = [.val (.list (ps.map eT))] ∧ PsOk ps ∧ Q (.val (eF (formOf (ps.map toQ))))
theorem perm_usort {ys : List Int} {a : Fm} {ps : List Tr} (ha : a = accF ps []) (hp : ys.Perm (a.map (·.1))) (hs : ys.Pairwise (· ≤ ·)) : ys = usort (ps.map (·.1)) := by
  have nd : ys.Nodup := hp.nodup_iff.mpr (by rw [ha]; exact accF_nodup ps [] .nil)
  refine pw_ext ?_ (usort_pw _) fun x => ?_
  · have := List.pairwise_and_iff.mpr ⟨hs, nd⟩
    exact this.imp fun h => by omega
  · rw [hp.mem_iff, mem_usort, ha, accF_keys]
    simp
theorem atP_filter (f : Int → Rat) (p : PyData → Bool) (h : PyData → PyData) (hp : ∀ i, p (.int i) = decide (f i ≠ 0)) (hh : ∀ i, h (.int i) = eT (tr (i, f i))) : ∀ l : List Int, ((l.map PyData.int).filter p).map h = (atP f l).map fun a => eT (tr a)
  | [] => rfl
  | i :: l => by
    have ih := atP_filter f p h hp hh l
    simp only [List.map_cons, List.filter_cons, hp, atP]
    by_cases e : f i = 0
    · simp [e, ih]
    · simp [e, ih, hh]
theorem p_form_of : Law S_form_of (m_form_of S_reduced) N_form_of := by
  rintro ws Q R ⟨ps, rfl, ok, h⟩
  obtain ⟨D, hD0, hD, hdd⟩ := ok.den
  have hlen := ok.len
  simp [m_form_of, N_form_of, -S_reduced]
  refine mFor_ix (J := fun i γ => ∃ x2 x3 x4 x5, γ = [some (.val (.list (ps.map eT))), some (.odk (encK (accF (ps.take i) []))), x2, x3, x4, x5]) _ 0 _ ⟨none, none, none, none, by simp [accF, encK]⟩ ?_ ?_
  · rintro j d hd γ ⟨x2, x3, x4, x5, rfl⟩ N' hN'
    rw [List.getElem?_map] at hd
    obtain ⟨x, hx, rfl⟩ := Option.map_eq_some_iff.mp hd
    have hm := List.mem_of_getElem? hx
    obtain ⟨p, t, b⟩ := x
    have hpos := ok.pos _ hm
    have htop := ok.top _ hm
    have hbel := ok.bel _ hm
    simp only at hpos htop hbel
    rw [Nat.zero_add] at hN' ⊢
    have htk : ∀ y ∈ ps.take j, y ∈ ps := fun y hy => List.mem_of_mem_take hy
    let old : Rat := (getF (accF (ps.take j) []) p).getD 0
    have hold : old = cf ((ps.take j).map toQ) p := acc_none
    have hden : DD D old := by
      rw [hold]
      exact cf_ind (DD.zero D) (fun _ _ => DD.add) (fun a ha => by
        obtain ⟨y, hy, rfl⟩ := List.mem_map.mp ha
        exact hdd y (htk y hy)) p
    have hdb : bi (old.den : Int) ≤ 4000 := Nat.le_trans (hden.bits hD0) hD
    have hsz : sz old ≤ 60 * 4001 + 1 := by
      rw [hold]
      refine Nat.le_trans (cf_sz (B := 4000) p fun a ha => ?_) ?_
      · obtain ⟨y, hy, rfl⟩ := List.mem_map.mp ha
        have h1 := sz_qd (t := y.2.1) (ok.pos y (htk y hy))
        have h2 := ok.top y (htk y hy)
        have h3 := ok.bel y (htk y hy)
        simp only [toQ]
        omega
      · rw [List.length_map, List.length_take]
        have : min j ps.length * 4001 ≤ 60 * 4001 := Nat.mul_le_mul_right _ (by omega)
        omega
    have hnb := sz_num old
    have e1 : (getA (encK (accF (ps.take j) [])) (.inl p)).getD (.tuple [.int 0, .int 1]) = eR old := by
      rw [getA_enc, eR_zero]
      show _ = eR ((getF (accF (ps.take j) []) p).getD 0)
      cases getF (accF (ps.take j) []) p <;> rfl
    have hmul := bi_mul (old.den : Int) b
    simp [eT, onDk, e1, eR, -S_reduced]
    refine ⟨mulOk_of (by omega), mulOk_of (by omega), mulOk_of (by omega), ⟨Int.mul_pos (den_pos _) hpos, by omega⟩, ?_, hN' _ ?_⟩
    · have := accF_len (ps.take j) []
      rw [List.length_take] at this
      simp only [List.length_nil, Nat.zero_add] at this
      simp [encK]
      unfold SzOk
      omega
    · have e2 : qd (old.num * b + t * old.den) (old.den * b) = old + qd t b := by
        rw [qd_add (den_pos _) hpos, qd_self]
      rw [e2, putA_enc]
      have e3 : ps.take (j + 1) = ps.take j ++ [(p, t, b)] := by
        rw [List.take_succ, hx]; rfl
      rw [e3, accF_append]
      exact ⟨_, _, _, _, rfl⟩
  · rintro γ ⟨x2, x3, x4, x5, rfl⟩
    rw [Nat.zero_add, List.length_map, List.take_length]
    have hk := accF_len ps []
    simp only [List.length_nil, Nat.zero_add] at hk
    have ek : intK? ((encK (accF ps [])).map (·.1)) = some ((accF ps []).map (·.1)) := by rw [encK_keys, intK_of]
    simp [ek, -List.map_map]
    refine ⟨by omega, fun ys hp hs => ?_⟩
    have ey := perm_usort rfl hp hs
    subst ey
    have hmem : ∀ i ∈ usort (ps.map (·.1)), getA (encK (accF ps [])) (.inl i) = some (eR (cf (ps.map toQ) i)) := fun i hi => by
      rw [getA_enc, acc_some (mem_usort.mp hi)]; rfl
    refine lcRun_ok (p := fun d => match d with | .int i => decide (cf (ps.map toQ) i ≠ 0) | _ => false) (f := fun d => match d with | .int i => eT (tr (i, cf (ps.map toQ) i)) | _ => .none) _ [] _ (fun d m X Y hX hY => ?_) ?_ ?_
    · obtain ⟨i, hi, rfl⟩ := List.mem_map.mp m
      simp [hmem i hi, eR, eqOk_int, PyData.eqv]
      simp at hX hY
      refine ⟨fun e => ⟨by unfold SzOk; omega, hX e⟩, fun e => hY e⟩
    · have := usort_len (ps.map (·.1))
      simp at this ⊢
      omega
    · simp only [List.nil_append]
      rw [atP_filter (cf (ps.map toQ)) _ _ (fun i => rfl) (fun i => rfl)]
      have e : (ps.map toQ).map (·.1) = ps.map (·.1) := by simp [toQ, Function.comp_def]
      unfold formOf eF at h
      rw [e] at h
      exact h
end GJ

/-! P7: sums, products, worths of forms. -/
namespace GJ
open PySem PySem.Spec PyProof.Rows L2
/-- the data of a form's triples -/
def lF (f : Fm) : List PyData := f.map fun a => eT (tr a)
theorem eF_lF (f : Fm) : eF f = .tuple (lF f) := rfl
theorem lF_append (f g : Fm) : lF (f ++ g) = lF f ++ lF g := List.map_append
theorem lF_len (f : Fm) : (lF f).length = f.length := List.length_map _
theorem lF_tr (f : Fm) : lF f = (f.map tr).map eT := by simp [lF, Function.comp_def]
def lT (ps : List Tr) : List PyData := ps.map eT
theorem lT_append (f g : List Tr) : lT (f ++ g) = lT f ++ lT g := List.map_append
theorem lT_len (f : List Tr) : (lT f).length = f.length := List.length_map _
theorem toQ_map (f : Fm) : (f.map tr).map toQ = f := by
  rw [List.map_map]
  have : toQ ∘ tr = id := funext toQ_tr
  rw [this, List.map_id]
/-! added -/
@[simp] def S_added : SpD := fun ws Q _ => ∃ fs : List Fm, ws = [.val (.list (fs.map eF))] ∧ PsOk (fs.flatten.map tr) ∧ Q (.val (eF (formOf fs.flatten)))
theorem flat_take (fs : List Fm) (i : Nat) : (fs.take i).flatten.length ≤ fs.flatten.length := by
  have h : fs.flatten = (fs.take i).flatten ++ (fs.drop i).flatten := by rw [← List.flatten_append, List.take_append_drop]
  rw [h, List.length_append]
  omega
theorem p_added : Law S_added (m_added S_form_of) N_added := by
  rintro ws Q R ⟨fs, rfl, ok, h⟩
  have hl := ok.len
  rw [List.length_map] at hl
  simp [m_added, N_added, -S_form_of]
  refine mFor_ix (J := fun i γ => ∃ x, γ = [some (.val (.list (fs.map eF))), some (.val (.list (lF (fs.take i).flatten))), x]) _ 0 _ ⟨none, by simp [lF]⟩ ?_ ?_
  · rintro j d hd γ ⟨x, rfl⟩ N' hN'
    rw [List.getElem?_map] at hd
    obtain ⟨f, hf, rfl⟩ := Option.map_eq_some_iff.mp hd
    rw [Nat.zero_add] at hN' ⊢
    have h1 := flat_take fs (j + 1)
    have e : fs.take (j + 1) = fs.take j ++ [f] := by rw [List.take_succ, hf]; rfl
    have e2 : (fs.take (j + 1)).flatten = (fs.take j).flatten ++ f := by rw [e, List.flatten_append]; simp
    rw [e2, List.length_append] at h1
    simp [eF_lF]
    refine ⟨by rw [lF_len, lF_len]; unfold SzOk; omega, hN' _ ?_⟩
    rw [e2, lF_append]
    exact ⟨_, rfl⟩
  · rintro γ ⟨x, rfl⟩
    rw [Nat.zero_add, List.length_map, List.take_length]
    simp [-S_form_of]
    refine ⟨_, by rw [lF_tr], ok, rfl, ?_⟩
    rw [toQ_map]
    exact h
/-! scaled -/
def sclT (m : Int) (f : Fm) : List Tr := f.map fun a => (a.1, a.2.num * m, (a.2.den : Int))
def sclF (m : Int) (f : Fm) : Fm := f.map fun a => (a.1, a.2 * m)
theorem scl_toQ (m : Int) (f : Fm) : (sclT m f).map toQ = sclF m f := by
  unfold sclT sclF
  rw [List.map_map]
  apply List.map_congr_left
  intro a _
  simp only [Function.comp, toQ]
  congr 1
  have : qd (a.2.num * m) (a.2.den * 1) = qd a.2.num a.2.den * qd m 1 := qd_mul
  rw [Int.mul_one, qd_self] at this
  rw [this, qd_eq m 1]
  have e1 : ((1 : Int) : Rat) = 1 := rfl
  rw [e1]; grind
@[simp] def S_scaled : SpD := fun ws Q _ => ∃ (f : Fm) (m : Int), ws = [.val (eF f), .val (.int m)] ∧ ((∀ a ∈ f, bi a.2.num ≤ 4000) ∧ bi m ≤ 4000) ∧ PsOk (sclT m f) ∧ Q (.val (eF (formOf (sclF m f))))
theorem p_scaled : Law S_scaled (m_scaled S_form_of) N_scaled := by
  rintro ws Q R ⟨f, m, rfl, ⟨h1, h2⟩, ok, h⟩
  have hl := ok.len
  unfold sclT at hl
  rw [List.length_map] at hl
  simp [m_scaled, N_scaled, eF, -S_form_of]
  refine lcRun_map (f := fun d => match d with | .tuple [.int p, .int t, .int b] => .tuple [.int p, .int (t * m), .int b] | _ => .none) _ _ (fun d hd X hX => ?_) (by simp; omega) ?_
  · obtain ⟨a, ha, rfl⟩ := List.mem_map.mp hd
    have := h1 a ha
    simp [eT, tr] at hX ⊢
    exact ⟨mulOk_of (by omega), hX⟩
  · simp [-S_form_of]
    refine ⟨sclT m f, ?_, ok, rfl, ?_⟩
    · simp [sclT, Function.comp_def, eT, tr]
    · rw [scl_toQ]; exact h
/-! product -/
def prdT (f g : Fm) : List Tr := f.flatMap fun a => g.map fun b => (a.1 + b.1, a.2.num * b.2.num, (a.2.den : Int) * b.2.den)
def prdF (f g : Fm) : Fm := f.flatMap fun a => g.map fun b => (a.1 + b.1, a.2 * b.2)
theorem prd_toQ (f g : Fm) : (prdT f g).map toQ = prdF f g := by
  unfold prdT prdF
  rw [List.map_flatMap]
  congr 1
  funext a
  rw [List.map_map]
  apply List.map_congr_left
  intro b _
  simp only [Function.comp, toQ, mul_qd]
@[simp] def S_product : SpD := fun ws Q _ => ∃ f g : Fm, ws = [.val (eF f), .val (eF g)] ∧ ((∀ a ∈ f, sz a.2 ≤ 4000) ∧ (∀ a ∈ g, sz a.2 ≤ 4000) ∧ g.length ≤ 60) ∧ PsOk (prdT f g) ∧ Q (.val (eF (formOf (prdF f g))))
def prdD (a : Int × Rat) : PyData → PyData := fun d => match d with
  | .tuple [.int p, .int t, .int b] => .tuple [.int (a.1 + p), .int (a.2.num * t), .int (a.2.den * b)]
  | _ => .none
def prd1 (a : Int × Rat) (g : Fm) : List Tr := g.map fun b => (a.1 + b.1, a.2.num * b.2.num, (a.2.den : Int) * b.2.den)
theorem prd_step (a : Int × Rat) (g : Fm) : (lF g).map (prdD a) = lT (prd1 a g) := by
  simp [lF, lT, prd1, Function.comp_def, eT, tr, prdD]
theorem prd_take (f g : Fm) (i : Nat) : (prdT (f.take i) g).length ≤ (prdT f g).length := by
  have h : prdT f g = prdT (f.take i) g ++ prdT (f.drop i) g := by unfold prdT; rw [← List.flatMap_append, List.take_append_drop]
  rw [h, List.length_append]
  omega
theorem p_product : Law S_product (m_product S_form_of) N_product := by
  rintro ws Q R ⟨f, g, rfl, ⟨h1, h2, h3⟩, ok, h⟩
  have hl := ok.len
  simp [m_product, N_product, -S_form_of, eF_lF]
  refine mFor_ix (J := fun i γ => ∃ x3 x4 x5, γ = [some (.val (.tuple (lF f))), some (.val (.tuple (lF g))), some (.val (.list (lT (prdT (f.take i) g)))), x3, x4, x5, none, none, none]) _ 0 _ ⟨none, none, none, by simp [prdT, lT]⟩ ?_ ?_
  · rintro j d hd γ ⟨x3, x4, x5, rfl⟩ N' hN'
    unfold lF at hd
    rw [List.getElem?_map] at hd
    obtain ⟨a, ha, rfl⟩ := Option.map_eq_some_iff.mp hd
    rw [Nat.zero_add] at hN' ⊢
    have hp := prd_take f g (j + 1)
    have e : f.take (j + 1) = f.take j ++ [a] := by rw [List.take_succ, ha]; rfl
    have e2 : prdT (f.take (j + 1)) g = prdT (f.take j) g ++ prd1 a g := by rw [e]; unfold prdT prd1; rw [List.flatMap_append]; simp
    rw [e2, List.length_append] at hp
    have hg : (prd1 a g).length = g.length := List.length_map _
    simp [eT, tr]
    refine lcRun_map (f := prdD a) _ _ (fun d hd X hX => ?_) (by rw [lF_len]; omega) ?_
    · obtain ⟨b, hb, rfl⟩ := List.mem_map.mp hd
      have s1 := h1 a (List.mem_of_getElem? ha)
      have s2 := h2 b hb
      have n1 := sz_num a.2
      have n2 := sz_num b.2
      have d1 := sz_den a.2
      have d2 := sz_den b.2
      simp [eT, tr, prdD] at hX ⊢
      exact ⟨mulOk_of (by omega), mulOk_of (by omega), hX⟩
    · rw [prd_step]
      simp [lT_len]
      refine ⟨by unfold SzOk; omega, hN' _ ?_⟩
      rw [e2, lT_append]
      exact ⟨_, _, _, rfl⟩
  · rintro γ ⟨x3, x4, x5, rfl⟩
    rw [Nat.zero_add, lF_len, List.take_length]
    simp [-S_form_of]
    refine ⟨_, rfl, ok, rfl, ?_⟩
    rw [prd_toQ]
    exact h
end GJ

/-! P8: equality of data; worth_of. -/
namespace GJ
open PySem PySem.Spec PyProof.Rows L2
/-! data without bools and dicts -/
mutual
def nbD : PyData → Bool
  | .none => true
  | .int _ => true
  | .str x => PyData.canLay0 (.str x)
  | .list ds => nbAll ds
  | .tuple ds => nbAll ds
  | .bool _ => false
  | .dict _ => false
def nbAll : List PyData → Bool
  | [] => true
  | d :: ds => nbD d && nbAll ds
end
mutual
theorem nb_lay : ∀ d : PyData, nbD d = true → PyData.canLay0 d = true
  | .none, _ => rfl
  | .int _, _ => rfl
  | .str _, h => by rw [nbD] at h; exact h
  | .list ds, h => by rw [nbD] at h; rw [PyData.canLay0]; exact nb_layAll ds h
  | .tuple ds, h => by rw [nbD] at h; rw [PyData.canLay0]; exact nb_layAll ds h
  | .bool _, h => by simp [nbD] at h
  | .dict _, h => by simp [nbD] at h
theorem nb_layAll : ∀ ds : List PyData, nbAll ds = true → PyData.canLayAll0 ds = true
  | [], _ => rfl
  | d :: ds, h => by
    simp only [nbAll, Bool.and_eq_true] at h
    simp only [PyData.canLayAll0, Bool.and_eq_true]
    exact ⟨nb_lay d h.1, nb_layAll ds h.2⟩
end
mutual
theorem eqv_iff : ∀ d e : PyData, nbD d = true → nbD e = true → (PyData.eqv d e = true ↔ d = e)
  | .none, e, _, h => by cases e <;> simp_all [nbD, PyData.eqv]
  | .int i, e, _, h => by cases e <;> simp_all [nbD, PyData.eqv]
  | .str x, e, _, h => by cases e <;> simp_all [nbD, PyData.eqv]
  | .list ds, e, h1, h => by
    cases e <;> simp only [nbD, PyData.eqv, reduceCtorEq, Bool.false_eq_true, PyData.list.injEq] at *
    exact eqvAll_iff ds _ h1 h
  | .tuple ds, e, h1, h => by
    cases e <;> simp only [nbD, PyData.eqv, reduceCtorEq, Bool.false_eq_true, PyData.tuple.injEq] at *
    exact eqvAll_iff ds _ h1 h
  | .bool _, _, h, _ => by simp [nbD] at h
  | .dict _, _, h, _ => by simp [nbD] at h
theorem eqvAll_iff : ∀ ds es : List PyData, nbAll ds = true → nbAll es = true → (PyData.eqvAll ds es = true ↔ ds = es)
  | [], [], _, _ => by simp [PyData.eqvAll]
  | [], _ :: _, _, _ => by simp [PyData.eqvAll]
  | _ :: _, [], _, _ => by simp [PyData.eqvAll]
  | d :: ds, e :: es, h1, h2 => by
    simp only [nbAll, Bool.and_eq_true] at h1 h2
    have a := eqv_iff d e h1.1 h2.1
    have b := eqvAll_iff ds es h1.2 h2.2
    simp only [PyData.eqvAll, Bool.and_eq_true, List.cons.injEq, a, b]
end
theorem nb_ints (ns : List Int) : nbAll (ns.map .int) = true := by
  induction ns with
  | nil => rfl
  | cons n ns ih => simp [nbAll, nbD, ih]
theorem nb_eT (x : Tr) : nbD (eT x) = true := by simp [eT, nbD, nbAll]
theorem nb_lF (f : Fm) : nbAll (lF f) = true := by
  unfold lF
  induction f with
  | nil => rfl
  | cons a f ih => simp only [List.map_cons, nbAll, ih, nb_eT, Bool.and_self]
theorem nb_eF (f : Fm) : nbD (eF f) = true := by rw [eF_lF, nbD]; exact nb_lF f
theorem nb_eR (x : Rat) : nbD (eR x) = true := by simp [eR, nbD, nbAll]
theorem depth_ints (ns : List Int) : PyData.depthAll (ns.map .int) = 0 := PySem.W.depth_ints ns
theorem depth_eR (x : Rat) : (eR x).depth = 1 := by simp [eR, PyData.depth, PyData.depthAll]
theorem depth_lF (f : Fm) : PyData.depthAll (lF f) ≤ 1 := by
  unfold lF
  induction f with
  | nil => simp [PyData.depthAll]
  | cons a f ih =>
    have e : (eT (tr a)).depth = 1 := by simp [eT, PyData.depth, PyData.depthAll]
    simp only [List.map_cons, PyData.depthAll, e]
    omega
theorem depth_eF (f : Fm) : (eF f).depth ≤ 2 := by
  have := depth_lF f
  rw [eF_lF, PyData.depth]
  omega
theorem eqOk_nb {d e : PyData} (h1 : nbD d = true) (h2 : nbD e = true) (h : d.depth ≤ 60) : EqOk d e := ⟨nb_lay d h1, nb_lay e h2, by omega⟩
theorem eR_inj {x y : Rat} : eR x = eR y ↔ x = y := by
  constructor
  · intro h
    simp only [eR, PyData.tuple.injEq, List.cons.injEq, PyData.int.injEq] at h
    exact Rat.ext h.1 (by have := h.2.1; omega)
  · rintro rfl; rfl
theorem eqv_eR (x y : Rat) : PyData.eqv (eR x) (eR y) = decide (x = y) := by
  rw [Bool.eq_iff_iff, eqv_iff _ _ (nb_eR x) (nb_eR y), eR_inj]; simp
/-! worth_of -/
structure WOk (f : Fm) (n : Int) : Prop where
  n0 : 0 < n
  nb : bi n ≤ 110
  len : f.length ≤ 60
  pw : f.Pairwise fun a b => a.1 < b.1
  lo : ∀ a ∈ f, -30 ≤ a.1
  hi : ∀ a ∈ f, a.1 ≤ 30
  den : ∃ D : Nat, 0 < D ∧ bl D ≤ 1000 ∧ ∀ a ∈ f, DD D a.2
  sz : ∀ a ∈ f, sz a.2 ≤ 2000
@[simp] def S_worth_of : SpD := fun ws Q _ => ∃ (f : Fm) (n : Int), ws = [.val (eF f), .val (.int n)] ∧ WOk f n ∧ Q (.val (eR (wr n f)))
theorem wv_low (n low : Int) (h : 0 < n) : ∀ f : Fm, wv (fun p => zp n (p - low)) f * zp n low = wr n f
  | [] => by simp only [wv]; grind
  | a :: f => by
    have ih := wv_low n low h f
    have e : zp n a.1 = zp n (a.1 - low) * zp n low := by rw [← zp_add h]; congr 1; omega
    show (a.2 * zp n (a.1 - low) + wv (fun p => zp n (p - low)) f) * zp n low = a.2 * zp n a.1 + wr n f
    rw [← ih, e]; grind
theorem wv_dd {D : Nat} {x : Int → Rat} : ∀ {f : Fm}, (∀ a ∈ f, DD D (a.2 * x a.1)) → DD D (wv x f)
  | [], _ => DD.zero D
  | a :: f, h => (h a List.mem_cons_self).add (wv_dd fun b m => h b (List.mem_cons_of_mem _ m))
theorem wv_sz {B : Nat} {x : Int → Rat} : ∀ {f : Fm}, (∀ a ∈ f, sz (a.2 * x a.1) ≤ B) → sz (wv x f) ≤ f.length * (B + 1) + 1
  | [], _ => by simp [wv]; decide
  | a :: f, h => by
    have h1 := h a List.mem_cons_self
    have h2 := wv_sz fun b m => h b (List.mem_cons_of_mem _ m)
    have h3 := sz_add (a.2 * x a.1) (wv x f)
    have e : (a :: f).length * (B + 1) = f.length * (B + 1) + (B + 1) := by rw [List.length_cons, Nat.succ_mul]
    simp only [wv]
    omega
theorem bl_one : bl 1 = 1 := by decide
theorem sz_int (z : Int) : sz (z : Rat) = bi z := by
  unfold sz
  rw [Rat.num_intCast, Rat.den_intCast, bl_one]
  have := bi_pos z
  omega
theorem dd_int_mul {D : Nat} {x : Rat} (h : DD D x) (z : Int) : DD D (x * (z : Rat)) := by
  have := h.mul (DD.int 1 z)
  rwa [Nat.mul_one] at this
theorem low_le {a : Int × Rat} {f : Fm} (h : (a :: f).Pairwise fun a b => a.1 < b.1) : ∀ b ∈ a :: f, a.1 ≤ b.1 := fun b m => by
  rcases List.mem_cons.mp m with e | m
  · exact e ▸ Int.le_refl _
  · exact Int.le_of_lt ((List.pairwise_cons.mp h).1 b m)
theorem p_worth_of : Law S_worth_of (m_worth_of S_reduced S_power_of) N_worth_of := by
  rintro ws Q R ⟨f, n, rfl, ok, h⟩
  obtain ⟨D, hD0, hD, hdd⟩ := ok.den
  have hn0 := ok.n0
  have hnb := ok.nb
  have hlen := ok.len
  have eE : EqOk (.tuple (lF f)) (.tuple []) := ⟨nb_lay _ (nb_eF f), rfl, by simp [PyData.depth, PyData.depthAll]⟩
  cases f with
  | nil =>
    simp [m_worth_of, N_worth_of, eF_lF, lF, PyData.eqv, PyData.eqvAll, -S_reduced, -S_power_of]
    have e0 : EqOk (.tuple []) (.tuple []) := ⟨rfl, rfl, by simp [PyData.depth, PyData.depthAll]⟩
    exact ⟨e0, h⟩
  | cons a0 f0 =>
    have hlow := low_le ok.pw
    have ha0 := ok.lo a0 List.mem_cons_self
    have ha0' := ok.hi a0 List.mem_cons_self
    have eA : PyData.eqv (.tuple (lF (a0 :: f0))) (.tuple []) = false := by simp [lF, PyData.eqv, PyData.eqvAll]
    have e0 : atI (lF (a0 :: f0)) 0 = some (.tuple [.int a0.1, .int a0.2.num, .int a0.2.den]) := by simp [lF, eT, tr]
    generalize hf : a0 :: f0 = f at *
    generalize hlw : a0.1 = low at *
    -- what a term is
    have term : ∀ a ∈ f, ∃ k : Nat, a.1 - low = k ∧ k ≤ 60 ∧ zp n (a.1 - low) = ((n ^ k : Int) : Rat) ∧ bi (n ^ k) ≤ 6601 := fun a ha => by
      have h1 := hlow a ha
      have h2 := ok.hi a ha
      refine ⟨(a.1 - low).toNat, by omega, by omega, ?_, ?_⟩
      · rw [← zp_nat]; congr 1; omega
      · have := bi_pow n (a.1 - low).toNat
        have h3 : (a.1 - low).toNat * bi n ≤ 60 * 110 := Nat.mul_le_mul (by omega) hnb
        omega
    have tdd : ∀ a ∈ f, DD D (a.2 * zp n (a.1 - low)) := fun a ha => by
      obtain ⟨k, _, _, e, _⟩ := term a ha
      rw [e]; exact dd_int_mul (hdd a ha) _
    have tsz : ∀ a ∈ f, sz (a.2 * zp n (a.1 - low)) ≤ 8601 := fun a ha => by
      obtain ⟨k, _, _, e, hb⟩ := term a ha
      have h1 := sz_mul a.2 ((n ^ k : Int) : Rat)
      rw [sz_int] at h1
      have h2 := ok.sz a ha
      rw [e]; omega
    have pdd : ∀ i, DD D (wv (fun p => zp n (p - low)) (f.take i)) := fun i => wv_dd fun a ha => tdd a (List.mem_of_mem_take ha)
    have psz : ∀ i, sz (wv (fun p => zp n (p - low)) (f.take i)) ≤ 516121 := fun i => by
      have h1 := wv_sz (B := 8601) (x := fun p => zp n (p - low)) (f := f.take i) fun a ha => tsz a (List.mem_of_mem_take ha)
      have h2 : (f.take i).length * (8601 + 1) ≤ 60 * (8601 + 1) := Nat.mul_le_mul_right _ (by rw [List.length_take]; omega)
      omega
    simp [m_worth_of, N_worth_of, eF_lF, eE, eA, e0, -S_reduced, -S_power_of]
    refine mFor_ix (J := fun i γ => ∃ x5 x6 x7, γ = [some (.val (.tuple (lF f))), some (.val (.int n)), some (.val (.int low)), some (.val (.int (wv (fun p => zp n (p - low)) (f.take i)).num)), some (.val (.int (wv (fun p => zp n (p - low)) (f.take i)).den)), x5, x6, x7]) _ 0 _ ⟨none, none, none, by simp [wv]⟩ ?_ ?_
    · rintro j d hd γ ⟨x5, x6, x7, rfl⟩ N' hN'
      unfold lF at hd
      rw [List.getElem?_map] at hd
      obtain ⟨a, ha, rfl⟩ := Option.map_eq_some_iff.mp hd
      have hm := List.mem_of_getElem? ha
      rw [Nat.zero_add] at hN' ⊢
      obtain ⟨k, ek, hk, ez, hb⟩ := term a hm
      have s0 := psz j
      have d0 := (pdd j).bits hD0
      have e3 : f.take (j + 1) = f.take j ++ [a] := by rw [List.take_succ, ha]; rfl
      have e4 : wv (fun p => zp n (p - low)) (f.take (j + 1)) = wv (fun p => zp n (p - low)) (f.take j) + a.2 * ((n ^ k : Int) : Rat) := by
        rw [e3, wv_append]; simp only [wv, ez]; grind
      rw [e4] at hN'
      generalize wv (fun p => zp n (p - low)) (f.take j) = X at *
      have s1 := sz_num X
      have s2 := sz_den X
      have s3 := ok.sz a hm
      have s4 := sz_num a.2
      have s5 := (hdd a hm).bits hD0
      have m1 := bi_mul a.2.num (n ^ k)
      have m2 := bi_mul (X.den : Int) (a.2.den : Int)
      have et : (a.1 - low).toNat = k := by omega
      have hkn : k * bi n ≤ 60 * 110 := Nat.mul_le_mul hk hnb
      simp [eT, tr, -S_reduced, -S_power_of]
      simp [et, -S_reduced]
      refine ⟨mulOk_of (by omega), ⟨by unfold RgS; omega, by omega⟩, mulOk_of (by omega), mulOk_of (by omega), mulOk_of (by omega), ?_⟩
      simp
      refine ⟨⟨Int.mul_pos (den_pos _) (den_pos _), by omega⟩, ?_⟩
      have e5 : qd (X.num * a.2.den + a.2.num * n ^ k * X.den) (X.den * a.2.den) = X + a.2 * ((n ^ k : Int) : Rat) := by
        rw [qd_add (den_pos _) (den_pos _), qd_self]
        have := qd_mul (t := a.2.num) (u := n ^ k) (b := a.2.den) (d := 1)
        rw [Int.mul_one, qd_self, qd_eq (n ^ k) 1] at this
        rw [this]
        have e1 : ((1 : Int) : Rat) = 1 := rfl
        rw [e1]; grind
      rw [e5]
      generalize X + a.2 * ((n ^ k : Int) : Rat) = Y at *
      simp [eR]
      exact hN' _ ⟨_, _, _, rfl⟩
    · rintro γ ⟨x5, x6, x7, rfl⟩
      rw [Nat.zero_add, lF_len, List.take_length]
      have s0 := psz f.length
      have d0 := (pdd f.length).bits hD0
      rw [List.take_length] at s0 d0
      have ew := wv_low n low hn0 f
      generalize wv (fun p => zp n (p - low)) f = X at *
      have s1 := sz_num X
      have b1 := bi_pow n low.toNat
      have b2 := bi_pow n (-low).toNat
      have h1 : low.toNat * bi n ≤ 30 * 110 := Nat.mul_le_mul (by omega) hnb
      have h2 : (-low).toNat * bi n ≤ 30 * 110 := Nat.mul_le_mul (by omega) hnb
      have m2 := bi_mul (X.den : Int) (n ^ (-low).toNat)
      have hp : 0 < n ^ (-low).toNat := Int.pow_pos hn0
      simp [-S_reduced]
      refine ⟨⟨by unfold RgS; omega, by omega⟩, mulOk_of (by omega), ⟨by unfold RgS; omega, by omega⟩, mulOk_of (by omega), ?_⟩
      simp
      refine ⟨⟨Int.mul_pos (den_pos _) hp, by omega⟩, ?_⟩
      have e : qd (X.num * n ^ low.toNat) (X.den * n ^ (-low).toNat) = wr n f := by
        rw [← ew, qd_mul, qd_self]
        congr 1
        rw [qd_eq]
        rcases Int.le_total 0 low with hl | hl
        · have e1 : (-low).toNat = 0 := by omega
          have e2 : zp n low = ((n ^ low.toNat : Int) : Rat) := by rw [← zp_nat]; congr 1; omega
          rw [e1, e2, Int.pow_zero]
          have e1 : ((1 : Int) : Rat) = 1 := rfl
          rw [e1]; grind
        · have e1 : low.toNat = 0 := by omega
          have e2 : zp n (-low) = ((n ^ (-low).toNat : Int) : Rat) := by rw [← zp_nat]; congr 1; omega
          have e3 : zp n low = (zp n (-low))⁻¹ := by rw [zp_neg, Rat.inv_inv]
          rw [e1, e3, e2, Int.pow_zero, Rat.div_def]
          have e1 : ((1 : Int) : Rat) = 1 := rfl
          rw [e1, Rat.one_mul]
      rw [e]
      exact h
end GJ

/-! F4: sizes step by step. -/
namespace GJ
theorem szT_snoc (q : Qn) (i : Int) : ∀ l : List Int, szT q (l ++ [i]) = ((szT q l).1 + (tb q i).2, (szT q l).2 * (tb q i).1)
  | [] => by simp [szT]
  | j :: l => by
    have ih := szT_snoc q i l
    simp only [List.cons_append, szT, ih]
    congr 1
    · omega
    · rw [Int.mul_assoc, Int.mul_comm (tb q i).1, ← Int.mul_assoc]
theorem szL_snoc (ns : List Int) (k : Int × Int × Int × Int) : ∀ ls : List (Int × Int × Int × Int), szL ns (ls ++ [k]) = if k.1 ∈ ns ∧ k.2.1 ∈ ns then ((szL ns ls).1 + k.2.2.2, (szL ns ls).2 * k.2.2.1) else szL ns ls
  | [] => by simp [szL]
  | l :: ls => by
    have ih := szL_snoc ns k ls
    simp only [List.cons_append, szL, ih]
    by_cases h : k.1 ∈ ns ∧ k.2.1 ∈ ns
    · simp only [if_pos h]
      by_cases h2 : l.1 ∈ ns ∧ l.2.1 ∈ ns
      · simp only [if_pos h2]
        congr 1
        · omega
        · rw [Int.mul_assoc, Int.mul_comm k.2.2.1, ← Int.mul_assoc]
      · simp only [if_neg h2]
    · simp only [if_neg h]
theorem formOf_one {x : Int × Rat} (h : x.2 ≠ 0) : formOf [x] = [x] := by
  obtain ⟨p, c⟩ := x
  have e : cf [(p, c)] p = c := by simp [cf]; grind
  have h' : ¬ c = 0 := h
  simp [formOf, usort, insI, atP, e, h']
theorem take_snoc {α : Type} {l : List α} {j : Nat} {a : α} (h : l[j]? = some a) : l.take (j + 1) = l.take j ++ [a] := by
  rw [List.take_succ, h]; rfl
end GJ

/-! P9: sizes and costs. -/
namespace GJ
open PySem PySem.Spec PyProof.Rows L2
theorem atI_mapI {α : Type} {f : α → PyData} {l : List α} {i : Int} {x : α} (h0 : 0 ≤ i) (h : l[i.toNat]? = some x) : atI (l.map f) i = some (f x) := by
  have e : i = (i.toNat : Int) := by omega
  rw [e]
  exact atI_nat (by rw [List.getElem?_map, h]; rfl)
theorem tb_get {q : Qn} {i : Int} (h0 : 0 ≤ i) (h : i < q.ts.length) : q.ts[i.toNat]? = some (tb q i) := by
  have h2 : i.toNat < q.ts.length := by omega
  unfold tb
  rw [List.getD_eq_getElem?_getD, List.getElem?_eq_getElem h2]
  rfl
theorem atI_tab {q : Qn} {i : Int} (h0 : 0 ≤ i) (h : i < q.ts.length) : atI (q.ts.map eTab) i = some (eTab (tb q i)) := atI_mapI h0 (tb_get h0 h)
theorem bi_small {i : Int} {k : Nat} (h : i.natAbs < 2 ^ k) (hk : 0 < k) : bi i ≤ k := bl_le h hk
@[simp] def S_size_of : SpD := fun ws Q _ => ∃ (q : Qn) (ns : List Int), ws = [.val (eQ q), .val (eI ns)] ∧ (QOk q ∧ InT q ns ∧ ns.length ≤ 8) ∧ Q (.val (eF [sizeP q ns]))
theorem p_size_of : Law S_size_of (m_size_of S_reduced) N_size_of := by
  rintro ws Q R ⟨q, ns, rfl, ⟨hq, hi, hl⟩, h⟩
  have hnl := hq.nl
  have hn4 := hq.n4
  simp [m_size_of, N_size_of, eI, -S_reduced]
  refine mFor_ix (J := fun i γ => ∃ x5, γ = [some (.val (eQ q)), some (.val (eI ns)), some (.val (.int (szT q (ns.take i)).1)), some (.val (.int (szT q (ns.take i)).2)), some (.val (.int 1)), x5, none, none, none, none]) _ 0 _ ⟨none, by simp [szT, eI]⟩ ?_ ?_
  · rintro j d hd γ ⟨x5, rfl⟩ N' hN'
    rw [List.getElem?_map] at hd
    obtain ⟨i, ha, rfl⟩ := Option.map_eq_some_iff.mp hd
    obtain ⟨i0, i1⟩ := hi i (List.mem_of_getElem? ha)
    rw [Nat.zero_add] at hN' ⊢
    rw [take_snoc ha, szT_snoc] at hN'
    obtain ⟨⟨t1, t2⟩, t3, t4⟩ := szT_ok hq (ns := ns.take j) fun x m => hi x (List.mem_of_mem_take m)
    obtain ⟨t5, t6, t7, t8⟩ := tb_ok hq i0 i1
    have tl : (ns.take j).length ≤ 8 := by rw [List.length_take]; omega
    have b : bi (tb q i).1 ≤ 7 := bl_le (by omega) (by omega)
    simp [eQ, atI_tab i0 i1, eTab]
    exact ⟨mulOk_of (by omega), hN' _ ⟨_, rfl⟩⟩
  · rintro γ ⟨x5, rfl⟩
    rw [Nat.zero_add, List.length_map, List.take_length]
    simp [eQ, -S_reduced]
    refine mFor_ix (J := fun i γ => ∃ x6 x7 x8 x9, γ = [some (.val (eQ q)), some (.val (eI ns)), some (.val (.int ((szT q ns).1 - (szL ns (q.ls.take i)).1))), some (.val (.int (szT q ns).2)), some (.val (.int (szL ns (q.ls.take i)).2)), x5, x6, x7, x8, x9]) _ 0 _ ⟨none, none, none, none, by simp [szL, eQ]⟩ ?_ ?_
    · rintro j d hd γ ⟨x6, x7, x8, x9, rfl⟩ N' hN'
      rw [List.getElem?_map] at hd
      obtain ⟨l, ha, rfl⟩ := Option.map_eq_some_iff.mp hd
      have ol := hq.lnk l (List.mem_of_getElem? ha)
      rw [Nat.zero_add] at hN' ⊢
      rw [take_snoc ha, szL_snoc] at hN'
      obtain ⟨⟨t1, t2⟩, t3, t4⟩ := szL_ok (k := q.ts.length) ns (ls := q.ls.take j) fun x m => hq.lnk x (List.mem_of_mem_take m)
      have tl : (q.ls.take j).length ≤ 6 := by rw [List.length_take]; omega
      have o1 := ol.b1
      have o2 := ol.b2
      have b : bi l.2.2.1 ≤ 7 := bl_le (by omega) (by omega)
      simp [eLnk, eI, inD_ints, inOk_ints]
      refine ⟨fun h1 => ⟨fun h2 => ⟨mulOk_of (by omega), hN' _ ?_⟩, fun h2 => hN' _ ?_⟩, fun h1 => hN' _ ?_⟩
      · rw [if_pos ⟨h1, h2⟩]
        have e : (szT q ns).1 - (szL ns (q.ls.take j)).1 - l.2.2.2 = (szT q ns).1 - ((szL ns (q.ls.take j)).1 + l.2.2.2) := by omega
        rw [e]
        exact ⟨_, _, _, _, rfl⟩
      · rw [if_neg (fun z => h2 z.2)]
        exact ⟨_, _, _, _, rfl⟩
      · rw [if_neg (fun z => h1 z.1)]
        exact ⟨_, _, _, _, rfl⟩
    · rintro γ ⟨x6, x7, x8, x9, rfl⟩
      rw [Nat.zero_add, List.length_map, List.take_length]
      obtain ⟨⟨t1, t2⟩, t3, t4⟩ := szL_ok ns hq.lnk
      simp [-S_reduced]
      simp
      refine ⟨⟨by omega, by omega⟩, ?_⟩
      simp [eR]
      exact ⟨by unfold SzOk; omega, h⟩
/-! join_form -/
structure JOk (q : Qn) (a b : List Int) : Prop where
  ok : QOk q
  ia : InT q a
  ib : InT q b
  n : a.length + b.length ≤ 4
theorem ptok_tr {D : Nat} {lo hi : Int} {a : Int × Rat} (hD : 0 < D) (hb : bl D ≤ 4000) (h : DD D a.2) (hs : sz a.2 ≤ 4000) : bi (tr a).2.1 ≤ 4000 ∧ bi (tr a).2.2 ≤ 4000 := by
  have := sz_num a.2
  have := sz_den a.2
  simp only [tr]
  omega
/-- forms that can be added -/
structure FOk (D : Nat) (f : Fm) : Prop where
  dd : ∀ a ∈ f, DD D a.2
  sz : ∀ a ∈ f, sz a.2 ≤ 4000
theorem psOk_tr {D : Nat} {f : Fm} (h : FOk D f) (hD : 0 < D) (hb : bl D ≤ 4000) (hl : f.length ≤ 60) : PsOk (f.map tr) := by
  refine ⟨by rw [List.length_map]; exact hl, ⟨D, hD, hb, fun x hx => ?_⟩, fun x hx => ?_, fun x hx => ?_, fun x hx => ?_⟩ <;> obtain ⟨a, ha, rfl⟩ := List.mem_map.mp hx
  · simp only [tr]; rw [qd_self]; exact h.dd a ha
  · exact den_pos _
  · exact Nat.le_trans (sz_num a.2) (h.sz a ha)
  · exact Nat.le_trans (sz_den a.2) (h.sz a ha)
theorem FOk.app {D : Nat} {f g : Fm} (h : FOk D f) (k : FOk D g) : FOk D (f ++ g) := ⟨fun a m => (List.mem_append.mp m).elim (h.dd a) (k.dd a), fun a m => (List.mem_append.mp m).elim (h.sz a) (k.sz a)⟩
theorem FOk.nil (D : Nat) : FOk D [] := ⟨fun a m => (nomatch m), fun a m => (nomatch m)⟩
theorem FOk.one {D : Nat} {a : Int × Rat} (h : DD D a.2) (k : GJ.sz a.2 ≤ 4000) : FOk D [a] := ⟨fun b m => by rw [List.mem_singleton.mp m]; exact h, fun b m => by rw [List.mem_singleton.mp m]; exact k⟩
theorem dq_ok {q : Qn} (hq : QOk q) : 0 < DQ q ∧ bl (DQ q) ≤ 86 := by
  obtain ⟨h1, h2⟩ := belows_ok hq.lnk
  have := hq.nl
  have h3 := bl_mul (belows q.ls) (belows q.ls)
  exact ⟨Nat.mul_pos h1 h1, by show bl (belows q.ls * belows q.ls) ≤ 86; omega⟩
/-- a coefficient's size: by its denominator's and its worth's -/
theorem sizeP_F {q : Qn} (hq : QOk q) {ns : List Int} (h : InT q ns) (hn : ns.length ≤ 8) : FOk (DQ q) [sizeP q ns] ∧ 0 < (sizeP q ns).2 ∧ sz (sizeP q ns).2 ≤ 100 := by
  obtain ⟨_, a3, a4, a5⟩ := sizeP_ok hq h
  exact ⟨FOk.one (dd_sq a4) (by omega), a3, by omega⟩
@[simp] def S_join_form : SpD := fun ws Q _ => ∃ (q : Qn) (a b : List Int) (m : Mth), ws = [.val (eQ q), .val (eI a), .val (eI b), .val (.str (mS m))] ∧ JOk q a b ∧ Q (.val (eF (joinF q a b m)))
theorem bi3 : bi 3 = 2 := by decide
theorem pos_ne {x : Rat} (h : 0 < x) : x ≠ 0 := by grind
theorem p_join_form : Law S_join_form (m_join_form S_size_of S_added S_product S_scaled) N_join_form := by
  rintro ws Q R ⟨q, a, b, m, rfl, ⟨hq, ha, hb, hn⟩, h⟩
  have hab : InT q (sortI (a ++ b)) := ha.app hb
  have hl : (sortI (a ++ b)).length ≤ 4 := by rw [sortI_len, List.length_append]; exact hn
  obtain ⟨A1, A2, A3⟩ := sizeP_F hq ha (by omega)
  obtain ⟨B1, B2, B3⟩ := sizeP_F hq hb (by omega)
  obtain ⟨C1, C2, C3⟩ := sizeP_F hq hab (by omega)
  obtain ⟨_, _, a4, _⟩ := sizeP_ok hq ha
  obtain ⟨_, _, b4, _⟩ := sizeP_ok hq hb
  obtain ⟨D0, D1⟩ := dq_ok hq
  simp [m_join_form, N_join_form, -S_size_of, -S_added, -S_product, -S_scaled, eqOk_loop, eqOk_hash, PyData.eqv, mS_loop, mS_hash]
  refine ⟨q, a, rfl, ⟨hq, ha, by omega⟩, q, b, rfl, ⟨hq, hb, by omega⟩, ?_⟩
  simp [eI, ← List.map_append, sortD_ints, -S_size_of, -S_added, -S_product, -S_scaled]
  refine ⟨by unfold SzOk; omega, sortOk_ints _, q, sortI (a ++ b), rfl, ⟨hq, hab, by omega⟩, ?_⟩
  simp [-S_size_of, -S_added, -S_product, -S_scaled]
  have hR : ∀ m', m' = m → Q (.val (eF (joinF q a b m'))) := fun _ e => e ▸ h
  clear h
  refine ⟨fun hm => ?_, fun hm => ⟨fun hm2 => ?_, fun hm2 => ?_⟩⟩
  · refine ⟨[sizeP q a], [sizeP q b], rfl, ⟨fun x hx => A1.sz x hx, fun x hx => B1.sz x hx, by simp⟩, ?_, ?_⟩
    · have s1 := sz_num (sizeP q a).2
      have s2 := sz_num (sizeP q b).2
      have s3 := sz_den (sizeP q a).2
      have s4 := sz_den (sizeP q b).2
      have m1 := bi_mul (sizeP q a).2.num (sizeP q b).2.num
      have m2 := bi_mul ((sizeP q a).2.den : Int) (sizeP q b).2.den
      refine ⟨by simp [prdT], ⟨DQ q, D0, by omega, ?_⟩, ?_, ?_, ?_⟩ <;> simp only [prdT, List.flatMap_cons, List.flatMap_nil, List.map_cons, List.map_nil, List.append_nil, List.mem_singleton] <;> rintro x rfl
      · rw [mul_qd]; exact a4.mul b4
      · exact Int.mul_pos (den_pos _) (den_pos _)
      · simp only; omega
      · simp only; omega
    · have e : prdF [sizeP q a] [sizeP q b] = [((sizeP q a).1 + (sizeP q b).1, (sizeP q a).2 * (sizeP q b).2)] := rfl
      have hp := Rat.mul_pos A2 B2
      rw [e, formOf_one (pos_ne hp)]
      have hz := sz_mul (sizeP q a).2 (sizeP q b).2
      simp [-S_added]
      refine ⟨[[sizeP q (sortI (a ++ b))], [((sizeP q a).1 + (sizeP q b).1, (sizeP q a).2 * (sizeP q b).2)]], rfl, ?_, by simp [eF], hR .loop hm.symm⟩
      exact psOk_tr (C1.app (FOk.one (a4.mul b4) (by simp only; omega))) D0 (by omega) (by simp)
  · refine ⟨[[sizeP q (sortI (a ++ b))], [sizeP q a], [sizeP q b]], rfl, ?_, by simp [eF], hR .hash hm2.symm⟩
    exact psOk_tr (C1.app (A1.app B1)) D0 (by omega) (by simp)
  · have hm3 : m = .index := by cases m <;> simp_all
    subst hm3
    have s1 := sz_num (sizeP q a).2
    have s3 := sz_den (sizeP q a).2
    refine ⟨[sizeP q a], 3, rfl, ⟨fun x hx => ?_, by rw [bi3]; omega⟩, ?_, ?_⟩
    · rw [List.mem_singleton.mp hx]; omega
    · have m1 := bi_mul (sizeP q a).2.num 3
      rw [bi3] at m1
      refine ⟨by simp [sclT], ⟨DQ q, D0, by omega, ?_⟩, ?_, ?_, ?_⟩ <;> simp only [sclT, List.map_cons, List.map_nil, List.mem_singleton] <;> rintro x rfl
      · have e := congrArg (fun l => l.map (·.2)) (scl_toQ 3 [sizeP q a])
        simp only [sclT, sclF, List.map_cons, List.map_nil, toQ, List.cons.injEq, and_true] at e
        simp only
        rw [e]
        exact dd_int_mul (dd_sq a4) 3
      · exact den_pos _
      · simp only; omega
      · simp only; omega
    · have e : sclF 3 [sizeP q a] = [((sizeP q a).1, (sizeP q a).2 * 3)] := rfl
      have hp : 0 < (sizeP q a).2 * 3 := Rat.mul_pos A2 (by decide)
      rw [e, formOf_one (pos_ne hp)]
      have hz := sz_mul (sizeP q a).2 ((3 : Int) : Rat)
      rw [sz_int, bi3] at hz
      simp [-S_added]
      refine ⟨[[sizeP q (sortI (a ++ b))], [((sizeP q a).1, (sizeP q a).2 * 3)]], rfl, ?_, by simp [eF], hR .index rfl⟩
      exact psOk_tr (C1.app (FOk.one (dd_int_mul (dd_sq a4) 3) (Nat.le_trans hz (by omega)))) D0 (by omega) (by simp)
end GJ

/-! F5: sizes of costs. -/
namespace GJ
theorem zp_one (p : Int) : zp 1 p = 1 := by
  have h : ∀ k : Nat, zp 1 (k : Int) = 1 := fun k => by rw [zp_nat, Int.one_pow]; rfl
  rcases Int.eq_nat_or_neg p with ⟨k, e | e⟩
  · subst e; exact h k
  · subst e; rw [zp_neg, h k]; grind
theorem sz_zero : sz 0 = 1 := by decide
theorem joinR_sz {q : Qn} {n : Int} {S : Nat} {a b : List Int} (ha : sz (sizeR q n a) ≤ S) (hb : sz (sizeR q n b) ≤ S) (hw : sz (sizeR q n (sortI (a ++ b))) ≤ S) (m : Mth) : sz (joinR q n a b m) ≤ 3 * S + 3 := by
  cases m
  · have h1 := sz_add (sizeR q n a) (sizeR q n b)
    have h2 := sz_add (sizeR q n (sortI (a ++ b))) (sizeR q n a + sizeR q n b)
    simp only [joinR]
    omega
  · have h1 := sz_mul 3 (sizeR q n a)
    have h2 := sz_add (sizeR q n (sortI (a ++ b))) (3 * sizeR q n a)
    have h3 : sz (3 : Rat) = 2 := by decide
    have h4 := sz_pos (sizeR q n a)
    simp only [joinR]
    omega
  · have h1 := sz_mul (sizeR q n a) (sizeR q n b)
    have h2 := sz_add (sizeR q n (sortI (a ++ b))) (sizeR q n a * sizeR q n b)
    simp only [joinR]
    omega
theorem costR_sz {q : Qn} {n : Int} {S : Nat} (hS : ∀ ns, InT q ns → ns.length ≤ 4 → sz (sizeR q n ns) ≤ S) : ∀ p : Plan, InT q (tabs p) → p.joins ≤ 3 → sz (costR q n p) ≤ S * (4 * p.joins + 1) + 6 * p.joins
  | .leaf i, h, _ => by
    have := hS [i] h (by simp)
    simp only [costR, Plan.joins]
    omega
  | .join l r m, h, hj => by
    simp only [Plan.joins] at hj
    have hl : InT q (tabs l) := fun i z => h i (tabs_mem.mpr (.inl z))
    have hr : InT q (tabs r) := fun i z => h i (tabs_mem.mpr (.inr z))
    have il := costR_sz hS l hl (by omega)
    have ir := costR_sz hS r hr (by omega)
    have tl := tabs_len l
    have tr := tabs_len r
    have J := joinR_sz (hS _ hl (by omega)) (hS _ hr (by omega)) (hS _ (hl.app hr) (by rw [sortI_len, List.length_append]; omega)) m
    have a1 := sz_add (costR q n l) (joinR q n (tabs l) (tabs r) m)
    have e : S * (4 * (l.joins + r.joins + 1) + 1) = S * (4 * l.joins + 1) + S * (4 * r.joins + 1) + 3 * S := by
      rw [show 4 * (l.joins + r.joins + 1) + 1 = (4 * l.joins + 1) + (4 * r.joins + 1) + 3 by omega, Nat.mul_add, Nat.mul_add, Nat.mul_comm S 3]
    simp only [costR, Plan.joins]
    rw [e]
    split
    · rw [Rat.add_zero]; omega
    · have a2 := sz_add (costR q n l + joinR q n (tabs l) (tabs r) m) (costR q n r)
      omega
theorem costR_sz1 {q : Qn} (hq : QOk q) {p : Plan} (h : InT q (tabs p)) (hj : p.joins ≤ 3) : sz (costR q 1 p) ≤ 1318 := by
  have h1 := costR_sz (n := 1) (S := 100) (fun ns hi hn => by
    obtain ⟨_, _, _, a5⟩ := sizeP_ok hq hi
    unfold sizeR
    rw [zp_one, Rat.mul_one]
    omega) p h hj
  omega
theorem wv_nonneg {x : Int → Rat} : ∀ {f : Fm}, (∀ a ∈ f, 0 ≤ a.2 * x a.1) → 0 ≤ wv x f
  | [], _ => Rat.le_refl
  | a :: f, h => by
    have h1 := h a List.mem_cons_self
    have h2 := wv_nonneg fun b m => h b (List.mem_cons_of_mem _ m)
    simp only [wv]
    grind
theorem coef_le {x : Int → Rat} : ∀ {f : Fm}, (∀ a ∈ f, 0 ≤ a.2 * x a.1) → ∀ a ∈ f, a.2 * x a.1 ≤ wv x f
  | [], _, a, m => by cases m
  | b :: f, h, a, m => by
    have h1 := h b List.mem_cons_self
    have h3 := wv_nonneg fun c m => h c (List.mem_cons_of_mem _ m)
    simp only [wv]
    rcases List.mem_cons.mp m with e | m
    · subst e; grind
    · have h2 := coef_le (fun c m => h c (List.mem_cons_of_mem _ m)) a m
      grind
theorem num_le {c X : Rat} (h0 : 0 < c) (h : c ≤ X) : bi c.num ≤ bi X.num + bi (c.den : Int) := by
  have hc := rat_eq c
  have hX := rat_eq X
  have h1 : c.num * X.den ≤ X.num * c.den := by
    exact (Rat.le_iff _ _).mp h
  have hn : 0 < c.num := by
    have z1 : 0 ≤ c.num := Rat.num_nonneg.mpr (by grind)
    have z2 : c.num ≠ 0 := fun e => by rw [Rat.num_eq_zero] at e; grind
    omega
  have hd := den_pos X
  have h2 : c.num ≤ c.num * X.den := by
    have := Int.mul_le_mul_of_nonneg_left (show (1 : Int) ≤ X.den by omega) (by omega : 0 ≤ c.num)
    omega
  have h3 : bi c.num ≤ bi (X.num * c.den) := bl_mono (by omega)
  exact Nat.le_trans h3 (bi_mul _ _)
theorem costF_sz {q : Qn} (hq : QOk q) {p : Plan} (h : InT q (tabs p)) (hj : p.joins ≤ 3) : ∀ a ∈ costF q p, sz a.2 ≤ 1404 := fun a m => by
  obtain ⟨ok, _⟩ := costF_ok hq h hj
  have hs := costR_sz1 hq h hj
  have hw := wr_costF q (n := 1) (by omega) p
  have e : ∀ b ∈ costF q p, 0 ≤ b.2 * zp 1 b.1 := fun b mb => by
    have := ok.pos b mb
    rw [zp_one, Rat.mul_one]; grind
  have h1 := coef_le (x := fun p => zp 1 p) e a m
  have h1' : a.2 ≤ costR q 1 p := by
    rw [← hw]
    have e1 : a.2 * zp 1 a.1 = a.2 := by rw [zp_one, Rat.mul_one]
    rw [← e1]; exact h1
  have hp := ok.pos a m
  obtain ⟨b1, b2⟩ := belows_ok hq.lnk
  have hn := hq.nl
  have b3 := bl_mul (belows q.ls) (belows q.ls)
  have hD : bi (a.2.den : Int) ≤ bl (DQ q) := (ok.dd a m).bits (Nat.mul_pos b1 b1)
  have h2 := num_le hp h1'
  have h3 := sz_num (costR q 1 p)
  have h4 : bi (a.2.den : Int) = bl a.2.den := by unfold bi; rw [Int.natAbs_natCast]
  have h5 : bl (DQ q) ≤ 86 := by show bl (belows q.ls * belows q.ls) ≤ 86; omega
  unfold sz
  omega
end GJ

/-! P10: cost_of, cost, cost_at. -/
namespace GJ
open PySem PySem.Spec PyProof.Rows L2
theorem tabs_mth (l r : Plan) (m m' : Mth) : tabs (.join l r m) = tabs (.join l r m') := rfl
theorem joinF_sz {q : Qn} {a b : List Int} (h : JOk q a b) (m : Mth) : ∀ x ∈ joinF q a b m, sz x.2 ≤ 4000 := fun x hx => by
  have hl : (sortI (a ++ b)).length ≤ 4 := by rw [sortI_len, List.length_append]; exact h.n
  have hn := h.n
  obtain ⟨_, A2, A3⟩ := sizeP_F h.ok h.ia (by omega)
  obtain ⟨_, B2, B3⟩ := sizeP_F h.ok h.ib (by omega)
  obtain ⟨_, C2, C3⟩ := sizeP_F h.ok (h.ia.app h.ib) (by omega)
  have z1 := sz_mul (sizeP q a).2 (sizeP q b).2
  have z2 := sz_mul (sizeP q a).2 3
  have z3 : sz (3 : Rat) = 2 := by decide
  have key : ∀ ps : Fm, ps.length ≤ 3 → (∀ y ∈ ps, sz y.2 ≤ 200) → x ∈ formOf ps → sz x.2 ≤ 4000 := fun ps hl hz hm => by
    rw [(formOf_mem hm).1]
    have := cf_sz x.1 hz
    have : ps.length * (200 + 1) ≤ 3 * (200 + 1) := Nat.mul_le_mul_right _ hl
    omega
  cases m
  · refine key _ (by simp) ?_ hx
    simp only [List.mem_cons, List.not_mem_nil, or_false]
    rintro y (rfl | rfl | rfl) <;> omega
  · refine key _ (by simp) ?_ hx
    simp only [List.mem_cons, List.not_mem_nil, or_false]
    rintro y (rfl | rfl)
    · omega
    · simp only; omega
  · refine key _ (by simp) ?_ hx
    simp only [List.mem_cons, List.not_mem_nil, or_false]
    rintro y (rfl | rfl)
    · omega
    · simp only; omega
@[simp] def S_cost_of (n : Nat) : SpD := fun ws Q _ => ∃ (q : Qn) (p : Plan), ws = [.val (eQ q), .val (eP p)] ∧ (QOk q ∧ InT q (tabs p) ∧ p.joins ≤ 3) ∧ (p.depth ≤ n ∧ n ≤ 10) ∧ Q (.val (eF (costF q p)))
theorem p_cost_of0 (S1 S2 S3 S4 : SpD) : Law (S_cost_of 0) (m_cost_of S_size_of S1 S2 S3 S4) N_cost_of := by
  rintro ws Q R ⟨q, p, rfl, ⟨hq, hi, hj⟩, ⟨hd, hn⟩, h⟩
  cases p with
  | leaf i =>
    simp [m_cost_of, N_cost_of, eP, -S_size_of]
    exact ⟨q, [i], rfl, ⟨hq, hi, by simp⟩, by simp [eF], h⟩
  | join l r m => simp [Plan.depth] at hd
theorem p_cost_of (n : Nat) : Law (S_cost_of (n + 1)) (m_cost_of S_size_of (S_cost_of n) S_join_form (S_tables_in n) S_added) N_cost_of := by
  rintro ws Q R ⟨q, p, rfl, ⟨hq, hi, hj⟩, ⟨hd, hn⟩, h⟩
  cases p with
  | leaf i =>
    simp [m_cost_of, N_cost_of, eP, -S_size_of, -S_cost_of, -S_join_form, -S_tables_in, -S_added]
    exact ⟨q, [i], rfl, ⟨hq, hi, by simp⟩, by simp [eF], h⟩
  | join l r m =>
    simp only [Plan.depth] at hd
    simp only [Plan.joins] at hj
    have hl : InT q (tabs l) := fun i z => hi i (tabs_mem.mpr (.inl z))
    have hr : InT q (tabs r) := fun i z => hi i (tabs_mem.mpr (.inr z))
    obtain ⟨l1, l2⟩ := costF_ok hq hl (by omega)
    obtain ⟨r1, r2⟩ := costF_ok hq hr (by omega)
    have l3 := costF_sz hq hl (by omega)
    have r3 := costF_sz hq hr (by omega)
    have jk : JOk q (tabs l) (tabs r) := ⟨hq, hl, hr, by rw [tabs_len, tabs_len]; omega⟩
    obtain ⟨j1, j2⟩ := joinF_ok hq hl hr jk.n m
    have j3 := joinF_sz jk m
    obtain ⟨D0, D1⟩ := dq_ok hq
    have lo : FOk (DQ q) (costF q l) := ⟨l1.dd, fun a ma => by have := l3 a ma; omega⟩
    have ro : FOk (DQ q) (costF q r) := ⟨r1.dd, fun a ma => by have := r3 a ma; omega⟩
    have jo : FOk (DQ q) (joinF q (tabs l) (tabs r) m) := ⟨j1.dd, j3⟩
    simp [m_cost_of, N_cost_of, eP, -S_size_of, -S_cost_of, -S_join_form, -S_tables_in, -S_added, eqOk_index, PyData.eqv, mS_index]
    refine ⟨q, l, rfl, ⟨hq, hl, by omega⟩, ⟨by omega, by omega⟩, l, rfl, by omega, by omega, ?_⟩
    simp [-S_cost_of, -S_join_form, -S_tables_in, -S_added]
    refine ⟨r, rfl, by omega, by omega, ?_⟩
    simp [-S_cost_of, -S_join_form, -S_tables_in, -S_added]
    refine ⟨q, tabs l, tabs r, m, rfl, jk, ?_⟩
    simp [-S_cost_of, -S_added]
    refine ⟨fun hm => ?_, fun hm => ?_⟩
    · refine ⟨q, r, rfl, ⟨hq, hr, by omega⟩, ⟨by omega, by omega⟩, ?_⟩
      simp [-S_added]
      refine ⟨by unfold SzOk; omega, [costF q l, joinF q (tabs l) (tabs r) m, costF q r], rfl, ?_, by simp [eF], ?_⟩
      · have e : [costF q l, joinF q (tabs l) (tabs r) m, costF q r].flatten = costF q l ++ joinF q (tabs l) (tabs r) m ++ costF q r := by simp
        rw [e]
        exact psOk_tr ((lo.app jo).app ro) D0 (by omega) (by rw [List.length_append, List.length_append]; omega)
      · simp only [costF, if_neg hm] at h
        simpa using h
    · refine ⟨by unfold SzOk; omega, [costF q l, joinF q (tabs l) (tabs r) m], rfl, ?_, by simp [eF], ?_⟩
      · have e : [costF q l, joinF q (tabs l) (tabs r) m].flatten = costF q l ++ joinF q (tabs l) (tabs r) m := by simp
        rw [e]
        exact psOk_tr (lo.app jo) D0 (by omega) (by rw [List.length_append]; omega)
      · simp only [costF, if_pos hm] at h
        simpa using h
/-! cost, cost_at -/
theorem shape_in {k : Int} : ∀ {n : Nat} {p : Plan}, isShape k n (eP p) = true → ∀ i ∈ tabs p, 0 ≤ i ∧ i < k
  | n, .leaf i, h, j, hj => by
    have e : isNum (.int i) 0 (k - 1) = true := by
      cases n <;> simpa [isShape, eP] using h
    simp at e
    simp only [tabs, List.mem_singleton] at hj
    omega
  | 0, .join l r m, h, j, hj => by simp [isShape, eP] at h
  | n + 1, .join l r m, h, j, hj => by
    simp only [isShape, eP, isNum_tuple, Bool.false_or, Bool.and_eq_true] at h
    rcases tabs_mem.mp hj with z | z
    · exact shape_in h.2.1 j z
    · exact shape_in h.2.2 j z
theorem good_out {q : Qn} {d : PyData} (h : goodPlan q d = true) : ∃ p, d = eP p ∧ p.depth ≤ 3 ∧ InT q (tabs p) ∧ p.joins + 1 = q.ts.length ∧ (tabs p).Nodup ∧ canLed q p = true := by
  simp only [goodPlan, partPlan, Bool.and_eq_true, decide_eq_true_eq] at h
  obtain ⟨⟨h1, h2, h3⟩, h4⟩ := h
  obtain ⟨p, rfl, hp⟩ := shape_plan h1
  rw [dPlan_eP] at h2 h3 h4
  rw [tabs_len] at h4
  exact ⟨p, rfl, hp, shape_in h1, h4, h2, h3⟩
@[simp] def S_cost (C : Addr) : SpD := fun ws Q R => ∃ (q : Qn) (d : PyData), ws = [.val (eQ q), .val d] ∧ isQn q ∧ (goodPlan q d = true → Q (.val (eF (costF q (dPlan d))))) ∧ (goodPlan q d = false → R C)
theorem p_cost (C : Addr) : Law (S_cost C) (m_cost (S_need_both C) (S_cost_of 3)) N_cost := by
  rintro ws Q R ⟨q, d, rfl, hq, h1, h2⟩
  have hn := hq.2.n4
  simp [m_cost, N_cost, -S_need_both, -S_cost_of]
  refine ⟨q, d, rfl, hq, fun hg => ?_, h2⟩
  obtain ⟨p, rfl, hd, hi, hj, _⟩ := good_out hg
  have h1 := h1 hg
  rw [dPlan_eP] at h1
  exact ⟨q, p, rfl, ⟨hq.2, hi, by omega⟩, ⟨hd, by omega⟩, by simp [eF], h1⟩
@[simp] def S_cost_at (C C' : Addr) : SpD := fun ws Q R => ∃ (q : Qn) (d e : PyData), ws = [.val (eQ q), .val d, .val e] ∧ isQn q ∧ (goodPlan q d = true → (isNum e 1 (10 ^ 30) = true → Q (.val (eR (costR q (toI e) (dPlan d))))) ∧ (isNum e 1 (10 ^ 30) = false → R C')) ∧ (goodPlan q d = false → R C)
theorem far_bits {n : Int} (h0 : 1 ≤ n) (h : n ≤ 10 ^ 30) : bi n ≤ 100 := bl_le (by
  have : n.natAbs ≤ 10 ^ 30 := by omega
  have : (10 : Nat) ^ 30 < 2 ^ 100 := by decide
  omega) (by omega)
theorem wok_cost {q : Qn} (hq : QOk q) {p : Plan} (hi : InT q (tabs p)) (hj : p.joins ≤ 3) {n : Int} (h0 : 1 ≤ n) (h : n ≤ 10 ^ 30) : WOk (costF q p) n := by
  obtain ⟨l1, l2⟩ := costF_ok hq hi hj
  have l3 := costF_sz hq hi hj
  obtain ⟨D0, D1⟩ := dq_ok hq
  exact ⟨by omega, by have := far_bits h0 h; omega, by omega, l1.pw, fun a m => by have := l1.lo a m; omega, fun a m => by have := l1.hi a m; omega, ⟨DQ q, D0, by omega, l1.dd⟩, fun a m => by have := l3 a m; omega⟩
theorem p_cost_at (C C' : Addr) : Law (S_cost_at C C') (m_cost_at (S_need_both C) (S_need_n C') S_worth_of (S_cost_of 3)) N_cost_at := by
  rintro ws Q R ⟨q, d, e, rfl, hq, h1, h2⟩
  have hn := hq.2.n4
  simp [m_cost_at, N_cost_at, -S_need_both, -S_cost_of, -S_need_n, -S_worth_of]
  refine ⟨q, d, rfl, hq, fun hg => ?_, h2⟩
  obtain ⟨p, rfl, hd, hi, hj, _⟩ := good_out hg
  have h1 := h1 hg
  rw [dPlan_eP] at h1
  refine ⟨e, 1000000000000000000000000000000, rfl, fun he => ?_, h1.2⟩
  have ee := num_toI he
  simp [-S_cost_of, -S_worth_of]
  refine ⟨q, p, rfl, ⟨hq.2, hi, by omega⟩, ⟨hd, by omega⟩, ?_⟩
  have hr : 1 ≤ toI e ∧ toI e ≤ 10 ^ 30 := by
    rw [ee] at he
    simpa using he
  simp [-S_worth_of]
  refine ⟨costF q p, toI e, (by rw [← ee]), wok_cost hq.2 hi (by omega) hr.1 hr.2, by simp [eR], ?_⟩
  rw [wr_costF q (by omega)]
  exact h1.1 he
end GJ

/-! L1: the law's own defs: draws, fractions, worths. -/
namespace GJ
open PySem PySem.Spec PyProof.Rows L2
@[simp] def S_law_draw : SpD := fun ws Q _ => match ws with
  | [.src, .val (.int m)] => (0 < m ∧ bi m ≤ 9000) ∧ ∀ r : Int, 0 ≤ r → r < m → Q (.val (.int r))
  | _ => False
theorem p_law_draw : Law S_law_draw m_law_draw N_law_draw := by
  intro ws Q R h
  unfold S_law_draw at h
  split at h
  · rename_i m
    obtain ⟨⟨h0, hb⟩, h⟩ := h
    have hd : DivOk m := divOk_of h0 hb
    have dk : ∀ k : Int, 0 < k → k < 2 ^ 100 → DivOk k := fun k h0 h => divOk_of h0 (Nat.le_trans (bl_le (k := 100) (by omega) (by omega)) (by omega))
    simp [m_law_draw, N_law_draw]
    intro x y hxy
    refine ⟨fun hx x1 y1 hxy1 => ⟨h0, fun x2 y2 hxy2 => ⟨hd, Int.ediv_nonneg hxy2.1 (by omega), h _ (Int.emod_nonneg _ (by omega)) (Int.emod_lt_of_pos _ h0)⟩⟩, fun hx x2 y2 hxy2 => ?_⟩
    have b1 : bi y2 ≤ 41 := bl_le (by have := hxy2.2.1; have := hxy2.2.2; omega) (by omega)
    have b2 : bi 48271 ≤ 16 := bl_le (by decide) (by omega)
    refine ⟨mulOk_of (by omega), ⟨Int.emod_nonneg _ (by omega), by have := Int.emod_lt_of_pos (y2 * 48271) (show (0 : Int) < 2147483647 by omega); omega⟩, fun x3 y3 h3 x4 y4 h4 => ?_⟩
    have b3 : bi y3 ≤ 41 := bl_le (by have := h3.2.1; have := h3.2.2; omega) (by omega)
    have b4 : bi y4 ≤ 41 := bl_le (by have := h4.2.1; have := h4.2.2; omega) (by omega)
    exact ⟨mulOk_of (by omega), dk _ (by omega) (by omega), h0, h _ (Int.emod_nonneg _ (by omega)) (Int.emod_lt_of_pos _ h0)⟩
  · exact h.elim
@[simp] def S_law_source (K : PySem.W.Frag) : SpD := fun ws Q _ => ∃ (ns : List Int) (k : Int), ws = [.scr K ns, .val (.int k)] ∧ (0 ≤ k ∧ k ≤ 1000) ∧ Q .src
theorem p_law_source (K : PySem.W.Frag) : Law (S_law_source K) (m_law_source K) N_law_source := by
  rintro ws Q R ⟨ns, k, rfl, ⟨h0, h1⟩, h⟩
  have dk : ∀ k : Int, 0 < k → k < 2 ^ 100 → DivOk k := fun k h0 h => divOk_of h0 (Nat.le_trans (bl_le (k := 100) (by omega) (by omega)) (by omega))
  have b1 : bi 104729 ≤ 17 := bl_le (by decide) (by omega)
  have b2 : bi k ≤ 10 := bl_le (by omega) (by omega)
  have b3 : bi 7919 ≤ 13 := bl_le (by decide) (by omega)
  have fin : ∀ c : Int, 0 ≤ c → c < 10 ^ 18 → MulOk c 7919 := fun c h1 h2 => mulOk_of (by have : bi c ≤ 60 := bl_le (by omega) (by omega); omega)
  have e2 : ∀ z : Int, 0 ≤ 1 + z % 2147483646 ∧ 1 + z % 2147483646 < 2 ^ 40 := fun z => by
    have h1 := Int.emod_nonneg z (show (2147483646 : Int) ≠ 0 by omega)
    have h2 := Int.emod_lt_of_pos z (show (0 : Int) < 2147483646 by omega)
    omega
  have cp : CPow 10 18 := ⟨by omega, by omega, by decide⟩
  simp [m_law_source, N_law_source, cp]
  refine ⟨fun hk => ?_, fun hk => ⟨fin 0 (by omega) (by omega), mulOk_of (by omega), ⟨by omega, (e2 _).1, (e2 _).2⟩, h⟩⟩
  obtain ⟨d, hd⟩ : ∃ d, atI ns k = some d := by
    have e : k = (k.toNat : Int) := by omega
    have hl : k.toNat < ns.length := by omega
    exact ⟨ns[k.toNat]'hl, by have := atI_nat (xs := ns) (j := k.toNat) (v := ns[k.toNat]'hl) (by simp [hl]); rw [← e] at this; exact this⟩
  rw [hd]
  have hn : (0 : Int) ≤ (d.natAbs : Int) := by omega
  simp
  refine ⟨fun hx => ⟨fin _ (by omega) (by omega), mulOk_of (by omega), ⟨by omega, (e2 _).1, (e2 _).2⟩, h⟩, fun hx => ⟨⟨by omega, (e2 _).1, (e2 _).2⟩, h⟩⟩
@[simp] def S_law_of : SpD := fun ws Q _ => ∃ ds : List PyData, ws = [.src, .val (.list ds)] ∧ (ds ≠ [] ∧ ds.length ≤ 1000000) ∧ ∀ d ∈ ds, Q (.val d)
theorem p_law_of : Law S_law_of (m_law_of S_law_draw) N_law_of := by
  rintro ws Q R ⟨ds, rfl, ⟨h0, h1⟩, h⟩
  have hp := List.length_pos_iff.mpr h0
  simp [m_law_of, N_law_of]
  refine ⟨⟨by omega, Nat.le_trans (bl_le (k := 20) (by omega) (by omega)) (by omega)⟩, fun r r0 r1 => ?_⟩
  have e : r = (r.toNat : Int) := by omega
  have hl : r.toNat < ds.length := by omega
  have e2 := atI_nat (xs := ds) (j := r.toNat) (v := ds[r.toNat]'hl) (by simp [hl])
  rw [← e] at e2
  rw [e2]
  exact h _ (List.getElem_mem hl)
@[simp] def S_law_common : SpD := fun ws Q _ => match ws with
  | [.val (.int a), .val (.int b)] => Q (.val (.int (Int.gcd a b)))
  | _ => False
theorem p_law_common : Law S_law_common m_law_common N_law_common := by
  intro ws Q R h
  unfold S_law_common at h
  split at h
  · rename_i a b
    simp [m_law_common, N_law_common]
    refine ⟨fun m γ => ∃ a' b' : Int, γ = [some (.val (.int a')), some (.val (.int b'))] ∧ (0 ≤ a' ∧ 0 ≤ b') ∧ b'.toNat = m ∧ Int.gcd a' b' = Int.gcd a b, ⟨b.natAbs, a.natAbs, b.natAbs, rfl, ⟨by omega, by omega⟩, by omega, by simp [Int.gcd]⟩, ?_⟩
    rintro m γ ⟨a', b', rfl, ⟨h0, h1⟩, h2, h3⟩
    simp [eqOk_int, PyData.eqv]
    refine ⟨fun hb => ⟨by omega, (a' % b').toNat, ?_, b', a' % b', ⟨rfl, rfl⟩, ⟨by omega, Int.emod_nonneg _ hb⟩, rfl, ?_⟩, fun hb => ?_⟩
    · have := Int.emod_lt_of_pos a' (b := b') (by omega)
      have := Int.emod_nonneg a' hb
      omega
    · rw [Int.emod_def, Int.gcd_sub_mul_left_right, Int.gcd_comm, h3]
    · subst hb
      have e : Int.gcd a' 0 = a'.natAbs := by simp
      have e2 : a' = (Int.gcd a b : Int) := by omega
      rw [e2]
      exact h
  · exact h.elim
@[simp] def S_law_fraction : SpD := fun ws Q _ => match ws with
  | [.val (.int t), .val (.int b)] => (0 < b ∧ bi b ≤ 9000) ∧ Q (.val (eR (qd t b)))
  | _ => False
theorem p_law_fraction : Law S_law_fraction (m_law_fraction S_law_common) N_law_fraction := by
  intro ws Q R h
  unfold S_law_fraction at h
  split at h
  · rename_i t b
    obtain ⟨⟨hb, hz⟩, h⟩ := h
    have hd : DivOk (Int.gcd t b : Int) := divOk_of (gcd_pos hb) (Nat.le_trans (bi_mono (by omega) (gcd_le hb)) hz)
    simp [m_law_fraction, N_law_fraction, hd]
    rw [qd_num hb, qd_den hb]
    exact h
  · exact h.elim
theorem p_law_power : Law S_power_of m_law_power N_law_power := p_power _ rfl
/-! sums -/
def eP2 (t b : Int) : PyData := .tuple (.int t :: .int b :: .nil)
theorem eR_P2 (x : Rat) : eR x = eP2 x.num x.den := rfl
@[simp] def S_law_sum : SpD := fun ws Q _ => ∃ t b u d : Int, ws = [.val (eP2 t b), .val (eP2 u d)] ∧ ((0 < b ∧ 0 < d) ∧ bi b + bi d ≤ 9000 ∧ bi t ≤ 400000 ∧ bi u ≤ 400000) ∧ Q (.val (eR (qd t b + qd u d)))
theorem p_law_sum : Law S_law_sum (m_law_sum S_law_fraction) N_law_sum := by
  rintro ws Q R ⟨t, b, u, d, rfl, ⟨⟨b0, d0⟩, hb, ht, hu⟩, h⟩
  have m1 := bi_mul b d
  simp [m_law_sum, N_law_sum, eP2, -S_law_fraction]
  refine ⟨mulOk_of (by omega), mulOk_of (by omega), mulOk_of (by omega), ?_⟩
  simp
  refine ⟨⟨Int.mul_pos b0 d0, by omega⟩, ?_⟩
  rw [qd_add b0 d0]
  exact h
/-! tables, can -/
@[simp] def S_law_tables (n : Nat) : SpD := fun ws Q _ => ∃ p : Plan, ws = [.val (eP p)] ∧ p.depth ≤ n ∧ n ≤ 10 ∧ Q (.val (.list ((tabs p).map .int)))
theorem p_law_tables0 (S : SpD) : Law (S_law_tables 0) (m_law_tables S) N_law_tables := by
  rintro ws Q R ⟨p, rfl, h1, h2, h⟩
  cases p with
  | leaf i => simpa [m_law_tables, N_law_tables, eP, tabs] using h
  | join l r m => simp [Plan.depth] at h1
theorem p_law_tables (n : Nat) : Law (S_law_tables (n + 1)) (m_law_tables (S_law_tables n)) N_law_tables := by
  rintro ws Q R ⟨p, rfl, h1, h2, h⟩
  cases p with
  | leaf i => simpa [m_law_tables, N_law_tables, eP, tabs] using h
  | join l r m =>
    simp only [Plan.depth] at h1
    simp [m_law_tables, N_law_tables, eP, -S_law_tables]
    refine ⟨l, rfl, by omega, by omega, r, rfl, by omega, by omega, ?_⟩
    have a1 := tabs_small (p := l) (n := 10) (by omega) (by omega)
    have a2 := tabs_small (p := r) (n := 10) (by omega) (by omega)
    simp only [← List.map_append, sortD_ints]
    exact ⟨by unfold SzOk; simp; omega, sortOk_ints _, h⟩
def eN (ns : List Int) : PyData := .list (ns.map .int)
@[simp] def S_law_can (n : Nat) : SpD := fun ws Q _ => ∃ (q : Qn) (l r : Plan) (m : Mth), ws = [.val (eQ q), .val (eP l), .val (eP r), .val (.str (mS m))] ∧ (l.depth ≤ n ∧ r.depth ≤ n) ∧ (n ≤ 10 ∧ q.ls.length ≤ 1000) ∧ Q (.val (.bool (canStand q l r m)))
theorem any_take {q : Qn} {a b : List Int} {j : Nat} (h : (q.ls.take j).any (linkD a b) = true) : linked q a b = true := by
  unfold linked
  rw [List.any_eq_true] at h ⊢
  obtain ⟨x, hx, e⟩ := h
  exact ⟨x, List.mem_of_mem_take hx, e⟩
theorem p_law_can (n : Nat) : Law (S_law_can n) (m_law_can (S_law_tables n)) N_law_can := by
  rintro ws Q R ⟨q, l, r, m, rfl, ⟨hl, hr⟩, ⟨hn, hq⟩, h⟩
  have hR := Ret.mk' h
  clear h
  simp [m_law_can, N_law_can, -S_law_tables, eqOk_loop, eqOk_index, PyData.eqv, -tyD, -isInt, mS_loop, mS_index]
  -- the links
  have rest : m ≠ .loop → (m = .index → hasIx q r = true) → ∀ γ0 : DEnv, γ0 = [some (.val (eQ q)), some (.val (eP l)), some (.val (eP r)), some (.val (.str (mS m))), some (.val (eN (tabs l))), some (.val (eN (tabs r))), none, none, none, none] →
      mFor (gT [6, 7, 8, 9]) (sSeq (sIf (mAndT (mTest (mBin inW (mVar 6) (mVar 4))) (mTest (mBin inW (mVar 7) (mVar 5)))) (sRet (mBool true)) sNext) (sIf (mAndT (mTest (mBin inW (mVar 6) (mVar 5))) (mTest (mBin inW (mVar 7) (mVar 4)))) (sRet (mBool true)) sNext)) (q.ls.map eLnk) { nx := sRet (mBool false) { nx := fun x => Q (W.val PyData.none), rt := Q, ex := R }, rt := Q, ex := R } γ0 := by
    rintro h1 h2 γ0 rfl
    have hv : canStand q l r m = linked q (tabs l) (tabs r) := by
      cases m
      · rfl
      · simp [canStand, h2]
      · exact absurd rfl h1
    rw [hv] at hR
    refine mFor_ix (J := fun i γ => (q.ls.take i).any (linkD (tabs l) (tabs r)) = false ∧ ∃ x6 x7 x8 x9, γ = [some (.val (eQ q)), some (.val (eP l)), some (.val (eP r)), some (.val (.str (mS m))), some (.val (eN (tabs l))), some (.val (eN (tabs r))), x6, x7, x8, x9]) _ 0 _ ⟨by simp, none, none, none, none, rfl⟩ ?_ ?_
    · rintro j d hd γ ⟨hj, x6, x7, x8, x9, rfl⟩ N' hN'
      rw [List.getElem?_map] at hd
      obtain ⟨k, ha, rfl⟩ := Option.map_eq_some_iff.mp hd
      rw [Nat.zero_add] at hN' hj
      rw [take_snoc ha, List.any_append, hj] at hN'
      have yes : linkD (tabs l) (tabs r) k = true → linked q (tabs l) (tabs r) = true := fun e => by
        unfold linked
        rw [List.any_eq_true]
        exact ⟨k, List.mem_of_getElem? ha, e⟩
      simp only [List.any_cons, List.any_nil, Bool.or_false, Bool.false_or] at hN'
      simp [eLnk, eN, inD_ints, inOk_ints]
      unfold linkD at yes hN'
      by_cases c1 : k.1 ∈ tabs l <;> by_cases c2 : k.2.1 ∈ tabs r <;> by_cases c3 : k.1 ∈ tabs r <;> by_cases c4 : k.2.1 ∈ tabs l <;> simp [c1, c2, c3, c4] at yes hN' ⊢ <;>
        first
        | exact hR.run _ yes.symm
        | exact hN' _ _ _ _ _ rfl
    · rintro γ ⟨hj, x6, x7, x8, x9, rfl⟩
      rw [Nat.zero_add, List.length_map, List.take_length] at hj
      exact ⟨rfl, hR.run _ hj.symm⟩
  refine ⟨fun hl => hR.run _ (by simp [canStand, hl]), fun hlp => ⟨fun hx => ⟨fun hi => hR.run _ ?_, fun hi => ?_⟩, fun hx => ?_⟩⟩
  · subst hx
    cases r with
    | leaf i => simp [eP] at hi
    | join a b c => simp [canStand, hasIx]
  · subst hx
    cases r with
    | leaf i =>
      simp only [eP, eQ, eI, inD_ints]
      simp [inD_ints, -S_law_tables]
      refine ⟨inOk_ints _ _, fun h => hR.run _ ?_, fun h => ?_⟩
      · simp [canStand, hasIx, h]
      · refine ⟨l, rfl, hl, hn, .leaf i, rfl, hr, hn, ?_⟩
        simp
        exact rest (by simp) (fun _ => by simp [hasIx, h]) _ rfl
    | join a b c => simp [eP] at hi
  · refine ⟨l, rfl, hl, hn, r, rfl, hr, hn, ?_⟩
    simp
    exact rest hlp (fun e => absurd e hx) _ rfl
end GJ

/-! LB: the law's sizes, costs, worths. -/
namespace GJ
open PySem PySem.Spec PyProof.Rows L2
theorem pow_bits {n : Int} {k : Nat} {p : Int} (hn : bi n ≤ 100) (hp : p.toNat ≤ k) : bi (n ^ p.toNat) ≤ 100 * k + 1 ∧ p.toNat * bi n ≤ 100 * k := by
  have h1 := bi_pow n p.toNat
  have h2 : p.toNat * bi n ≤ k * 100 := Nat.mul_le_mul hp hn
  omega
theorem pow_add' (n : Int) {p q : Int} (hp : 0 ≤ p) (hq : 0 ≤ q) : n ^ (p + q).toNat = n ^ p.toNat * n ^ q.toNat := by
  rw [Int.toNat_add hp hq, Int.pow_add]
@[simp] def S_law_size : SpD := fun ws Q _ => ∃ (q : Qn) (ns : List Int) (n : Int), ws = [.val (eQ q), .val (eN ns), .val (.int n)] ∧ (QOk q ∧ InT q ns ∧ ns.length ≤ 8) ∧ (1 ≤ n ∧ n ≤ 10 ^ 30) ∧ Q (.val (eR (sizeR q n ns)))
theorem sizeR_qd {q : Qn} (hq : QOk q) {ns : List Int} (hi : InT q ns) {n : Int} (hn : 0 < n) : qd ((szT q ns).2 * n ^ (szT q ns).1.toNat) ((szL ns q.ls).2 * n ^ (szL ns q.ls).1.toNat) = sizeR q n ns := by
  obtain ⟨⟨a1, a2⟩, a3, a4⟩ := szT_ok hq hi
  obtain ⟨⟨b1, b2⟩, b3, b4⟩ := szL_ok ns hq.lnk
  unfold sizeR sizeP
  rw [qd_mul]
  congr 1
  rw [zp_sub hn, qd_eq, Rat.div_def, Rat.div_def]
  have e1 : zp n (szT q ns).1 = ((n ^ (szT q ns).1.toNat : Int) : Rat) := by rw [← zp_nat]; congr 1; omega
  have e2 : zp n (szL ns q.ls).1 = ((n ^ (szL ns q.ls).1.toNat : Int) : Rat) := by rw [← zp_nat]; congr 1; omega
  rw [e1, e2]
theorem p_law_size : Law S_law_size (m_law_size S_power_of S_law_fraction) N_law_size := by
  rintro ws Q R ⟨q, ns, n, rfl, ⟨hq, hi, hl⟩, ⟨n0, n1⟩, h⟩
  have hb := far_bits n0 n1
  have hnl := hq.nl
  simp [m_law_size, N_law_size, eN, -S_power_of, -S_law_fraction]
  refine mFor_ix (J := fun i γ => ∃ x5 x6 x7, γ = [some (.val (eQ q)), some (.val (eN ns)), some (.val (.int n)), some (.val (.int ((szT q (ns.take i)).2 * n ^ (szT q (ns.take i)).1.toNat))), some (.val (.int 1)), x5, x6, x7, none, none]) _ 0 _ ⟨none, none, none, by simp [szT, eN]⟩ ?_ ?_
  · rintro j d hd γ ⟨x5, x6, x7, rfl⟩ N' hN'
    rw [List.getElem?_map] at hd
    obtain ⟨i, ha, rfl⟩ := Option.map_eq_some_iff.mp hd
    obtain ⟨i0, i1⟩ := hi i (List.mem_of_getElem? ha)
    rw [Nat.zero_add] at hN' ⊢
    rw [take_snoc ha, szT_snoc] at hN'
    obtain ⟨⟨t1, t2⟩, t3, t4⟩ := szT_ok hq (ns := ns.take j) fun x m => hi x (List.mem_of_mem_take m)
    obtain ⟨t5, t6, t7, t8⟩ := tb_ok hq i0 i1
    have tl : (ns.take j).length ≤ 8 := by rw [List.length_take]; omega
    have b : bi (tb q i).1 ≤ 7 := bl_le (by omega) (by omega)
    generalize (szT q (ns.take j)).1 = A at *
    generalize (szT q (ns.take j)).2 = B at *
    obtain ⟨p1, p2⟩ := pow_bits (p := A) (k := 16) hb (by omega)
    obtain ⟨p3, p4⟩ := pow_bits (p := (tb q i).2) (k := 2) hb (by omega)
    have m1 := bi_mul B (n ^ A.toNat)
    have m2 := bi_mul (B * n ^ A.toNat) (tb q i).1
    simp [eQ, atI_tab i0 i1, eTab]
    refine ⟨mulOk_of (by omega), ⟨by unfold RgS; omega, by omega⟩, mulOk_of (by omega), hN' _ ?_⟩
    have e : B * n ^ A.toNat * (tb q i).1 * n ^ (tb q i).2.toNat = B * (tb q i).1 * n ^ (A + (tb q i).2).toNat := by
      rw [pow_add' n t1 t7]
      generalize n ^ A.toNat = x
      generalize n ^ (tb q i).2.toNat = y
      generalize (tb q i).1 = z
      grind
    rw [e]
    exact ⟨_, _, _, rfl⟩
  · rintro γ ⟨x5, x6, x7, rfl⟩
    rw [Nat.zero_add, List.length_map, List.take_length]
    simp [eQ, -S_power_of, -S_law_fraction]
    refine mFor_ix (J := fun i γ => ∃ x6 x7 x8 x9, γ = [some (.val (eQ q)), some (.val (eN ns)), some (.val (.int n)), some (.val (.int ((szT q ns).2 * n ^ (szT q ns).1.toNat))), some (.val (.int ((szL ns (q.ls.take i)).2 * n ^ (szL ns (q.ls.take i)).1.toNat))), x5, x6, x7, x8, x9]) _ 0 _ ⟨_, _, none, none, by simp [szL, eQ]; exact ⟨rfl, rfl⟩⟩ ?_ ?_
    · rintro j d hd γ ⟨x6, x7, x8, x9, rfl⟩ N' hN'
      rw [List.getElem?_map] at hd
      obtain ⟨l, ha, rfl⟩ := Option.map_eq_some_iff.mp hd
      have ol := hq.lnk l (List.mem_of_getElem? ha)
      rw [Nat.zero_add] at hN' ⊢
      rw [take_snoc ha, szL_snoc] at hN'
      obtain ⟨⟨t1, t2⟩, t3, t4⟩ := szL_ok (k := q.ts.length) ns (ls := q.ls.take j) fun x m => hq.lnk x (List.mem_of_mem_take m)
      have tl : (q.ls.take j).length ≤ 6 := by rw [List.length_take]; omega
      have o1 := ol.b1
      have o2 := ol.b2
      have o3 := ol.p0
      have o4 := ol.p2
      have b : bi l.2.2.1 ≤ 7 := bl_le (by omega) (by omega)
      generalize szL ns (q.ls.take j) = AB at *
      obtain ⟨A, B⟩ := AB
      simp only at *
      obtain ⟨p1, p2⟩ := pow_bits (p := A) (k := 12) hb (by omega)
      obtain ⟨p3, p4⟩ := pow_bits (p := l.2.2.2) (k := 2) hb (by omega)
      have m1 := bi_mul B (n ^ A.toNat)
      have m2 := bi_mul (B * n ^ A.toNat) l.2.2.1
      simp [eLnk, eN, inD_ints, inOk_ints]
      refine ⟨fun h1 => ⟨fun h2 => ⟨mulOk_of (by omega), ⟨by unfold RgS; omega, by omega⟩, mulOk_of (by omega), hN' _ ?_⟩, fun h2 => hN' _ ?_⟩, fun h1 => hN' _ ?_⟩
      · rw [if_pos ⟨h1, h2⟩]
        have e : B * n ^ A.toNat * l.2.2.1 * n ^ l.2.2.2.toNat = B * l.2.2.1 * n ^ (A + l.2.2.2).toNat := by
          rw [pow_add' n t1 o3]
          generalize n ^ A.toNat = x
          generalize n ^ l.2.2.2.toNat = y
          generalize l.2.2.1 = z
          grind
        simp only
        rw [e]
        exact ⟨_, _, _, _, rfl⟩
      · rw [if_neg (fun z => h2 z.2)]
        exact ⟨_, _, _, _, rfl⟩
      · rw [if_neg (fun z => h1 z.1)]
        exact ⟨_, _, _, _, rfl⟩
    · rintro γ ⟨x6, x7, x8, x9, rfl⟩
      rw [Nat.zero_add, List.length_map, List.take_length]
      obtain ⟨⟨t1, t2⟩, t3, t4⟩ := szL_ok ns hq.lnk
      obtain ⟨p1, p2⟩ := pow_bits (p := (szL ns q.ls).1) (k := 12) hb (by omega)
      have m1 := bi_mul (szL ns q.ls).2 (n ^ (szL ns q.ls).1.toNat)
      simp [-S_law_fraction]
      simp
      refine ⟨⟨Int.mul_pos (by omega) (Int.pow_pos (by omega)), by omega⟩, ?_⟩
      rw [sizeR_qd hq hi (by omega)]
      exact h
/-! sizes of the worths -/
theorem sizeR_sz {q : Qn} (hq : QOk q) {ns : List Int} (hi : InT q ns) (hl : ns.length ≤ 8) {n : Int} (n0 : 1 ≤ n) (n1 : n ≤ 10 ^ 30) : sz (sizeR q n ns) ≤ 2000 := by
  have hb := far_bits n0 n1
  have hnl := hq.nl
  obtain ⟨⟨a1, a2⟩, a3, a4⟩ := szT_ok hq hi
  obtain ⟨⟨b1, b2⟩, b3, b4⟩ := szL_ok ns hq.lnk
  obtain ⟨p1, p2⟩ := pow_bits (p := (szL ns q.ls).1) (k := 12) hb (by omega)
  obtain ⟨p3, p4⟩ := pow_bits (p := (szT q ns).1) (k := 16) hb (by omega)
  rw [← sizeR_qd hq hi (by omega)]
  have m1 := bi_mul (szL ns q.ls).2 (n ^ (szL ns q.ls).1.toNat)
  have m2 := bi_mul (szT q ns).2 (n ^ (szT q ns).1.toNat)
  have e := sz_qd (t := (szT q ns).2 * n ^ (szT q ns).1.toNat) (b := (szL ns q.ls).2 * n ^ (szL ns q.ls).1.toNat) (Int.mul_pos (by omega) (Int.pow_pos (by omega)))
  omega
/-- a number that all denominators divide -/
def DN (q : Qn) (n : Int) : Nat := belows q.ls * (n ^ 12).toNat
theorem dn_ok {q : Qn} (hq : QOk q) {n : Int} (n0 : 1 ≤ n) (n1 : n ≤ 10 ^ 30) : 0 < DN q n * DN q n ∧ bl (DN q n * DN q n) ≤ 2490 := by
  have hb := far_bits n0 n1
  have hnl := hq.nl
  obtain ⟨b1, b2⟩ := belows_ok hq.lnk
  have hp : 0 < n ^ 12 := Int.pow_pos (by omega)
  have h2 : 0 < (n ^ 12).toNat := by omega
  have h3 := bi_pow n 12
  have h4 : bl (n ^ 12).toNat = bi (n ^ 12) := by unfold bi; congr 1; omega
  have h5 := bl_mul (belows q.ls) (n ^ 12).toNat
  have h6 := bl_mul (belows q.ls * (n ^ 12).toNat) (belows q.ls * (n ^ 12).toNat)
  unfold DN
  exact ⟨Nat.mul_pos (Nat.mul_pos b1 h2) (Nat.mul_pos b1 h2), by omega⟩
theorem sizeR_dd {q : Qn} (hq : QOk q) {ns : List Int} (hi : InT q ns) {n : Int} (n0 : 1 ≤ n) : DD (DN q n) (sizeR q n ns) := by
  obtain ⟨⟨a1, a2⟩, a3, a4⟩ := szT_ok hq hi
  obtain ⟨⟨b1, b2⟩, b3, b4⟩ := szL_ok ns hq.lnk
  have hnl := hq.nl
  have hp : ∀ k : Nat, 0 < n ^ k := fun k => Int.pow_pos (by omega)
  rw [← sizeR_qd hq hi (by omega)]
  refine (DD.qd (Int.mul_pos (by omega) (hp _))).mono ?_
  rw [Int.toNat_mul (by omega) (by have := hp (szL ns q.ls).1.toNat; omega)]
  unfold DN
  refine Nat.mul_dvd_mul (szL_dvd ns hq.lnk) ?_
  have e : n ^ 12 = n ^ (szL ns q.ls).1.toNat * n ^ (12 - (szL ns q.ls).1.toNat) := by rw [← Int.pow_add]; congr 1; omega
  have := hp (szL ns q.ls).1.toNat
  have := hp (12 - (szL ns q.ls).1.toNat)
  rw [e, Int.toNat_mul (by omega) (by omega)]
  exact Nat.dvd_mul_right _ _
theorem joinR_dd {q : Qn} {n : Int} {D : Nat} {a b : List Int} (ha : DD D (sizeR q n a)) (hb : DD D (sizeR q n b)) (hw : DD D (sizeR q n (sortI (a ++ b)))) (m : Mth) : DD (D * D) (joinR q n a b m) := by
  cases m
  · exact (dd_sq hw).add ((dd_sq ha).add (dd_sq hb))
  · refine (dd_sq hw).add ?_
    have := (DD.int 1 3).mul (dd_sq ha)
    rw [Nat.one_mul] at this
    exact this
  · exact (dd_sq hw).add (ha.mul hb)
theorem costR_dd {q : Qn} (hq : QOk q) {n : Int} (n0 : 1 ≤ n) : ∀ p : Plan, InT q (tabs p) → DD (DN q n * DN q n) (costR q n p)
  | .leaf i, h => dd_sq (sizeR_dd hq h n0)
  | .join l r m, h => by
    have hl : InT q (tabs l) := fun i z => h i (tabs_mem.mpr (.inl z))
    have hr : InT q (tabs r) := fun i z => h i (tabs_mem.mpr (.inr z))
    have jd := joinR_dd (sizeR_dd hq hl n0) (sizeR_dd hq hr n0) (sizeR_dd hq (hl.app hr) n0) m
    refine ((costR_dd hq n0 l hl).add jd).add ?_
    split
    · exact DD.zero _
    · exact costR_dd hq n0 r hr
/-! costs -/
@[simp] def S_law_cost (k : Nat) : SpD := fun ws Q _ => ∃ (q : Qn) (p : Plan) (n : Int), ws = [.val (eQ q), .val (eP p), .val (.int n)] ∧ (QOk q ∧ InT q (tabs p) ∧ p.joins ≤ 3) ∧ (p.depth ≤ k ∧ k ≤ 10) ∧ (1 ≤ n ∧ n ≤ 10 ^ 30) ∧ Q (.val (eR (costR q n p)))
theorem p_law_cost0 (S1 S2 S3 : SpD) : Law (S_law_cost 0) (m_law_cost S_law_size S1 S2 S3) N_law_cost := by
  rintro ws Q R ⟨q, p, n, rfl, ⟨hq, hi, hj⟩, ⟨hd, hk⟩, hn, h⟩
  cases p with
  | leaf i =>
    simp [m_law_cost, N_law_cost, eP, -S_law_size]
    exact ⟨q, [i], n, rfl, ⟨hq, hi, by simp⟩, hn, by simp [eR], h⟩
  | join l r m => simp [Plan.depth] at hd
/-- what is within bounds -/
structure Bd (q : Qn) (n : Int) (x : Rat) : Prop where
  dd : DD (DN q n * DN q n) x
  sz : sz x ≤ 100000
theorem Bd.den {q : Qn} (hq : QOk q) {n : Int} (n0 : 1 ≤ n) (n1 : n ≤ 10 ^ 30) {x : Rat} (h : Bd q n x) : bi (x.den : Int) ≤ 2490 := by
  obtain ⟨d0, d1⟩ := dn_ok hq n0 n1
  exact Nat.le_trans (h.dd.bits d0) d1
theorem p_law_cost (k : Nat) : Law (S_law_cost (k + 1)) (m_law_cost S_law_size (S_law_tables (k + 1)) S_law_sum (S_law_cost k)) N_law_cost := by
  rintro ws Q R ⟨q, p, n, rfl, ⟨hq, hi, hj⟩, ⟨hd, hk⟩, hn, h⟩
  have eL : S_law_sum = S_law_sum := rfl
  cases p with
  | leaf i =>
    simp [m_law_cost, N_law_cost, eP, -S_law_size, -S_law_tables, -S_law_sum, -S_law_cost]
    exact ⟨q, [i], n, rfl, ⟨hq, hi, by simp⟩, hn, by simp [eR], h⟩
  | join l r m =>
    simp only [Plan.depth] at hd
    simp only [Plan.joins] at hj
    have hl : InT q (tabs l) := fun i z => hi i (tabs_mem.mpr (.inl z))
    have hr : InT q (tabs r) := fun i z => hi i (tabs_mem.mpr (.inr z))
    have tl := tabs_len l
    have tr := tabs_len r
    have ta := tabs_len (.join l r m)
    simp only [Plan.joins] at ta
    obtain ⟨d0, d1⟩ := dn_ok hq hn.1 hn.2
    have ll : (tabs l).length ≤ 8 := by omega
    have lr : (tabs r).length ≤ 8 := by omega
    have la : (tabs (.join l r m)).length ≤ 8 := by omega
    have sl := sizeR_sz hq hl ll hn.1 hn.2
    have sr := sizeR_sz hq hr lr hn.1 hn.2
    have sa := sizeR_sz hq hi la hn.1 hn.2
    have dl := sizeR_dd hq hl hn.1
    have dr := sizeR_dd hq hr hn.1
    have da := sizeR_dd hq hi hn.1
    have hS : ∀ ns, InT q ns → ns.length ≤ 4 → sz (sizeR q n ns) ≤ 2000 := fun ns h1 h2 => sizeR_sz hq h1 (by omega) hn.1 hn.2
    have cl := costR_sz hS l hl (by omega)
    have cr := costR_sz hS r hr (by omega)
    have bl' : Bd q n (costR q n l) := ⟨costR_dd hq hn.1 l hl, by have : 2000 * (4 * l.joins + 1) ≤ 2000 * (4 * 3 + 1) := Nat.mul_le_mul_left _ (by omega); omega⟩
    have br' : Bd q n (costR q n r) := ⟨costR_dd hq hn.1 r hr, by have : 2000 * (4 * r.joins + 1) ≤ 2000 * (4 * 3 + 1) := Nat.mul_le_mul_left _ (by omega); omega⟩
    have ba : Bd q n (sizeR q n (tabs (.join l r m))) := ⟨dd_sq da, by omega⟩
    have s1 := sz_add (sizeR q n (tabs (.join l r m))) (costR q n l)
    have b1 : Bd q n (sizeR q n (tabs (.join l r m)) + costR q n l) := ⟨ba.dd.add bl'.dd, by have : 2000 * (4 * l.joins + 1) ≤ 2000 * (4 * 3 + 1) := Nat.mul_le_mul_left _ (by omega); omega⟩
    have s2 := sz_add (sizeR q n (tabs (.join l r m)) + costR q n l) (costR q n r)
    have b2 : Bd q n (sizeR q n (tabs (.join l r m)) + costR q n l + costR q n r) := ⟨b1.dd.add br'.dd, by have : 2000 * (4 * l.joins + 1) ≤ 2000 * (4 * 3 + 1) := Nat.mul_le_mul_left _ (by omega); have : 2000 * (4 * r.joins + 1) ≤ 2000 * (4 * 3 + 1) := Nat.mul_le_mul_left _ (by omega); omega⟩
    have qs : ∀ x : Rat, qd x.num x.den = x := qd_self
    -- the sum of two within bounds
    have sum2 : ∀ {x y : Rat} {Q' : W → Prop}, Bd q n x → Bd q n y → Q' (.val (eR (x + y))) → S_law_sum [.val (eR x), .val (eR y)] Q' R := fun {x y Q'} hx hy hQ =>
      ⟨x.num, x.den, y.num, y.den, rfl, ⟨⟨den_pos _, den_pos _⟩, by have := hx.den hq hn.1 hn.2; have := hy.den hq hn.1 hn.2; omega, by have := sz_num x; have := hx.sz; omega, by have := sz_num y; have := hy.sz; omega⟩, by rw [qs, qs]; exact hQ⟩
    simp [m_law_cost, N_law_cost, eP, -S_law_size, -S_law_tables, -S_law_sum, -S_law_cost, eqOk_index, eqOk_hash, PyData.eqv, mS_index, mS_hash]
    refine ⟨l, rfl, by omega, by omega, ?_⟩
    simp [-S_law_size, -S_law_tables, -S_law_sum, -S_law_cost]
    refine ⟨q, tabs l, n, rfl, ⟨hq, hl, ll⟩, hn, ?_⟩
    simp [eR, -S_law_size, -S_law_tables, -S_law_sum, -S_law_cost]
    refine ⟨r, rfl, by omega, by omega, ?_⟩
    simp [-S_law_size, -S_law_tables, -S_law_sum, -S_law_cost]
    refine ⟨q, tabs r, n, rfl, ⟨hq, hr, lr⟩, hn, ?_⟩
    simp [eR, -S_law_size, -S_law_tables, -S_law_sum, -S_law_cost]
    refine ⟨.join l r m, rfl, by simp only [Plan.depth]; omega, by omega, ?_⟩
    simp [-S_law_size, -S_law_tables, -S_law_sum, -S_law_cost]
    refine ⟨q, _, n, rfl, ⟨hq, hi, la⟩, hn, ?_⟩
    simp [eR, -S_law_size, -S_law_tables, -S_law_sum, -S_law_cost]
    refine ⟨q, l, n, rfl, ⟨hq, hl, by omega⟩, ⟨by omega, by omega⟩, hn, ?_⟩
    simp [eR, -S_law_sum, -S_law_cost]
    refine sum2 ba bl' ?_
    simp [eR, -S_law_sum, -S_law_cost]
    have hR : ∀ x, x = costR q n (.join l r m) → Q (.val (eR x)) := fun _ e => e ▸ h
    clear h
    refine ⟨fun hm => ?_, fun hm => ?_⟩
    · subst hm
      have b3 : bi 3 = 2 := by decide
      have m3 := bi_mul 3 (sizeR q n (tabs l)).num
      have n1 := sz_num (sizeR q n (tabs l))
      refine ⟨mulOk_of (by omega), _, _, _, _, rfl, ⟨⟨den_pos _, den_pos _⟩, ?_, ?_, by omega⟩, rfl, hR _ ?_⟩
      · have z1 := b1.den hq hn.1 hn.2
        have z2 := (Bd.mk (dd_sq dl) (by omega)).den hq hn.1 hn.2
        exact Nat.le_trans (Nat.add_le_add z1 z2) (by omega)
      · exact Nat.le_trans (sz_num _) (Nat.le_trans b1.sz (by omega))
      · rw [qs]
        have e := qd_mul (t := 3) (u := (sizeR q n (tabs l)).num) (b := 1) (d := (sizeR q n (tabs l)).den)
        rw [Int.one_mul, qs] at e
        rw [e]
        have e3 : qd 3 1 = 3 := by decide
        rw [e3]
        simp only [costR, joinR, if_pos]
        show sizeR q n (sortI (tabs l ++ tabs r)) + costR q n l + 3 * sizeR q n (tabs l) = _
        grind
    · refine ⟨q, r, n, rfl, ⟨hq, hr, by omega⟩, ⟨by omega, by omega⟩, hn, ?_⟩
      simp [eR, -S_law_sum]
      refine sum2 b1 br' ?_
      simp [eR, -S_law_sum]
      refine ⟨fun hm2 => ?_, fun hm2 => ?_⟩
      · subst hm2
        refine sum2 (Bd.mk (dd_sq dl) (by omega)) (Bd.mk (dd_sq dr) (by omega)) ?_
        have z := sz_add (sizeR q n (tabs l)) (sizeR q n (tabs r))
        simp [eR, -S_law_sum]
        refine sum2 b2 (Bd.mk ((dd_sq dl).add (dd_sq dr)) (by omega)) ⟨rfl, hR _ ?_⟩
        simp only [costR, joinR]
        show sizeR q n (sortI (tabs l ++ tabs r)) + costR q n l + costR q n r + (sizeR q n (tabs l) + sizeR q n (tabs r)) = _
        rw [if_neg hm]
        grind
      · have hm3 : m = .loop := by cases m <;> simp_all
        subst hm3
        have n1 := sz_num (sizeR q n (tabs l))
        have n2 := sz_num (sizeR q n (tabs r))
        have m3 := bi_mul (sizeR q n (tabs l)).num (sizeR q n (tabs r)).num
        have z2 := sz_den (sizeR q n (tabs l))
        have z3 := sz_den (sizeR q n (tabs r))
        have m4 := bi_mul ((sizeR q n (tabs l)).den : Int) (sizeR q n (tabs r)).den
        refine ⟨mulOk_of (by omega), mulOk_of (by omega), _, _, _, _, rfl, ⟨⟨den_pos _, Int.mul_pos (den_pos _) (den_pos _)⟩, ?_, ?_, by omega⟩, rfl, hR _ ?_⟩
        · have z1 := b2.den hq hn.1 hn.2
          exact Nat.le_trans (Nat.add_le_add z1 m4) (by omega)
        · exact Nat.le_trans (sz_num _) (Nat.le_trans b2.sz (by omega))
        · rw [qs, mul_qd]
          simp only [costR, joinR]
          show sizeR q n (sortI (tabs l ++ tabs r)) + costR q n l + costR q n r + (sizeR q n (tabs l) * sizeR q n (tabs r)) = _
          rw [if_neg hm]
          grind
end GJ

/-! F6: all plans of some tables, as the laws reckon them. -/
namespace GJ
/-- the tables that a mask takes -/
def pick : Nat → List Int → List Int
  | _, [] => []
  | m, t :: ts => (if m % 2 = 1 then [t] else []) ++ pick (m / 2) ts
theorem pick_snoc (t : Int) : ∀ (l : List Int) (m : Nat), pick m (l ++ [t]) = pick m l ++ (if (m / 2 ^ l.length) % 2 = 1 then [t] else [])
  | [], m => by simp [pick]
  | x :: l, m => by
    have ih := pick_snoc t l (m / 2)
    have e : m / 2 / 2 ^ l.length = m / 2 ^ (l.length + 1) := by rw [Nat.div_div_eq_div_mul, Nat.pow_succ, Nat.mul_comm 2]
    rw [e] at ih
    simp only [List.cons_append, pick, ih, List.length_cons, List.append_assoc]
theorem pick_sub : ∀ (l : List Int) (m : Nat), (pick m l).Sublist l
  | [], m => by simp [pick]
  | x :: l, m => by
    have ih := pick_sub l (m / 2)
    simp only [pick]
    split
    · exact ih.cons_cons x
    · exact ih.cons x
def rest (a ts : List Int) : List Int := ts.filter fun t => !decide (t ∈ a)
theorem rest_sub (a ts : List Int) : (rest a ts).Sublist ts := List.filter_sublist
theorem mem_rest {a ts : List Int} {x : Int} : x ∈ rest a ts ↔ x ∈ ts ∧ ¬ x ∈ a := by simp [rest]
theorem pick_rest {ts : List Int} (nd : ts.Nodup) (m : Nat) : (pick m ts ++ rest (pick m ts) ts).Perm ts := by
  refine (List.perm_ext_iff_of_nodup ?_ nd).mpr fun x => ?_
  · rw [List.nodup_append]
    refine ⟨nd.sublist (pick_sub ts m), nd.sublist (rest_sub _ _), fun a ha b hb e => ?_⟩
    subst e
    exact (mem_rest.mp hb).2 ha
  · rw [List.mem_append, mem_rest]
    constructor
    · rintro (h | h)
      · exact (pick_sub ts m).subset h
      · exact h.1
    · intro h
      by_cases h2 : x ∈ pick m ts
      · exact .inl h2
      · exact .inr ⟨h, h2⟩
theorem pick_nil : ∀ (l : List Int) (m : Nat), pick m l = [] → m < 2 ^ l.length → m = 0
  | [], m, _, h => by simp at h; exact h
  | x :: l, m, h, hm => by
    simp only [pick] at h
    have h1 := List.append_eq_nil_iff.mp h
    have h2 := pick_nil l (m / 2) h1.2 (by rw [List.length_cons, Nat.pow_succ] at hm; omega)
    have h3 : ¬ m % 2 = 1 := fun z => by rw [if_pos z] at h1; simp at h1
    omega
theorem pick_all : ∀ (l : List Int) (m : Nat), pick m l = l → m < 2 ^ l.length → m + 1 = 2 ^ l.length
  | [], m, _, h => by simp at h; simp [h]
  | x :: l, m, h, hm => by
    simp only [pick] at h
    by_cases h3 : m % 2 = 1
    · rw [if_pos h3] at h
      have h2 := pick_all l (m / 2) (by simpa using h) (by rw [List.length_cons, Nat.pow_succ] at hm; omega)
      rw [List.length_cons, Nat.pow_succ]
      omega
    · rw [if_neg h3] at h
      have := congrArg List.length h
      have h4 := (pick_sub l (m / 2)).length_le
      simp at this
      omega
theorem pick_lens {ts : List Int} (nd : ts.Nodup) {m : Nat} (h1 : 1 ≤ m) (h2 : m + 1 < 2 ^ ts.length) : 1 ≤ (pick m ts).length ∧ 1 ≤ (rest (pick m ts) ts).length ∧ (pick m ts).length + (rest (pick m ts) ts).length = ts.length := by
  have hp := (pick_rest nd m).length_eq
  rw [List.length_append] at hp
  refine ⟨?_, ?_, hp⟩
  · rcases Nat.eq_zero_or_pos (pick m ts).length with z | z
    · have := pick_nil ts m (List.length_eq_zero_iff.mp z) (by omega)
      omega
    · exact z
  · rcases Nat.eq_zero_or_pos (rest (pick m ts) ts).length with z | z
    · have e : pick m ts = ts := (pick_sub ts m).eq_of_length (by omega)
      have := pick_all ts m e (by omega)
      omega
    · exact z
def mths : List Mth := [.hash, .index, .loop]
def joinsL (q : Qn) (l r : Plan) : List Plan := (mths.filter (canStand q l r)).map (.join l r)
def masks (n : Nat) : List Nat := (List.range (2 ^ n - 2)).map (· + 1)
def plansL (q : Qn) : Nat → List Int → List Plan
  | 0, ts => ts.map .leaf
  | k + 1, ts => if ts.length = 1 then ts.map .leaf else
    (masks ts.length).flatMap fun m => (plansL q k (pick m ts)).flatMap fun l => (plansL q k (rest (pick m ts) ts)).flatMap fun r => joinsL q l r
def plansM (q : Qn) (k : Nat) (ts : List Int) (m : Nat) : List Plan := (plansL q k (pick m ts)).flatMap fun l => (plansL q k (rest (pick m ts) ts)).flatMap fun r => joinsL q l r
theorem mem_masks {n m : Nat} : m ∈ masks n ↔ 1 ≤ m ∧ m + 1 < 2 ^ n := by
  simp only [masks, List.mem_map, List.mem_range]
  constructor
  · rintro ⟨a, h, rfl⟩; omega
  · rintro ⟨h1, h2⟩; exact ⟨m - 1, by omega, by omega⟩
theorem joinsL_len (q : Qn) (l r : Plan) : (joinsL q l r).length ≤ 3 := by
  unfold joinsL
  rw [List.length_map]
  exact Nat.le_trans (List.length_filter_le _ _) (by simp [mths])
theorem flat_len {α β : Type} {f : α → List β} {B : Nat} : ∀ {l : List α}, (∀ a ∈ l, (f a).length ≤ B) → (l.flatMap f).length ≤ l.length * B
  | [], _ => by simp
  | a :: l, h => by
    have h1 := h a List.mem_cons_self
    have h2 := flat_len (f := f) (B := B) (l := l) fun b m => h b (List.mem_cons_of_mem _ m)
    rw [List.flatMap_cons, List.length_append, List.length_cons, Nat.succ_mul]
    omega
theorem take_flat {α β : Type} (f : α → List β) (l : List α) (i : Nat) : ((l.take i).flatMap f).length ≤ (l.flatMap f).length := by
  have h : l.flatMap f = (l.take i).flatMap f ++ (l.drop i).flatMap f := by rw [← List.flatMap_append, List.take_append_drop]
  rw [h, List.length_append]
  omega
def bnd : Nat → Nat
  | 0 => 1
  | 1 => 1
  | 2 => 6
  | 3 => 108
  | _ => 500000
theorem plansL_len (q : Qn) : ∀ (k : Nat) {ts : List Int}, ts.Nodup → 1 ≤ ts.length → ts.length ≤ 4 → ts.length ≤ k + 1 → (plansL q k ts).length ≤ bnd ts.length
  | 0, ts, nd, h0, h4, h => by
    have : ts.length = 1 := by omega
    simp [plansL, this, bnd]
  | k + 1, ts, nd, h0, h4, h => by
    simp only [plansL]
    split
    · rename_i e
      simp [e, bnd]
    · rename_i ne
      have key : ∀ m ∈ masks ts.length, (plansM q k ts m).length ≤ bnd (pick m ts).length * (bnd (rest (pick m ts) ts).length * 3) ∧ 1 ≤ (pick m ts).length ∧ 1 ≤ (rest (pick m ts) ts).length ∧ (pick m ts).length + (rest (pick m ts) ts).length = ts.length := fun m hm => by
        obtain ⟨m1, m2⟩ := mem_masks.mp hm
        obtain ⟨a1, a2, a3⟩ := pick_lens nd m1 m2
        have i1 := plansL_len q k (nd.sublist (pick_sub ts m)) a1 (by omega) (by omega)
        have i2 := plansL_len q k (nd.sublist (rest_sub (pick m ts) ts)) a2 (by omega) (by omega)
        refine ⟨?_, a1, a2, a3⟩
        have f1 : ∀ l ∈ plansL q k (pick m ts), ((plansL q k (rest (pick m ts) ts)).flatMap fun r => joinsL q l r).length ≤ (plansL q k (rest (pick m ts) ts)).length * 3 := fun l _ => flat_len fun r _ => joinsL_len q l r
        have f2 := flat_len f1
        refine Nat.le_trans f2 ?_
        exact Nat.mul_le_mul i1 (Nat.mul_le_mul_right _ i2)
      have ml : (masks ts.length).length = 2 ^ ts.length - 2 := by simp [masks]
      have b1 : bnd 1 = 1 := rfl
      have b2 : bnd 2 = 6 := rfl
      have b3 : bnd 3 = 108 := rfl
      have b4 : bnd 4 = 500000 := rfl
      rcases (by omega : ts.length = 2 ∨ ts.length = 3 ∨ ts.length = 4) with e | e | e
      · have f : ∀ m ∈ masks ts.length, (plansM q k ts m).length ≤ 3 := fun m hm => by
          obtain ⟨z, z1, z2, z3⟩ := key m hm
          have e1 : (pick m ts).length = 1 := by omega
          have e2 : (rest (pick m ts) ts).length = 1 := by omega
          rw [e1, e2, b1] at z
          omega
        refine Nat.le_trans (flat_len f) ?_
        rw [ml, e, b2]; omega
      · have f : ∀ m ∈ masks ts.length, (plansM q k ts m).length ≤ 18 := fun m hm => by
          obtain ⟨z, z1, z2, z3⟩ := key m hm
          rcases (by omega : (pick m ts).length = 1 ∨ (pick m ts).length = 2) with e1 | e1
          · have e2 : (rest (pick m ts) ts).length = 2 := by omega
            rw [e1, e2, b1, b2] at z
            omega
          · have e2 : (rest (pick m ts) ts).length = 1 := by omega
            rw [e1, e2, b1, b2] at z
            omega
        refine Nat.le_trans (flat_len f) ?_
        rw [ml, e, b3]; omega
      · have f : ∀ m ∈ masks ts.length, (plansM q k ts m).length ≤ 324 := fun m hm => by
          obtain ⟨z, z1, z2, z3⟩ := key m hm
          rcases (by omega : (pick m ts).length = 1 ∨ (pick m ts).length = 2 ∨ (pick m ts).length = 3) with e1 | e1 | e1
          · have e2 : (rest (pick m ts) ts).length = 3 := by omega
            rw [e1, e2, b1, b3] at z
            omega
          · have e2 : (rest (pick m ts) ts).length = 2 := by omega
            rw [e1, e2, b2] at z
            omega
          · have e2 : (rest (pick m ts) ts).length = 1 := by omega
            rw [e1, e2, b1, b3] at z
            omega
        refine Nat.le_trans (flat_len f) ?_
        rw [ml, e, b4]; omega
theorem pw_sub {l m : List Int} (h : l.Sublist m) (p : m.Pairwise (· < ·)) : l.Pairwise (· < ·) := p.sublist h
theorem sortI_eq {l ts : List Int} (p : l.Perm ts) (h : ts.Pairwise (· < ·)) : sortI l = ts := by
  have p2 : (sortI l).Perm ts := (sortI_perm l).trans p
  refine pw_ext ?_ h fun x => p2.mem_iff
  have nd : (sortI l).Nodup := p2.nodup_iff.mpr (pw_nodup h)
  exact (List.pairwise_and_iff.mpr ⟨sortI_pw l, nd⟩).imp fun h => by omega
structure PlOk (q : Qn) (ts : List Int) (p : Plan) : Prop where
  tabs : tabs p = ts
  led : canLed q p = true
theorem plansL_ok (q : Qn) : ∀ (k : Nat) {ts : List Int}, ts.Pairwise (· < ·) → 1 ≤ ts.length → ts.length ≤ k + 1 → ∀ p ∈ plansL q k ts, PlOk q ts p
  | 0, ts, pw, h0, h, p, hp => by
    simp only [plansL, List.mem_map] at hp
    obtain ⟨i, hi, rfl⟩ := hp
    match ts, h0, h, hi with
    | [j], _, _, hi => rw [List.mem_singleton.mp hi]; exact ⟨rfl, rfl⟩
    | _ :: _ :: _, _, h, _ => simp at h
  | k + 1, ts, pw, h0, h, p, hp => by
    simp only [plansL] at hp
    split at hp
    · rename_i e
      simp only [List.mem_map] at hp
      obtain ⟨i, hi, rfl⟩ := hp
      match ts, e, hi with
      | [j], _, hi => rw [List.mem_singleton.mp hi]; exact ⟨rfl, rfl⟩
      | [], e, _ => simp at e
      | _ :: _ :: _, h, _ => simp at h
    · simp only [List.mem_flatMap] at hp
      obtain ⟨m, hm, l, hl, r, hr, hp⟩ := hp
      obtain ⟨m1, m2⟩ := mem_masks.mp hm
      obtain ⟨a1, a2, a3⟩ := pick_lens (pw_nodup pw) m1 m2
      obtain ⟨l1, l2⟩ := plansL_ok q k (pw_sub (pick_sub ts m) pw) a1 (by omega) l hl
      obtain ⟨r1, r2⟩ := plansL_ok q k (pw_sub (rest_sub (pick m ts) ts) pw) a2 (by omega) r hr
      unfold joinsL at hp
      obtain ⟨x, hx, rfl⟩ := List.mem_map.mp hp
      have hs := (List.mem_filter.mp hx).2
      refine ⟨?_, by simp [canLed, l2, r2, hs]⟩
      simp only [tabs, l1, r1]
      exact sortI_eq (pick_rest (pw_nodup pw) m) pw
theorem plansL_ne (q : Qn) : ∀ (k : Nat) {ts : List Int}, ts.Nodup → 1 ≤ ts.length → ts.length ≤ k + 1 → plansL q k ts ≠ []
  | 0, ts, nd, h0, h => by
    simp only [plansL]
    intro e
    have := congrArg List.length e
    simp at this
    simp [this] at h0
  | k + 1, ts, nd, h0, h => by
    simp only [plansL]
    split
    · rename_i e
      intro e2
      have := congrArg List.length e2
      simp at this
      simp [this] at e
    · rename_i ne
      have h2 : 2 ^ 2 ≤ 2 ^ ts.length := Nat.pow_le_pow_right (by omega) (by omega)
      obtain ⟨a1, a2, a3⟩ := pick_lens nd (m := 1) (by omega) (by omega)
      have i1 := plansL_ne q k (nd.sublist (pick_sub ts 1)) a1 (by omega)
      have i2 := plansL_ne q k (nd.sublist (rest_sub (pick 1 ts) ts)) a2 (by omega)
      obtain ⟨l, hl⟩ := List.exists_mem_of_ne_nil _ i1
      obtain ⟨r, hr⟩ := List.exists_mem_of_ne_nil _ i2
      refine List.ne_nil_of_mem (a := .join l r .loop) ?_
      simp only [List.mem_flatMap]
      refine ⟨1, mem_masks.mpr ⟨by omega, by omega⟩, l, hl, r, hr, ?_⟩
      simp [joinsL, mths, canStand]
/-- 0 .. n - 1 -/
def upto (n : Nat) : List Int := (List.range n).map fun (i : Nat) => (i : Int)
theorem upto_pw (n : Nat) : (upto n).Pairwise (· < ·) := by
  unfold upto
  rw [List.pairwise_map]
  exact List.pairwise_lt_range.imp fun h => by omega
theorem upto_len (n : Nat) : (upto n).length = n := by simp [upto]
theorem mem_upto {n : Nat} {i : Int} : i ∈ upto n ↔ 0 ≤ i ∧ i < n := by
  simp only [upto, List.mem_map, List.mem_range]
  constructor
  · rintro ⟨a, h, rfl⟩; omega
  · rintro ⟨h1, h2⟩; exact ⟨i.toNat, by omega, by omega⟩
end GJ

/-! LC: the law's worths and plans. -/
namespace GJ
open PySem PySem.Spec PyProof.Rows L2
@[simp] def S_law_worth : SpD := fun ws Q _ => ∃ (f : Fm) (n : Int) (K : Nat), ws = [.val (eF f), .val (.int n)] ∧ WOk f n ∧ ((∀ a ∈ f, bi (a.2.den : Int) ≤ K) ∧ f.length * (K + 1) ≤ 3000) ∧ Q (.val (eR (wr n f)))
theorem wv_up (n d : Int) (h : 0 < n) : ∀ f : Fm, wv (fun p => zp n (p + d)) f = wr n f * zp n d
  | [] => by simp only [wv]; grind
  | a :: f => by
    have ih := wv_up n d h f
    show a.2 * zp n (a.1 + d) + wv (fun p => zp n (p + d)) f = (a.2 * zp n a.1 + wr n f) * zp n d
    rw [ih, zp_add h]; grind
theorem p_law_worth : Law S_law_worth (m_law_worth S_power_of S_law_fraction) N_law_worth := by
  rintro ws Q R ⟨f, n, K, rfl, ok, ⟨hK, hlK⟩, h⟩
  have hn0 := ok.n0
  have hnb := ok.nb
  have hlen := ok.len
  simp [m_law_worth, N_law_worth, eF_lF, -S_power_of, -S_law_fraction]
  refine mFor_ix (J := fun i γ => ∃ (d : Int) (x5 x6 x7 : Option W), (0 ≤ d ∧ d ≤ 30 ∧ ∀ a ∈ f.take i, 0 ≤ a.1 + d) ∧ γ = [some (.val (.tuple (lF f))), some (.val (.int n)), some (.val (.int 0)), some (.val (.int 1)), some (.val (.int d)), x5, x6, x7, none]) _ 0 _ ⟨0, none, none, none, ⟨by omega, by omega, fun a m => by simp at m⟩, rfl⟩ ?_ ?_
  · rintro j d hd γ ⟨dp, x5, x6, x7, ⟨d0, d1, d2⟩, rfl⟩ N' hN'
    unfold lF at hd
    rw [List.getElem?_map] at hd
    obtain ⟨a, ha, rfl⟩ := Option.map_eq_some_iff.mp hd
    have hm := List.mem_of_getElem? ha
    have a1 := ok.lo a hm
    rw [Nat.zero_add] at hN' d2
    rw [take_snoc ha] at hN'
    simp [eT, tr]
    refine hN' _ ⟨_, _, _, _, ⟨?_, ?_, fun b mb => ?_⟩, rfl⟩
    · omega
    · omega
    · rcases List.mem_append.mp mb with mb | mb
      · have := d2 b mb; omega
      · rw [List.mem_singleton.mp mb]; omega
  · rintro γ ⟨dp, x5, x6, x7, ⟨d0, d1, d2⟩, rfl⟩
    rw [Nat.zero_add, lF_len, List.take_length] at d2
    have hb1 : bi 1 = 1 := by decide
    have hb0 : bi 0 = 1 := by decide
    simp [-S_power_of, -S_law_fraction]
    refine mFor_ix (J := fun i γ => ∃ (t b : Int) (x5 x6 x7 x8 : Option W), (0 < b ∧ bi b ≤ i * (K + 1) + 1 ∧ bi t ≤ 15000 + i * (K + 1) ∧ qd t b = wv (fun p => zp n (p + dp)) (f.take i)) ∧ γ = [some (.val (.tuple (lF f))), some (.val (.int n)), some (.val (.int t)), some (.val (.int b)), some (.val (.int dp)), x5, x6, x7, x8]) _ 0 _ ⟨0, 1, _, _, _, none, ⟨by omega, by rw [hb1]; omega, by rw [hb0]; omega, by simp [wv]⟩, rfl⟩ ?_ ?_
    · rintro j d hd γ ⟨t, b, x5, x6, x7, x8, ⟨b0, b1, b2, b3⟩, rfl⟩ N' hN'
      unfold lF at hd
      rw [List.getElem?_map] at hd
      obtain ⟨a, ha, rfl⟩ := Option.map_eq_some_iff.mp hd
      have hm := List.mem_of_getElem? ha
      rw [Nat.zero_add] at hN' b1 b2 b3
      rw [take_snoc ha, wv_append] at hN'
      have hj : j < f.length := (List.getElem?_eq_some_iff.mp ha).1
      have hjK : (j + 1) * (K + 1) ≤ f.length * (K + 1) := Nat.mul_le_mul_right _ (by omega)
      rw [Nat.succ_mul] at hjK
      have p0 := d2 a hm
      have p1 := ok.hi a hm
      have s1 := ok.sz a hm
      have s2 := sz_num a.2
      have k1 := hK a hm
      have p2 := bi_pow n (a.1 + dp).toNat
      have p3 : (a.1 + dp).toNat * bi n ≤ 60 * 110 := Nat.mul_le_mul (by omega) hnb
      have ez : zp n (a.1 + dp) = ((n ^ (a.1 + dp).toNat : Int) : Rat) := by rw [← zp_nat]; congr 1; omega
      have m1 := bi_mul a.2.num (n ^ (a.1 + dp).toNat)
      have m2 := bi_mul t (a.2.den : Int)
      have m3 := bi_mul (a.2.num * n ^ (a.1 + dp).toNat) b
      have m4 := bi_add (t * (a.2.den : Int)) (a.2.num * n ^ (a.1 + dp).toNat * b)
      have m5 := bi_mul b (a.2.den : Int)
      have e1 : (j + 1) * (K + 1) = j * (K + 1) + (K + 1) := Nat.succ_mul _ _
      simp [eT, tr, -S_power_of]
      simp
      refine ⟨⟨by unfold RgS; omega, by omega⟩, mulOk_of (by omega), mulOk_of (by omega), mulOk_of (by omega), mulOk_of (by omega), hN' _ ⟨_, _, _, _, _, _, ⟨Int.mul_pos b0 (den_pos _), ?_, ?_, ?_⟩, rfl⟩⟩
      · rw [e1]; omega
      · rw [e1]; omega
      · rw [qd_add b0 (den_pos _), b3]
        simp only [wv]
        rw [ez]
        have e := qd_mul (t := a.2.num) (u := n ^ (a.1 + dp).toNat) (b := a.2.den) (d := 1)
        rw [Int.mul_one, qd_self, qd_eq (n ^ (a.1 + dp).toNat) 1] at e
        rw [e]
        have e1 : ((1 : Int) : Rat) = 1 := rfl
        rw [e1]; grind
    · rintro γ ⟨t, b, x5, x6, x7, x8, ⟨b0, b1, b2, b3⟩, rfl⟩
      rw [Nat.zero_add, lF_len] at b1 b2 b3
      rw [List.take_length, wv_up n dp hn0] at b3
      have p2 := bi_pow n dp.toNat
      have p3 : dp.toNat * bi n ≤ 30 * 110 := Nat.mul_le_mul (by omega) hnb
      have m1 := bi_mul b (n ^ dp.toNat)
      have hp : 0 < n ^ dp.toNat := Int.pow_pos hn0
      simp [-S_law_fraction]
      refine ⟨⟨by unfold RgS; omega, by omega⟩, mulOk_of (by omega), ?_⟩
      simp
      refine ⟨⟨Int.mul_pos b0 hp, by omega⟩, ?_⟩
      have e : qd t (b * n ^ dp.toNat) = wr n f := by
        have e := qd_mul (t := t) (u := 1) (b := b) (d := n ^ dp.toNat)
        rw [Int.mul_one] at e
        rw [e, b3, qd_eq]
        have ez : zp n dp = ((n ^ dp.toNat : Int) : Rat) := by rw [← zp_nat]; congr 1; omega
        rw [← ez]
        have := zp_ne hn0 dp
        have e1 : ((1 : Int) : Rat) = 1 := rfl
        rw [e1]; grind
      rw [e]
      exact h
/-! plans -/
def lP (ps : List Plan) : List PyData := ps.map eP
theorem lP_len (ps : List Plan) : (lP ps).length = ps.length := List.length_map _
theorem lP_append (a b : List Plan) : lP (a ++ b) = lP a ++ lP b := List.map_append
@[simp] def S_law_plans (k : Nat) : SpD := fun ws Q _ => ∃ (q : Qn) (ts : List Int), ws = [.val (eQ q), .val (eN ts)] ∧ (ts.Pairwise (· < ·) ∧ 1 ≤ ts.length ∧ ts.length ≤ 4 ∧ ts.length ≤ k + 1) ∧ q.ls.length ≤ 1000 ∧ Q (.val (.list (lP (plansL q k ts))))
theorem one_list {ts : List Int} (h : ts.length = 1) : lP (ts.map .leaf) = ts.map .int := by
  match ts, h with
  | [i], _ => rfl
theorem p_law_plans0 (S1 S2 S3 : SpD) : Law (S_law_plans 0) (m_law_plans S1 S2 S3) N_law_plans := by
  rintro ws Q R ⟨q, ts, rfl, ⟨pw, h0, h4, h1⟩, hq, h⟩
  have e : ts.length = 1 := by omega
  simp [m_law_plans, N_law_plans, eN, eqOk_int, PyData.eqv, e]
  simp only [plansL, one_list e] at h
  exact h
theorem two_pow (n : Nat) : ((2 : Int) ^ n).toNat = 2 ^ n := by
  have : (2 : Int) ^ n = ((2 ^ n : Nat) : Int) := by simp
  rw [this]; rfl
theorem p_law_plans (k : Nat) (hk : k ≤ 9) : Law (S_law_plans (k + 1)) (m_law_plans S_power_of (S_law_plans k) (S_law_can k)) N_law_plans := by
  rintro ws Q R ⟨q, ts, rfl, ⟨pw, h0, h4, h1⟩, hq, h⟩
  by_cases e : ts.length = 1
  · simp [m_law_plans, N_law_plans, eN, eqOk_int, PyData.eqv, e]
    simp only [plansL, if_pos e, one_list e] at h
    exact h
  · have nd := pw_nodup pw
    have hb2 : bi 2 = 2 := by decide
    have hp : (2 : Int) ^ ts.length = ((2 ^ ts.length : Nat) : Int) := by simp
    have hp16 : 2 ^ ts.length ≤ 2 ^ 4 := Nat.pow_le_pow_right (by omega) h4
    simp only [plansL, if_neg e] at h
    simp [m_law_plans, N_law_plans, eN, eqOk_int, PyData.eqv, e, -S_power_of, -S_law_plans, -S_law_can]
    refine ⟨fun z => absurd (by omega) e, fun _ => ?_⟩
    have en : ((ts.length : Int)).toNat = ts.length := by omega
    have hml : (masks ts.length).length = 2 ^ ts.length - 2 := by simp [masks]
    have hbn : ∀ l : List Int, l.length ≤ 4 → bnd l.length ≤ 500000 := fun l hl => by
      rcases (by omega : l.length = 0 ∨ l.length = 1 ∨ l.length = 2 ∨ l.length = 3 ∨ l.length = 4) with e | e | e | e | e <;> rw [e] <;> decide
    have hall : ((masks ts.length).flatMap (plansM q k ts)).length ≤ 500000 := by
      have z := plansL_len q (k + 1) nd h0 h4 h1
      simp only [plansL, if_neg e] at z
      exact Nat.le_trans z (hbn ts h4)
    have hmem : ∀ j m, (masks ts.length)[j]? = some m → m = j + 1 ∧ j + 2 < 2 ^ ts.length := fun j m hj => by
      obtain ⟨m1, m2⟩ := mem_masks.mp (List.mem_of_getElem? hj)
      unfold masks at hj
      rw [List.getElem?_map] at hj
      obtain ⟨a, ha, rfl⟩ := Option.map_eq_some_iff.mp hj
      obtain ⟨h1, h2⟩ := List.getElem?_eq_some_iff.mp ha
      rw [List.getElem_range] at h2
      omega
    have hget : ∀ j, j + 2 < 2 ^ ts.length → (masks ts.length)[j]? = some (j + 1) := fun j hj => by
      unfold masks
      rw [List.getElem?_map, List.getElem?_range (by omega)]; rfl
    have hlens : ∀ m, 1 ≤ m → m + 1 < 2 ^ ts.length → _ := fun m h1 h2 => pick_lens nd (m := m) h1 h2
    have hR : S_power_of [W.val (PyData.int 2), W.val (PyData.int ts.length)] (fun w => w = .val (.int ((2 ^ ts.length : Nat) : Int))) R := ⟨⟨by unfold RgS; omega, by rw [en, hb2]; omega⟩, by rw [en, hp]⟩
    clear hp
    generalize 2 ^ ts.length = T at *
    refine ⟨hR.1, ?_⟩
    have hR2 := hR.2
    rw [hR2]
    dsimp only
    refine ⟨⟨by unfold RgS; omega, by unfold RgS; omega⟩, ?_⟩
    refine mFor_ix (J := fun i γ => ∃ x3 x4 x5 x6 x7 x8 x9 x10 : Option W, isOwn x6 = false ∧ γ = [some (.val (eQ q)), some (.val (eN ts)), some (.own (lP (((masks ts.length).take i).flatMap (plansM q k ts)))), x3, x4, x5, x6, x7, x8, x9, x10]) _ 0 _ ⟨none, none, none, none, none, none, none, none, rfl, by simp [lP, eN]⟩ ?_ ?_
    · rintro j d hd γ ⟨x3, x4, x5, x6, x7, x8, x9, x10, o6, rfl⟩ N' hN'
      obtain ⟨rfl, hlt⟩ := rgL_get hd
      rw [Nat.zero_add] at hN' ⊢
      have hj := hget j (by omega)
      obtain ⟨a1, a2, a3⟩ := hlens (j + 1) (by omega) (by omega)
      have hA := Nat.le_trans (take_flat (plansM q k ts) (masks ts.length) (j + 1)) hall
      rw [take_snoc hj, List.flatMap_append, List.flatMap_cons, List.flatMap_nil, List.append_nil] at hN' hA
      rw [List.length_append] at hA
      generalize ((masks ts.length).take j).flatMap (plansM q k ts) = A at *
      have epl : plansM q k ts (j + 1) = (plansL q k (pick (j + 1) ts)).flatMap fun l => (plansL q k (rest (pick (j + 1) ts) ts)).flatMap fun r => joinsL q l r := rfl
      have pwa := pw_sub (pick_sub ts (j + 1)) pw
      have pwb := pw_sub (rest_sub (pick (j + 1) ts) ts) pw
      have e1j : (1 : Int) + (j : Int) = ((j + 1 : Nat) : Int) := by omega
      simp [eN, -S_law_plans, -S_law_can]
      refine mFor_ix (J := fun i γ => ∃ x6 : Option W, isOwn x6 = false ∧ γ = [some (.val (eQ q)), some (.val (eN ts)), some (.own (lP A)), some (.val (.int (1 + j))), some (.val (eN (pick (j + 1) (ts.take i)))), some (.val (.int (((j + 1) / 2 ^ i : Nat) : Int))), x6, x7, x8, x9, x10]) _ 0 _ ⟨x6, o6, ?_⟩ ?_ ?_
      · have z : (((j + 1) / 2 ^ 0 : Nat) : Int) = 1 + j := by rw [Nat.pow_zero, Nat.div_one]; omega
        rw [z]
        rfl
      · rintro i d hd γ ⟨x6, o6, rfl⟩ N2 hN2
        rw [List.getElem?_map] at hd
        obtain ⟨t, ha, rfl⟩ := Option.map_eq_some_iff.mp hd
        rw [Nat.zero_add] at hN2 ⊢
        have hi : i < ts.length := (List.getElem?_eq_some_iff.mp ha).1
        have tl : (ts.take i).length = i := by rw [List.length_take]; omega
        have pl := (pick_sub (ts.take i) (j + 1)).length_le
        rw [take_snoc ha, pick_snoc, tl] at hN2
        have e2 : (j + 1) / 2 ^ (i + 1) = (j + 1) / 2 ^ i / 2 := by rw [Nat.div_div_eq_div_mul, Nat.pow_succ]
        rw [e2] at hN2
        generalize (j + 1) / 2 ^ i = M at *
        generalize pick (j + 1) (ts.take i) = B at *
        have ei : ((M : Int) % 2 = 1) ↔ M % 2 = 1 := by omega
        have ed : ((M : Int) / 2) = ((M / 2 : Nat) : Int) := by omega
        have d2 : DivOk 2 := divOk_of (by omega) (by decide)
        simp [eqOk_int, PyData.eqv, ei, eN, d2]
        rw [ed]
        refine ⟨fun h => ⟨by unfold SzOk; omega, hN2 _ ⟨some (.val (.int t)), rfl, ?_⟩⟩, fun h => ⟨by unfold SzOk; omega, hN2 _ ⟨some (.val (.int t)), rfl, ?_⟩⟩⟩
        · rw [if_pos h]; simp [eN]
        · rw [if_neg (by omega)]; simp [eN]
      · rintro γ ⟨x6, o6, rfl⟩
        rw [Nat.zero_add, List.length_map, List.take_length]
        generalize (((j + 1) / 2 ^ ts.length : Nat) : Int) = x5
        simp [eN, -S_law_plans, -S_law_can]
        refine lcRun_ok (p := fun d => !inD d ((pick (j + 1) ts).map .int)) (f := fun d => d) _ [] _ (fun d m X Y hX hY => ?_) (by simp; omega) ?_
        · obtain ⟨t, ht, rfl⟩ := List.mem_map.mp m
          simp [inOk_ints] at hX hY ⊢
          exact ⟨hX, hY⟩
        · have er : ((ts.map PyData.int).filter fun d => !inD d ((pick (j + 1) ts).map .int)).map (fun d => d) = (rest (pick (j + 1) ts) ts).map .int := by
            unfold rest
            rw [List.map_id']
            rw [List.filter_map]
            congr 1
            apply List.filter_congr
            intro x _
            simp [inD_ints]
          rw [List.nil_append, er]
          generalize pick (j + 1) ts = a at *
          generalize rest a ts = b at *
          refine ⟨q, a, rfl, ⟨pwa, a1, by omega, by omega⟩, hq, ?_⟩
          simp [-S_law_plans, -S_law_can]
          rw [epl] at hN' hA
          have okA := plansL_ok q k pwa a1 (by omega)
          have okB := plansL_ok q k pwb a2 (by omega)
          have lnA := Nat.le_trans (plansL_len q k (pw_nodup pwa) a1 (by omega) (by omega)) (hbn a (by omega))
          have lnB := Nat.le_trans (plansL_len q k (pw_nodup pwb) a2 (by omega) (by omega)) (hbn b (by omega))
          have hrec : ∀ Q' : W → Prop, Q' (.val (.list (lP (plansL q k b)))) → S_law_plans k [.val (eQ q), .val (eN b)] Q' R := fun Q' h => ⟨q, b, rfl, ⟨pwb, a2, by omega, by omega⟩, hq, h⟩
          clear h hall hget hlens hR hR2 hmem epl
          generalize plansL q k a = L1 at *
          generalize plansL q k b = L2 at *
          have dep : ∀ l ∈ L1, l.depth ≤ k := fun l hl => by
            have h1 := tabs_len l
            have h2 := depth_le l
            rw [(okA l hl).tabs] at h1
            omega
          have dep2 : ∀ l ∈ L2, l.depth ≤ k := fun l hl => by
            have h1 := tabs_len l
            have h2 := depth_le l
            rw [(okB l hl).tabs] at h1
            omega
          refine mFor_ix (J := fun i γ => ∃ x8 x9 x10 : Option W, γ = [some (.val (eQ q)), some (.val (eN ts)), some (.own (lP (A ++ (L1.take i).flatMap fun l => L2.flatMap fun r => joinsL q l r))), some (.val (.int (1 + j))), some (.val (eN a)), some (.val (.int x5)), x6, some (.val (eN b)), x8, x9, x10]) _ 0 _ ⟨x8, x9, x10, by simp [eN]⟩ ?_ ?_
          · rintro i d hd γ ⟨x8, x9, x10, rfl⟩ N2 hN2
            unfold lP at hd
            rw [List.getElem?_map] at hd
            obtain ⟨l, hl, rfl⟩ := Option.map_eq_some_iff.mp hd
            have ml := List.mem_of_getElem? hl
            rw [Nat.zero_add] at hN2 ⊢
            have hA2 := Nat.le_trans (take_flat (fun l => L2.flatMap fun r => joinsL q l r) L1 (i + 1)) (show _ ≤ 500000 by omega)
            rw [take_snoc hl, List.flatMap_append, List.flatMap_cons, List.flatMap_nil, List.append_nil, List.length_append] at hA2
            rw [take_snoc hl, List.flatMap_append, List.flatMap_cons, List.flatMap_nil, List.append_nil, ← List.append_assoc] at hN2
            have hA3 : (A ++ (L1.take i).flatMap fun l => L2.flatMap fun r => joinsL q l r).length ≤ 1000000 := by rw [List.length_append]; omega
            generalize (A ++ (L1.take i).flatMap fun l => L2.flatMap fun r => joinsL q l r) = A1 at *
            simp [-S_law_plans, -S_law_can]
            refine hrec _ ?_
            simp [-S_law_plans, -S_law_can]
            refine mFor_ix (J := fun i γ => ∃ x9 x10 : Option W, γ = [some (.val (eQ q)), some (.val (eN ts)), some (.own (lP (A1 ++ (L2.take i).flatMap fun r => joinsL q l r))), some (.val (.int (1 + j))), some (.val (eN a)), some (.val (.int x5)), x6, some (.val (eN b)), some (.val (eP l)), x9, x10]) _ 0 _ ⟨x9, x10, by simp⟩ ?_ ?_
            · rintro i2 d hd γ ⟨x9, x10, rfl⟩ N3 hN3
              unfold lP at hd
              rw [List.getElem?_map] at hd
              obtain ⟨r, hr, rfl⟩ := Option.map_eq_some_iff.mp hd
              have mr := List.mem_of_getElem? hr
              rw [Nat.zero_add] at hN3 ⊢
              have hA4 := Nat.le_trans (take_flat (fun r => joinsL q l r) L2 i2) (show _ ≤ 500000 by omega)
              rw [take_snoc hr, List.flatMap_append, List.flatMap_cons, List.flatMap_nil, List.append_nil, ← List.append_assoc] at hN3
              have hA5 : (A1 ++ (L2.take i2).flatMap fun r => joinsL q l r).length ≤ 1500000 := by rw [List.length_append]; omega
              generalize (A1 ++ (L2.take i2).flatMap fun r => joinsL q l r) = A6 at *
              simp [-S_law_can]
              refine mFor_ix (J := fun i γ => ∃ x10 : Option W, γ = [some (.val (eQ q)), some (.val (eN ts)), some (.own (lP (A6 ++ ((mths.take i).filter (canStand q l r)).map (.join l r)))), some (.val (.int (1 + j))), some (.val (eN a)), some (.val (.int x5)), x6, some (.val (eN b)), some (.val (eP l)), some (.val (eP r)), x10]) _ 0 _ ⟨x10, by simp⟩ ?_ ?_
              · rintro i3 d hd γ ⟨x10, rfl⟩ N4 hN4
                have hm : ∃ m, mths[i3]? = some m ∧ d = .str (mS m) := by
                  match i3, hd with
                  | 0, hd => cases hd; exact ⟨.hash, rfl, rfl⟩
                  | 1, hd => cases hd; exact ⟨.index, rfl, rfl⟩
                  | 2, hd => cases hd; exact ⟨.loop, rfl, rfl⟩
                  | n + 3, hd => simp at hd
                obtain ⟨m, hm, rfl⟩ := hm
                rw [Nat.zero_add] at hN4 ⊢
                have hA7 : ((mths.take i3).filter (canStand q l r)).length ≤ 3 := Nat.le_trans (List.length_filter_le _ _) (by rw [List.length_take]; simp [mths]; omega)
                rw [take_snoc hm, List.filter_append, List.map_append, ← List.append_assoc] at hN4
                have hA8 : (A6 ++ ((mths.take i3).filter (canStand q l r)).map (Plan.join l r)).length ≤ 1500003 := by rw [List.length_append, List.length_map]; omega
                generalize (A6 ++ ((mths.take i3).filter (canStand q l r)).map (Plan.join l r)) = A9 at *
                simp [-S_law_can]
                refine ⟨q, l, r, m, rfl, ⟨dep l ml, dep2 r mr⟩, ⟨by omega, hq⟩, ?_⟩
                simp
                refine ⟨fun hs => ?_, fun hs => ?_⟩
                · refine ⟨by rw [lP_len]; unfold SzOk; omega, by cases x6 with | none => rfl | some w => cases w <;> simp_all, hN4 _ ⟨some (.val (.str (mS m))), ?_⟩⟩
                  have e9 : lP (A9 ++ (([m].filter (canStand q l r)).map (Plan.join l r))) = lP A9 ++ [PyData.tuple [eP l, eP r, PyData.str (mS m)]] := by rw [lP_append]; simp [hs, lP, eP]
                  rw [e9]
                · refine hN4 _ ⟨some (.val (.str (mS m))), ?_⟩
                  have e9 : (([m].filter (canStand q l r)).map (Plan.join l r)) = [] := by simp [hs]
                  rw [e9, List.append_nil]
              · rintro γ ⟨x10, rfl⟩
                exact hN3 _ ⟨_, _, rfl⟩
            · rintro γ ⟨x9, x10, rfl⟩
              rw [Nat.zero_add, lP_len, List.take_length]
              exact hN2 _ ⟨_, _, _, rfl⟩
          · rintro γ ⟨x8, x9, x10, rfl⟩
            rw [Nat.zero_add, lP_len, List.take_length]
            exact hN' _ ⟨_, _, _, _, _, _, _, _, o6, rfl⟩
    · rintro γ ⟨x3, x4, x5, x6, x7, x8, x9, x10, o6, rfl⟩
      rw [Nat.zero_add, rgL_len]
      have z : ((T : Int) - 1 - 1).toNat = (masks ts.length).length := by omega
      rw [z, List.take_length]
      simp
      exact h
end GJ

/-! F7: links in their order. -/
namespace GJ
abbrev Lk := Int × Int × Int × Int
def lk4 (l : Lk) : List Int := [l.1, l.2.1, l.2.2.1, l.2.2.2]
def lnkLt (l m : Lk) : Prop := l.1 < m.1 ∨ (l.1 = m.1 ∧ l.2.1 < m.2.1)
def leL (l m : Lk) : Bool := !decide (lk4 m < lk4 l)
def sortL (ls : List Lk) : List Lk := ls.mergeSort leL
theorem leL_iff (l m : Lk) : leL l m = true ↔ lk4 l ≤ lk4 m := by
  unfold leL
  rw [Bool.not_eq_true', decide_eq_false_iff_not, List.not_lt]
theorem sortL_perm (ls : List Lk) : (sortL ls).Perm ls := List.mergeSort_perm _ _
theorem sortL_pw (ls : List Lk) : (sortL ls).Pairwise fun l m => lk4 l ≤ lk4 m := by
  have h := List.pairwise_mergeSort (le := leL) (by
    intro a b c h1 h2
    rw [leL_iff] at *
    exact List.le_trans h1 h2) (by
    intro a b
    rw [Bool.or_eq_true, leL_iff, leL_iff]
    exact List.le_total _ _) ls
  exact h.imp fun h => (leL_iff _ _).mp h
theorem lt_of_le4 {l m : Lk} (h : lk4 l ≤ lk4 m) (ne : (l.1, l.2.1) ≠ (m.1, m.2.1)) : lnkLt l m := by
  obtain ⟨a, b, c, d⟩ := l
  obtain ⟨a', b', c', d'⟩ := m
  unfold lnkLt
  simp only at *
  apply Classical.byContradiction
  intro n
  refine List.not_lt.mpr h ?_
  unfold lk4
  simp only [List.cons_lt_cons_iff]
  have h2 : ¬ (a = a' ∧ b = b') := fun z => ne (by rw [z.1, z.2])
  omega
structure QGood (q : Qn) : Prop where
  ok : QOk q
  asc : q.ls.Pairwise lnkLt
  ixp : q.ix.Pairwise (· < ·)
  ixr : InT q q.ix
theorem sortL_good {ls : List Lk} (h : ls.Pairwise fun l m => (l.1, l.2.1) ≠ (m.1, m.2.1)) : (sortL ls).Pairwise lnkLt := by
  have p : (sortL ls).Pairwise fun l m => (l.1, l.2.1) ≠ (m.1, m.2.1) :=
    ((sortL_perm ls).pairwise_iff (fun h e => h e.symm)).mpr h
  have := List.pairwise_and_iff.mpr ⟨sortL_pw ls, p⟩
  exact this.imp fun h => lt_of_le4 h.1 h.2
theorem mem_sortL {ls : List Lk} {l : Lk} : l ∈ sortL ls ↔ l ∈ ls := (sortL_perm ls).mem_iff
theorem sortL_len (ls : List Lk) : (sortL ls).length = ls.length := List.length_mergeSort ls
/-- the whole numbers up to n - 1 are n -/
theorem ix_len {n : Nat} {l : List Int} (h : l.Pairwise (· < ·)) (r : ∀ i ∈ l, 0 ≤ i ∧ i < (n : Int)) : l.length ≤ n := by
  have : ∀ (l : List Int) (lo : Int), l.Pairwise (· < ·) → (∀ i ∈ l, lo ≤ i ∧ i < (n : Int)) → (l.length : Int) ≤ max 0 ((n : Int) - lo) := by
    intro l
    induction l with
    | nil => intro lo _ _; simp; omega
    | cons a l ih =>
      intro lo p r
      obtain ⟨p1, p2⟩ := List.pairwise_cons.mp p
      have h1 := r a List.mem_cons_self
      have := ih (a + 1) p2 fun i m => ⟨by have := p1 i m; omega, (r i (List.mem_cons_of_mem _ m)).2⟩
      simp only [List.length_cons]
      omega
  have := this l 0 h r
  omega
/-- the questions of the document -/
def qOne : Qn := ⟨[(5, 1), (3, 0)], [(0, 1, 3, 0)], []⟩
def qTwo : Qn := ⟨[(1, 1), (1, 1)], [(0, 1, 1, 1)], [1]⟩
def qThree : Qn := ⟨[(2, 1), (10, 0), (1, 2)], [(0, 1, 10, 0), (1, 2, 5, 1)], [2]⟩
theorem good_of {q : Qn} (h : decide (2 ≤ q.ts.length ∧ q.ts.length ≤ 4 ∧ q.ls.length ≤ 6) = true) (ht : q.ts.all (fun t => decide (1 ≤ t.1 ∧ t.1 ≤ 99 ∧ 0 ≤ t.2 ∧ t.2 ≤ 2)) = true) (hl : q.ls.all (fun l => decide (0 ≤ l.1 ∧ l.1 < l.2.1 ∧ l.2.1 ≤ (q.ts.length : Int) - 1 ∧ 1 ≤ l.2.2.1 ∧ l.2.2.1 ≤ 99 ∧ 0 ≤ l.2.2.2 ∧ l.2.2.2 ≤ 2)) = true)
    (ha : q.ls.Pairwise lnkLt) (hx : q.ix.Pairwise (· < ·)) (hr : q.ix.all (fun i => decide (0 ≤ i ∧ i < (q.ts.length : Int))) = true) : QGood q := by
  rw [List.all_eq_true] at ht hl hr
  obtain ⟨h1, h2, h3⟩ := of_decide_eq_true h
  refine ⟨⟨h1, h2, fun t m => ?_, h3, fun l m => ?_⟩, ha, hx, fun i m => of_decide_eq_true (hr i m)⟩
  · obtain ⟨a, b, c, d⟩ := of_decide_eq_true (ht t m)
    exact ⟨a, b, c, d⟩
  · obtain ⟨a, b, c, d, e, f, g⟩ := of_decide_eq_true (hl l m)
    exact ⟨a, b, c, d, e, f, g⟩
theorem one_good : QGood qOne := good_of (by decide) (by decide) (by decide) (by simp [qOne]) (by simp [qOne]) (by decide)
theorem two_good : QGood qTwo := good_of (by decide) (by decide) (by decide) (by simp [qTwo]) (by simp [qTwo]) (by decide)
theorem three_good : QGood qThree := good_of (by decide) (by decide) (by decide) (by simp [qThree, lnkLt]) (by simp [qThree]) (by decide)
end GJ

/-! LD: the law's questions. -/
namespace GJ
open PySem PySem.Spec PyProof.Rows L2
open PySem.W (AllAlike Sortable alike alikeAll dataLe)
theorem eLnk_ints (l : Lk) : eLnk l = .tuple ((lk4 l).map .int) := rfl
theorem sortD_lnks (ls : List Lk) : sortD (ls.map eLnk) = (sortL ls).map eLnk := by
  unfold sortD sortL
  rw [← List.map_mergeSort]
  intro a ha b hb
  show leL a b = !PySem.W.dataLt (eLnk b) (eLnk a)
  rw [eLnk_ints, eLnk_ints, PySem.W.dataLt_tuple]
  show leL a b = !PySem.W.rowLt ((lk4 b).map .int) ((lk4 a).map .int)
  rw [PySem.W.dataLt_ints]
  rfl
theorem lay_lnks : ∀ ls : List Lk, PyData.canLayAll0 (ls.map eLnk) = true
  | [] => rfl
  | l :: ls => by
    have ih := lay_lnks ls
    simp only [List.map_cons, PyData.canLayAll0, ih, Bool.and_true]
    rfl
theorem depth_lnks : ∀ ls : List Lk, PyData.depthAll (ls.map eLnk) ≤ 1
  | [] => by simp [PyData.depthAll]
  | l :: ls => by
    have ih := depth_lnks ls
    have e : (eLnk l).depth = 1 := by simp [eLnk, PyData.depth, PyData.depthAll]
    simp only [List.map_cons, PyData.depthAll, e]
    omega
theorem sortOk_lnks (ls : List Lk) : SortOk (ls.map eLnk) :=
  ⟨AllAlike.of fun _ _ => by rw [eLnk_ints, eLnk_ints]; exact PySem.W.alike_ints _ _, Sortable.tuples fun b => ⟨_, _, rfl⟩, lay_lnks ls, Nat.le_trans (depth_lnks ls) (by omega)⟩
/-! a good question is one -/
theorem isNums_good {k : Nat} {ns : List Int} (h : ns.Pairwise (· < ·)) (r : ∀ i ∈ ns, 0 ≤ i ∧ i < (k : Int)) : isNums k (eI ns) 0 = true := by
  have hl := ix_len h r
  have ha : ∀ ns : List Int, ns.Pairwise (· < ·) → asc ns = true := by
    intro ns
    induction ns with
    | nil => intro _; rfl
    | cons a l ih =>
      intro p
      obtain ⟨p1, p2⟩ := List.pairwise_cons.mp p
      cases l with
      | nil => rfl
      | cons b l =>
        simp only [asc, Bool.and_eq_true, decide_eq_true_eq]
        exact ⟨p1 b List.mem_cons_self, ih p2⟩
  have e : (ns.map PyData.int).map toI = ns := by rw [List.map_map]; exact List.map_id' ns
  simp only [eI, isNums, e, ha ns h, Bool.and_true, Bool.and_eq_true, decide_eq_true_eq, List.length_map]
  refine ⟨⟨by omega, by omega⟩, ?_⟩
  rw [List.all_eq_true]
  intro d hd
  obtain ⟨i, hi, rfl⟩ := List.mem_map.mp hd
  have := r i hi
  simp
  omega
theorem good_isQn {q : Qn} (h : QGood q) : isQn q := by
  refine ⟨?_, h.ok⟩
  have hn := h.ok.n2
  have hm := h.ok.n4
  have hl := h.ok.nl
  have e1 : (q.ts.map eTab).all isTable = true := by
    rw [List.all_eq_true]
    intro d hd
    obtain ⟨t, ht, rfl⟩ := List.mem_map.mp hd
    obtain ⟨a, b, c, d⟩ := h.ok.tab t ht
    simp [eTab, isTable]
    omega
  have e2 : (q.ls.map eLnk).all (isLink (q.ts.map eTab).length) = true := by
    rw [List.all_eq_true]
    intro d hd
    obtain ⟨l, hl, rfl⟩ := List.mem_map.mp hd
    obtain ⟨a, b, c, d, e, f, g⟩ := h.ok.lnk l hl
    simp [eLnk, isLink]
    omega
  have e3 : (zipD (q.ls.map eLnk) ((q.ls.map eLnk).drop 1)).all ltL = true := by
    have z : ∀ ls : List Lk, ls.Pairwise lnkLt → (zipD (ls.map eLnk) ((ls.map eLnk).drop 1)).all ltL = true := by
      intro ls
      induction ls with
      | nil => intro _; rfl
      | cons a l ih =>
        intro p
        obtain ⟨p1, p2⟩ := List.pairwise_cons.mp p
        cases l with
        | nil => rfl
        | cons b l =>
          have z1 := ih p2
          have z2 := p1 b List.mem_cons_self
          have z3 : zipD ((a :: b :: l).map eLnk) (((a :: b :: l).map eLnk).drop 1) = .tuple [eLnk a, eLnk b] :: zipD ((b :: l).map eLnk) (((b :: l).map eLnk).drop 1) := rfl
          rw [z3, List.all_cons, z1, Bool.and_true]
          unfold lnkLt at z2
          simp only [ltL, eLnk, two, List.map_cons, List.map_nil, toI, HT.lexLt]
          by_cases e : a.1 = b.1
          · rw [if_pos e]
            have : ¬ a.2.1 = b.2.1 := by omega
            rw [if_neg this]
            exact decide_eq_true (by omega)
          · rw [if_neg e]
            exact decide_eq_true (by omega)
    exact z q.ls h.asc
  have e4 : isNums (q.ts.map eTab).length (eI q.ix) 0 = true := by
    rw [List.length_map]; exact isNums_good h.ixp h.ixr
  rw [eQ, isQ_eq, e1, e2, e3, e4]
  simp only [List.length_map, Bool.and_true, Bool.and_eq_true, decide_eq_true_eq]
  omega
/-! known questions -/
@[simp] def S_law_known : SpD := fun ws Q _ => ws = [] ∧ Q (.val (.tuple [eQ qOne, eQ qTwo, eQ qThree]))
theorem p_law_known : Law S_law_known m_law_known N_law_known := by
  rintro ws Q R ⟨rfl, h⟩
  simp [m_law_known, N_law_known]
  exact h
/-! drawn questions -/
@[simp] def S_law_question : SpD := fun ws Q _ => ∃ most : Int, ws = [.src, .val (.int most)] ∧ (2 ≤ most ∧ most ≤ 4) ∧ ∀ q : Qn, QGood q → q.ts.length ≤ most → Q (.val (eQ q))
def tri : Nat → Nat
  | 0 => 0
  | n + 1 => tri n + n
structure QPart (k : Nat) (o : Nat) (ls : List Lk) : Prop where
  len : ls.length ≤ tri k + o
  a : ∀ l ∈ ls, 0 ≤ l.1 ∧ l.1 < l.2.1
  b : ∀ l ∈ ls, l.2.1 < k ∨ (l.2.1 = k ∧ l.1 < o)
  c : ∀ l ∈ ls, (1 ≤ l.2.2.1 ∧ l.2.2.1 ≤ 99) ∧ 0 ≤ l.2.2.2 ∧ l.2.2.2 ≤ 2
  d : ls.Pairwise fun l m => (l.1, l.2.1) ≠ (m.1, m.2.1)
theorem QPart.next {k : Nat} {ls : List Lk} (h : QPart k k ls) : QPart (k + 1) 0 ls :=
  ⟨by have := h.len; simp only [tri]; omega, h.a, fun l m => by have := h.b l m; have := h.a l m; omega, h.c, h.d⟩
theorem QPart.skip {k o : Nat} {ls : List Lk} (h : QPart k o ls) : QPart k (o + 1) ls :=
  ⟨by have := h.len; omega, h.a, fun l m => by have := h.b l m; omega, h.c, h.d⟩
theorem QPart.snoc {k o : Nat} {ls : List Lk} (h : QPart k o ls) (ho : o < k) {x y : Int} (hx : 1 ≤ x ∧ x ≤ 99) (hy : 0 ≤ y ∧ y ≤ 2) : QPart k (o + 1) (ls ++ [((o : Int), (k : Int), x, y)]) := by
  refine ⟨by have := h.len; rw [List.length_append]; simp; omega, fun l m => ?_, fun l m => ?_, fun l m => ?_, ?_⟩
  · rcases List.mem_append.mp m with m | m
    · exact h.a l m
    · rw [List.mem_singleton.mp m]; simp only; omega
  · rcases List.mem_append.mp m with m | m
    · have := h.b l m; omega
    · rw [List.mem_singleton.mp m]; exact .inr ⟨rfl, by show (o : Int) < ((o + 1 : Nat) : Int); omega⟩
  · rcases List.mem_append.mp m with m | m
    · exact h.c l m
    · rw [List.mem_singleton.mp m]; exact ⟨hx, hy⟩
  · rw [List.pairwise_append]
    refine ⟨h.d, by simp, fun l hl m hm e => ?_⟩
    rw [List.mem_singleton.mp hm] at e
    simp only [Prod.mk.injEq] at e
    have := h.b l hl
    omega
structure TPart (k : Nat) (ts : List (Int × Int)) : Prop where
  len : ts.length = k
  ok : ∀ t ∈ ts, TabOk t
structure XPart (k : Nat) (ix : List Int) : Prop where
  r : ∀ i ∈ ix, 0 ≤ i ∧ i < k
  p : ix.Pairwise (· < ·)
theorem TPart.nil : TPart 0 [] := ⟨rfl, fun t m => (nomatch m)⟩
theorem QPart.nil : QPart 0 0 [] := ⟨by simp [tri], fun l m => (nomatch m), fun l m => (nomatch m), fun l m => (nomatch m), List.Pairwise.nil⟩
theorem XPart.nil : XPart 0 [] := ⟨fun l m => (nomatch m), List.Pairwise.nil⟩
theorem TPart.snoc {k : Nat} {ts : List (Int × Int)} (h : TPart k ts) {x y : Int} (hx : 1 ≤ x ∧ x ≤ 99) (hy : 0 ≤ y ∧ y ≤ 2) : TPart (k + 1) (ts ++ [(x, y)]) :=
  ⟨by rw [List.length_append, h.len]; rfl, fun t m => by
    rcases List.mem_append.mp m with m | m
    · exact h.ok t m
    · rw [List.mem_singleton.mp m]; exact ⟨hx.1, hx.2, hy.1, hy.2⟩⟩
theorem XPart.skip {k : Nat} {ix : List Int} (h : XPart k ix) : XPart (k + 1) ix := ⟨fun i m => by have := h.r i m; omega, h.p⟩
theorem XPart.snoc {k : Nat} {ix : List Int} (h : XPart k ix) : XPart (k + 1) (ix ++ [(k : Int)]) := by
  refine ⟨fun i m => ?_, ?_⟩
  · rcases List.mem_append.mp m with m | m
    · have := h.r i m; omega
    · rw [List.mem_singleton.mp m]; omega
  · rw [List.pairwise_append]
    exact ⟨h.p, by simp, fun a ha b hb => by rw [List.mem_singleton.mp hb]; exact (h.r a ha).2⟩
theorem parts_good {k : Nat} {ts : List (Int × Int)} {ls : List Lk} {ix : List Int} (h2 : 2 ≤ k) (h4 : k ≤ 4) (t : TPart k ts) (l : QPart k 0 ls) (x : XPart k ix) : QGood ⟨ts, sortL ls, ix⟩ := by
  have tk := t.len
  refine ⟨⟨by show 2 ≤ ts.length; omega, by show ts.length ≤ 4; omega, t.ok, ?_, fun m hm => ?_⟩, sortL_good l.d, x.p, ?_⟩
  · show (sortL ls).length ≤ 6
    rw [sortL_len]
    have := l.len
    rcases (by omega : k = 2 ∨ k = 3 ∨ k = 4) with rfl | rfl | rfl <;> simp [tri] at this <;> omega
  · have hm' := mem_sortL.mp hm
    have h1 := l.a m hm'
    have h2 := l.b m hm'
    have h3 := l.c m hm'
    exact ⟨h1.1, h1.2, by show m.2.1 ≤ (ts.length : Int) - 1; omega, h3.1.1, h3.1.2, h3.2.1, h3.2.2⟩
  · show ∀ i ∈ ix, 0 ≤ i ∧ i < (ts.length : Int)
    rw [tk]; exact x.r
theorem p_law_question : Law S_law_question (m_law_question S_law_draw S_law_of) N_law_question := by
  rintro ws Q R ⟨most, rfl, ⟨m2, m4⟩, h⟩
  have bs : ∀ i : Int, 0 ≤ i → i < 1000 → bi i ≤ 9000 := fun i h0 h1 => Nat.le_trans (bl_le (k := 10) (by omega) (by omega)) (by omega)
  have b99 := bs 99 (by omega) (by omega)
  have b3 := bs 3 (by omega) (by omega)
  have b2 := bs 2 (by omega) (by omega)
  simp [m_law_question, N_law_question, -S_law_of]
  refine ⟨⟨by omega, bs _ (by omega) (by omega)⟩, fun r0 r1 r2 => ⟨by unfold RgS; omega, ?_⟩⟩
  obtain ⟨k, hk⟩ : ∃ k : Nat, 2 + r0 = (k : Int) := ⟨(2 + r0).toNat, by omega⟩
  rw [hk]
  have k2 : 2 ≤ k := by omega
  have k4 : (k : Int) ≤ most := by omega
  refine mFor_ix (J := fun i γ => ∃ ts ls ix, (TPart i ts ∧ QPart i 0 ls ∧ XPart i ix) ∧ ∃ x6 x7 x8 x9, γ = [some .src, some (.val (.int most)), some (.val (.int k)), some (.val (.tuple (ts.map eTab))), some (.val (.tuple (ls.map eLnk))), some (.val (eI ix)), x6, x7, x8, x9]) _ 0 _ ⟨[], [], [], ⟨TPart.nil, QPart.nil, XPart.nil⟩, none, none, none, none, rfl⟩ ?_ ?_
  · rintro i d hd γ ⟨ts, ls, ix, ⟨ht, hl, hx⟩, x6, x7, x8, x9, rfl⟩ N' hN'
    obtain ⟨rfl, hlt⟩ := rgL_get hd
    rw [Nat.zero_add] at ht hl hx hN'
    rw [Int.zero_add]
    have hi : i < k := by omega
    have lt := ht.len
    have ll := hl.len
    have lx : ix.length ≤ i := ix_len hx.p hx.r
    have tt : tri i ≤ 3 := by rcases (by omega : i = 0 ∨ i = 1 ∨ i = 2 ∨ i = 3) with rfl | rfl | rfl | rfl <;> simp [tri]
    simp [b99, b3, b2, -S_law_of]
    intro s0 s1 s2
    refine ⟨_, rfl, ⟨by simp, by simp⟩, fun d hd => ?_⟩
    obtain ⟨sm, rfl, sm1, sm2⟩ : ∃ z : Int, d = .int z ∧ 1 ≤ z ∧ z ≤ 99 := by
      simp only [List.mem_cons, List.not_mem_nil, or_false] at hd
      rcases hd with rfl | rfl | rfl | rfl
      · exact ⟨_, rfl, by omega, by omega⟩
      · exact ⟨_, rfl, by omega, by omega⟩
      · exact ⟨_, rfl, by omega, by omega⟩
      · exact ⟨_, rfl, by omega, by omega⟩
    simp [b99, b3, b2, -S_law_of]
    refine ⟨_, rfl, ⟨by simp, by simp⟩, fun d hd => ?_⟩
    obtain ⟨pw, rfl, pw1, pw2⟩ : ∃ z : Int, d = .int z ∧ 0 ≤ z ∧ z ≤ 2 := by
      simp only [List.mem_cons, List.not_mem_nil, or_false] at hd
      rcases hd with rfl | rfl | rfl | rfl
      · exact ⟨_, rfl, by omega, by omega⟩
      · exact ⟨_, rfl, by omega, by omega⟩
      · exact ⟨_, rfl, by omega, by omega⟩
      · exact ⟨_, rfl, by omega, by omega⟩
    simp [b99, b3, b2, -S_law_of]
    refine ⟨by unfold SzOk; omega, by unfold RgS; omega, ?_⟩
    have ht2 := ht.snoc ⟨sm1, sm2⟩ ⟨pw1, pw2⟩
    have e1 : ts.map eTab ++ [PyData.tuple [.int sm, .int pw]] = (ts ++ [(sm, pw)]).map eTab := by rw [List.map_append]; rfl
    rw [e1]
    clear e1
    generalize ts ++ [(sm, pw)] = ts2 at *
    refine mFor_ix (J := fun o γ => ∃ ls x8 x9, (QPart i o ls) ∧ γ = [some .src, some (.val (.int most)), some (.val (.int k)), some (.val (.tuple (ts2.map eTab))), some (.val (.tuple (ls.map eLnk))), some (.val (eI ix)), some (.val (.int i)), some (.val (.int sm)), x8, x9]) _ 0 _ ⟨ls, x8, x9, hl, rfl⟩ ?_ ?_
    · rintro o d hd γ ⟨ls, x8, x9, hl, rfl⟩ N2 hN2
      obtain ⟨rfl, hlt⟩ := rgL_get hd
      rw [Nat.zero_add] at hl hN2
      rw [Int.zero_add]
      have ho : o < i := by omega
      have ll := hl.len
      simp [b99, b3, b2, -S_law_of]
      intro u0 u1 u2
      refine ⟨fun hu v0 v1 v2 => ?_, fun hu => hN2 _ ⟨ls, _, _, hl.skip, rfl⟩⟩
      refine ⟨_, rfl, ⟨by simp, by simp⟩, fun d hd => ?_⟩
      obtain ⟨bw, rfl, bw1, bw2⟩ : ∃ z : Int, d = .int z ∧ 1 ≤ z ∧ z ≤ 99 := by
        simp only [List.mem_cons, List.not_mem_nil, or_false] at hd
        rcases hd with rfl | rfl | rfl
        · exact ⟨_, rfl, by omega, by omega⟩
        · exact ⟨_, rfl, by omega, by omega⟩
        · exact ⟨_, rfl, by omega, by omega⟩
      simp [b99, b3, b2, -S_law_of]
      intro w0 w1 w2
      refine ⟨by unfold SzOk; omega, hN2 _ ?_⟩
      have e9 : ls.map eLnk ++ [PyData.tuple [.int o, .int i, .int bw, .int w0]] = (ls ++ [((o : Int), (i : Int), bw, w0)]).map eLnk := by rw [List.map_append]; rfl
      rw [e9]
      exact ⟨_, _, _, hl.snoc ho ⟨bw1, bw2⟩ (y := w0) ⟨w1, by omega⟩, rfl⟩
    · rintro γ ⟨ls, x8, x9, hl, rfl⟩
      have ei : (rgL 0 (i : Int)).length = i := by rw [rgL_len]; omega
      rw [ei, Nat.zero_add] at hl
      simp [b99, b3, b2, eqOk_int, PyData.eqv, eI]
      intro u0 u1 u2
      refine ⟨fun hu => ⟨by unfold SzOk; omega, hN' _ ?_⟩, fun hu => hN' _ ⟨_, _, _, ⟨ht2, hl.next, hx.skip⟩, _, _, _, _, rfl⟩⟩
      have e9 : PyData.tuple (ix.map .int ++ [.int i]) = eI (ix ++ [(i : Int)]) := by simp [eI]
      rw [e9]
      exact ⟨_, _, _, ⟨ht2, hl.next, hx.snoc⟩, _, _, _, _, rfl⟩
  · rintro γ ⟨ts, ls, ix, ⟨ht, hl, hx⟩, x6, x7, x8, x9, rfl⟩
    rw [Nat.zero_add, rgL_len] at ht hl hx
    have ek : ((k : Int) - 0).toNat = k := by omega
    rw [ek] at ht hl hx
    have ll := hl.len
    have tt : tri k ≤ 6 := by rcases (by omega : k = 2 ∨ k = 3 ∨ k = 4) with rfl | rfl | rfl <;> simp [tri]
    simp [sortD_lnks]
    refine ⟨sortOk_lnks _, h ⟨ts, sortL ls, ix⟩ (parts_good k2 (by omega) ht hl hx) ?_⟩
    have := ht.len
    show (ts.length : Int) ≤ most
    omega
end GJ

/-! LE: a plan's cost is told rightly. -/
namespace GJ
open PySem PySem.Spec PyProof.Rows L2
@[simp] def S_law_right (C C' : Addr) : SpD := fun ws Q _ => ∃ (q : Qn) (p : Plan), ws = [.src, .val (eQ q), .val (eP p)] ∧ (isQn q ∧ goodPlan q (eP p) = true) ∧ Q (.val (.bool true))
theorem eqv_self {d : PyData} (h : nbD d = true) : PyData.eqv d d = true := (eqv_iff d d h h).mpr rfl
def fstD : PyData → PyData
  | .tuple (.int p :: _) => .int p
  | _ => .none
theorem lF_fst (f : Fm) : (lF f).map fstD = (f.map (·.1)).map .int := by
  unfold lF
  rw [List.map_map, List.map_map]
  rfl
theorem p_law_right (C C' : Addr) : Law (S_law_right C C') (m_law_right (S_cost C) S_law_common S_law_draw (S_law_cost 3) (S_cost_at C C') S_law_worth) N_law_right := by
  rintro ws Q R ⟨q, p, rfl, ⟨hq, hg⟩, h⟩
  obtain ⟨p', e, hdp, hi, hj, _⟩ := good_out hg
  have e' : p = p' := by rw [← dPlan_eP p, e, dPlan_eP]
  subst e'
  have hn4 := hq.2.n4
  obtain ⟨ok, hl⟩ := costF_ok hq.2 hi (by omega)
  have hsz := costF_sz hq.2 hi (by omega)
  obtain ⟨D0, D1⟩ := dq_ok hq.2
  have cp9 : CPow 10 9 := ⟨by omega, by omega, by decide⟩
  have cp30 : CPow 10 30 := ⟨by omega, by omega, by decide⟩
  have b9 : bi 1000000000 ≤ 9000 := Nat.le_trans (bl_le (k := 40) (by decide) (by omega)) (by omega)
  have b999 : bi 999 ≤ 9000 := Nat.le_trans (bl_le (k := 40) (by decide) (by omega)) (by omega)
  have wf : ∀ n, wr n (costF q p) = wr n (costF q p) := fun n => rfl
  simp [m_law_right, N_law_right, -S_cost, -S_law_cost, -S_cost_at, -S_law_worth, cp9, cp30]
  refine ⟨q, eP p, rfl, hq, fun _ => ?_, fun z => by rw [hg] at z; cases z⟩
  rw [dPlan_eP]
  have hwr : ∀ n : Int, 1 ≤ n → wr n (costF q p) = costR q n p := fun n h => wr_costF q (by omega) p
  have hwok : ∀ n : Int, 1 ≤ n → n ≤ 10 ^ 30 → WOk (costF q p) n := fun n h0 h1 => wok_cost hq.2 hi (by omega) h0 h1
  generalize costF q p = f at *
  simp [eF_lF, -S_law_cost, -S_cost_at, -S_law_worth]
  refine lcRun_ok (p := fun _ => false) (f := fun d => d) _ [] _ (fun d m X Y hX hY => ?_) (by rw [lF_len]; simp; omega) ?_
  · obtain ⟨a, ha, rfl⟩ := List.mem_map.mp m
    have h1 := ok.pos a ha
    have h2 := den_pos a.2
    have h3 : ¬ a.2.num ≤ 0 := fun z => by
      have z1 : 0 ≤ a.2.num := Rat.num_nonneg.mpr (by grind)
      have z2 : a.2.num ≠ 0 := fun e => by rw [Rat.num_eq_zero] at e; grind
      omega
    simp [eT, tr, h3]
    refine ⟨fun z => by omega, fun z => hY rfl⟩
  · have e0 : (List.filter (fun _ => false) (lF f)) = [] := by rw [List.filter_eq_nil_iff]; simp
    rw [e0]
    simp [PyData.eqv, PyData.eqvAll, -S_law_cost, -S_cost_at, -S_law_worth]
    refine ⟨⟨rfl, rfl, by simp [PyData.depth, PyData.depthAll]⟩, ?_⟩
    refine lcRun_map (f := fstD) _ _ (fun d m X hX => ?_) (by rw [lF_len]; omega) ?_
    · obtain ⟨a, ha, rfl⟩ := List.mem_map.mp m
      simp [eT, tr, fstD] at hX ⊢
      exact hX
    · rw [lF_fst]
      have hpw : (f.map (·.1)).Pairwise (· < ·) := List.pairwise_map.mpr ok.pw
      have hfl : (f.map (·.1)).length = f.length := List.length_map _
      generalize f.map (·.1) = ns at *
      have nbn : nbD (.list (ns.map .int)) = true := by rw [nbD]; exact nb_ints ns
      have eqn : EqOk (.list (ns.map .int)) (.list (ns.map .int)) := eqOk_nb nbn nbn (by rw [PyData.depth, depth_ints]; omega)
      simp [-S_law_cost, -S_cost_at, -S_law_worth]
      refine ⟨by omega, by omega, fun l lp lm => ?_⟩
      have el := pw_ext lp hpw lm
      subst el
      have es : PyData.eqvAll (l.map .int) (l.map .int) = true := (eqvAll_iff _ _ (nb_ints l) (nb_ints l)).mpr rfl
      have ee := eqv_self nbn
      simp [eqn, PyData.eqv, es, -S_law_cost, -S_cost_at, -S_law_worth]
      refine mFor_ix (J := fun i γ => ∃ x5 x6 x7, γ = [some .src, some (.val (eQ q)), some (.val (eP p)), some (.val (.tuple (lF f))), some (.val (.list (l.map .int))), x5, x6, x7, none, none, none, none]) _ 0 _ ⟨none, none, none, rfl⟩ ?_ ?_
      · rintro j d hd γ ⟨x5, x6, x7, rfl⟩ N' hN'
        unfold lF at hd
        rw [List.getElem?_map] at hd
        obtain ⟨a, ha, rfl⟩ := Option.map_eq_some_iff.mp hd
        have hg : Int.gcd a.2.num a.2.den = 1 := a.2.reduced
        simp [eT, tr, hg, eqOk_int, PyData.eqv]
        exact hN' _ ⟨_, _, _, rfl⟩
      · rintro γ ⟨x5, x6, x7, rfl⟩
        simp [b9, b999, -S_law_cost, -S_cost_at, -S_law_worth, cp9, cp30]
        intro g g0 g1 r r0 r1
        refine mFor_ix (J := fun i γ => ∃ x9 x10, γ = [some .src, some (.val (eQ q)), some (.val (eP p)), some (.val (.tuple (lF f))), some (.val (.list (l.map .int))), x5, x6, x7, some (.val (.int (1000000000 + g))), x9, x10, none]) _ 0 _ ⟨none, none, rfl⟩ ?_ ?_
        · rintro j d hd γ ⟨x9, x10, rfl⟩ N' hN'
          obtain ⟨n, rfl, n0, n1⟩ : ∃ n : Int, d = .int n ∧ 1 ≤ n ∧ n ≤ 10 ^ 30 := by
            have := List.mem_of_getElem? hd
            simp only [List.mem_cons, List.not_mem_nil, or_false] at this
            rcases this with rfl | rfl | rfl | rfl | rfl | rfl | rfl <;> exact ⟨_, rfl, by omega, by omega⟩
          simp [-S_law_cost, -S_cost_at, -S_law_worth]
          refine ⟨q, p, n, rfl, ⟨hq.2, hi, by omega⟩, ⟨hdp, by omega⟩, ⟨n0, n1⟩, ?_⟩
          have er := eqv_self (nb_eR (costR q n p))
          have eo := eqOk_nb (nb_eR (costR q n p)) (nb_eR (costR q n p)) (by rw [depth_eR]; omega)
          have em : isMut (.val (eR (costR q n p))) = false := rfl
          have hw := hwr n n0
          refine ⟨rfl, q, eP p, .int n, rfl, hq, fun _ => ⟨fun _ => ?_, fun z => ?_⟩, fun z => by rw [hg] at z; cases z⟩
          · rw [dPlan_eP]
            show EqOk (eR (costR q n p)) (eR (costR q n p)) ∧ _
            refine ⟨eo, ?_⟩
            simp [er, toI, -S_law_worth]
            refine ⟨f, n, 86, rfl, hwok n n0 n1, ⟨fun a ha => Nat.le_trans ((ok.dd a ha).bits D0) D1, by omega⟩, ?_⟩
            · rw [hw]
              simp [eo, er]
              exact hN' _ ⟨_, _, rfl⟩
          · simp at z
            omega
        · rintro γ ⟨x9, x10, rfl⟩
          simp
          exact h
end GJ

/-! LF: the law k03. -/
namespace GJ
open PySem PySem.Spec PyProof.Rows L2
theorem isMeth_mS (m : Mth) : isMeth (.str (mS m)) = true := by cases m <;> decide +kernel
theorem isShape_of {k : Int} : ∀ {n : Nat} {p : Plan}, p.depth ≤ n → (∀ i ∈ tabs p, 0 ≤ i ∧ i < k) → isShape k n (eP p) = true
  | n, .leaf i, _, h => by
    have h := h i (by simp [tabs])
    have e : isNum (.int i) 0 (k - 1) = true := by simp; omega
    cases n <;> simp only [isShape, eP, e, Bool.true_or]
  | 0, .join l r m, hd, _ => by simp [Plan.depth] at hd
  | n + 1, .join l r m, hd, h => by
    simp only [Plan.depth] at hd
    have h1 := isShape_of (n := n) (p := l) (by omega) fun i z => h i (tabs_mem.mpr (.inl z))
    have h2 := isShape_of (n := n) (p := r) (by omega) fun i z => h i (tabs_mem.mpr (.inr z))
    simp only [isShape, eP, h1, h2, isMeth_mS, isNum_tuple, Bool.false_or]
    rfl
theorem good_in {q : Qn} {p : Plan} (hd : p.depth ≤ 3) (hi : InT q (tabs p)) (nd : (tabs p).Nodup) (hl : canLed q p = true) (hn : p.joins + 1 = q.ts.length) : goodPlan q (eP p) = true := by
  simp only [goodPlan, partPlan, dPlan_eP, Bool.and_eq_true, decide_eq_true_eq]
  exact ⟨⟨isShape_of hd hi, nd, hl⟩, by rw [tabs_len]; exact hn⟩
theorem plans_good {q : Qn} (hq : QOk q) {p : Plan} (h : p ∈ plansL q 3 (upto q.ts.length)) : goodPlan q (eP p) = true := by
  have n2 := hq.n2
  have n4 := hq.n4
  obtain ⟨h1, h2⟩ := plansL_ok q 3 (upto_pw _) (by rw [upto_len]; omega) (by rw [upto_len]; omega) p h
  have tl := tabs_len p
  rw [h1, upto_len] at tl
  refine good_in (by have := depth_le p; omega) (fun i m => ?_) (by rw [h1]; exact pw_nodup (upto_pw _)) h2 tl.symm
  rw [h1] at m
  exact mem_upto.mp m
def odds : List PyData := [.none, .int 0, .tuple [.int 0, .int 0, .str "loop"], .tuple [.int 0, .int 1, .str "sort"], .list [.int 0, .int 1, .str "loop"], .tuple [.int 0, .int 1]]
theorem odds_bad {q : Qn} (hq : QOk q) : ∀ d ∈ odds, goodPlan q d = false := by
  have n2 := hq.n2
  have e1 : tabs (dPlan (.int 0)) = [0] := rfl
  have e2 : ¬ (tabs (dPlan (.tuple [.int 0, .int 0, .str "loop"]))).Nodup := by
    have : tabs (dPlan (.tuple [.int 0, .int 0, .str "loop"])) = sortI ([0] ++ [0]) := by simp [dPlan, tabs]
    rw [this, (sortI_perm _).nodup_iff]
    simp
  intro d hd
  simp only [odds, List.mem_cons, List.not_mem_nil, or_false] at hd
  rcases hd with rfl | rfl | rfl | rfl | rfl | rfl
  · simp [goodPlan, partPlan, isShape]
  · rw [goodPlan, e1]
    have : ¬ [(0 : Int)].length = q.ts.length := by simp; omega
    simp only [this, decide_false, Bool.and_false]
  · rw [goodPlan, partPlan, decide_eq_false e2]
    simp only [Bool.false_and, Bool.and_false]
  · have : isMeth (.str "sort") = false := by decide +kernel
    simp [goodPlan, partPlan, isShape, this]
  · simp [goodPlan, partPlan, isShape]
  · simp [goodPlan, partPlan, isShape]
theorem rg_upto (n : Nat) : rgD 0 n = (upto n).map .int := by
  unfold rgD upto
  rw [List.map_map]
  have : ((n : Int) - 0).toNat = n := by omega
  rw [this]
  apply List.map_congr_left
  intro i _
  simp
/-! the questions of the document -/
def p01 (m : Mth) : Plan := .join (.leaf 0) (.leaf 1) m
def p012 : Plan := .join (p01 .hash) (.leaf 2) .index
theorem so1 : sortI [0, 1] = [0, 1] := sortI_eq (List.Perm.refl _) (by simp)
theorem so2 : sortI [0, 1, 2] = [0, 1, 2] := sortI_eq (List.Perm.refl _) (by simp)
theorem tabs01 (m : Mth) : tabs (p01 m) = [0, 1] := by simp only [p01, tabs, List.cons_append, List.nil_append, so1]
theorem tabs012 : tabs p012 = [0, 1, 2] := by
  have e : tabs p012 = sortI (tabs (p01 .hash) ++ [2]) := rfl
  rw [e, tabs01]; exact so2
theorem costF01 (q : Qn) (m : Mth) : costF q (p01 m) = formOf ([sizeP q [0]] ++ joinF q [0] [1] m ++ (if m = .index then [] else [sizeP q [1]])) := rfl
theorem c1l : costF qOne (p01 .loop) = [(0, 3), (1, 25)] := by
  rw [costF01]; simp only [joinF, List.cons_append, List.nil_append, so1]; decide +kernel
theorem c1h : costF qOne (p01 .hash) = [(0, 6), (1, 15)] := by
  rw [costF01]; simp only [joinF, List.cons_append, List.nil_append, so1]; decide +kernel
theorem c2l : costF qTwo (p01 .loop) = [(1, 3), (2, 1)] := by
  rw [costF01]; simp only [joinF, List.cons_append, List.nil_append, so1]; decide +kernel
theorem c2i : costF qTwo (p01 .index) = [(1, 5)] := by
  rw [costF01]; simp only [joinF, List.cons_append, List.nil_append, so1]; decide +kernel
theorem c3 : costF qThree p012 = [(0, 20), (1, 12), (2, 2 / 5)] := by
  have e : costF qThree p012 = formOf (costF qThree (p01 .hash) ++ joinF qThree (tabs (p01 .hash)) [2] .index ++ []) := rfl
  rw [e, tabs01, costF01]; simp only [joinF, List.cons_append, List.nil_append, so1, so2]; decide +kernel
theorem good01 {q : Qn} (hq : QGood q) (h2 : q.ts.length = 2) {m : Mth} (hs : canStand q (.leaf 0) (.leaf 1) m = true) : goodPlan q (eP (p01 m)) = true := by
  refine good_in (by simp [p01, Plan.depth]) (fun i hi => ?_) (by rw [tabs01]; simp) (by simp [p01, canLed, hs]) (by rw [h2]; rfl)
  rw [tabs01] at hi
  simp at hi
  omega
theorem good012 : goodPlan qThree (eP p012) = true := by
  refine good_in (by simp [p012, p01, Plan.depth]) (fun i hi => ?_) (by rw [tabs012]; simp) ?_ (by rfl)
  · rw [tabs012] at hi
    simp [qThree] at hi ⊢
    omega
  · have e : tabs (p01 .hash) = [0, 1] := tabs01 _
    have e' : tabs (.join (.leaf 0) (.leaf 1) .hash) = [0, 1] := tabs01 _
    simp only [p012, p01, canLed, canStand, e', tabs, List.cons_append, List.nil_append, so1]
    decide +kernel
theorem cost_step {C : Addr} {q : Qn} {p : Plan} {f : Fm} {Q : W → Prop} {R : Addr → Prop} (hq : QGood q) (hg : goodPlan q (eP p) = true) (hf : costF q p = f) (h : Q (.val (eF f))) : S_cost C [.val (eQ q), .val (eP p)] Q R :=
  ⟨q, eP p, rfl, good_isQn hq, fun _ => by rw [dPlan_eP, hf]; exact h, fun z => by rw [hg] at z; cases z⟩
theorem eF_same {f : Fm} {d : PyData} (h : d = eF f) : EqOk (eF f) d ∧ PyData.eqv (eF f) d = true := by
  subst h
  exact ⟨eqOk_nb (nb_eF f) (nb_eF f) (by have := depth_eF f; omega), eqv_self (nb_eF f)⟩
theorem l1l : PyData.tuple [.tuple [.int 0, .int 3, .int 1], .tuple [.int 1, .int 25, .int 1]] = eF [(0, 3), (1, 25)] := rfl
theorem l1h : PyData.tuple [.tuple [.int 0, .int 6, .int 1], .tuple [.int 1, .int 15, .int 1]] = eF [(0, 6), (1, 15)] := rfl
theorem l2l : PyData.tuple [.tuple [.int 1, .int 3, .int 1], .tuple [.int 2, .int 1, .int 1]] = eF [(1, 3), (2, 1)] := rfl
theorem l2i : PyData.tuple [.tuple [.int 1, .int 5, .int 1]] = eF [(1, 5)] := rfl
theorem l3 : PyData.tuple [.tuple [.int 0, .int 20, .int 1], .tuple [.int 1, .int 12, .int 1], .tuple [.int 2, .int 2, .int 5]] = eF [(0, 20), (1, 12), (2, 2 / 5)] := by
  have h : ((2 / 5 : Rat).num = 2) ∧ ((2 / 5 : Rat).den = 5) := by decide +kernel
  simp [eF, eT, tr, h.1, h.2]
theorem w3 : costR qThree 10 p012 = 180 := by
  rw [← wr_costF qThree (by omega) p012, c3]
  decide +kernel
@[simp] def S_law (K : PySem.W.Frag) : SpD := fun ws Q _ => ∃ ns : List Int, ws = [.scr K ns] ∧ ns.length ≤ 63 ∧ Q (.val (.bool true))
theorem p_law (K : PySem.W.Frag) (Wd_ : Addr → Str → Prop) (CP CN : Addr) (hP : Wd_ CP "plan") (hN : Wd_ CN "number") : Law (S_law K) (m_law K (S_law_source K) S_law_question (S_law_plans 3) (S_law_right CP CN) S_law_of (S_cost CP) (S_cost_at CP CN) S_law_known Wd_) N_law := by
  rintro ws Q R ⟨ns, rfl, hns, h⟩
  have cp30 : CPow 10 30 := ⟨by omega, by omega, by decide⟩
  simp [m_law, N_law, cp30, -S_law_source, -S_law_question, -S_law_plans, -S_law_right, -S_law_of, -S_cost, -S_cost_at, -S_law_known]
  refine ⟨by unfold RgS; omega, ?_⟩
  refine mFor_ix (J := fun i γ => ∃ x1 x2 x3 x4 x5 x6, γ = [some (.scr K ns), x1, x2, x3, x4, x5, x6, none, none, none, none]) _ 0 _ ⟨none, none, none, none, none, none, rfl⟩ ?_ ?_
  · rintro j d hd γ ⟨x1, x2, x3, x4, x5, x6, rfl⟩ N' hN'
    obtain ⟨rfl, hlt⟩ := rgL_get hd
    simp [-S_law_source, -S_law_question, -S_law_plans, -S_law_right, -S_law_of, -S_cost, -S_cost_at]
    refine ⟨ns, (j : Int), rfl, ⟨by omega, by omega⟩, ?_⟩
    simp [-S_law_question, -S_law_plans, -S_law_right, -S_law_of, -S_cost, -S_cost_at]
    refine ⟨4, rfl, ⟨by omega, by omega⟩, fun q hq hl => ?_⟩
    have n2 := hq.ok.n2
    have n4 := hq.ok.n4
    have iq := good_isQn hq
    have eL : atI ([PyData.tuple (q.ts.map eTab), .tuple (q.ls.map eLnk), eI q.ix]) 0 = some (.tuple (q.ts.map eTab)) := by simp
    have hpl : ∀ (Q' : W → Prop), Q' (.val (.list (lP (plansL q 3 (upto q.ts.length))))) → S_law_plans 3 [.val (eQ q), .val (.list (rgD 0 q.ts.length))] Q' R := fun Q' h =>
      ⟨q, upto q.ts.length, by rw [rg_upto]; rfl, ⟨upto_pw _, by rw [upto_len]; omega, by rw [upto_len]; omega, by rw [upto_len]; omega⟩, by have := hq.ok.nl; omega, h⟩
    have hg := fun p (m : p ∈ plansL q 3 (upto q.ts.length)) => plans_good hq.ok m
    have hne := plansL_ne q 3 (ts := upto q.ts.length) (pw_nodup (upto_pw _)) (by rw [upto_len]; omega) (by rw [upto_len]; omega)
    have hlen := plansL_len q 3 (ts := upto q.ts.length) (pw_nodup (upto_pw _)) (by rw [upto_len]; omega) (by rw [upto_len]; omega) (by rw [upto_len]; omega)
    have hb : bnd (upto q.ts.length).length ≤ 500000 := by
      rw [upto_len]
      rcases (by omega : q.ts.length = 2 ∨ q.ts.length = 3 ∨ q.ts.length = 4) with e | e | e <;> rw [e] <;> decide
    generalize plansL q 3 (upto q.ts.length) = L at *
    simp [eQ, -S_law_plans, -S_law_right, -S_law_of, -S_cost, -S_cost_at]
    refine ⟨⟨by omega, by omega, by omega, by omega⟩, hpl _ ⟨rfl, by unfold RgS; omega, ?_⟩⟩
    have fold : PyData.tuple [.tuple (q.ts.map eTab), .tuple (q.ls.map eLnk), eI q.ix] = eQ q := rfl
    rw [fold]
    refine mFor_ix (J := fun i γ => ∃ x5, γ = [some (.scr K ns), some (.val (.int j)), some .src, some (.val (eQ q)), some (.val (.list (lP L))), x5, x6, none, none, none, none]) _ 0 _ ⟨x5, rfl⟩ ?_ ?_
    · rintro i d hd γ ⟨x5, rfl⟩ N2 hN2
      simp [-S_law_right, -S_law_of]
      refine ⟨lP L, rfl, ⟨fun z => hne (List.length_eq_zero_iff.mp (by rw [← lP_len, z]; rfl)), by rw [lP_len]; omega⟩, fun d hd => ?_⟩
      obtain ⟨p, hp, rfl⟩ := List.mem_map.mp hd
      simp [-S_law_right]
      refine ⟨q, p, rfl, ⟨iq, hg p hp⟩, ?_⟩
      simp
      exact hN2 _ ⟨_, rfl⟩
    · rintro γ ⟨x5, rfl⟩
      have eqp : EqOk (.str "plan") (.str "plan") := ⟨by decide +kernel, by decide +kernel, by decide +kernel⟩
      have eqn : EqOk (.str "number") (.str "number") := ⟨by decide +kernel, by decide +kernel, by decide +kernel⟩
      simp [-S_cost, -S_cost_at]
      refine mFor_ix (J := fun i γ => ∃ x6, γ = [some (.scr K ns), some (.val (.int j)), some .src, some (.val (eQ q)), some (.val (.list (lP L))), x5, x6, none, none, none, none]) odds 0 _ ⟨x6, rfl⟩ ?_ ?_
      · rintro i d hd γ ⟨x6, rfl⟩ N2 hN2
        have bad := odds_bad hq.ok d (List.mem_of_getElem? hd)
        simp [-S_cost, -S_cost_at]
        refine ⟨q, d, rfl, iq, fun z => (by rw [bad] at z; cases z), fun _ => ⟨_, hP, ?_⟩⟩
        simp [eqp, PyData.eqv, -S_cost_at]
        refine ⟨q, d, _, rfl, iq, fun z => (by rw [bad] at z; cases z), fun _ => ⟨_, hP, ?_⟩⟩
        simp [eqp, PyData.eqv]
        exact hN2 _ ⟨_, rfl⟩
      · rintro γ ⟨x6, rfl⟩
        obtain ⟨p0, L0, rfl⟩ := List.exists_cons_of_ne_nil hne
        have g0 := hg p0 List.mem_cons_self
        have ea : atI (lP (p0 :: L0)) 0 = some (eP p0) := by simp [lP]
        simp [cp30, -S_cost_at]
        refine mFor_ix (J := fun i γ => ∃ x6, γ = [some (.scr K ns), some (.val (.int j)), some .src, some (.val (eQ q)), some (.val (.list (lP (p0 :: L0)))), x5, x6, none, none, none, none]) _ 0 _ ⟨x6, rfl⟩ ?_ ?_
        · rintro i d hd γ ⟨x6, rfl⟩ N2 hN2
          have bad : isNum d 1 (10 ^ 30) = false := by
            have := List.mem_of_getElem? hd
            simp only [List.mem_cons, List.not_mem_nil, or_false] at this
            rcases this with rfl | rfl | rfl | rfl | rfl | rfl <;> simp
          simp [ea, -S_cost_at]
          refine ⟨q, eP p0, d, rfl, iq, fun _ => ⟨fun z => (by rw [bad] at z; cases z), fun _ => ⟨_, hN, ?_⟩⟩, fun z => (by rw [g0] at z; cases z)⟩
          simp [eqn, PyData.eqv]
          exact hN2 _ ⟨_, rfl⟩
        · rintro γ ⟨x6, rfl⟩
          exact hN' _ ⟨_, _, _, _, _, _, rfl⟩
  · rintro γ ⟨x1, x2, x3, x4, x5, x6, rfl⟩
    simp [-S_cost, -S_cost_at]
    refine cost_step (p := p01 .loop) one_good (good01 one_good rfl rfl) c1l ?_
    simp [eF_same l1l, -S_cost, -S_cost_at]
    refine cost_step (p := p01 .hash) one_good (good01 one_good rfl (by decide +kernel)) c1h ?_
    simp [eF_same l1h, -S_cost, -S_cost_at]
    refine cost_step (p := p01 .loop) two_good (good01 two_good rfl rfl) c2l ?_
    simp [eF_same l2l, -S_cost, -S_cost_at]
    refine cost_step (p := p01 .index) two_good (good01 two_good rfl (by decide +kernel)) c2i ?_
    simp [eF_same l2i, -S_cost, -S_cost_at]
    refine cost_step (p := p012) three_good good012 c3 ?_
    simp [eF_same l3, -S_cost, -S_cost_at]
    refine ⟨qThree, eP p012, .int 10, rfl, good_isQn three_good, fun _ => ⟨fun _ => ?_, fun z => ?_⟩, fun z => (by rw [good012] at z; cases z)⟩
    · rw [dPlan_eP]
      have e10 : toI (.int 10) = 10 := rfl
      rw [e10, w3]
      have el : eR 180 = .tuple [.int 180, .int 1] := rfl
      have e2 := eqv_self (nb_eR 180)
      have e3 := eqOk_nb (nb_eR 180) (nb_eR 180) (by rw [depth_eR]; omega)
      rw [el] at e2 e3 ⊢
      exact ⟨e3, by rw [e2]; exact h⟩
    · simp at z
end GJ

namespace GJ.k03
open PySem PySem.Spec PyProof.Rows L2
def top (i : Nat) : Stmt := PySem.Challenge.pw_growjoins_k03_costs_of_plans.main.body.getD i (.Pass ⟨0, 0, 0, 0⟩)
abbrev s_is_number : Stmt := top 7
abbrev s_is_tuple : Stmt := top 8
abbrev s_divisor : Stmt := top 9
abbrev s_reduced : Stmt := top 10
abbrev s_need_n : Stmt := top 11
abbrev s_form_of : Stmt := top 12
abbrev s_added : Stmt := top 13
abbrev s_scaled : Stmt := top 14
abbrev s_product : Stmt := top 15
abbrev s_power_of : Stmt := top 16
abbrev s_worth_of : Stmt := top 17
abbrev s_is_table : Stmt := top 20
abbrev s_is_link : Stmt := top 21
abbrev s_are_numbers : Stmt := top 22
abbrev s_is_good_question : Stmt := top 23
abbrev s_are_linked : Stmt := top 24
abbrev s_can_stand : Stmt := top 25
abbrev s_tables_in : Stmt := top 26
abbrev s_is_shape : Stmt := top 27
abbrev s_can_be_led : Stmt := top 28
abbrev s_is_part_plan : Stmt := top 29
abbrev s_is_good_plan : Stmt := top 30
abbrev s_need_question : Stmt := top 31
abbrev s_need_plan : Stmt := top 32
abbrev s_need_both : Stmt := top 33
abbrev s_size_of : Stmt := top 34
abbrev s_join_form : Stmt := top 36
abbrev s_cost_of : Stmt := top 37
abbrev s_cost : Stmt := top 38
abbrev s_cost_at : Stmt := top 39
abbrev s_law_source : Stmt := top 41
abbrev s_law_draw : Stmt := top 42
abbrev s_law_of : Stmt := top 43
abbrev s_law_common : Stmt := top 44
abbrev s_law_fraction : Stmt := top 45
abbrev s_law_power : Stmt := top 46
abbrev s_law_worth : Stmt := top 47
abbrev s_law_sum : Stmt := top 48
abbrev s_law_question : Stmt := top 49
abbrev s_law_size : Stmt := top 50
abbrev s_law_tables : Stmt := top 51
abbrev s_law_can : Stmt := top 52
abbrev s_law_cost : Stmt := top 53
abbrev s_law_plans : Stmt := top 54
abbrev s_law_known : Stmt := top 55
abbrev s_law_word : Stmt := top 56
abbrev s_law_right : Stmt := top 57
abbrev s_law : Stmt := top 58
def d_is_number : He.DefD := ⟨("is_number", none), "is_number", "is_number", defArgs s_is_number, defBody s_is_number, defScope s_is_number, [], []⟩
def d_is_tuple : He.DefD := ⟨("is_tuple", none), "is_tuple", "is_tuple", defArgs s_is_tuple, defBody s_is_tuple, defScope s_is_tuple, [], []⟩
def d_divisor : He.DefD := ⟨("divisor", none), "divisor", "divisor", defArgs s_divisor, defBody s_divisor, defScope s_divisor, [], []⟩
def d_reduced : He.DefD := ⟨("reduced", none), "reduced", "reduced", defArgs s_reduced, defBody s_reduced, defScope s_reduced, [], []⟩
def d_need_n : He.DefD := ⟨("need_n", none), "need_n", "need_n", defArgs s_need_n, defBody s_need_n, defScope s_need_n, [], []⟩
def d_form_of : He.DefD := ⟨("form_of", none), "form_of", "form_of", defArgs s_form_of, defBody s_form_of, defScope s_form_of, [], []⟩
def d_added : He.DefD := ⟨("added", none), "added", "added", defArgs s_added, defBody s_added, defScope s_added, [], []⟩
def d_scaled : He.DefD := ⟨("scaled", none), "scaled", "scaled", defArgs s_scaled, defBody s_scaled, defScope s_scaled, [], []⟩
def d_product : He.DefD := ⟨("product", none), "product", "product", defArgs s_product, defBody s_product, defScope s_product, [], []⟩
def d_power_of : He.DefD := ⟨("power_of", none), "power_of", "power_of", defArgs s_power_of, defBody s_power_of, defScope s_power_of, [], []⟩
def d_worth_of : He.DefD := ⟨("worth_of", none), "worth_of", "worth_of", defArgs s_worth_of, defBody s_worth_of, defScope s_worth_of, [], []⟩
def d_is_table : He.DefD := ⟨("is_table", none), "is_table", "is_table", defArgs s_is_table, defBody s_is_table, defScope s_is_table, [], []⟩
def d_is_link : He.DefD := ⟨("is_link", none), "is_link", "is_link", defArgs s_is_link, defBody s_is_link, defScope s_is_link, [], []⟩
def d_are_numbers : He.DefD := ⟨("are_numbers", none), "are_numbers", "are_numbers", defArgs s_are_numbers, defBody s_are_numbers, defScope s_are_numbers, [], []⟩
def d_is_good_question : He.DefD := ⟨("is_good_question", none), "is_good_question", "is_good_question", defArgs s_is_good_question, defBody s_is_good_question, defScope s_is_good_question, [], []⟩
def d_are_linked : He.DefD := ⟨("are_linked", none), "are_linked", "are_linked", defArgs s_are_linked, defBody s_are_linked, defScope s_are_linked, [], []⟩
def d_can_stand : He.DefD := ⟨("can_stand", none), "can_stand", "can_stand", defArgs s_can_stand, defBody s_can_stand, defScope s_can_stand, [], []⟩
def d_tables_in : He.DefD := ⟨("tables_in", none), "tables_in", "tables_in", defArgs s_tables_in, defBody s_tables_in, defScope s_tables_in, [], []⟩
def d_is_shape : He.DefD := ⟨("is_shape", none), "is_shape", "is_shape", defArgs s_is_shape, defBody s_is_shape, defScope s_is_shape, [], []⟩
def d_can_be_led : He.DefD := ⟨("can_be_led", none), "can_be_led", "can_be_led", defArgs s_can_be_led, defBody s_can_be_led, defScope s_can_be_led, [], []⟩
def d_is_part_plan : He.DefD := ⟨("is_part_plan", none), "is_part_plan", "is_part_plan", defArgs s_is_part_plan, defBody s_is_part_plan, defScope s_is_part_plan, [], []⟩
def d_is_good_plan : He.DefD := ⟨("is_good_plan", none), "is_good_plan", "is_good_plan", defArgs s_is_good_plan, defBody s_is_good_plan, defScope s_is_good_plan, [], []⟩
def d_need_question : He.DefD := ⟨("need_question", none), "need_question", "need_question", defArgs s_need_question, defBody s_need_question, defScope s_need_question, [], []⟩
def d_need_plan : He.DefD := ⟨("need_plan", none), "need_plan", "need_plan", defArgs s_need_plan, defBody s_need_plan, defScope s_need_plan, [], []⟩
def d_need_both : He.DefD := ⟨("need_both", none), "need_both", "need_both", defArgs s_need_both, defBody s_need_both, defScope s_need_both, [], []⟩
def d_size_of : He.DefD := ⟨("size_of", none), "size_of", "size_of", defArgs s_size_of, defBody s_size_of, defScope s_size_of, [], []⟩
def d_join_form : He.DefD := ⟨("join_form", none), "join_form", "join_form", defArgs s_join_form, defBody s_join_form, defScope s_join_form, [], []⟩
def d_cost_of : He.DefD := ⟨("cost_of", none), "cost_of", "cost_of", defArgs s_cost_of, defBody s_cost_of, defScope s_cost_of, [], []⟩
def d_cost : He.DefD := ⟨("cost", none), "cost", "cost", defArgs s_cost, defBody s_cost, defScope s_cost, [], []⟩
def d_cost_at : He.DefD := ⟨("cost_at", none), "cost_at", "cost_at", defArgs s_cost_at, defBody s_cost_at, defScope s_cost_at, [], []⟩
def d_law_source : He.DefD := ⟨("_law_source", none), "_law_source", "_law_source", defArgs s_law_source, defBody s_law_source, defScope s_law_source, [], []⟩
def d_law_draw : He.DefD := ⟨("_law_draw", none), "_law_draw", "_law_draw", defArgs s_law_draw, defBody s_law_draw, defScope s_law_draw, [], []⟩
def d_law_of : He.DefD := ⟨("_law_of", none), "_law_of", "_law_of", defArgs s_law_of, defBody s_law_of, defScope s_law_of, [], []⟩
def d_law_common : He.DefD := ⟨("_law_common", none), "_law_common", "_law_common", defArgs s_law_common, defBody s_law_common, defScope s_law_common, [], []⟩
def d_law_fraction : He.DefD := ⟨("_law_fraction", none), "_law_fraction", "_law_fraction", defArgs s_law_fraction, defBody s_law_fraction, defScope s_law_fraction, [], []⟩
def d_law_power : He.DefD := ⟨("_law_power", none), "_law_power", "_law_power", defArgs s_law_power, defBody s_law_power, defScope s_law_power, [], []⟩
def d_law_worth : He.DefD := ⟨("_law_worth", none), "_law_worth", "_law_worth", defArgs s_law_worth, defBody s_law_worth, defScope s_law_worth, [], []⟩
def d_law_sum : He.DefD := ⟨("_law_sum", none), "_law_sum", "_law_sum", defArgs s_law_sum, defBody s_law_sum, defScope s_law_sum, [], []⟩
def d_law_question : He.DefD := ⟨("_law_question", none), "_law_question", "_law_question", defArgs s_law_question, defBody s_law_question, defScope s_law_question, [], []⟩
def d_law_size : He.DefD := ⟨("_law_size", none), "_law_size", "_law_size", defArgs s_law_size, defBody s_law_size, defScope s_law_size, [], []⟩
def d_law_tables : He.DefD := ⟨("_law_tables", none), "_law_tables", "_law_tables", defArgs s_law_tables, defBody s_law_tables, defScope s_law_tables, [], []⟩
def d_law_can : He.DefD := ⟨("_law_can", none), "_law_can", "_law_can", defArgs s_law_can, defBody s_law_can, defScope s_law_can, [], []⟩
def d_law_cost : He.DefD := ⟨("_law_cost", none), "_law_cost", "_law_cost", defArgs s_law_cost, defBody s_law_cost, defScope s_law_cost, [], []⟩
def d_law_plans : He.DefD := ⟨("_law_plans", none), "_law_plans", "_law_plans", defArgs s_law_plans, defBody s_law_plans, defScope s_law_plans, [], []⟩
def d_law_known : He.DefD := ⟨("_law_known", none), "_law_known", "_law_known", defArgs s_law_known, defBody s_law_known, defScope s_law_known, [], []⟩
def d_law_word : He.DefD := ⟨("_law_word", none), "_law_word", "_law_word", defArgs s_law_word, defBody s_law_word, defScope s_law_word, [], []⟩
def d_law_right : He.DefD := ⟨("_law_right", none), "_law_right", "_law_right", defArgs s_law_right, defBody s_law_right, defScope s_law_right, [], []⟩
def d_law : He.DefD := ⟨("law", none), "law", "law", defArgs s_law, defBody s_law, defScope s_law, [], []⟩
def fn : List He.DefD := [d_is_number, d_is_tuple, d_divisor, d_reduced, d_need_n, d_form_of, d_added, d_scaled, d_product, d_power_of, d_worth_of, d_is_table, d_is_link, d_are_numbers, d_is_good_question, d_are_linked, d_can_stand, d_tables_in, d_is_shape, d_can_be_led, d_is_part_plan, d_is_good_plan, d_need_question, d_need_plan, d_need_both, d_size_of, d_join_form, d_cost_of, d_cost, d_cost_at, d_law_source, d_law_draw, d_law_of, d_law_common, d_law_fraction, d_law_power, d_law_worth, d_law_sum, d_law_question, d_law_size, d_law_tables, d_law_can, d_law_cost, d_law_plans, d_law_known, d_law_word, d_law_right, d_law]
def fa : List He.Fa := [.glo "is_number", .glo "is_tuple", .glo "divisor", .glo "reduced", .glo "need_n", .glo "form_of", .glo "added", .glo "scaled", .glo "product", .glo "power_of", .glo "worth_of", .glo "is_table", .glo "is_link", .glo "are_numbers", .glo "is_good_question", .glo "are_linked", .glo "can_stand", .glo "tables_in", .glo "is_shape", .glo "can_be_led", .glo "is_part_plan", .glo "is_good_plan", .glo "need_question", .glo "need_plan", .glo "need_both", .glo "size_of", .glo "join_form", .glo "cost_of", .glo "cost", .glo "cost_at", .glo "_law_source", .glo "_law_draw", .glo "_law_of", .glo "_law_common", .glo "_law_fraction", .glo "_law_power", .glo "_law_worth", .glo "_law_sum", .glo "_law_question", .glo "_law_size", .glo "_law_tables", .glo "_law_can", .glo "_law_cost", .glo "_law_plans", .glo "_law_known", .glo "_law_word", .glo "_law_right", .glo "law", .glo "JoinError", .glo "InvalidNumber", .glo "InvalidQuestion", .glo "InvalidPlan", .free "ValueError", .free "abs", .free "all", .free "any", .free "bool", .free "int", .free "isinstance", .free "len", .free "list", .free "max", .free "min", .free "range", .free "set", .free "sorted", .free "str", .free "tuple", .free "zip", .exc "JoinError", .exc "InvalidNumber", .exc "InvalidQuestion", .exc "InvalidPlan", .int "FAR" (1000000000000000000000000000000), .glo "METHODS", .exm "JoinError" "InvalidPlan" false, .exm "InvalidNumber" "InvalidPlan" false, .exm "InvalidQuestion" "InvalidPlan" false, .exm "InvalidPlan" "InvalidPlan" true, .exm "JoinError" "InvalidNumber" false, .exm "InvalidNumber" "InvalidNumber" true, .exm "InvalidQuestion" "InvalidNumber" false, .exm "InvalidPlan" "InvalidNumber" false]
section
variable {K : PySem.W.Frag} {mg : Str → Option Value}
theorem fun_is_number (f : Fac fa fn K mg) : Fun K "is_number" "is_number" s_is_number (He.ga K "is_number") (fdOf K "is_number") := f.fun 0 rfl
theorem bd_is_number (f : Fac fa fn K mg) : Binds K (fdOf K "is_number") ["value", "least", "most"] [] := (fun_is_number f).binds fun _ _ _ _ _ _ us hl => match us, hl with | [_, _, _], _ => rfl
theorem fun_is_tuple (f : Fac fa fn K mg) : Fun K "is_tuple" "is_tuple" s_is_tuple (He.ga K "is_tuple") (fdOf K "is_tuple") := f.fun 1 rfl
theorem bd_is_tuple (f : Fac fa fn K mg) : Binds K (fdOf K "is_tuple") ["value", "least", "most"] [] := (fun_is_tuple f).binds fun _ _ _ _ _ _ us hl => match us, hl with | [_, _, _], _ => rfl
theorem fun_divisor (f : Fac fa fn K mg) : Fun K "divisor" "divisor" s_divisor (He.ga K "divisor") (fdOf K "divisor") := f.fun 2 rfl
theorem bd_divisor (f : Fac fa fn K mg) : Binds K (fdOf K "divisor") ["one", "other"] [] := (fun_divisor f).binds fun _ _ _ _ _ _ us hl => match us, hl with | [_, _], _ => rfl
theorem fun_reduced (f : Fac fa fn K mg) : Fun K "reduced" "reduced" s_reduced (He.ga K "reduced") (fdOf K "reduced") := f.fun 3 rfl
theorem bd_reduced (f : Fac fa fn K mg) : Binds K (fdOf K "reduced") ["top", "below"] [] := (fun_reduced f).binds fun _ _ _ _ _ _ us hl => match us, hl with | [_, _], _ => rfl
theorem fun_need_n (f : Fac fa fn K mg) : Fun K "need_n" "need_n" s_need_n (He.ga K "need_n") (fdOf K "need_n") := f.fun 4 rfl
theorem bd_need_n (f : Fac fa fn K mg) : Binds K (fdOf K "need_n") ["value", "most"] [] := (fun_need_n f).binds fun _ _ _ _ _ _ us hl => match us, hl with | [_, _], _ => rfl
theorem fun_form_of (f : Fac fa fn K mg) : Fun K "form_of" "form_of" s_form_of (He.ga K "form_of") (fdOf K "form_of") := f.fun 5 rfl
theorem bd_form_of (f : Fac fa fn K mg) : Binds K (fdOf K "form_of") ["parts"] [] := (fun_form_of f).binds fun _ _ _ _ _ _ us hl => match us, hl with | [_], _ => rfl
theorem fun_added (f : Fac fa fn K mg) : Fun K "added" "added" s_added (He.ga K "added") (fdOf K "added") := f.fun 6 rfl
theorem bd_added (f : Fac fa fn K mg) : Binds K (fdOf K "added") ["forms"] [] := (fun_added f).binds fun _ _ _ _ _ _ us hl => match us, hl with | [_], _ => rfl
theorem fun_scaled (f : Fac fa fn K mg) : Fun K "scaled" "scaled" s_scaled (He.ga K "scaled") (fdOf K "scaled") := f.fun 7 rfl
theorem bd_scaled (f : Fac fa fn K mg) : Binds K (fdOf K "scaled") ["form", "many"] [] := (fun_scaled f).binds fun _ _ _ _ _ _ us hl => match us, hl with | [_, _], _ => rfl
theorem fun_product (f : Fac fa fn K mg) : Fun K "product" "product" s_product (He.ga K "product") (fdOf K "product") := f.fun 8 rfl
theorem bd_product (f : Fac fa fn K mg) : Binds K (fdOf K "product") ["one", "other"] [] := (fun_product f).binds fun _ _ _ _ _ _ us hl => match us, hl with | [_, _], _ => rfl
theorem fun_power_of (f : Fac fa fn K mg) : Fun K "power_of" "power_of" s_power_of (He.ga K "power_of") (fdOf K "power_of") := f.fun 9 rfl
theorem bd_power_of (f : Fac fa fn K mg) : Binds K (fdOf K "power_of") ["n", "many"] [] := (fun_power_of f).binds fun _ _ _ _ _ _ us hl => match us, hl with | [_, _], _ => rfl
theorem fun_worth_of (f : Fac fa fn K mg) : Fun K "worth_of" "worth_of" s_worth_of (He.ga K "worth_of") (fdOf K "worth_of") := f.fun 10 rfl
theorem bd_worth_of (f : Fac fa fn K mg) : Binds K (fdOf K "worth_of") ["form", "n"] [] := (fun_worth_of f).binds fun _ _ _ _ _ _ us hl => match us, hl with | [_, _], _ => rfl
theorem fun_is_table (f : Fac fa fn K mg) : Fun K "is_table" "is_table" s_is_table (He.ga K "is_table") (fdOf K "is_table") := f.fun 11 rfl
theorem bd_is_table (f : Fac fa fn K mg) : Binds K (fdOf K "is_table") ["value"] [] := (fun_is_table f).binds fun _ _ _ _ _ _ us hl => match us, hl with | [_], _ => rfl
theorem fun_is_link (f : Fac fa fn K mg) : Fun K "is_link" "is_link" s_is_link (He.ga K "is_link") (fdOf K "is_link") := f.fun 12 rfl
theorem bd_is_link (f : Fac fa fn K mg) : Binds K (fdOf K "is_link") ["tables", "value"] [] := (fun_is_link f).binds fun _ _ _ _ _ _ us hl => match us, hl with | [_, _], _ => rfl
theorem fun_are_numbers (f : Fac fa fn K mg) : Fun K "are_numbers" "are_numbers" s_are_numbers (He.ga K "are_numbers") (fdOf K "are_numbers") := f.fun 13 rfl
theorem bd_are_numbers (f : Fac fa fn K mg) : Binds K (fdOf K "are_numbers") ["tables", "value", "least"] [] := (fun_are_numbers f).binds fun _ _ _ _ _ _ us hl => match us, hl with | [_, _, _], _ => rfl
theorem fun_is_good_question (f : Fac fa fn K mg) : Fun K "is_good_question" "is_good_question" s_is_good_question (He.ga K "is_good_question") (fdOf K "is_good_question") := f.fun 14 rfl
theorem bd_is_good_question (f : Fac fa fn K mg) : Binds K (fdOf K "is_good_question") ["value"] [] := (fun_is_good_question f).binds fun _ _ _ _ _ _ us hl => match us, hl with | [_], _ => rfl
theorem fun_are_linked (f : Fac fa fn K mg) : Fun K "are_linked" "are_linked" s_are_linked (He.ga K "are_linked") (fdOf K "are_linked") := f.fun 15 rfl
theorem bd_are_linked (f : Fac fa fn K mg) : Binds K (fdOf K "are_linked") ["question", "left", "right"] [] := (fun_are_linked f).binds fun _ _ _ _ _ _ us hl => match us, hl with | [_, _, _], _ => rfl
theorem fun_can_stand (f : Fac fa fn K mg) : Fun K "can_stand" "can_stand" s_can_stand (He.ga K "can_stand") (fdOf K "can_stand") := f.fun 16 rfl
theorem bd_can_stand (f : Fac fa fn K mg) : Binds K (fdOf K "can_stand") ["question", "left", "right", "method"] [] := (fun_can_stand f).binds fun _ _ _ _ _ _ us hl => match us, hl with | [_, _, _, _], _ => rfl
theorem fun_tables_in (f : Fac fa fn K mg) : Fun K "tables_in" "tables_in" s_tables_in (He.ga K "tables_in") (fdOf K "tables_in") := f.fun 17 rfl
theorem bd_tables_in (f : Fac fa fn K mg) : Binds K (fdOf K "tables_in") ["plan"] [] := (fun_tables_in f).binds fun _ _ _ _ _ _ us hl => match us, hl with | [_], _ => rfl
theorem fun_is_shape (f : Fac fa fn K mg) : Fun K "is_shape" "is_shape" s_is_shape (He.ga K "is_shape") (fdOf K "is_shape") := f.fun 18 rfl
theorem bd_is_shape (f : Fac fa fn K mg) : Binds K (fdOf K "is_shape") ["question", "value", "deep"] [] := (fun_is_shape f).binds fun _ _ _ _ _ _ us hl => match us, hl with | [_, _, _], _ => rfl
theorem fun_can_be_led (f : Fac fa fn K mg) : Fun K "can_be_led" "can_be_led" s_can_be_led (He.ga K "can_be_led") (fdOf K "can_be_led") := f.fun 19 rfl
theorem bd_can_be_led (f : Fac fa fn K mg) : Binds K (fdOf K "can_be_led") ["question", "plan"] [] := (fun_can_be_led f).binds fun _ _ _ _ _ _ us hl => match us, hl with | [_, _], _ => rfl
theorem fun_is_part_plan (f : Fac fa fn K mg) : Fun K "is_part_plan" "is_part_plan" s_is_part_plan (He.ga K "is_part_plan") (fdOf K "is_part_plan") := f.fun 20 rfl
theorem bd_is_part_plan (f : Fac fa fn K mg) : Binds K (fdOf K "is_part_plan") ["question", "value"] [] := (fun_is_part_plan f).binds fun _ _ _ _ _ _ us hl => match us, hl with | [_, _], _ => rfl
theorem fun_is_good_plan (f : Fac fa fn K mg) : Fun K "is_good_plan" "is_good_plan" s_is_good_plan (He.ga K "is_good_plan") (fdOf K "is_good_plan") := f.fun 21 rfl
theorem bd_is_good_plan (f : Fac fa fn K mg) : Binds K (fdOf K "is_good_plan") ["question", "value"] [] := (fun_is_good_plan f).binds fun _ _ _ _ _ _ us hl => match us, hl with | [_, _], _ => rfl
theorem fun_need_question (f : Fac fa fn K mg) : Fun K "need_question" "need_question" s_need_question (He.ga K "need_question") (fdOf K "need_question") := f.fun 22 rfl
theorem bd_need_question (f : Fac fa fn K mg) : Binds K (fdOf K "need_question") ["value"] [] := (fun_need_question f).binds fun _ _ _ _ _ _ us hl => match us, hl with | [_], _ => rfl
theorem fun_need_plan (f : Fac fa fn K mg) : Fun K "need_plan" "need_plan" s_need_plan (He.ga K "need_plan") (fdOf K "need_plan") := f.fun 23 rfl
theorem bd_need_plan (f : Fac fa fn K mg) : Binds K (fdOf K "need_plan") ["question", "value"] [] := (fun_need_plan f).binds fun _ _ _ _ _ _ us hl => match us, hl with | [_, _], _ => rfl
theorem fun_need_both (f : Fac fa fn K mg) : Fun K "need_both" "need_both" s_need_both (He.ga K "need_both") (fdOf K "need_both") := f.fun 24 rfl
theorem bd_need_both (f : Fac fa fn K mg) : Binds K (fdOf K "need_both") ["question", "plan"] [] := (fun_need_both f).binds fun _ _ _ _ _ _ us hl => match us, hl with | [_, _], _ => rfl
theorem fun_size_of (f : Fac fa fn K mg) : Fun K "size_of" "size_of" s_size_of (He.ga K "size_of") (fdOf K "size_of") := f.fun 25 rfl
theorem bd_size_of (f : Fac fa fn K mg) : Binds K (fdOf K "size_of") ["question", "tables"] [] := (fun_size_of f).binds fun _ _ _ _ _ _ us hl => match us, hl with | [_, _], _ => rfl
theorem fun_join_form (f : Fac fa fn K mg) : Fun K "join_form" "join_form" s_join_form (He.ga K "join_form") (fdOf K "join_form") := f.fun 26 rfl
theorem bd_join_form (f : Fac fa fn K mg) : Binds K (fdOf K "join_form") ["question", "left", "right", "method"] [] := (fun_join_form f).binds fun _ _ _ _ _ _ us hl => match us, hl with | [_, _, _, _], _ => rfl
theorem fun_cost_of (f : Fac fa fn K mg) : Fun K "cost_of" "cost_of" s_cost_of (He.ga K "cost_of") (fdOf K "cost_of") := f.fun 27 rfl
theorem bd_cost_of (f : Fac fa fn K mg) : Binds K (fdOf K "cost_of") ["question", "plan"] [] := (fun_cost_of f).binds fun _ _ _ _ _ _ us hl => match us, hl with | [_, _], _ => rfl
theorem fun_cost (f : Fac fa fn K mg) : Fun K "cost" "cost" s_cost (He.ga K "cost") (fdOf K "cost") := f.fun 28 rfl
theorem bd_cost (f : Fac fa fn K mg) : Binds K (fdOf K "cost") ["question", "plan"] [] := (fun_cost f).binds fun _ _ _ _ _ _ us hl => match us, hl with | [_, _], _ => rfl
theorem fun_cost_at (f : Fac fa fn K mg) : Fun K "cost_at" "cost_at" s_cost_at (He.ga K "cost_at") (fdOf K "cost_at") := f.fun 29 rfl
theorem bd_cost_at (f : Fac fa fn K mg) : Binds K (fdOf K "cost_at") ["question", "plan", "n"] [] := (fun_cost_at f).binds fun _ _ _ _ _ _ us hl => match us, hl with | [_, _, _], _ => rfl
theorem fun_law_source (f : Fac fa fn K mg) : Fun K "_law_source" "_law_source" s_law_source (He.ga K "_law_source") (fdOf K "_law_source") := f.fun 30 rfl
theorem bd_law_source (f : Fac fa fn K mg) : Binds K (fdOf K "_law_source") ["_law_script", "_law_k"] [] := (fun_law_source f).binds fun _ _ _ _ _ _ us hl => match us, hl with | [_, _], _ => rfl
theorem fun_law_draw (f : Fac fa fn K mg) : Fun K "_law_draw" "_law_draw" s_law_draw (He.ga K "_law_draw") (fdOf K "_law_draw") := f.fun 31 rfl
theorem bd_law_draw (f : Fac fa fn K mg) : Binds K (fdOf K "_law_draw") ["_law_source_here", "_law_many"] [] := (fun_law_draw f).binds fun _ _ _ _ _ _ us hl => match us, hl with | [_, _], _ => rfl
theorem fun_law_of (f : Fac fa fn K mg) : Fun K "_law_of" "_law_of" s_law_of (He.ga K "_law_of") (fdOf K "_law_of") := f.fun 32 rfl
theorem bd_law_of (f : Fac fa fn K mg) : Binds K (fdOf K "_law_of") ["_law_source_here", "_law_items"] [] := (fun_law_of f).binds fun _ _ _ _ _ _ us hl => match us, hl with | [_, _], _ => rfl
theorem fun_law_common (f : Fac fa fn K mg) : Fun K "_law_common" "_law_common" s_law_common (He.ga K "_law_common") (fdOf K "_law_common") := f.fun 33 rfl
theorem bd_law_common (f : Fac fa fn K mg) : Binds K (fdOf K "_law_common") ["_law_one", "_law_other"] [] := (fun_law_common f).binds fun _ _ _ _ _ _ us hl => match us, hl with | [_, _], _ => rfl
theorem fun_law_fraction (f : Fac fa fn K mg) : Fun K "_law_fraction" "_law_fraction" s_law_fraction (He.ga K "_law_fraction") (fdOf K "_law_fraction") := f.fun 34 rfl
theorem bd_law_fraction (f : Fac fa fn K mg) : Binds K (fdOf K "_law_fraction") ["_law_top", "_law_below"] [] := (fun_law_fraction f).binds fun _ _ _ _ _ _ us hl => match us, hl with | [_, _], _ => rfl
theorem fun_law_power (f : Fac fa fn K mg) : Fun K "_law_power" "_law_power" s_law_power (He.ga K "_law_power") (fdOf K "_law_power") := f.fun 35 rfl
theorem bd_law_power (f : Fac fa fn K mg) : Binds K (fdOf K "_law_power") ["_law_n", "_law_many"] [] := (fun_law_power f).binds fun _ _ _ _ _ _ us hl => match us, hl with | [_, _], _ => rfl
theorem fun_law_worth (f : Fac fa fn K mg) : Fun K "_law_worth" "_law_worth" s_law_worth (He.ga K "_law_worth") (fdOf K "_law_worth") := f.fun 36 rfl
theorem bd_law_worth (f : Fac fa fn K mg) : Binds K (fdOf K "_law_worth") ["_law_form", "_law_n"] [] := (fun_law_worth f).binds fun _ _ _ _ _ _ us hl => match us, hl with | [_, _], _ => rfl
theorem fun_law_sum (f : Fac fa fn K mg) : Fun K "_law_sum" "_law_sum" s_law_sum (He.ga K "_law_sum") (fdOf K "_law_sum") := f.fun 37 rfl
theorem bd_law_sum (f : Fac fa fn K mg) : Binds K (fdOf K "_law_sum") ["_law_one", "_law_other"] [] := (fun_law_sum f).binds fun _ _ _ _ _ _ us hl => match us, hl with | [_, _], _ => rfl
theorem fun_law_question (f : Fac fa fn K mg) : Fun K "_law_question" "_law_question" s_law_question (He.ga K "_law_question") (fdOf K "_law_question") := f.fun 38 rfl
theorem bd_law_question (f : Fac fa fn K mg) : Binds K (fdOf K "_law_question") ["_law_source_here", "_law_most"] [] := (fun_law_question f).binds fun _ _ _ _ _ _ us hl => match us, hl with | [_, _], _ => rfl
theorem fun_law_size (f : Fac fa fn K mg) : Fun K "_law_size" "_law_size" s_law_size (He.ga K "_law_size") (fdOf K "_law_size") := f.fun 39 rfl
theorem bd_law_size (f : Fac fa fn K mg) : Binds K (fdOf K "_law_size") ["_law_question_here", "_law_tables_here", "_law_n"] [] := (fun_law_size f).binds fun _ _ _ _ _ _ us hl => match us, hl with | [_, _, _], _ => rfl
theorem fun_law_tables (f : Fac fa fn K mg) : Fun K "_law_tables" "_law_tables" s_law_tables (He.ga K "_law_tables") (fdOf K "_law_tables") := f.fun 40 rfl
theorem bd_law_tables (f : Fac fa fn K mg) : Binds K (fdOf K "_law_tables") ["_law_plan"] [] := (fun_law_tables f).binds fun _ _ _ _ _ _ us hl => match us, hl with | [_], _ => rfl
theorem fun_law_can (f : Fac fa fn K mg) : Fun K "_law_can" "_law_can" s_law_can (He.ga K "_law_can") (fdOf K "_law_can") := f.fun 41 rfl
theorem bd_law_can (f : Fac fa fn K mg) : Binds K (fdOf K "_law_can") ["_law_question_here", "_law_left", "_law_right_here", "_law_method"] [] := (fun_law_can f).binds fun _ _ _ _ _ _ us hl => match us, hl with | [_, _, _, _], _ => rfl
theorem fun_law_cost (f : Fac fa fn K mg) : Fun K "_law_cost" "_law_cost" s_law_cost (He.ga K "_law_cost") (fdOf K "_law_cost") := f.fun 42 rfl
theorem bd_law_cost (f : Fac fa fn K mg) : Binds K (fdOf K "_law_cost") ["_law_question_here", "_law_plan", "_law_n"] [] := (fun_law_cost f).binds fun _ _ _ _ _ _ us hl => match us, hl with | [_, _, _], _ => rfl
theorem fun_law_plans (f : Fac fa fn K mg) : Fun K "_law_plans" "_law_plans" s_law_plans (He.ga K "_law_plans") (fdOf K "_law_plans") := f.fun 43 rfl
theorem bd_law_plans (f : Fac fa fn K mg) : Binds K (fdOf K "_law_plans") ["_law_question_here", "_law_tables_here"] [] := (fun_law_plans f).binds fun _ _ _ _ _ _ us hl => match us, hl with | [_, _], _ => rfl
theorem fun_law_known (f : Fac fa fn K mg) : Fun K "_law_known" "_law_known" s_law_known (He.ga K "_law_known") (fdOf K "_law_known") := f.fun 44 rfl
theorem bd_law_known (f : Fac fa fn K mg) : Binds K (fdOf K "_law_known") [] [] := (fun_law_known f).binds fun _ _ _ _ _ _ us hl => match us, hl with | [], _ => rfl
theorem fun_law_word (f : Fac fa fn K mg) : Fun K "_law_word" "_law_word" s_law_word (He.ga K "_law_word") (fdOf K "_law_word") := f.fun 45 rfl
theorem bd_law_word (f : Fac fa fn K mg) : Binds K (fdOf K "_law_word") ["_law_call"] [] := (fun_law_word f).binds fun _ _ _ _ _ _ us hl => match us, hl with | [_], _ => rfl
theorem fun_law_right (f : Fac fa fn K mg) : Fun K "_law_right" "_law_right" s_law_right (He.ga K "_law_right") (fdOf K "_law_right") := f.fun 46 rfl
theorem bd_law_right (f : Fac fa fn K mg) : Binds K (fdOf K "_law_right") ["_law_source_here", "_law_question_here", "_law_plan"] [] := (fun_law_right f).binds fun _ _ _ _ _ _ us hl => match us, hl with | [_, _, _], _ => rfl
theorem fun_law (f : Fac fa fn K mg) : Fun K "law" "law" s_law (He.ga K "law") (fdOf K "law") := f.fun 47 rfl
end
end GJ.k03

namespace GJ.k03
open PySem PySem.Spec PyProof.Rows L2
section
variable {P : Program} {w : World} {K : PySem.W.Frag} {mg : Str → Option Value} {base : Heap} {T : TabL}
theorem b_is_number (f : Fac fa fn K mg) {k : Nat} {cdv : Value} {A : Around} {outer : List Env} {s : Shared} {H : Hp} {E : XK} (c : CtxE (DX P w K mg base N_is_number "is_number" (defScope s_is_number) (He.ga K "is_number") cdv A outer s H E) E k) :
    SsJ T (DX P w K mg base N_is_number "is_number" (defScope s_is_number) (He.ga K "is_number") cdv A outer s H E) E (defBody s_is_number) (m_is_number) := by
  exact ss_one (s_ret (e_and (e_isi (e_var (pv 0)) rfl (f.fre 58 rfl) rfl (f.fre 57 rfl) bb_int) (e_and (e_not (e_isi (e_var (pv 0)) rfl (f.fre 58 rfl) rfl (f.fre 56 rfl) bb_bool)) (e_one (e_chain o_le o_le (e_var (pv 1)) (e_var (pv 0)) (e_var (pv 2)))))))
theorem sc_is_number : FnScope N_is_number ["value", "least", "most"] (defScope s_is_number) := ⟨rfl, rfl, rfl, by decide +kernel, rfl, by decide +kernel, by decide +kernel⟩
theorem b_is_tuple (f : Fac fa fn K mg) {k : Nat} {cdv : Value} {A : Around} {outer : List Env} {s : Shared} {H : Hp} {E : XK} (c : CtxE (DX P w K mg base N_is_tuple "is_tuple" (defScope s_is_tuple) (He.ga K "is_tuple") cdv A outer s H E) E k) :
    SsJ T (DX P w K mg base N_is_tuple "is_tuple" (defScope s_is_tuple) (He.ga K "is_tuple") cdv A outer s H E) E (defBody s_is_tuple) (m_is_tuple) := by
  exact ss_one (s_ret (e_and (e_isi (e_var (pv 0)) rfl (f.fre 58 rfl) rfl (f.fre 67 rfl) bb_tuple) (e_one (e_chain o_le o_le (e_var (pv 1)) (e_callB2 c_len rfl (f.fre 59 rfl) bb_len (a_cons2 (e_var (pv 0)) (a_nil))) (e_var (pv 2))))))
theorem sc_is_tuple : FnScope N_is_tuple ["value", "least", "most"] (defScope s_is_tuple) := ⟨rfl, rfl, rfl, by decide +kernel, rfl, by decide +kernel, by decide +kernel⟩
theorem b_divisor (f : Fac fa fn K mg) {k : Nat} {cdv : Value} {A : Around} {outer : List Env} {s : Shared} {H : Hp} {E : XK} (c : CtxE (DX P w K mg base N_divisor "divisor" (defScope s_divisor) (He.ga K "divisor") cdv A outer s H E) E k) :
    SsJ T (DX P w K mg base N_divisor "divisor" (defScope s_divisor) (He.ga K "divisor") cdv A outer s H E) E (defBody s_divisor) (m_divisor) := by
  exact ss_cons (s_while dx_own (t_cmp (o_ne c.hu) (e_var (pv 1)) (e_int) rfl) (ss_one (s_par (i := 0) (j := 1) c.calm c.nd rfl rfl (by decide) rfl rfl (a_cons2 (e_var (pv 1)) (a_cons2 (e_bin o_mod (e_var (pv 0)) (e_var (pv 1))) (a_nil)))))) (ss_one (s_ret (e_callB2 c_abs rfl (f.fre 53 rfl) bb_abs (a_cons2 (e_var (pv 0)) (a_nil)))))
theorem sc_divisor : FnScope N_divisor ["one", "other"] (defScope s_divisor) := ⟨rfl, rfl, rfl, by decide +kernel, rfl, by decide +kernel, by decide +kernel⟩
theorem b_reduced (f : Fac fa fn K mg) {k : Nat} {cdv : Value} {S_divisor : SpD} {j_divisor : Nat} (h_divisor : OkF P w K mg base T j_divisor "divisor" ["one", "other"] S_divisor) (l_divisor : j_divisor ≤ k) {A : Around} {outer : List Env} {s : Shared} {H : Hp} {E : XK} (c : CtxE (DX P w K mg base N_reduced "reduced" (defScope s_reduced) (He.ga K "reduced") cdv A outer s H E) E k) :
    SsJ T (DX P w K mg base N_reduced "reduced" (defScope s_reduced) (He.ga K "reduced") cdv A outer s H E) E (defBody s_reduced) (m_reduced S_divisor) := by
  exact ss_cons (s_set (i := 2) c.nd rfl (by first | exact .inl rfl | exact .inr rfl) (e_call2 c h_divisor l_divisor (fun_divisor f).kp (bd_divisor f) (f.glo 2 rfl) rfl (a_cons2 (e_var (pv 0)) (a_cons2 (e_var (pv 1)) (a_nil))))) (ss_one (s_ret (e_tup (a_cons2 (e_bin o_fdiv (e_var (pv 0)) (e_var (pv 2))) (a_cons2 (e_bin o_fdiv (e_var (pv 1)) (e_var (pv 2))) (a_nil))))))
theorem sc_reduced : FnScope N_reduced ["top", "below"] (defScope s_reduced) := ⟨rfl, rfl, rfl, by decide +kernel, rfl, by decide +kernel, by decide +kernel⟩
theorem b_need_n (f : Fac fa fn K mg) {k : Nat} {cdv : Value} {S_is_number : SpD} {j_is_number : Nat} (h_is_number : OkF P w K mg base T j_is_number "is_number" ["value", "least", "most"] S_is_number) (l_is_number : j_is_number ≤ k) {A : Around} {outer : List Env} {s : Shared} {H : Hp} {E : XK} (c : CtxE (DX P w K mg base N_need_n "need_n" (defScope s_need_n) (He.ga K "need_n") cdv A outer s H E) E k) :
    SsJ T (DX P w K mg base N_need_n "need_n" (defScope s_need_n) (He.ga K "need_n") cdv A outer s H E) E (defBody s_need_n) (m_need_n S_is_number (He.ga K "InvalidNumber")) := by
  exact ss_one (s_if (t_not (t_val (e_call2 c h_is_number l_is_number (fun_is_number f).kp (bd_is_number f) (f.glo 0 rfl) rfl (a_cons2 (e_var (pv 0)) (a_cons2 (e_int) (a_cons2 (e_var (pv 1)) (a_nil))))))) (ss_one (s_raiseC c f (i := 70) (g := 49) rfl rfl rfl)) (ss_nil))
theorem sc_need_n : FnScope N_need_n ["value", "most"] (defScope s_need_n) := ⟨rfl, rfl, rfl, by decide +kernel, rfl, by decide +kernel, by decide +kernel⟩
theorem b_form_of (f : Fac fa fn K mg) {k : Nat} {cdv : Value} {S_reduced : SpD} {j_reduced : Nat} (h_reduced : OkF P w K mg base T j_reduced "reduced" ["top", "below"] S_reduced) (l_reduced : j_reduced ≤ k) {A : Around} {outer : List Env} {s : Shared} {H : Hp} {E : XK} (c : CtxE (DX P w K mg base N_form_of "form_of" (defScope s_form_of) (He.ga K "form_of") cdv A outer s H E) E k) :
    SsJ T (DX P w K mg base N_form_of "form_of" (defScope s_form_of) (He.ga K "form_of") cdv A outer s H E) E (defBody s_form_of) (m_form_of S_reduced) := by
  exact ss_cons (s_newK (i := 1) c.nd rfl (by first | exact .inl rfl | exact .inr rfl)) (ss_cons (s_for dx_own c.calm (i_list (e_var (pv 0))) (tg_tup c.calm (show PGs _ _ (gNames [2, 3, 4]) from pgs_cons (pg_name (i := 2) c.nd rfl (by first | exact .inl rfl | exact .inr rfl)) (pgs_cons (pg_name (i := 3) c.nd rfl (by first | exact .inl rfl | exact .inr rfl)) (pgs_cons (pg_name (i := 4) c.nd rfl (by first | exact .inl rfl | exact .inr rfl)) (pgs_nil))))) (ss_cons (s_set (i := 5) c.nd rfl (by first | exact .inl rfl | exact .inr rfl) (e_get2 c.hu (e_var (pv 1)) (e_var (pv 2)) (e_const 9 (by kernel_rfl)) ⟨rfl, rfl, rfl, rfl⟩)) (ss_one (s_put c.hu (pv 1) (e_var (pv 2)) (e_call2 c h_reduced l_reduced (fun_reduced f).kp (bd_reduced f) (f.glo 3 rfl) rfl (a_cons2 (e_bin o_add (e_bin o_mul (e_ix (e_var (pv 5)) (e_int)) (e_var (pv 4))) (e_bin o_mul (e_var (pv 3)) (e_ix (e_var (pv 5)) (e_int)))) (a_cons2 (e_bin o_mul (e_ix (e_var (pv 5)) (e_int)) (e_var (pv 4))) (a_nil)))))))) (ss_one (s_ret (e_callTy2 c_tuple rfl (f.fre 67 rfl) bb_tuple (a_cons2 (e_lc (own := [("power", 2)]) (vs := [2]) c.calm c.nd (i_list (e_callB2 (c_sortDk c.calm) rfl (f.fre 65 rfl) bb_sorted (a_cons2 (e_var (pv 1)) (a_nil)))) (blkOk_by (by kernel_rfl)) (fun _ _ _ _ _ => pg_name (i := 2) c.blk.nd rfl (by first | exact .inl rfl | exact .inr rfl)) (ct_name (i := 2) (by decide)) (td_one fun _ _ _ _ _ => t_cmp (o_ne c.blk.hu) (e_ix (e_dget c.blk.hu (e_var (pv 1)) (e_var (pv 2))) (e_int)) (e_int) rfl) (fun _ _ _ _ _ => e_bin o_add (e_tup (a_cons2 (e_var (pv 2)) (a_nil))) (e_dget c.blk.hu (e_var (pv 1)) (e_var (pv 2))))) (a_nil))))))
theorem sc_form_of : FnScope N_form_of ["parts"] (defScope s_form_of) := ⟨rfl, rfl, rfl, by decide +kernel, rfl, by decide +kernel, by decide +kernel⟩
theorem b_added (f : Fac fa fn K mg) {k : Nat} {cdv : Value} {S_form_of : SpD} {j_form_of : Nat} (h_form_of : OkF P w K mg base T j_form_of "form_of" ["parts"] S_form_of) (l_form_of : j_form_of ≤ k) {A : Around} {outer : List Env} {s : Shared} {H : Hp} {E : XK} (c : CtxE (DX P w K mg base N_added "added" (defScope s_added) (He.ga K "added") cdv A outer s H E) E k) :
    SsJ T (DX P w K mg base N_added "added" (defScope s_added) (He.ga K "added") cdv A outer s H E) E (defBody s_added) (m_added S_form_of) := by
  exact ss_cons (s_set (i := 1) c.nd rfl (by first | exact .inl rfl | exact .inr rfl) (e_const 9 (by kernel_rfl))) (ss_cons (s_for dx_own c.calm (i_list (e_var (pv 0))) (tg_name (i := 2) c.nd rfl (by first | exact .inl rfl | exact .inr rfl)) (ss_one (s_set (i := 1) c.nd rfl (by first | exact .inl rfl | exact .inr rfl) (e_bin o_add (e_var (pv 1)) (e_callTy2 c_list rfl (f.fre 60 rfl) bb_list (a_cons2 (e_var (pv 2)) (a_nil))))))) (ss_one (s_ret (e_call2 c h_form_of l_form_of (fun_form_of f).kp (bd_form_of f) (f.glo 5 rfl) rfl (a_cons2 (e_var (pv 1)) (a_nil))))))
theorem sc_added : FnScope N_added ["forms"] (defScope s_added) := ⟨rfl, rfl, rfl, by decide +kernel, rfl, by decide +kernel, by decide +kernel⟩
theorem b_scaled (f : Fac fa fn K mg) {k : Nat} {cdv : Value} {S_form_of : SpD} {j_form_of : Nat} (h_form_of : OkF P w K mg base T j_form_of "form_of" ["parts"] S_form_of) (l_form_of : j_form_of ≤ k) {A : Around} {outer : List Env} {s : Shared} {H : Hp} {E : XK} (c : CtxE (DX P w K mg base N_scaled "scaled" (defScope s_scaled) (He.ga K "scaled") cdv A outer s H E) E k) :
    SsJ T (DX P w K mg base N_scaled "scaled" (defScope s_scaled) (He.ga K "scaled") cdv A outer s H E) E (defBody s_scaled) (m_scaled S_form_of) := by
  exact ss_one (s_ret (e_call2 c h_form_of l_form_of (fun_form_of f).kp (bd_form_of f) (f.glo 5 rfl) rfl (a_cons2 (e_lc (own := [("power", 2), ("top", 3), ("below", 4)]) (vs := [2, 3, 4]) c.calm c.nd (i_tup (e_var (pv 0))) (blkOk_by (by kernel_rfl)) (fun _ _ _ _ _ => pg_tup (n := 3) c.blk.calm (show PGs _ _ (gNames [2, 3, 4]) from pgs_cons (pg_name (i := 2) c.blk.nd rfl (by first | exact .inl rfl | exact .inr rfl)) (pgs_cons (pg_name (i := 3) c.blk.nd rfl (by first | exact .inl rfl | exact .inr rfl)) (pgs_cons (pg_name (i := 4) c.blk.nd rfl (by first | exact .inl rfl | exact .inr rfl)) (pgs_nil))))) (ct_tup (is := [2, 3, 4]) (n := 3) rfl (by decide)) td_none (fun _ _ _ _ _ => e_tup (a_cons2 (e_var (pv 2)) (a_cons2 (e_bin o_mul (e_var (pv 3)) (e_var (pv 1))) (a_cons2 (e_var (pv 4)) (a_nil)))))) (a_nil))))
theorem sc_scaled : FnScope N_scaled ["form", "many"] (defScope s_scaled) := ⟨rfl, rfl, rfl, by decide +kernel, rfl, by decide +kernel, by decide +kernel⟩
theorem b_product (f : Fac fa fn K mg) {k : Nat} {cdv : Value} {S_form_of : SpD} {j_form_of : Nat} (h_form_of : OkF P w K mg base T j_form_of "form_of" ["parts"] S_form_of) (l_form_of : j_form_of ≤ k) {A : Around} {outer : List Env} {s : Shared} {H : Hp} {E : XK} (c : CtxE (DX P w K mg base N_product "product" (defScope s_product) (He.ga K "product") cdv A outer s H E) E k) :
    SsJ T (DX P w K mg base N_product "product" (defScope s_product) (He.ga K "product") cdv A outer s H E) E (defBody s_product) (m_product S_form_of) := by
  exact ss_cons (s_set (i := 2) c.nd rfl (by first | exact .inl rfl | exact .inr rfl) (e_const 9 (by kernel_rfl))) (ss_cons (s_for dx_own c.calm (i_tup (e_var (pv 0))) (tg_tup c.calm (show PGs _ _ (gNames [3, 4, 5]) from pgs_cons (pg_name (i := 3) c.nd rfl (by first | exact .inl rfl | exact .inr rfl)) (pgs_cons (pg_name (i := 4) c.nd rfl (by first | exact .inl rfl | exact .inr rfl)) (pgs_cons (pg_name (i := 5) c.nd rfl (by first | exact .inl rfl | exact .inr rfl)) (pgs_nil))))) (ss_one (s_set (i := 2) c.nd rfl (by first | exact .inl rfl | exact .inr rfl) (e_bin o_add (e_var (pv 2)) (e_lc (own := [("more", 6), ("up", 7), ("down", 8)]) (vs := [6, 7, 8]) c.calm c.nd (i_tup (e_var (pv 1))) (blkOk_by (by kernel_rfl)) (fun _ _ _ _ _ => pg_tup (n := 3) c.blk.calm (show PGs _ _ (gNames [6, 7, 8]) from pgs_cons (pg_name (i := 6) c.blk.nd rfl (by first | exact .inl rfl | exact .inr rfl)) (pgs_cons (pg_name (i := 7) c.blk.nd rfl (by first | exact .inl rfl | exact .inr rfl)) (pgs_cons (pg_name (i := 8) c.blk.nd rfl (by first | exact .inl rfl | exact .inr rfl)) (pgs_nil))))) (ct_tup (is := [6, 7, 8]) (n := 3) rfl (by decide)) td_none (fun _ _ _ _ _ => e_tup (a_cons2 (e_bin o_add (e_var (pv 3)) (e_var (pv 6))) (a_cons2 (e_bin o_mul (e_var (pv 4)) (e_var (pv 7))) (a_cons2 (e_bin o_mul (e_var (pv 5)) (e_var (pv 8))) (a_nil)))))))))) (ss_one (s_ret (e_call2 c h_form_of l_form_of (fun_form_of f).kp (bd_form_of f) (f.glo 5 rfl) rfl (a_cons2 (e_var (pv 2)) (a_nil))))))
theorem sc_product : FnScope N_product ["one", "other"] (defScope s_product) := ⟨rfl, rfl, rfl, by decide +kernel, rfl, by decide +kernel, by decide +kernel⟩
theorem b_power_of (f : Fac fa fn K mg) {k : Nat} {cdv : Value} {A : Around} {outer : List Env} {s : Shared} {H : Hp} {E : XK} (c : CtxE (DX P w K mg base N_power_of "power_of" (defScope s_power_of) (He.ga K "power_of") cdv A outer s H E) E k) :
    SsJ T (DX P w K mg base N_power_of "power_of" (defScope s_power_of) (He.ga K "power_of") cdv A outer s H E) E (defBody s_power_of) (m_power_of) := by
  exact ss_cons (s_set (i := 2) c.nd rfl (by first | exact .inl rfl | exact .inr rfl) (e_int)) (ss_cons (s_for dx_own c.calm (i_range1 rfl (f.fre 63 rfl) (a_cons2 (e_var (pv 1)) (a_nil))) (tg_name (i := 3) c.nd rfl (by first | exact .inl rfl | exact .inr rfl)) (ss_one (s_set (i := 2) c.nd rfl (by first | exact .inl rfl | exact .inr rfl) (e_bin o_mul (e_var (pv 2)) (e_var (pv 0)))))) (ss_one (s_ret (e_var (pv 2)))))
theorem sc_power_of : FnScope N_power_of ["n", "many"] (defScope s_power_of) := ⟨rfl, rfl, rfl, by decide +kernel, rfl, by decide +kernel, by decide +kernel⟩
theorem b_worth_of (f : Fac fa fn K mg) {k : Nat} {cdv : Value} {S_reduced : SpD} {j_reduced : Nat} (h_reduced : OkF P w K mg base T j_reduced "reduced" ["top", "below"] S_reduced) (l_reduced : j_reduced ≤ k) {S_power_of : SpD} {j_power_of : Nat} (h_power_of : OkF P w K mg base T j_power_of "power_of" ["n", "many"] S_power_of) (l_power_of : j_power_of ≤ k) {A : Around} {outer : List Env} {s : Shared} {H : Hp} {E : XK} (c : CtxE (DX P w K mg base N_worth_of "worth_of" (defScope s_worth_of) (He.ga K "worth_of") cdv A outer s H E) E k) :
    SsJ T (DX P w K mg base N_worth_of "worth_of" (defScope s_worth_of) (He.ga K "worth_of") cdv A outer s H E) E (defBody s_worth_of) (m_worth_of S_reduced S_power_of) := by
  exact ss_cons (s_if (t_cmp (o_eq c.hu) (e_var (pv 0)) (e_const 9 (by kernel_rfl)) rfl) (ss_one (s_ret (e_const 9 (by kernel_rfl)))) (ss_nil)) (ss_cons (s_set (i := 2) c.nd rfl (by first | exact .inl rfl | exact .inr rfl) (e_ix (e_ix (e_var (pv 0)) (e_int)) (e_int))) (ss_cons (s_asg (e_const 9 (by kernel_rfl)) (tg_tup c.calm (show PGs _ _ (gNames [3, 4]) from pgs_cons (pg_name (i := 3) c.nd rfl (by first | exact .inl rfl | exact .inr rfl)) (pgs_cons (pg_name (i := 4) c.nd rfl (by first | exact .inl rfl | exact .inr rfl)) (pgs_nil))))) (ss_cons (s_for dx_own c.calm (i_tup (e_var (pv 0))) (tg_tup c.calm (show PGs _ _ (gNames [5, 6, 7]) from pgs_cons (pg_name (i := 5) c.nd rfl (by first | exact .inl rfl | exact .inr rfl)) (pgs_cons (pg_name (i := 6) c.nd rfl (by first | exact .inl rfl | exact .inr rfl)) (pgs_cons (pg_name (i := 7) c.nd rfl (by first | exact .inl rfl | exact .inr rfl)) (pgs_nil))))) (ss_one (s_asg (e_call2 c h_reduced l_reduced (fun_reduced f).kp (bd_reduced f) (f.glo 3 rfl) rfl (a_cons2 (e_bin o_add (e_bin o_mul (e_var (pv 3)) (e_var (pv 7))) (e_bin o_mul (e_bin o_mul (e_var (pv 6)) (e_call2 c h_power_of l_power_of (fun_power_of f).kp (bd_power_of f) (f.glo 9 rfl) rfl (a_cons2 (e_var (pv 1)) (a_cons2 (e_bin o_sub (e_var (pv 5)) (e_var (pv 2))) (a_nil))))) (e_var (pv 4)))) (a_cons2 (e_bin o_mul (e_var (pv 4)) (e_var (pv 7))) (a_nil)))) (tg_tup c.calm (show PGs _ _ (gNames [3, 4]) from pgs_cons (pg_name (i := 3) c.nd rfl (by first | exact .inl rfl | exact .inr rfl)) (pgs_cons (pg_name (i := 4) c.nd rfl (by first | exact .inl rfl | exact .inr rfl)) (pgs_nil))))))) (ss_one (s_ret (e_call2 c h_reduced l_reduced (fun_reduced f).kp (bd_reduced f) (f.glo 3 rfl) rfl (a_cons2 (e_bin o_mul (e_var (pv 3)) (e_call2 c h_power_of l_power_of (fun_power_of f).kp (bd_power_of f) (f.glo 9 rfl) rfl (a_cons2 (e_var (pv 1)) (a_cons2 (e_var (pv 2)) (a_nil))))) (a_cons2 (e_bin o_mul (e_var (pv 4)) (e_call2 c h_power_of l_power_of (fun_power_of f).kp (bd_power_of f) (f.glo 9 rfl) rfl (a_cons2 (e_var (pv 1)) (a_cons2 (e_neg (e_var (pv 2))) (a_nil))))) (a_nil)))))))))
theorem sc_worth_of : FnScope N_worth_of ["form", "n"] (defScope s_worth_of) := ⟨rfl, rfl, rfl, by decide +kernel, rfl, by decide +kernel, by decide +kernel⟩
theorem b_is_table (f : Fac fa fn K mg) {k : Nat} {cdv : Value} {S_is_tuple : SpD} {j_is_tuple : Nat} (h_is_tuple : OkF P w K mg base T j_is_tuple "is_tuple" ["value", "least", "most"] S_is_tuple) (l_is_tuple : j_is_tuple ≤ k) {S_is_number : SpD} {j_is_number : Nat} (h_is_number : OkF P w K mg base T j_is_number "is_number" ["value", "least", "most"] S_is_number) (l_is_number : j_is_number ≤ k) {A : Around} {outer : List Env} {s : Shared} {H : Hp} {E : XK} (c : CtxE (DX P w K mg base N_is_table "is_table" (defScope s_is_table) (He.ga K "is_table") cdv A outer s H E) E k) :
    SsJ T (DX P w K mg base N_is_table "is_table" (defScope s_is_table) (He.ga K "is_table") cdv A outer s H E) E (defBody s_is_table) (m_is_table S_is_tuple S_is_number) := by
  exact ss_one (s_ret (e_and (e_call2 c h_is_tuple l_is_tuple (fun_is_tuple f).kp (bd_is_tuple f) (f.glo 1 rfl) rfl (a_cons2 (e_var (pv 0)) (a_cons2 (e_int) (a_cons2 (e_int) (a_nil))))) (e_and (e_call2 c h_is_number l_is_number (fun_is_number f).kp (bd_is_number f) (f.glo 0 rfl) rfl (a_cons2 (e_ix (e_var (pv 0)) (e_int)) (a_cons2 (e_int) (a_cons2 (e_int) (a_nil))))) (e_one (e_call2 c h_is_number l_is_number (fun_is_number f).kp (bd_is_number f) (f.glo 0 rfl) rfl (a_cons2 (e_ix (e_var (pv 0)) (e_int)) (a_cons2 (e_int) (a_cons2 (e_int) (a_nil)))))))))
theorem sc_is_table : FnScope N_is_table ["value"] (defScope s_is_table) := ⟨rfl, rfl, rfl, by decide +kernel, rfl, by decide +kernel, by decide +kernel⟩
theorem b_is_link (f : Fac fa fn K mg) {k : Nat} {cdv : Value} {S_is_tuple : SpD} {j_is_tuple : Nat} (h_is_tuple : OkF P w K mg base T j_is_tuple "is_tuple" ["value", "least", "most"] S_is_tuple) (l_is_tuple : j_is_tuple ≤ k) {S_is_number : SpD} {j_is_number : Nat} (h_is_number : OkF P w K mg base T j_is_number "is_number" ["value", "least", "most"] S_is_number) (l_is_number : j_is_number ≤ k) {A : Around} {outer : List Env} {s : Shared} {H : Hp} {E : XK} (c : CtxE (DX P w K mg base N_is_link "is_link" (defScope s_is_link) (He.ga K "is_link") cdv A outer s H E) E k) :
    SsJ T (DX P w K mg base N_is_link "is_link" (defScope s_is_link) (He.ga K "is_link") cdv A outer s H E) E (defBody s_is_link) (m_is_link S_is_tuple S_is_number) := by
  exact ss_cons (s_if (WJ.t (w_or (t_not (t_val (e_call2 c h_is_tuple l_is_tuple (fun_is_tuple f).kp (bd_is_tuple f) (f.glo 1 rfl) rfl (a_cons2 (e_var (pv 1)) (a_cons2 (e_int) (a_cons2 (e_int) (a_nil))))))) (w_or (t_not (t_val (e_call2 c h_is_number l_is_number (fun_is_number f).kp (bd_is_number f) (f.glo 0 rfl) rfl (a_cons2 (e_ix (e_var (pv 1)) (e_int)) (a_cons2 (e_int) (a_cons2 (e_bin o_sub (e_var (pv 0)) (e_int)) (a_nil))))))) (w_or1 (t_not (t_val (e_call2 c h_is_number l_is_number (fun_is_number f).kp (bd_is_number f) (f.glo 0 rfl) rfl (a_cons2 (e_ix (e_var (pv 1)) (e_int)) (a_cons2 (e_int) (a_cons2 (e_bin o_sub (e_var (pv 0)) (e_int)) (a_nil))))))))))) (ss_one (s_ret (e_bool))) (ss_nil)) (ss_one (s_ret (e_and (e_cmp (o_lt c.hu) (e_ix (e_var (pv 1)) (e_int)) (e_ix (e_var (pv 1)) (e_int)) rfl) (e_and (e_call2 c h_is_number l_is_number (fun_is_number f).kp (bd_is_number f) (f.glo 0 rfl) rfl (a_cons2 (e_ix (e_var (pv 1)) (e_int)) (a_cons2 (e_int) (a_cons2 (e_int) (a_nil))))) (e_one (e_call2 c h_is_number l_is_number (fun_is_number f).kp (bd_is_number f) (f.glo 0 rfl) rfl (a_cons2 (e_ix (e_var (pv 1)) (e_int)) (a_cons2 (e_int) (a_cons2 (e_int) (a_nil))))))))))
theorem sc_is_link : FnScope N_is_link ["tables", "value"] (defScope s_is_link) := ⟨rfl, rfl, rfl, by decide +kernel, rfl, by decide +kernel, by decide +kernel⟩
theorem b_are_numbers (f : Fac fa fn K mg) {k : Nat} {cdv : Value} {S_is_tuple : SpD} {j_is_tuple : Nat} (h_is_tuple : OkF P w K mg base T j_is_tuple "is_tuple" ["value", "least", "most"] S_is_tuple) (l_is_tuple : j_is_tuple ≤ k) {S_is_number : SpD} {j_is_number : Nat} (h_is_number : OkF P w K mg base T j_is_number "is_number" ["value", "least", "most"] S_is_number) (l_is_number : j_is_number ≤ k) {A : Around} {outer : List Env} {s : Shared} {H : Hp} {E : XK} (c : CtxE (DX P w K mg base N_are_numbers "are_numbers" (defScope s_are_numbers) (He.ga K "are_numbers") cdv A outer s H E) E k) :
    SsJ T (DX P w K mg base N_are_numbers "are_numbers" (defScope s_are_numbers) (He.ga K "are_numbers") cdv A outer s H E) E (defBody s_are_numbers) (m_are_numbers S_is_tuple S_is_number) := by
  exact ss_cons (s_if (WJ.t (w_or (t_not (t_val (e_call2 c h_is_tuple l_is_tuple (fun_is_tuple f).kp (bd_is_tuple f) (f.glo 1 rfl) rfl (a_cons2 (e_var (pv 1)) (a_cons2 (e_var (pv 2)) (a_cons2 (e_var (pv 0)) (a_nil))))))) (w_or1 (t_not (t_val (e_callB2 (c_all c.calm) rfl (f.fre 54 rfl) bb_all (a_cons2 (e_lc (own := [("item", 5)]) (vs := [5]) c.calm c.nd (i_tup (e_var (pv 1))) (blkOk_by (by kernel_rfl)) (fun _ _ _ _ _ => pg_name (i := 5) c.blk.nd rfl (by first | exact .inl rfl | exact .inr rfl)) (ct_name (i := 5) (by decide)) td_none (fun _ _ _ _ _ => e_call2 c.blk h_is_number l_is_number (fun_is_number f).kp (bd_is_number f) (f.glo 0 rfl) rfl (a_cons2 (e_var (pv 5)) (a_cons2 (e_int) (a_cons2 (e_bin o_sub (e_var (pv 0)) (e_int)) (a_nil)))))) (a_nil)))))))) (ss_one (s_ret (e_bool))) (ss_nil)) (ss_one (s_ret (e_callB2 (c_all c.calm) rfl (f.fre 54 rfl) bb_all (a_cons2 (e_lc (own := [("left", 3), ("right", 4)]) (vs := [3, 4]) c.calm c.nd (i_zip rfl (f.fre 68 rfl) (a_cons2 (e_var (pv 1)) (a_cons2 (e_slice (e_var (pv 1)) (p_some (e_int)) (p_none)) (a_nil)))) (blkOk_by (by kernel_rfl)) (fun _ _ _ _ _ => pg_tup (n := 2) c.blk.calm (show PGs _ _ (gNames [3, 4]) from pgs_cons (pg_name (i := 3) c.blk.nd rfl (by first | exact .inl rfl | exact .inr rfl)) (pgs_cons (pg_name (i := 4) c.blk.nd rfl (by first | exact .inl rfl | exact .inr rfl)) (pgs_nil)))) (ct_tup (is := [3, 4]) (n := 2) rfl (by decide)) td_none (fun _ _ _ _ _ => e_cmp (o_lt c.blk.hu) (e_var (pv 3)) (e_var (pv 4)) rfl)) (a_nil)))))
theorem sc_are_numbers : FnScope N_are_numbers ["tables", "value", "least"] (defScope s_are_numbers) := ⟨rfl, rfl, rfl, by decide +kernel, rfl, by decide +kernel, by decide +kernel⟩
theorem b_is_good_question (f : Fac fa fn K mg) {k : Nat} {cdv : Value} {S_is_tuple : SpD} {j_is_tuple : Nat} (h_is_tuple : OkF P w K mg base T j_is_tuple "is_tuple" ["value", "least", "most"] S_is_tuple) (l_is_tuple : j_is_tuple ≤ k) {S_is_table : SpD} {j_is_table : Nat} (h_is_table : OkF P w K mg base T j_is_table "is_table" ["value"] S_is_table) (l_is_table : j_is_table ≤ k) {S_is_link : SpD} {j_is_link : Nat} (h_is_link : OkF P w K mg base T j_is_link "is_link" ["tables", "value"] S_is_link) (l_is_link : j_is_link ≤ k) {S_are_numbers : SpD} {j_are_numbers : Nat} (h_are_numbers : OkF P w K mg base T j_are_numbers "are_numbers" ["tables", "value", "least"] S_are_numbers) (l_are_numbers : j_are_numbers ≤ k) {A : Around} {outer : List Env} {s : Shared} {H : Hp} {E : XK} (c : CtxE (DX P w K mg base N_is_good_question "is_good_question" (defScope s_is_good_question) (He.ga K "is_good_question") cdv A outer s H E) E k) :
    SsJ T (DX P w K mg base N_is_good_question "is_good_question" (defScope s_is_good_question) (He.ga K "is_good_question") cdv A outer s H E) E (defBody s_is_good_question) (m_is_good_question S_is_tuple S_is_table S_is_link S_are_numbers) := by
  exact ss_cons (s_if (WJ.t (w_or (t_not (t_val (e_call2 c h_is_tuple l_is_tuple (fun_is_tuple f).kp (bd_is_tuple f) (f.glo 1 rfl) rfl (a_cons2 (e_var (pv 0)) (a_cons2 (e_int) (a_cons2 (e_int) (a_nil))))))) (w_or (t_not (t_val (e_call2 c h_is_tuple l_is_tuple (fun_is_tuple f).kp (bd_is_tuple f) (f.glo 1 rfl) rfl (a_cons2 (e_ix (e_var (pv 0)) (e_int)) (a_cons2 (e_int) (a_cons2 (e_int) (a_nil))))))) (w_or1 (t_not (t_val (e_callB2 (c_all c.calm) rfl (f.fre 54 rfl) bb_all (a_cons2 (e_lc (own := [("item", 4)]) (vs := [4]) c.calm c.nd (i_tup (e_ix (e_var (pv 0)) (e_int))) (blkOk_by (by kernel_rfl)) (fun _ _ _ _ _ => pg_name (i := 4) c.blk.nd rfl (by first | exact .inl rfl | exact .inr rfl)) (ct_name (i := 4) (by decide)) td_none (fun _ _ _ _ _ => e_call2 c.blk h_is_table l_is_table (fun_is_table f).kp (bd_is_table f) (f.glo 11 rfl) rfl (a_cons2 (e_var (pv 4)) (a_nil)))) (a_nil))))))))) (ss_one (s_ret (e_bool))) (ss_nil)) (ss_cons (s_set (i := 1) c.nd rfl (by first | exact .inl rfl | exact .inr rfl) (e_callB2 c_len rfl (f.fre 59 rfl) bb_len (a_cons2 (e_ix (e_var (pv 0)) (e_int)) (a_nil)))) (ss_cons (s_if (WJ.t (w_or (t_not (t_val (e_call2 c h_is_tuple l_is_tuple (fun_is_tuple f).kp (bd_is_tuple f) (f.glo 1 rfl) rfl (a_cons2 (e_ix (e_var (pv 0)) (e_int)) (a_cons2 (e_int) (a_cons2 (e_int) (a_nil))))))) (w_or1 (t_not (t_val (e_callB2 (c_all c.calm) rfl (f.fre 54 rfl) bb_all (a_cons2 (e_lc (own := [("link", 5)]) (vs := [5]) c.calm c.nd (i_tup (e_ix (e_var (pv 0)) (e_int))) (blkOk_by (by kernel_rfl)) (fun _ _ _ _ _ => pg_name (i := 5) c.blk.nd rfl (by first | exact .inl rfl | exact .inr rfl)) (ct_name (i := 5) (by decide)) td_none (fun _ _ _ _ _ => e_call2 c.blk h_is_link l_is_link (fun_is_link f).kp (bd_is_link f) (f.glo 12 rfl) rfl (a_cons2 (e_var (pv 1)) (a_cons2 (e_var (pv 5)) (a_nil))))) (a_nil)))))))) (ss_one (s_ret (e_bool))) (ss_nil)) (ss_cons (s_if (t_not (t_val (e_callB2 (c_all c.calm) rfl (f.fre 54 rfl) bb_all (a_cons2 (e_lc (own := [("left", 2), ("right", 3)]) (vs := [2, 3]) c.calm c.nd (i_zip rfl (f.fre 68 rfl) (a_cons2 (e_ix (e_var (pv 0)) (e_int)) (a_cons2 (e_slice (e_ix (e_var (pv 0)) (e_int)) (p_some (e_int)) (p_none)) (a_nil)))) (blkOk_by (by kernel_rfl)) (fun _ _ _ _ _ => pg_tup (n := 2) c.blk.calm (show PGs _ _ (gNames [2, 3]) from pgs_cons (pg_name (i := 2) c.blk.nd rfl (by first | exact .inl rfl | exact .inr rfl)) (pgs_cons (pg_name (i := 3) c.blk.nd rfl (by first | exact .inl rfl | exact .inr rfl)) (pgs_nil)))) (ct_tup (is := [2, 3]) (n := 2) rfl (by decide)) td_none (fun _ _ _ _ _ => e_cmp (o_lt c.blk.hu) (e_slice (e_var (pv 2)) (p_none) (p_some (e_int))) (e_slice (e_var (pv 3)) (p_none) (p_some (e_int))) rfl)) (a_nil))))) (ss_one (s_ret (e_bool))) (ss_nil)) (ss_one (s_ret (e_call2 c h_are_numbers l_are_numbers (fun_are_numbers f).kp (bd_are_numbers f) (f.glo 13 rfl) rfl (a_cons2 (e_var (pv 1)) (a_cons2 (e_ix (e_var (pv 0)) (e_int)) (a_cons2 (e_int) (a_nil))))))))))
theorem sc_is_good_question : FnScope N_is_good_question ["value"] (defScope s_is_good_question) := ⟨rfl, rfl, rfl, by decide +kernel, rfl, by decide +kernel, by decide +kernel⟩
theorem b_are_linked (f : Fac fa fn K mg) {k : Nat} {cdv : Value} {A : Around} {outer : List Env} {s : Shared} {H : Hp} {E : XK} (c : CtxE (DX P w K mg base N_are_linked "are_linked" (defScope s_are_linked) (He.ga K "are_linked") cdv A outer s H E) E k) :
    SsJ T (DX P w K mg base N_are_linked "are_linked" (defScope s_are_linked) (He.ga K "are_linked") cdv A outer s H E) E (defBody s_are_linked) (m_are_linked) := by
  exact ss_one (s_ret (e_callB2 (c_any c.calm) rfl (f.fre 55 rfl) bb_any (a_cons2 (e_lc (own := [("one", 3), ("other", 4), ("b", 5), ("p", 6)]) (vs := [3, 4, 5, 6]) c.calm c.nd (i_tup (e_ix (e_var (pv 0)) (e_int))) (blkOk_by (by kernel_rfl)) (fun _ _ _ _ _ => pg_tup (n := 4) c.blk.calm (show PGs _ _ (gNames [3, 4, 5, 6]) from pgs_cons (pg_name (i := 3) c.blk.nd rfl (by first | exact .inl rfl | exact .inr rfl)) (pgs_cons (pg_name (i := 4) c.blk.nd rfl (by first | exact .inl rfl | exact .inr rfl)) (pgs_cons (pg_name (i := 5) c.blk.nd rfl (by first | exact .inl rfl | exact .inr rfl)) (pgs_cons (pg_name (i := 6) c.blk.nd rfl (by first | exact .inl rfl | exact .inr rfl)) (pgs_nil)))))) (ct_tup (is := [3, 4, 5, 6]) (n := 4) rfl (by decide)) td_none (fun _ _ _ _ _ => e_or (e_and (e_cmp (o_in c.blk.hu) (e_var (pv 3)) (e_var (pv 1)) rfl) (e_one (e_cmp (o_in c.blk.hu) (e_var (pv 4)) (e_var (pv 2)) rfl))) (e_one (e_and (e_cmp (o_in c.blk.hu) (e_var (pv 3)) (e_var (pv 2)) rfl) (e_one (e_cmp (o_in c.blk.hu) (e_var (pv 4)) (e_var (pv 1)) rfl)))))) (a_nil))))
theorem sc_are_linked : FnScope N_are_linked ["question", "left", "right"] (defScope s_are_linked) := ⟨rfl, rfl, rfl, by decide +kernel, rfl, by decide +kernel, by decide +kernel⟩
theorem b_can_stand (f : Fac fa fn K mg) {k : Nat} {cdv : Value} {S_tables_in : SpD} {j_tables_in : Nat} (h_tables_in : OkF P w K mg base T j_tables_in "tables_in" ["plan"] S_tables_in) (l_tables_in : j_tables_in ≤ k) {S_are_linked : SpD} {j_are_linked : Nat} (h_are_linked : OkF P w K mg base T j_are_linked "are_linked" ["question", "left", "right"] S_are_linked) (l_are_linked : j_are_linked ≤ k) {A : Around} {outer : List Env} {s : Shared} {H : Hp} {E : XK} (c : CtxE (DX P w K mg base N_can_stand "can_stand" (defScope s_can_stand) (He.ga K "can_stand") cdv A outer s H E) E k) :
    SsJ T (DX P w K mg base N_can_stand "can_stand" (defScope s_can_stand) (He.ga K "can_stand") cdv A outer s H E) E (defBody s_can_stand) (m_can_stand S_tables_in S_are_linked) := by
  exact ss_cons (s_par (i := 4) (j := 5) c.calm c.nd rfl rfl (by decide) rfl rfl (a_cons2 (e_call2 c h_tables_in l_tables_in (fun_tables_in f).kp (bd_tables_in f) (f.glo 17 rfl) rfl (a_cons2 (e_var (pv 1)) (a_nil))) (a_cons2 (e_call2 c h_tables_in l_tables_in (fun_tables_in f).kp (bd_tables_in f) (f.glo 17 rfl) rfl (a_cons2 (e_var (pv 2)) (a_nil))) (a_nil)))) (ss_cons (s_if (t_cmp (o_eq c.hu) (e_var (pv 3)) (e_str) rfl) (ss_one (s_ret (e_bool))) (ss_nil)) (ss_cons (s_if (WJ.t (w_and (t_cmp (o_eq c.hu) (e_var (pv 3)) (e_str) rfl) (w_and1 (WJ.t (w_or (t_not (t_val (e_isi (e_var (pv 2)) rfl (f.fre 58 rfl) rfl (f.fre 57 rfl) bb_int))) (w_or1 (t_cmp (o_notIn c.hu) (e_var (pv 2)) (e_ix (e_var (pv 0)) (e_int)) rfl))))))) (ss_one (s_ret (e_bool))) (ss_nil)) (ss_one (s_ret (e_call2 c h_are_linked l_are_linked (fun_are_linked f).kp (bd_are_linked f) (f.glo 15 rfl) rfl (a_cons2 (e_var (pv 0)) (a_cons2 (e_var (pv 4)) (a_cons2 (e_var (pv 5)) (a_nil)))))))))
theorem sc_can_stand : FnScope N_can_stand ["question", "left", "right", "method"] (defScope s_can_stand) := ⟨rfl, rfl, rfl, by decide +kernel, rfl, by decide +kernel, by decide +kernel⟩
theorem b_tables_in (f : Fac fa fn K mg) {k : Nat} {cdv : Value} {S_tables_in : SpD} {j_tables_in : Nat} (h_tables_in : OkF P w K mg base T j_tables_in "tables_in" ["plan"] S_tables_in) (l_tables_in : j_tables_in ≤ k) {A : Around} {outer : List Env} {s : Shared} {H : Hp} {E : XK} (c : CtxE (DX P w K mg base N_tables_in "tables_in" (defScope s_tables_in) (He.ga K "tables_in") cdv A outer s H E) E k) :
    SsJ T (DX P w K mg base N_tables_in "tables_in" (defScope s_tables_in) (He.ga K "tables_in") cdv A outer s H E) E (defBody s_tables_in) (m_tables_in S_tables_in) := by
  exact ss_cons (s_if (t_val (e_isi (e_var (pv 0)) rfl (f.fre 58 rfl) rfl (f.fre 57 rfl) bb_int)) (ss_one (s_ret (e_tup (a_cons2 (e_var (pv 0)) (a_nil))))) (ss_nil)) (ss_one (s_ret (e_callTy2 c_tuple rfl (f.fre 67 rfl) bb_tuple (a_cons2 (e_callB2 (c_sorted c.hu) rfl (f.fre 65 rfl) bb_sorted (a_cons2 (e_bin o_add (e_call2 c h_tables_in l_tables_in (fun_tables_in f).kp (bd_tables_in f) (f.glo 17 rfl) rfl (a_cons2 (e_ix (e_var (pv 0)) (e_int)) (a_nil))) (e_call2 c h_tables_in l_tables_in (fun_tables_in f).kp (bd_tables_in f) (f.glo 17 rfl) rfl (a_cons2 (e_ix (e_var (pv 0)) (e_int)) (a_nil)))) (a_nil))) (a_nil)))))
theorem sc_tables_in : FnScope N_tables_in ["plan"] (defScope s_tables_in) := ⟨rfl, rfl, rfl, by decide +kernel, rfl, by decide +kernel, by decide +kernel⟩
theorem b_is_shape (f : Fac fa fn K mg) {k : Nat} {cdv : Value} {S_is_number : SpD} {j_is_number : Nat} (h_is_number : OkF P w K mg base T j_is_number "is_number" ["value", "least", "most"] S_is_number) (l_is_number : j_is_number ≤ k) {S_is_tuple : SpD} {j_is_tuple : Nat} (h_is_tuple : OkF P w K mg base T j_is_tuple "is_tuple" ["value", "least", "most"] S_is_tuple) (l_is_tuple : j_is_tuple ≤ k) {S_is_shape : SpD} {j_is_shape : Nat} (h_is_shape : OkF P w K mg base T j_is_shape "is_shape" ["question", "value", "deep"] S_is_shape) (l_is_shape : j_is_shape ≤ k) (w_METHODS : ∀ H, SqT K H (He.ga K "METHODS") (wr_METHODS.map V.str)) {A : Around} {outer : List Env} {s : Shared} {H : Hp} {E : XK} (c : CtxE (DX P w K mg base N_is_shape "is_shape" (defScope s_is_shape) (He.ga K "is_shape") cdv A outer s H E) E k) :
    SsJ T (DX P w K mg base N_is_shape "is_shape" (defScope s_is_shape) (He.ga K "is_shape") cdv A outer s H E) E (defBody s_is_shape) (m_is_shape S_is_number S_is_tuple S_is_shape) := by
  have hw_METHODS : Wr (DX P w K mg base N_is_shape "is_shape" (defScope s_is_shape) (He.ga K "is_shape") cdv A outer s H E) "METHODS" wr_METHODS := ⟨_, f.glo 74 rfl, w_METHODS⟩
  exact ss_cons (s_if (t_val (e_call2 c h_is_number l_is_number (fun_is_number f).kp (bd_is_number f) (f.glo 0 rfl) rfl (a_cons2 (e_var (pv 1)) (a_cons2 (e_int) (a_cons2 (e_bin o_sub (e_callB2 c_len rfl (f.fre 59 rfl) bb_len (a_cons2 (e_ix (e_var (pv 0)) (e_int)) (a_nil))) (e_int)) (a_nil)))))) (ss_one (s_ret (e_bool))) (ss_nil)) (ss_cons (s_if (WJ.t (w_or (t_cmp (o_eq c.hu) (e_var (pv 2)) (e_int) rfl) (w_or (t_not (t_val (e_call2 c h_is_tuple l_is_tuple (fun_is_tuple f).kp (bd_is_tuple f) (f.glo 1 rfl) rfl (a_cons2 (e_var (pv 1)) (a_cons2 (e_int) (a_cons2 (e_int) (a_nil))))))) (w_or (t_not (t_val (e_isi (e_ix (e_var (pv 1)) (e_int)) rfl (f.fre 58 rfl) rfl (f.fre 66 rfl) bb_str))) (w_or1 (t_notInG hw_METHODS rfl (e_ix (e_var (pv 1)) (e_int)))))))) (ss_one (s_ret (e_bool))) (ss_nil)) (ss_one (s_ret (e_and (e_call2 c h_is_shape l_is_shape (fun_is_shape f).kp (bd_is_shape f) (f.glo 18 rfl) rfl (a_cons2 (e_var (pv 0)) (a_cons2 (e_ix (e_var (pv 1)) (e_int)) (a_cons2 (e_bin o_sub (e_var (pv 2)) (e_int)) (a_nil))))) (e_one (e_call2 c h_is_shape l_is_shape (fun_is_shape f).kp (bd_is_shape f) (f.glo 18 rfl) rfl (a_cons2 (e_var (pv 0)) (a_cons2 (e_ix (e_var (pv 1)) (e_int)) (a_cons2 (e_bin o_sub (e_var (pv 2)) (e_int)) (a_nil))))))))))
theorem sc_is_shape : FnScope N_is_shape ["question", "value", "deep"] (defScope s_is_shape) := ⟨rfl, rfl, rfl, by decide +kernel, rfl, by decide +kernel, by decide +kernel⟩
theorem b_can_be_led (f : Fac fa fn K mg) {k : Nat} {cdv : Value} {S_can_be_led : SpD} {j_can_be_led : Nat} (h_can_be_led : OkF P w K mg base T j_can_be_led "can_be_led" ["question", "plan"] S_can_be_led) (l_can_be_led : j_can_be_led ≤ k) {S_can_stand : SpD} {j_can_stand : Nat} (h_can_stand : OkF P w K mg base T j_can_stand "can_stand" ["question", "left", "right", "method"] S_can_stand) (l_can_stand : j_can_stand ≤ k) {A : Around} {outer : List Env} {s : Shared} {H : Hp} {E : XK} (c : CtxE (DX P w K mg base N_can_be_led "can_be_led" (defScope s_can_be_led) (He.ga K "can_be_led") cdv A outer s H E) E k) :
    SsJ T (DX P w K mg base N_can_be_led "can_be_led" (defScope s_can_be_led) (He.ga K "can_be_led") cdv A outer s H E) E (defBody s_can_be_led) (m_can_be_led S_can_be_led S_can_stand) := by
  exact ss_cons (s_if (t_val (e_isi (e_var (pv 1)) rfl (f.fre 58 rfl) rfl (f.fre 57 rfl) bb_int)) (ss_one (s_ret (e_bool))) (ss_nil)) (ss_cons (s_if (WJ.t (w_or (t_not (t_val (e_call2 c h_can_be_led l_can_be_led (fun_can_be_led f).kp (bd_can_be_led f) (f.glo 19 rfl) rfl (a_cons2 (e_var (pv 0)) (a_cons2 (e_ix (e_var (pv 1)) (e_int)) (a_nil)))))) (w_or1 (t_not (t_val (e_call2 c h_can_be_led l_can_be_led (fun_can_be_led f).kp (bd_can_be_led f) (f.glo 19 rfl) rfl (a_cons2 (e_var (pv 0)) (a_cons2 (e_ix (e_var (pv 1)) (e_int)) (a_nil))))))))) (ss_one (s_ret (e_bool))) (ss_nil)) (ss_one (s_ret (e_call2 c h_can_stand l_can_stand (fun_can_stand f).kp (bd_can_stand f) (f.glo 16 rfl) rfl (a_cons2 (e_var (pv 0)) (a_cons2 (e_ix (e_var (pv 1)) (e_int)) (a_cons2 (e_ix (e_var (pv 1)) (e_int)) (a_cons2 (e_ix (e_var (pv 1)) (e_int)) (a_nil)))))))))
theorem sc_can_be_led : FnScope N_can_be_led ["question", "plan"] (defScope s_can_be_led) := ⟨rfl, rfl, rfl, by decide +kernel, rfl, by decide +kernel, by decide +kernel⟩
theorem b_is_part_plan (f : Fac fa fn K mg) {k : Nat} {cdv : Value} {S_is_shape : SpD} {j_is_shape : Nat} (h_is_shape : OkF P w K mg base T j_is_shape "is_shape" ["question", "value", "deep"] S_is_shape) (l_is_shape : j_is_shape ≤ k) {S_tables_in : SpD} {j_tables_in : Nat} (h_tables_in : OkF P w K mg base T j_tables_in "tables_in" ["plan"] S_tables_in) (l_tables_in : j_tables_in ≤ k) {S_can_be_led : SpD} {j_can_be_led : Nat} (h_can_be_led : OkF P w K mg base T j_can_be_led "can_be_led" ["question", "plan"] S_can_be_led) (l_can_be_led : j_can_be_led ≤ k) {A : Around} {outer : List Env} {s : Shared} {H : Hp} {E : XK} (c : CtxE (DX P w K mg base N_is_part_plan "is_part_plan" (defScope s_is_part_plan) (He.ga K "is_part_plan") cdv A outer s H E) E k) :
    SsJ T (DX P w K mg base N_is_part_plan "is_part_plan" (defScope s_is_part_plan) (He.ga K "is_part_plan") cdv A outer s H E) E (defBody s_is_part_plan) (m_is_part_plan S_is_shape S_tables_in S_can_be_led) := by
  exact ss_cons (s_if (t_not (t_val (e_call2 c h_is_shape l_is_shape (fun_is_shape f).kp (bd_is_shape f) (f.glo 18 rfl) rfl (a_cons2 (e_var (pv 0)) (a_cons2 (e_var (pv 1)) (a_cons2 (e_int) (a_nil))))))) (ss_one (s_ret (e_bool))) (ss_nil)) (ss_cons (s_set (i := 2) c.nd rfl (by first | exact .inl rfl | exact .inr rfl) (e_call2 c h_tables_in l_tables_in (fun_tables_in f).kp (bd_tables_in f) (f.glo 17 rfl) rfl (a_cons2 (e_var (pv 1)) (a_nil)))) (ss_one (s_ret (e_and (e_cmp (o_eq c.hu) (e_lenSet rfl (f.fre 59 rfl) (st_set c.calm rfl (f.fre 64 rfl) (e_var (pv 2)))) (e_callB2 c_len rfl (f.fre 59 rfl) bb_len (a_cons2 (e_var (pv 2)) (a_nil))) rfl) (e_one (e_call2 c h_can_be_led l_can_be_led (fun_can_be_led f).kp (bd_can_be_led f) (f.glo 19 rfl) rfl (a_cons2 (e_var (pv 0)) (a_cons2 (e_var (pv 1)) (a_nil)))))))))
theorem sc_is_part_plan : FnScope N_is_part_plan ["question", "value"] (defScope s_is_part_plan) := ⟨rfl, rfl, rfl, by decide +kernel, rfl, by decide +kernel, by decide +kernel⟩
theorem b_is_good_plan (f : Fac fa fn K mg) {k : Nat} {cdv : Value} {S_is_part_plan : SpD} {j_is_part_plan : Nat} (h_is_part_plan : OkF P w K mg base T j_is_part_plan "is_part_plan" ["question", "value"] S_is_part_plan) (l_is_part_plan : j_is_part_plan ≤ k) {S_tables_in : SpD} {j_tables_in : Nat} (h_tables_in : OkF P w K mg base T j_tables_in "tables_in" ["plan"] S_tables_in) (l_tables_in : j_tables_in ≤ k) {A : Around} {outer : List Env} {s : Shared} {H : Hp} {E : XK} (c : CtxE (DX P w K mg base N_is_good_plan "is_good_plan" (defScope s_is_good_plan) (He.ga K "is_good_plan") cdv A outer s H E) E k) :
    SsJ T (DX P w K mg base N_is_good_plan "is_good_plan" (defScope s_is_good_plan) (He.ga K "is_good_plan") cdv A outer s H E) E (defBody s_is_good_plan) (m_is_good_plan S_is_part_plan S_tables_in) := by
  exact ss_one (s_ret (e_and (e_call2 c h_is_part_plan l_is_part_plan (fun_is_part_plan f).kp (bd_is_part_plan f) (f.glo 20 rfl) rfl (a_cons2 (e_var (pv 0)) (a_cons2 (e_var (pv 1)) (a_nil)))) (e_one (e_cmp (o_eq c.hu) (e_callB2 c_len rfl (f.fre 59 rfl) bb_len (a_cons2 (e_call2 c h_tables_in l_tables_in (fun_tables_in f).kp (bd_tables_in f) (f.glo 17 rfl) rfl (a_cons2 (e_var (pv 1)) (a_nil))) (a_nil))) (e_callB2 c_len rfl (f.fre 59 rfl) bb_len (a_cons2 (e_ix (e_var (pv 0)) (e_int)) (a_nil))) rfl))))
theorem sc_is_good_plan : FnScope N_is_good_plan ["question", "value"] (defScope s_is_good_plan) := ⟨rfl, rfl, rfl, by decide +kernel, rfl, by decide +kernel, by decide +kernel⟩
theorem b_need_question (f : Fac fa fn K mg) {k : Nat} {cdv : Value} {S_is_good_question : SpD} {j_is_good_question : Nat} (h_is_good_question : OkF P w K mg base T j_is_good_question "is_good_question" ["value"] S_is_good_question) (l_is_good_question : j_is_good_question ≤ k) {A : Around} {outer : List Env} {s : Shared} {H : Hp} {E : XK} (c : CtxE (DX P w K mg base N_need_question "need_question" (defScope s_need_question) (He.ga K "need_question") cdv A outer s H E) E k) :
    SsJ T (DX P w K mg base N_need_question "need_question" (defScope s_need_question) (He.ga K "need_question") cdv A outer s H E) E (defBody s_need_question) (m_need_question S_is_good_question (He.ga K "InvalidQuestion")) := by
  exact ss_one (s_if (t_not (t_val (e_call2 c h_is_good_question l_is_good_question (fun_is_good_question f).kp (bd_is_good_question f) (f.glo 14 rfl) rfl (a_cons2 (e_var (pv 0)) (a_nil))))) (ss_one (s_raiseC c f (i := 71) (g := 50) rfl rfl rfl)) (ss_nil))
theorem sc_need_question : FnScope N_need_question ["value"] (defScope s_need_question) := ⟨rfl, rfl, rfl, by decide +kernel, rfl, by decide +kernel, by decide +kernel⟩
theorem b_need_plan (f : Fac fa fn K mg) {k : Nat} {cdv : Value} {S_is_good_plan : SpD} {j_is_good_plan : Nat} (h_is_good_plan : OkF P w K mg base T j_is_good_plan "is_good_plan" ["question", "value"] S_is_good_plan) (l_is_good_plan : j_is_good_plan ≤ k) {A : Around} {outer : List Env} {s : Shared} {H : Hp} {E : XK} (c : CtxE (DX P w K mg base N_need_plan "need_plan" (defScope s_need_plan) (He.ga K "need_plan") cdv A outer s H E) E k) :
    SsJ T (DX P w K mg base N_need_plan "need_plan" (defScope s_need_plan) (He.ga K "need_plan") cdv A outer s H E) E (defBody s_need_plan) (m_need_plan S_is_good_plan (He.ga K "InvalidPlan")) := by
  exact ss_one (s_if (t_not (t_val (e_call2 c h_is_good_plan l_is_good_plan (fun_is_good_plan f).kp (bd_is_good_plan f) (f.glo 21 rfl) rfl (a_cons2 (e_var (pv 0)) (a_cons2 (e_var (pv 1)) (a_nil)))))) (ss_one (s_raiseC c f (i := 72) (g := 51) rfl rfl rfl)) (ss_nil))
theorem sc_need_plan : FnScope N_need_plan ["question", "value"] (defScope s_need_plan) := ⟨rfl, rfl, rfl, by decide +kernel, rfl, by decide +kernel, by decide +kernel⟩
theorem b_need_both (f : Fac fa fn K mg) {k : Nat} {cdv : Value} {S_need_question : SpD} {j_need_question : Nat} (h_need_question : OkF P w K mg base T j_need_question "need_question" ["value"] S_need_question) (l_need_question : j_need_question ≤ k) {S_need_plan : SpD} {j_need_plan : Nat} (h_need_plan : OkF P w K mg base T j_need_plan "need_plan" ["question", "value"] S_need_plan) (l_need_plan : j_need_plan ≤ k) {A : Around} {outer : List Env} {s : Shared} {H : Hp} {E : XK} (c : CtxE (DX P w K mg base N_need_both "need_both" (defScope s_need_both) (He.ga K "need_both") cdv A outer s H E) E k) :
    SsJ T (DX P w K mg base N_need_both "need_both" (defScope s_need_both) (He.ga K "need_both") cdv A outer s H E) E (defBody s_need_both) (m_need_both S_need_question S_need_plan) := by
  exact ss_cons (s_expr (e_call2 c h_need_question l_need_question (fun_need_question f).kp (bd_need_question f) (f.glo 22 rfl) rfl (a_cons2 (e_var (pv 0)) (a_nil)))) (ss_one (s_expr (e_call2 c h_need_plan l_need_plan (fun_need_plan f).kp (bd_need_plan f) (f.glo 23 rfl) rfl (a_cons2 (e_var (pv 0)) (a_cons2 (e_var (pv 1)) (a_nil))))))
theorem sc_need_both : FnScope N_need_both ["question", "plan"] (defScope s_need_both) := ⟨rfl, rfl, rfl, by decide +kernel, rfl, by decide +kernel, by decide +kernel⟩
theorem b_size_of (f : Fac fa fn K mg) {k : Nat} {cdv : Value} {S_reduced : SpD} {j_reduced : Nat} (h_reduced : OkF P w K mg base T j_reduced "reduced" ["top", "below"] S_reduced) (l_reduced : j_reduced ≤ k) {A : Around} {outer : List Env} {s : Shared} {H : Hp} {E : XK} (c : CtxE (DX P w K mg base N_size_of "size_of" (defScope s_size_of) (He.ga K "size_of") cdv A outer s H E) E k) :
    SsJ T (DX P w K mg base N_size_of "size_of" (defScope s_size_of) (He.ga K "size_of") cdv A outer s H E) E (defBody s_size_of) (m_size_of S_reduced) := by
  exact ss_cons (s_asg (e_const 9 (by kernel_rfl)) (tg_tup c.calm (show PGs _ _ (gNames [2, 3, 4]) from pgs_cons (pg_name (i := 2) c.nd rfl (by first | exact .inl rfl | exact .inr rfl)) (pgs_cons (pg_name (i := 3) c.nd rfl (by first | exact .inl rfl | exact .inr rfl)) (pgs_cons (pg_name (i := 4) c.nd rfl (by first | exact .inl rfl | exact .inr rfl)) (pgs_nil)))))) (ss_cons (s_for dx_own c.calm (i_tup (e_var (pv 1))) (tg_name (i := 5) c.nd rfl (by first | exact .inl rfl | exact .inr rfl)) (ss_one (s_par (i := 3) (j := 2) c.calm c.nd rfl rfl (by decide) rfl rfl (a_cons2 (e_bin o_mul (e_var (pv 3)) (e_ix (e_ix (e_ix (e_var (pv 0)) (e_int)) (e_var (pv 5))) (e_int))) (a_cons2 (e_bin o_add (e_var (pv 2)) (e_ix (e_ix (e_ix (e_var (pv 0)) (e_int)) (e_var (pv 5))) (e_int))) (a_nil)))))) (ss_cons (s_for dx_own c.calm (i_tup (e_ix (e_var (pv 0)) (e_int))) (tg_tup c.calm (show PGs _ _ (gNames [6, 7, 8, 9]) from pgs_cons (pg_name (i := 6) c.nd rfl (by first | exact .inl rfl | exact .inr rfl)) (pgs_cons (pg_name (i := 7) c.nd rfl (by first | exact .inl rfl | exact .inr rfl)) (pgs_cons (pg_name (i := 8) c.nd rfl (by first | exact .inl rfl | exact .inr rfl)) (pgs_cons (pg_name (i := 9) c.nd rfl (by first | exact .inl rfl | exact .inr rfl)) (pgs_nil)))))) (ss_one (s_if (WJ.t (w_and (t_cmp (o_in c.hu) (e_var (pv 6)) (e_var (pv 1)) rfl) (w_and1 (t_cmp (o_in c.hu) (e_var (pv 7)) (e_var (pv 1)) rfl)))) (ss_one (s_par (i := 4) (j := 2) c.calm c.nd rfl rfl (by decide) rfl rfl (a_cons2 (e_bin o_mul (e_var (pv 4)) (e_var (pv 8))) (a_cons2 (e_bin o_sub (e_var (pv 2)) (e_var (pv 9))) (a_nil))))) (ss_nil)))) (ss_one (s_ret (e_tup (a_cons2 (e_bin o_add (e_tup (a_cons2 (e_var (pv 2)) (a_nil))) (e_call2 c h_reduced l_reduced (fun_reduced f).kp (bd_reduced f) (f.glo 3 rfl) rfl (a_cons2 (e_var (pv 3)) (a_cons2 (e_var (pv 4)) (a_nil))))) (a_nil)))))))
theorem sc_size_of : FnScope N_size_of ["question", "tables"] (defScope s_size_of) := ⟨rfl, rfl, rfl, by decide +kernel, rfl, by decide +kernel, by decide +kernel⟩
theorem b_join_form (f : Fac fa fn K mg) {k : Nat} {cdv : Value} {S_size_of : SpD} {j_size_of : Nat} (h_size_of : OkF P w K mg base T j_size_of "size_of" ["question", "tables"] S_size_of) (l_size_of : j_size_of ≤ k) {S_added : SpD} {j_added : Nat} (h_added : OkF P w K mg base T j_added "added" ["forms"] S_added) (l_added : j_added ≤ k) {S_product : SpD} {j_product : Nat} (h_product : OkF P w K mg base T j_product "product" ["one", "other"] S_product) (l_product : j_product ≤ k) {S_scaled : SpD} {j_scaled : Nat} (h_scaled : OkF P w K mg base T j_scaled "scaled" ["form", "many"] S_scaled) (l_scaled : j_scaled ≤ k) {A : Around} {outer : List Env} {s : Shared} {H : Hp} {E : XK} (c : CtxE (DX P w K mg base N_join_form "join_form" (defScope s_join_form) (He.ga K "join_form") cdv A outer s H E) E k) :
    SsJ T (DX P w K mg base N_join_form "join_form" (defScope s_join_form) (He.ga K "join_form") cdv A outer s H E) E (defBody s_join_form) (m_join_form S_size_of S_added S_product S_scaled) := by
  exact ss_cons (s_par (i := 4) (j := 5) c.calm c.nd rfl rfl (by decide) rfl rfl (a_cons2 (e_call2 c h_size_of l_size_of (fun_size_of f).kp (bd_size_of f) (f.glo 25 rfl) rfl (a_cons2 (e_var (pv 0)) (a_cons2 (e_var (pv 1)) (a_nil)))) (a_cons2 (e_call2 c h_size_of l_size_of (fun_size_of f).kp (bd_size_of f) (f.glo 25 rfl) rfl (a_cons2 (e_var (pv 0)) (a_cons2 (e_var (pv 2)) (a_nil)))) (a_nil)))) (ss_cons (s_set (i := 6) c.nd rfl (by first | exact .inl rfl | exact .inr rfl) (e_call2 c h_size_of l_size_of (fun_size_of f).kp (bd_size_of f) (f.glo 25 rfl) rfl (a_cons2 (e_var (pv 0)) (a_cons2 (e_callTy2 c_tuple rfl (f.fre 67 rfl) bb_tuple (a_cons2 (e_callB2 (c_sorted c.hu) rfl (f.fre 65 rfl) bb_sorted (a_cons2 (e_bin o_add (e_var (pv 1)) (e_var (pv 2))) (a_nil))) (a_nil))) (a_nil))))) (ss_cons (s_if (t_cmp (o_eq c.hu) (e_var (pv 3)) (e_str) rfl) (ss_one (s_ret (e_call2 c h_added l_added (fun_added f).kp (bd_added f) (f.glo 6 rfl) rfl (a_cons2 (e_lst (a_cons2 (e_var (pv 6)) (a_cons2 (e_call2 c h_product l_product (fun_product f).kp (bd_product f) (f.glo 8 rfl) rfl (a_cons2 (e_var (pv 4)) (a_cons2 (e_var (pv 5)) (a_nil)))) (a_nil)))) (a_nil))))) (ss_nil)) (ss_cons (s_if (t_cmp (o_eq c.hu) (e_var (pv 3)) (e_str) rfl) (ss_one (s_ret (e_call2 c h_added l_added (fun_added f).kp (bd_added f) (f.glo 6 rfl) rfl (a_cons2 (e_lst (a_cons2 (e_var (pv 6)) (a_cons2 (e_var (pv 4)) (a_cons2 (e_var (pv 5)) (a_nil))))) (a_nil))))) (ss_nil)) (ss_one (s_ret (e_call2 c h_added l_added (fun_added f).kp (bd_added f) (f.glo 6 rfl) rfl (a_cons2 (e_lst (a_cons2 (e_var (pv 6)) (a_cons2 (e_call2 c h_scaled l_scaled (fun_scaled f).kp (bd_scaled f) (f.glo 7 rfl) rfl (a_cons2 (e_var (pv 4)) (a_cons2 (e_int) (a_nil)))) (a_nil)))) (a_nil))))))))
theorem sc_join_form : FnScope N_join_form ["question", "left", "right", "method"] (defScope s_join_form) := ⟨rfl, rfl, rfl, by decide +kernel, rfl, by decide +kernel, by decide +kernel⟩
theorem b_cost_of (f : Fac fa fn K mg) {k : Nat} {cdv : Value} {S_size_of : SpD} {j_size_of : Nat} (h_size_of : OkF P w K mg base T j_size_of "size_of" ["question", "tables"] S_size_of) (l_size_of : j_size_of ≤ k) {S_cost_of : SpD} {j_cost_of : Nat} (h_cost_of : OkF P w K mg base T j_cost_of "cost_of" ["question", "plan"] S_cost_of) (l_cost_of : j_cost_of ≤ k) {S_join_form : SpD} {j_join_form : Nat} (h_join_form : OkF P w K mg base T j_join_form "join_form" ["question", "left", "right", "method"] S_join_form) (l_join_form : j_join_form ≤ k) {S_tables_in : SpD} {j_tables_in : Nat} (h_tables_in : OkF P w K mg base T j_tables_in "tables_in" ["plan"] S_tables_in) (l_tables_in : j_tables_in ≤ k) {S_added : SpD} {j_added : Nat} (h_added : OkF P w K mg base T j_added "added" ["forms"] S_added) (l_added : j_added ≤ k) {A : Around} {outer : List Env} {s : Shared} {H : Hp} {E : XK} (c : CtxE (DX P w K mg base N_cost_of "cost_of" (defScope s_cost_of) (He.ga K "cost_of") cdv A outer s H E) E k) :
    SsJ T (DX P w K mg base N_cost_of "cost_of" (defScope s_cost_of) (He.ga K "cost_of") cdv A outer s H E) E (defBody s_cost_of) (m_cost_of S_size_of S_cost_of S_join_form S_tables_in S_added) := by
  exact ss_cons (s_if (t_val (e_isi (e_var (pv 1)) rfl (f.fre 58 rfl) rfl (f.fre 57 rfl) bb_int)) (ss_one (s_ret (e_call2 c h_size_of l_size_of (fun_size_of f).kp (bd_size_of f) (f.glo 25 rfl) rfl (a_cons2 (e_var (pv 0)) (a_cons2 (e_tup (a_cons2 (e_var (pv 1)) (a_nil))) (a_nil)))))) (ss_nil)) (ss_cons (s_set (i := 2) c.nd rfl (by first | exact .inl rfl | exact .inr rfl) (e_lst (a_cons2 (e_call2 c h_cost_of l_cost_of (fun_cost_of f).kp (bd_cost_of f) (f.glo 27 rfl) rfl (a_cons2 (e_var (pv 0)) (a_cons2 (e_ix (e_var (pv 1)) (e_int)) (a_nil)))) (a_cons2 (e_call2 c h_join_form l_join_form (fun_join_form f).kp (bd_join_form f) (f.glo 26 rfl) rfl (a_cons2 (e_var (pv 0)) (a_cons2 (e_call2 c h_tables_in l_tables_in (fun_tables_in f).kp (bd_tables_in f) (f.glo 17 rfl) rfl (a_cons2 (e_ix (e_var (pv 1)) (e_int)) (a_nil))) (a_cons2 (e_call2 c h_tables_in l_tables_in (fun_tables_in f).kp (bd_tables_in f) (f.glo 17 rfl) rfl (a_cons2 (e_ix (e_var (pv 1)) (e_int)) (a_nil))) (a_cons2 (e_ix (e_var (pv 1)) (e_int)) (a_nil)))))) (a_nil))))) (ss_one (s_ret (e_call2 c h_added l_added (fun_added f).kp (bd_added f) (f.glo 6 rfl) rfl (a_cons2 (e_bin o_add (e_var (pv 2)) (e_if (t_cmp (o_ne c.hu) (e_ix (e_var (pv 1)) (e_int)) (e_str) rfl) (e_lst (a_cons2 (e_call2 c h_cost_of l_cost_of (fun_cost_of f).kp (bd_cost_of f) (f.glo 27 rfl) rfl (a_cons2 (e_var (pv 0)) (a_cons2 (e_ix (e_var (pv 1)) (e_int)) (a_nil)))) (a_nil))) (e_const 9 (by kernel_rfl)))) (a_nil))))))
theorem sc_cost_of : FnScope N_cost_of ["question", "plan"] (defScope s_cost_of) := ⟨rfl, rfl, rfl, by decide +kernel, rfl, by decide +kernel, by decide +kernel⟩
theorem b_cost (f : Fac fa fn K mg) {k : Nat} {cdv : Value} {S_need_both : SpD} {j_need_both : Nat} (h_need_both : OkF P w K mg base T j_need_both "need_both" ["question", "plan"] S_need_both) (l_need_both : j_need_both ≤ k) {S_cost_of : SpD} {j_cost_of : Nat} (h_cost_of : OkF P w K mg base T j_cost_of "cost_of" ["question", "plan"] S_cost_of) (l_cost_of : j_cost_of ≤ k) {A : Around} {outer : List Env} {s : Shared} {H : Hp} {E : XK} (c : CtxE (DX P w K mg base N_cost "cost" (defScope s_cost) (He.ga K "cost") cdv A outer s H E) E k) :
    SsJ T (DX P w K mg base N_cost "cost" (defScope s_cost) (He.ga K "cost") cdv A outer s H E) E (defBody s_cost) (m_cost S_need_both S_cost_of) := by
  exact ss_cons (s_expr (e_call2 c h_need_both l_need_both (fun_need_both f).kp (bd_need_both f) (f.glo 24 rfl) rfl (a_cons2 (e_var (pv 0)) (a_cons2 (e_var (pv 1)) (a_nil))))) (ss_one (s_ret (e_call2 c h_cost_of l_cost_of (fun_cost_of f).kp (bd_cost_of f) (f.glo 27 rfl) rfl (a_cons2 (e_var (pv 0)) (a_cons2 (e_var (pv 1)) (a_nil))))))
theorem sc_cost : FnScope N_cost ["question", "plan"] (defScope s_cost) := ⟨rfl, rfl, rfl, by decide +kernel, rfl, by decide +kernel, by decide +kernel⟩
theorem b_cost_at (f : Fac fa fn K mg) {k : Nat} {cdv : Value} {S_need_both : SpD} {j_need_both : Nat} (h_need_both : OkF P w K mg base T j_need_both "need_both" ["question", "plan"] S_need_both) (l_need_both : j_need_both ≤ k) {S_need_n : SpD} {j_need_n : Nat} (h_need_n : OkF P w K mg base T j_need_n "need_n" ["value", "most"] S_need_n) (l_need_n : j_need_n ≤ k) {S_worth_of : SpD} {j_worth_of : Nat} (h_worth_of : OkF P w K mg base T j_worth_of "worth_of" ["form", "n"] S_worth_of) (l_worth_of : j_worth_of ≤ k) {S_cost_of : SpD} {j_cost_of : Nat} (h_cost_of : OkF P w K mg base T j_cost_of "cost_of" ["question", "plan"] S_cost_of) (l_cost_of : j_cost_of ≤ k) {A : Around} {outer : List Env} {s : Shared} {H : Hp} {E : XK} (c : CtxE (DX P w K mg base N_cost_at "cost_at" (defScope s_cost_at) (He.ga K "cost_at") cdv A outer s H E) E k) :
    SsJ T (DX P w K mg base N_cost_at "cost_at" (defScope s_cost_at) (He.ga K "cost_at") cdv A outer s H E) E (defBody s_cost_at) (m_cost_at S_need_both S_need_n S_worth_of S_cost_of) := by
  exact ss_cons (s_expr (e_call2 c h_need_both l_need_both (fun_need_both f).kp (bd_need_both f) (f.glo 24 rfl) rfl (a_cons2 (e_var (pv 0)) (a_cons2 (e_var (pv 1)) (a_nil))))) (ss_cons (s_expr (e_call2 c h_need_n l_need_n (fun_need_n f).kp (bd_need_n f) (f.glo 4 rfl) rfl (a_cons2 (e_var (pv 2)) (a_cons2 (e_globInt f (i := 73) rfl rfl) (a_nil))))) (ss_one (s_ret (e_call2 c h_worth_of l_worth_of (fun_worth_of f).kp (bd_worth_of f) (f.glo 10 rfl) rfl (a_cons2 (e_call2 c h_cost_of l_cost_of (fun_cost_of f).kp (bd_cost_of f) (f.glo 27 rfl) rfl (a_cons2 (e_var (pv 0)) (a_cons2 (e_var (pv 1)) (a_nil)))) (a_cons2 (e_var (pv 2)) (a_nil)))))))
theorem sc_cost_at : FnScope N_cost_at ["question", "plan", "n"] (defScope s_cost_at) := ⟨rfl, rfl, rfl, by decide +kernel, rfl, by decide +kernel, by decide +kernel⟩
theorem b_law_source (f : Fac fa fn K mg) {k : Nat} {cdv : Value} {A : Around} {outer : List Env} {s : Shared} {H : Hp} {E : XK} (c : CtxE (DX P w K mg base N_law_source "_law_source" (defScope s_law_source) (He.ga K "_law_source") cdv A outer s H E) E k) :
    SsJ T (DX P w K mg base N_law_source "_law_source" (defScope s_law_source) (He.ga K "_law_source") cdv A outer s H E) E (defBody s_law_source) (m_law_source K) := by
  exact ss_cons (s_set (i := 2) c.nd rfl (by first | exact .inl rfl | exact .inr rfl) (e_int)) (ss_cons (s_if (t_cmp (o_lt c.hu) (e_var (pv 1)) (e_callB2 c_lenS rfl (f.fre 59 rfl) bb_len (a_cons2 (e_var (pv 0)) (a_nil))) rfl) (ss_one (s_set (i := 2) c.nd rfl (by first | exact .inl rfl | exact .inr rfl) (e_callB2 c_abs rfl (f.fre 53 rfl) bb_abs (a_cons2 (e_callTy2 c_int rfl (f.fre 57 rfl) bb_int (a_cons2 (e_scrIx (pv 0) (e_var (pv 1))) (a_nil))) (a_nil))))) (ss_nil)) (ss_cons (s_if (t_cmp (o_lt c.hu) (e_var (pv 2)) (e_bin o_pow (e_int) (e_int)) rfl) (ss_one (s_retSrc (n_lst (a_cons2 (e_int) (a_cons2 (e_bin o_add (e_int) (e_bin o_mod (e_callTy2 c_int rfl (f.fre 57 rfl) bb_int (a_cons2 (e_bin o_add (e_bin o_mul (e_var (pv 2)) (e_int)) (e_bin o_mul (e_int) (e_var (pv 1)))) (a_nil))) (e_int))) (a_nil)))))) (ss_nil)) (ss_one (s_retSrc (n_lst (a_cons2 (e_var (pv 2)) (a_cons2 (e_bin o_add (e_int) (e_bin o_mod (e_callTy2 c_int rfl (f.fre 57 rfl) bb_int (a_cons2 (e_bin o_add (e_var (pv 2)) (e_var (pv 1))) (a_nil))) (e_int))) (a_nil))))))))
theorem sc_law_source : FnScope N_law_source ["_law_script", "_law_k"] (defScope s_law_source) := ⟨rfl, rfl, rfl, by decide +kernel, rfl, by decide +kernel, by decide +kernel⟩
theorem b_law_draw (f : Fac fa fn K mg) {k : Nat} {cdv : Value} {A : Around} {outer : List Env} {s : Shared} {H : Hp} {E : XK} (c : CtxE (DX P w K mg base N_law_draw "_law_draw" (defScope s_law_draw) (He.ga K "_law_draw") cdv A outer s H E) E k) :
    SsJ T (DX P w K mg base N_law_draw "_law_draw" (defScope s_law_draw) (He.ga K "_law_draw") cdv A outer s H E) E (defBody s_law_draw) (m_law_draw) := by
  exact ss_cons (s_if (t_cmp o_gt (e_srcIx (j := 0) (by decide) (pv 0)) (e_int) rfl) (ss_cons (s_set (i := 2) c.nd rfl (by first | exact .inl rfl | exact .inr rfl) (e_bin o_mod (e_callTy2 c_int rfl (f.fre 57 rfl) bb_int (a_cons2 (e_srcIx (j := 0) (by decide) (pv 0)) (a_nil))) (e_var (pv 1)))) (ss_cons (s_srcPut (j := 0) (by decide) (pv 0) (e_bin o_fdiv (e_srcIx (j := 0) (by decide) (pv 0)) (e_var (pv 1)))) (ss_one (s_ret (e_var (pv 2)))))) (ss_nil)) (ss_cons (s_srcPut (j := 1) (by decide) (pv 0) (e_bin o_mod (e_callTy2 c_int rfl (f.fre 57 rfl) bb_int (a_cons2 (e_bin o_mul (e_srcIx (j := 1) (by decide) (pv 0)) (e_int)) (a_nil))) (e_int))) (ss_one (s_ret (e_bin o_mod (e_callTy2 c_int rfl (f.fre 57 rfl) bb_int (a_cons2 (e_bin o_fdiv (e_bin o_mod (e_callTy2 c_int rfl (f.fre 57 rfl) bb_int (a_cons2 (e_bin o_mul (e_srcIx (j := 1) (by decide) (pv 0)) (e_srcIx (j := 1) (by decide) (pv 0))) (a_nil))) (e_int)) (e_int)) (a_nil))) (e_var (pv 1))))))
theorem sc_law_draw : FnScope N_law_draw ["_law_source_here", "_law_many"] (defScope s_law_draw) := ⟨rfl, rfl, rfl, by decide +kernel, rfl, by decide +kernel, by decide +kernel⟩
theorem b_law_of (f : Fac fa fn K mg) {k : Nat} {cdv : Value} {S_law_draw : SpD} {j_law_draw : Nat} (h_law_draw : OkF P w K mg base T j_law_draw "_law_draw" ["_law_source_here", "_law_many"] S_law_draw) (l_law_draw : j_law_draw ≤ k) {A : Around} {outer : List Env} {s : Shared} {H : Hp} {E : XK} (c : CtxE (DX P w K mg base N_law_of "_law_of" (defScope s_law_of) (He.ga K "_law_of") cdv A outer s H E) E k) :
    SsJ T (DX P w K mg base N_law_of "_law_of" (defScope s_law_of) (He.ga K "_law_of") cdv A outer s H E) E (defBody s_law_of) (m_law_of S_law_draw) := by
  exact ss_one (s_ret (e_ix (e_var (pv 1)) (e_call2 c h_law_draw l_law_draw (fun_law_draw f).kp (bd_law_draw f) (f.glo 31 rfl) rfl (a_cons2 (e_var (pv 0)) (a_cons2 (e_callB2 c_len rfl (f.fre 59 rfl) bb_len (a_cons2 (e_var (pv 1)) (a_nil))) (a_nil))))))
theorem sc_law_of : FnScope N_law_of ["_law_source_here", "_law_items"] (defScope s_law_of) := ⟨rfl, rfl, rfl, by decide +kernel, rfl, by decide +kernel, by decide +kernel⟩
theorem b_law_common (f : Fac fa fn K mg) {k : Nat} {cdv : Value} {A : Around} {outer : List Env} {s : Shared} {H : Hp} {E : XK} (c : CtxE (DX P w K mg base N_law_common "_law_common" (defScope s_law_common) (He.ga K "_law_common") cdv A outer s H E) E k) :
    SsJ T (DX P w K mg base N_law_common "_law_common" (defScope s_law_common) (He.ga K "_law_common") cdv A outer s H E) E (defBody s_law_common) (m_law_common) := by
  exact ss_cons (s_par (i := 0) (j := 1) c.calm c.nd rfl rfl (by decide) rfl rfl (a_cons2 (e_callB2 c_abs rfl (f.fre 53 rfl) bb_abs (a_cons2 (e_var (pv 0)) (a_nil))) (a_cons2 (e_callB2 c_abs rfl (f.fre 53 rfl) bb_abs (a_cons2 (e_var (pv 1)) (a_nil))) (a_nil)))) (ss_cons (s_while dx_own (t_cmp (o_ne c.hu) (e_var (pv 1)) (e_int) rfl) (ss_one (s_par (i := 0) (j := 1) c.calm c.nd rfl rfl (by decide) rfl rfl (a_cons2 (e_var (pv 1)) (a_cons2 (e_bin o_mod (e_var (pv 0)) (e_var (pv 1))) (a_nil)))))) (ss_one (s_ret (e_var (pv 0)))))
theorem sc_law_common : FnScope N_law_common ["_law_one", "_law_other"] (defScope s_law_common) := ⟨rfl, rfl, rfl, by decide +kernel, rfl, by decide +kernel, by decide +kernel⟩
theorem b_law_fraction (f : Fac fa fn K mg) {k : Nat} {cdv : Value} {S_law_common : SpD} {j_law_common : Nat} (h_law_common : OkF P w K mg base T j_law_common "_law_common" ["_law_one", "_law_other"] S_law_common) (l_law_common : j_law_common ≤ k) {A : Around} {outer : List Env} {s : Shared} {H : Hp} {E : XK} (c : CtxE (DX P w K mg base N_law_fraction "_law_fraction" (defScope s_law_fraction) (He.ga K "_law_fraction") cdv A outer s H E) E k) :
    SsJ T (DX P w K mg base N_law_fraction "_law_fraction" (defScope s_law_fraction) (He.ga K "_law_fraction") cdv A outer s H E) E (defBody s_law_fraction) (m_law_fraction S_law_common) := by
  exact ss_cons (s_set (i := 2) c.nd rfl (by first | exact .inl rfl | exact .inr rfl) (e_call2 c h_law_common l_law_common (fun_law_common f).kp (bd_law_common f) (f.glo 33 rfl) rfl (a_cons2 (e_var (pv 0)) (a_cons2 (e_var (pv 1)) (a_nil))))) (ss_one (s_ret (e_tup (a_cons2 (e_bin o_fdiv (e_var (pv 0)) (e_var (pv 2))) (a_cons2 (e_bin o_fdiv (e_var (pv 1)) (e_var (pv 2))) (a_nil))))))
theorem sc_law_fraction : FnScope N_law_fraction ["_law_top", "_law_below"] (defScope s_law_fraction) := ⟨rfl, rfl, rfl, by decide +kernel, rfl, by decide +kernel, by decide +kernel⟩
theorem b_law_power (f : Fac fa fn K mg) {k : Nat} {cdv : Value} {A : Around} {outer : List Env} {s : Shared} {H : Hp} {E : XK} (c : CtxE (DX P w K mg base N_law_power "_law_power" (defScope s_law_power) (He.ga K "_law_power") cdv A outer s H E) E k) :
    SsJ T (DX P w K mg base N_law_power "_law_power" (defScope s_law_power) (He.ga K "_law_power") cdv A outer s H E) E (defBody s_law_power) (m_law_power) := by
  exact ss_cons (s_set (i := 2) c.nd rfl (by first | exact .inl rfl | exact .inr rfl) (e_int)) (ss_cons (s_for dx_own c.calm (i_range1 rfl (f.fre 63 rfl) (a_cons2 (e_var (pv 1)) (a_nil))) (tg_name (i := 3) c.nd rfl (by first | exact .inl rfl | exact .inr rfl)) (ss_one (s_set (i := 2) c.nd rfl (by first | exact .inl rfl | exact .inr rfl) (e_bin o_mul (e_var (pv 2)) (e_var (pv 0)))))) (ss_one (s_ret (e_var (pv 2)))))
theorem sc_law_power : FnScope N_law_power ["_law_n", "_law_many"] (defScope s_law_power) := ⟨rfl, rfl, rfl, by decide +kernel, rfl, by decide +kernel, by decide +kernel⟩
theorem b_law_worth (f : Fac fa fn K mg) {k : Nat} {cdv : Value} {S_law_power : SpD} {j_law_power : Nat} (h_law_power : OkF P w K mg base T j_law_power "_law_power" ["_law_n", "_law_many"] S_law_power) (l_law_power : j_law_power ≤ k) {S_law_fraction : SpD} {j_law_fraction : Nat} (h_law_fraction : OkF P w K mg base T j_law_fraction "_law_fraction" ["_law_top", "_law_below"] S_law_fraction) (l_law_fraction : j_law_fraction ≤ k) {A : Around} {outer : List Env} {s : Shared} {H : Hp} {E : XK} (c : CtxE (DX P w K mg base N_law_worth "_law_worth" (defScope s_law_worth) (He.ga K "_law_worth") cdv A outer s H E) E k) :
    SsJ T (DX P w K mg base N_law_worth "_law_worth" (defScope s_law_worth) (He.ga K "_law_worth") cdv A outer s H E) E (defBody s_law_worth) (m_law_worth S_law_power S_law_fraction) := by
  exact ss_cons (s_asg (e_const 9 (by kernel_rfl)) (tg_tup c.calm (show PGs _ _ (gNames [2, 3, 4]) from pgs_cons (pg_name (i := 2) c.nd rfl (by first | exact .inl rfl | exact .inr rfl)) (pgs_cons (pg_name (i := 3) c.nd rfl (by first | exact .inl rfl | exact .inr rfl)) (pgs_cons (pg_name (i := 4) c.nd rfl (by first | exact .inl rfl | exact .inr rfl)) (pgs_nil)))))) (ss_cons (s_for dx_own c.calm (i_tup (e_var (pv 0))) (tg_tup c.calm (show PGs _ _ (gNames [5, 6, 7]) from pgs_cons (pg_name (i := 5) c.nd rfl (by first | exact .inl rfl | exact .inr rfl)) (pgs_cons (pg_name (i := 6) c.nd rfl (by first | exact .inl rfl | exact .inr rfl)) (pgs_cons (pg_name (i := 7) c.nd rfl (by first | exact .inl rfl | exact .inr rfl)) (pgs_nil))))) (ss_one (s_set (i := 4) c.nd rfl (by first | exact .inl rfl | exact .inr rfl) (e_callB2 (c_max c.calm) rfl (f.fre 61 rfl) bb_max (a_cons2 (e_var (pv 4)) (a_cons2 (e_bin o_sub (e_int) (e_var (pv 5))) (a_nil))))))) (ss_cons (s_for dx_own c.calm (i_tup (e_var (pv 0))) (tg_tup c.calm (show PGs _ _ (gNames [5, 6, 7]) from pgs_cons (pg_name (i := 5) c.nd rfl (by first | exact .inl rfl | exact .inr rfl)) (pgs_cons (pg_name (i := 6) c.nd rfl (by first | exact .inl rfl | exact .inr rfl)) (pgs_cons (pg_name (i := 7) c.nd rfl (by first | exact .inl rfl | exact .inr rfl)) (pgs_nil))))) (ss_cons (s_set (i := 8) c.nd rfl (by first | exact .inl rfl | exact .inr rfl) (e_bin o_mul (e_var (pv 6)) (e_call2 c h_law_power l_law_power (fun_law_power f).kp (bd_law_power f) (f.glo 35 rfl) rfl (a_cons2 (e_var (pv 1)) (a_cons2 (e_bin o_add (e_var (pv 5)) (e_var (pv 4))) (a_nil)))))) (ss_one (s_par (i := 2) (j := 3) c.calm c.nd rfl rfl (by decide) rfl rfl (a_cons2 (e_bin o_add (e_bin o_mul (e_var (pv 2)) (e_var (pv 7))) (e_bin o_mul (e_var (pv 8)) (e_var (pv 3)))) (a_cons2 (e_bin o_mul (e_var (pv 3)) (e_var (pv 7))) (a_nil))))))) (ss_one (s_ret (e_call2 c h_law_fraction l_law_fraction (fun_law_fraction f).kp (bd_law_fraction f) (f.glo 34 rfl) rfl (a_cons2 (e_var (pv 2)) (a_cons2 (e_bin o_mul (e_var (pv 3)) (e_call2 c h_law_power l_law_power (fun_law_power f).kp (bd_law_power f) (f.glo 35 rfl) rfl (a_cons2 (e_var (pv 1)) (a_cons2 (e_var (pv 4)) (a_nil))))) (a_nil))))))))
theorem sc_law_worth : FnScope N_law_worth ["_law_form", "_law_n"] (defScope s_law_worth) := ⟨rfl, rfl, rfl, by decide +kernel, rfl, by decide +kernel, by decide +kernel⟩
theorem b_law_sum (f : Fac fa fn K mg) {k : Nat} {cdv : Value} {S_law_fraction : SpD} {j_law_fraction : Nat} (h_law_fraction : OkF P w K mg base T j_law_fraction "_law_fraction" ["_law_top", "_law_below"] S_law_fraction) (l_law_fraction : j_law_fraction ≤ k) {A : Around} {outer : List Env} {s : Shared} {H : Hp} {E : XK} (c : CtxE (DX P w K mg base N_law_sum "_law_sum" (defScope s_law_sum) (He.ga K "_law_sum") cdv A outer s H E) E k) :
    SsJ T (DX P w K mg base N_law_sum "_law_sum" (defScope s_law_sum) (He.ga K "_law_sum") cdv A outer s H E) E (defBody s_law_sum) (m_law_sum S_law_fraction) := by
  exact ss_one (s_ret (e_call2 c h_law_fraction l_law_fraction (fun_law_fraction f).kp (bd_law_fraction f) (f.glo 34 rfl) rfl (a_cons2 (e_bin o_add (e_bin o_mul (e_ix (e_var (pv 0)) (e_int)) (e_ix (e_var (pv 1)) (e_int))) (e_bin o_mul (e_ix (e_var (pv 1)) (e_int)) (e_ix (e_var (pv 0)) (e_int)))) (a_cons2 (e_bin o_mul (e_ix (e_var (pv 0)) (e_int)) (e_ix (e_var (pv 1)) (e_int))) (a_nil)))))
theorem sc_law_sum : FnScope N_law_sum ["_law_one", "_law_other"] (defScope s_law_sum) := ⟨rfl, rfl, rfl, by decide +kernel, rfl, by decide +kernel, by decide +kernel⟩
theorem b_law_question (f : Fac fa fn K mg) {k : Nat} {cdv : Value} {S_law_draw : SpD} {j_law_draw : Nat} (h_law_draw : OkF P w K mg base T j_law_draw "_law_draw" ["_law_source_here", "_law_many"] S_law_draw) (l_law_draw : j_law_draw ≤ k) {S_law_of : SpD} {j_law_of : Nat} (h_law_of : OkF P w K mg base T j_law_of "_law_of" ["_law_source_here", "_law_items"] S_law_of) (l_law_of : j_law_of ≤ k) {A : Around} {outer : List Env} {s : Shared} {H : Hp} {E : XK} (c : CtxE (DX P w K mg base N_law_question "_law_question" (defScope s_law_question) (He.ga K "_law_question") cdv A outer s H E) E k) :
    SsJ T (DX P w K mg base N_law_question "_law_question" (defScope s_law_question) (He.ga K "_law_question") cdv A outer s H E) E (defBody s_law_question) (m_law_question S_law_draw S_law_of) := by
  exact ss_cons (s_set (i := 2) c.nd rfl (by first | exact .inl rfl | exact .inr rfl) (e_bin o_add (e_int) (e_call2 c h_law_draw l_law_draw (fun_law_draw f).kp (bd_law_draw f) (f.glo 31 rfl) rfl (a_cons2 (e_var (pv 0)) (a_cons2 (e_bin o_sub (e_var (pv 1)) (e_int)) (a_nil)))))) (ss_cons (s_asg (e_const 9 (by kernel_rfl)) (tg_tup c.calm (show PGs _ _ (gNames [3, 4, 5]) from pgs_cons (pg_name (i := 3) c.nd rfl (by first | exact .inl rfl | exact .inr rfl)) (pgs_cons (pg_name (i := 4) c.nd rfl (by first | exact .inl rfl | exact .inr rfl)) (pgs_cons (pg_name (i := 5) c.nd rfl (by first | exact .inl rfl | exact .inr rfl)) (pgs_nil)))))) (ss_cons (s_for dx_own c.calm (i_range1 rfl (f.fre 63 rfl) (a_cons2 (e_var (pv 2)) (a_nil))) (tg_name (i := 6) c.nd rfl (by first | exact .inl rfl | exact .inr rfl)) (ss_cons (s_set (i := 7) c.nd rfl (by first | exact .inl rfl | exact .inr rfl) (e_call2 c h_law_of l_law_of (fun_law_of f).kp (bd_law_of f) (f.glo 32 rfl) rfl (a_cons2 (e_var (pv 0)) (a_cons2 (e_lst (a_cons2 (e_int) (a_cons2 (e_int) (a_cons2 (e_int) (a_cons2 (e_bin o_add (e_int) (e_call2 c h_law_draw l_law_draw (fun_law_draw f).kp (bd_law_draw f) (f.glo 31 rfl) rfl (a_cons2 (e_var (pv 0)) (a_cons2 (e_int) (a_nil))))) (a_nil)))))) (a_nil))))) (ss_cons (s_set (i := 3) c.nd rfl (by first | exact .inl rfl | exact .inr rfl) (e_bin o_add (e_var (pv 3)) (e_tup (a_cons2 (e_tup (a_cons2 (e_var (pv 7)) (a_cons2 (e_call2 c h_law_of l_law_of (fun_law_of f).kp (bd_law_of f) (f.glo 32 rfl) rfl (a_cons2 (e_var (pv 0)) (a_cons2 (e_const 9 (by kernel_rfl)) (a_nil)))) (a_nil)))) (a_nil))))) (ss_cons (s_for dx_own c.calm (i_range1 rfl (f.fre 63 rfl) (a_cons2 (e_var (pv 6)) (a_nil))) (tg_name (i := 8) c.nd rfl (by first | exact .inl rfl | exact .inr rfl)) (ss_one (s_if (t_cmp o_gt (e_call2 c h_law_draw l_law_draw (fun_law_draw f).kp (bd_law_draw f) (f.glo 31 rfl) rfl (a_cons2 (e_var (pv 0)) (a_cons2 (e_int) (a_nil)))) (e_int) rfl) (ss_cons (s_set (i := 9) c.nd rfl (by first | exact .inl rfl | exact .inr rfl) (e_call2 c h_law_of l_law_of (fun_law_of f).kp (bd_law_of f) (f.glo 32 rfl) rfl (a_cons2 (e_var (pv 0)) (a_cons2 (e_lst (a_cons2 (e_int) (a_cons2 (e_int) (a_cons2 (e_bin o_add (e_int) (e_call2 c h_law_draw l_law_draw (fun_law_draw f).kp (bd_law_draw f) (f.glo 31 rfl) rfl (a_cons2 (e_var (pv 0)) (a_cons2 (e_int) (a_nil))))) (a_nil))))) (a_nil))))) (ss_one (s_set (i := 4) c.nd rfl (by first | exact .inl rfl | exact .inr rfl) (e_bin o_add (e_var (pv 4)) (e_tup (a_cons2 (e_tup (a_cons2 (e_var (pv 8)) (a_cons2 (e_var (pv 6)) (a_cons2 (e_var (pv 9)) (a_cons2 (e_call2 c h_law_draw l_law_draw (fun_law_draw f).kp (bd_law_draw f) (f.glo 31 rfl) rfl (a_cons2 (e_var (pv 0)) (a_cons2 (e_int) (a_nil)))) (a_nil)))))) (a_nil))))))) (ss_nil)))) (ss_one (s_if (t_cmp (o_eq c.hu) (e_call2 c h_law_draw l_law_draw (fun_law_draw f).kp (bd_law_draw f) (f.glo 31 rfl) rfl (a_cons2 (e_var (pv 0)) (a_cons2 (e_int) (a_nil)))) (e_int) rfl) (ss_one (s_set (i := 5) c.nd rfl (by first | exact .inl rfl | exact .inr rfl) (e_bin o_add (e_var (pv 5)) (e_tup (a_cons2 (e_var (pv 6)) (a_nil)))))) (ss_nil))))))) (ss_one (s_ret (e_tup (a_cons2 (e_var (pv 3)) (a_cons2 (e_callTy2 c_tuple rfl (f.fre 67 rfl) bb_tuple (a_cons2 (e_callB2 (c_sorted c.hu) rfl (f.fre 65 rfl) bb_sorted (a_cons2 (e_var (pv 4)) (a_nil))) (a_nil))) (a_cons2 (e_var (pv 5)) (a_nil)))))))))
theorem sc_law_question : FnScope N_law_question ["_law_source_here", "_law_most"] (defScope s_law_question) := ⟨rfl, rfl, rfl, by decide +kernel, rfl, by decide +kernel, by decide +kernel⟩
theorem b_law_size (f : Fac fa fn K mg) {k : Nat} {cdv : Value} {S_law_power : SpD} {j_law_power : Nat} (h_law_power : OkF P w K mg base T j_law_power "_law_power" ["_law_n", "_law_many"] S_law_power) (l_law_power : j_law_power ≤ k) {S_law_fraction : SpD} {j_law_fraction : Nat} (h_law_fraction : OkF P w K mg base T j_law_fraction "_law_fraction" ["_law_top", "_law_below"] S_law_fraction) (l_law_fraction : j_law_fraction ≤ k) {A : Around} {outer : List Env} {s : Shared} {H : Hp} {E : XK} (c : CtxE (DX P w K mg base N_law_size "_law_size" (defScope s_law_size) (He.ga K "_law_size") cdv A outer s H E) E k) :
    SsJ T (DX P w K mg base N_law_size "_law_size" (defScope s_law_size) (He.ga K "_law_size") cdv A outer s H E) E (defBody s_law_size) (m_law_size S_law_power S_law_fraction) := by
  exact ss_cons (s_asg (e_const 9 (by kernel_rfl)) (tg_tup c.calm (show PGs _ _ (gNames [3, 4]) from pgs_cons (pg_name (i := 3) c.nd rfl (by first | exact .inl rfl | exact .inr rfl)) (pgs_cons (pg_name (i := 4) c.nd rfl (by first | exact .inl rfl | exact .inr rfl)) (pgs_nil))))) (ss_cons (s_for dx_own c.calm (i_list (e_var (pv 1))) (tg_name (i := 5) c.nd rfl (by first | exact .inl rfl | exact .inr rfl)) (ss_cons (s_asg (e_ix (e_ix (e_var (pv 0)) (e_int)) (e_var (pv 5))) (tg_tup c.calm (show PGs _ _ (gNames [6, 7]) from pgs_cons (pg_name (i := 6) c.nd rfl (by first | exact .inl rfl | exact .inr rfl)) (pgs_cons (pg_name (i := 7) c.nd rfl (by first | exact .inl rfl | exact .inr rfl)) (pgs_nil))))) (ss_one (s_set (i := 3) c.nd rfl (by first | exact .inl rfl | exact .inr rfl) (e_bin o_mul (e_bin o_mul (e_var (pv 3)) (e_var (pv 6))) (e_call2 c h_law_power l_law_power (fun_law_power f).kp (bd_law_power f) (f.glo 35 rfl) rfl (a_cons2 (e_var (pv 2)) (a_cons2 (e_var (pv 7)) (a_nil))))))))) (ss_cons (s_for dx_own c.calm (i_tup (e_ix (e_var (pv 0)) (e_int))) (tg_tup c.calm (show PGs _ _ (gNames [8, 9, 6, 7]) from pgs_cons (pg_name (i := 8) c.nd rfl (by first | exact .inl rfl | exact .inr rfl)) (pgs_cons (pg_name (i := 9) c.nd rfl (by first | exact .inl rfl | exact .inr rfl)) (pgs_cons (pg_name (i := 6) c.nd rfl (by first | exact .inl rfl | exact .inr rfl)) (pgs_cons (pg_name (i := 7) c.nd rfl (by first | exact .inl rfl | exact .inr rfl)) (pgs_nil)))))) (ss_one (s_if (WJ.t (w_and (t_cmp (o_in c.hu) (e_var (pv 8)) (e_var (pv 1)) rfl) (w_and1 (t_cmp (o_in c.hu) (e_var (pv 9)) (e_var (pv 1)) rfl)))) (ss_one (s_set (i := 4) c.nd rfl (by first | exact .inl rfl | exact .inr rfl) (e_bin o_mul (e_bin o_mul (e_var (pv 4)) (e_var (pv 6))) (e_call2 c h_law_power l_law_power (fun_law_power f).kp (bd_law_power f) (f.glo 35 rfl) rfl (a_cons2 (e_var (pv 2)) (a_cons2 (e_var (pv 7)) (a_nil))))))) (ss_nil)))) (ss_one (s_ret (e_call2 c h_law_fraction l_law_fraction (fun_law_fraction f).kp (bd_law_fraction f) (f.glo 34 rfl) rfl (a_cons2 (e_var (pv 3)) (a_cons2 (e_var (pv 4)) (a_nil))))))))
theorem sc_law_size : FnScope N_law_size ["_law_question_here", "_law_tables_here", "_law_n"] (defScope s_law_size) := ⟨rfl, rfl, rfl, by decide +kernel, rfl, by decide +kernel, by decide +kernel⟩
theorem b_law_tables (f : Fac fa fn K mg) {k : Nat} {cdv : Value} {S_law_tables : SpD} {j_law_tables : Nat} (h_law_tables : OkF P w K mg base T j_law_tables "_law_tables" ["_law_plan"] S_law_tables) (l_law_tables : j_law_tables ≤ k) {A : Around} {outer : List Env} {s : Shared} {H : Hp} {E : XK} (c : CtxE (DX P w K mg base N_law_tables "_law_tables" (defScope s_law_tables) (He.ga K "_law_tables") cdv A outer s H E) E k) :
    SsJ T (DX P w K mg base N_law_tables "_law_tables" (defScope s_law_tables) (He.ga K "_law_tables") cdv A outer s H E) E (defBody s_law_tables) (m_law_tables S_law_tables) := by
  exact ss_cons (s_if (t_val (e_isi (e_var (pv 0)) rfl (f.fre 58 rfl) rfl (f.fre 57 rfl) bb_int)) (ss_one (s_ret (e_lst (a_cons2 (e_var (pv 0)) (a_nil))))) (ss_nil)) (ss_one (s_ret (e_callB2 (c_sorted c.hu) rfl (f.fre 65 rfl) bb_sorted (a_cons2 (e_bin o_add (e_call2 c h_law_tables l_law_tables (fun_law_tables f).kp (bd_law_tables f) (f.glo 40 rfl) rfl (a_cons2 (e_ix (e_var (pv 0)) (e_int)) (a_nil))) (e_call2 c h_law_tables l_law_tables (fun_law_tables f).kp (bd_law_tables f) (f.glo 40 rfl) rfl (a_cons2 (e_ix (e_var (pv 0)) (e_int)) (a_nil)))) (a_nil)))))
theorem sc_law_tables : FnScope N_law_tables ["_law_plan"] (defScope s_law_tables) := ⟨rfl, rfl, rfl, by decide +kernel, rfl, by decide +kernel, by decide +kernel⟩
theorem b_law_can (f : Fac fa fn K mg) {k : Nat} {cdv : Value} {S_law_tables : SpD} {j_law_tables : Nat} (h_law_tables : OkF P w K mg base T j_law_tables "_law_tables" ["_law_plan"] S_law_tables) (l_law_tables : j_law_tables ≤ k) {A : Around} {outer : List Env} {s : Shared} {H : Hp} {E : XK} (c : CtxE (DX P w K mg base N_law_can "_law_can" (defScope s_law_can) (He.ga K "_law_can") cdv A outer s H E) E k) :
    SsJ T (DX P w K mg base N_law_can "_law_can" (defScope s_law_can) (He.ga K "_law_can") cdv A outer s H E) E (defBody s_law_can) (m_law_can S_law_tables) := by
  exact ss_cons (s_if (t_cmp (o_eq c.hu) (e_var (pv 3)) (e_str) rfl) (ss_one (s_ret (e_bool))) (ss_nil)) (ss_cons (s_if (WJ.t (w_and (t_cmp (o_eq c.hu) (e_var (pv 3)) (e_str) rfl) (w_and1 (WJ.t (w_or (t_not (t_val (e_isi (e_var (pv 2)) rfl (f.fre 58 rfl) rfl (f.fre 57 rfl) bb_int))) (w_or1 (t_cmp (o_notIn c.hu) (e_var (pv 2)) (e_ix (e_var (pv 0)) (e_int)) rfl))))))) (ss_one (s_ret (e_bool))) (ss_nil)) (ss_cons (s_par (i := 4) (j := 5) c.calm c.nd rfl rfl (by decide) rfl rfl (a_cons2 (e_call2 c h_law_tables l_law_tables (fun_law_tables f).kp (bd_law_tables f) (f.glo 40 rfl) rfl (a_cons2 (e_var (pv 1)) (a_nil))) (a_cons2 (e_call2 c h_law_tables l_law_tables (fun_law_tables f).kp (bd_law_tables f) (f.glo 40 rfl) rfl (a_cons2 (e_var (pv 2)) (a_nil))) (a_nil)))) (ss_cons (s_for dx_own c.calm (i_tup (e_ix (e_var (pv 0)) (e_int))) (tg_tup c.calm (show PGs _ _ (gNames [6, 7, 8, 9]) from pgs_cons (pg_name (i := 6) c.nd rfl (by first | exact .inl rfl | exact .inr rfl)) (pgs_cons (pg_name (i := 7) c.nd rfl (by first | exact .inl rfl | exact .inr rfl)) (pgs_cons (pg_name (i := 8) c.nd rfl (by first | exact .inl rfl | exact .inr rfl)) (pgs_cons (pg_name (i := 9) c.nd rfl (by first | exact .inl rfl | exact .inr rfl)) (pgs_nil)))))) (ss_cons (s_if (WJ.t (w_and (t_cmp (o_in c.hu) (e_var (pv 6)) (e_var (pv 4)) rfl) (w_and1 (t_cmp (o_in c.hu) (e_var (pv 7)) (e_var (pv 5)) rfl)))) (ss_one (s_ret (e_bool))) (ss_nil)) (ss_one (s_if (WJ.t (w_and (t_cmp (o_in c.hu) (e_var (pv 6)) (e_var (pv 5)) rfl) (w_and1 (t_cmp (o_in c.hu) (e_var (pv 7)) (e_var (pv 4)) rfl)))) (ss_one (s_ret (e_bool))) (ss_nil))))) (ss_one (s_ret (e_bool))))))
theorem sc_law_can : FnScope N_law_can ["_law_question_here", "_law_left", "_law_right_here", "_law_method"] (defScope s_law_can) := ⟨rfl, rfl, rfl, by decide +kernel, rfl, by decide +kernel, by decide +kernel⟩
theorem b_law_cost (f : Fac fa fn K mg) {k : Nat} {cdv : Value} {S_law_size : SpD} {j_law_size : Nat} (h_law_size : OkF P w K mg base T j_law_size "_law_size" ["_law_question_here", "_law_tables_here", "_law_n"] S_law_size) (l_law_size : j_law_size ≤ k) {S_law_tables : SpD} {j_law_tables : Nat} (h_law_tables : OkF P w K mg base T j_law_tables "_law_tables" ["_law_plan"] S_law_tables) (l_law_tables : j_law_tables ≤ k) {S_law_sum : SpD} {j_law_sum : Nat} (h_law_sum : OkF P w K mg base T j_law_sum "_law_sum" ["_law_one", "_law_other"] S_law_sum) (l_law_sum : j_law_sum ≤ k) {S_law_cost : SpD} {j_law_cost : Nat} (h_law_cost : OkF P w K mg base T j_law_cost "_law_cost" ["_law_question_here", "_law_plan", "_law_n"] S_law_cost) (l_law_cost : j_law_cost ≤ k) {A : Around} {outer : List Env} {s : Shared} {H : Hp} {E : XK} (c : CtxE (DX P w K mg base N_law_cost "_law_cost" (defScope s_law_cost) (He.ga K "_law_cost") cdv A outer s H E) E k) :
    SsJ T (DX P w K mg base N_law_cost "_law_cost" (defScope s_law_cost) (He.ga K "_law_cost") cdv A outer s H E) E (defBody s_law_cost) (m_law_cost S_law_size S_law_tables S_law_sum S_law_cost) := by
  exact ss_cons (s_if (t_val (e_isi (e_var (pv 1)) rfl (f.fre 58 rfl) rfl (f.fre 57 rfl) bb_int)) (ss_one (s_ret (e_call2 c h_law_size l_law_size (fun_law_size f).kp (bd_law_size f) (f.glo 39 rfl) rfl (a_cons2 (e_var (pv 0)) (a_cons2 (e_lst (a_cons2 (e_var (pv 1)) (a_nil))) (a_cons2 (e_var (pv 2)) (a_nil))))))) (ss_nil)) (ss_cons (s_asg (e_var (pv 1)) (tg_tup c.calm (show PGs _ _ (gNames [3, 4, 5]) from pgs_cons (pg_name (i := 3) c.nd rfl (by first | exact .inl rfl | exact .inr rfl)) (pgs_cons (pg_name (i := 4) c.nd rfl (by first | exact .inl rfl | exact .inr rfl)) (pgs_cons (pg_name (i := 5) c.nd rfl (by first | exact .inl rfl | exact .inr rfl)) (pgs_nil)))))) (ss_cons (s_set (i := 6) c.nd rfl (by first | exact .inl rfl | exact .inr rfl) (e_call2 c h_law_size l_law_size (fun_law_size f).kp (bd_law_size f) (f.glo 39 rfl) rfl (a_cons2 (e_var (pv 0)) (a_cons2 (e_call2 c h_law_tables l_law_tables (fun_law_tables f).kp (bd_law_tables f) (f.glo 40 rfl) rfl (a_cons2 (e_var (pv 3)) (a_nil))) (a_cons2 (e_var (pv 2)) (a_nil)))))) (ss_cons (s_set (i := 7) c.nd rfl (by first | exact .inl rfl | exact .inr rfl) (e_call2 c h_law_size l_law_size (fun_law_size f).kp (bd_law_size f) (f.glo 39 rfl) rfl (a_cons2 (e_var (pv 0)) (a_cons2 (e_call2 c h_law_tables l_law_tables (fun_law_tables f).kp (bd_law_tables f) (f.glo 40 rfl) rfl (a_cons2 (e_var (pv 4)) (a_nil))) (a_cons2 (e_var (pv 2)) (a_nil)))))) (ss_cons (s_set (i := 8) c.nd rfl (by first | exact .inl rfl | exact .inr rfl) (e_call2 c h_law_size l_law_size (fun_law_size f).kp (bd_law_size f) (f.glo 39 rfl) rfl (a_cons2 (e_var (pv 0)) (a_cons2 (e_call2 c h_law_tables l_law_tables (fun_law_tables f).kp (bd_law_tables f) (f.glo 40 rfl) rfl (a_cons2 (e_var (pv 1)) (a_nil))) (a_cons2 (e_var (pv 2)) (a_nil)))))) (ss_cons (s_set (i := 8) c.nd rfl (by first | exact .inl rfl | exact .inr rfl) (e_call2 c h_law_sum l_law_sum (fun_law_sum f).kp (bd_law_sum f) (f.glo 37 rfl) rfl (a_cons2 (e_var (pv 8)) (a_cons2 (e_call2 c h_law_cost l_law_cost (fun_law_cost f).kp (bd_law_cost f) (f.glo 42 rfl) rfl (a_cons2 (e_var (pv 0)) (a_cons2 (e_var (pv 3)) (a_cons2 (e_var (pv 2)) (a_nil))))) (a_nil))))) (ss_cons (s_if (t_cmp (o_eq c.hu) (e_var (pv 5)) (e_str) rfl) (ss_one (s_ret (e_call2 c h_law_sum l_law_sum (fun_law_sum f).kp (bd_law_sum f) (f.glo 37 rfl) rfl (a_cons2 (e_var (pv 8)) (a_cons2 (e_tup (a_cons2 (e_bin o_mul (e_int) (e_ix (e_var (pv 6)) (e_int))) (a_cons2 (e_ix (e_var (pv 6)) (e_int)) (a_nil)))) (a_nil)))))) (ss_nil)) (ss_cons (s_set (i := 8) c.nd rfl (by first | exact .inl rfl | exact .inr rfl) (e_call2 c h_law_sum l_law_sum (fun_law_sum f).kp (bd_law_sum f) (f.glo 37 rfl) rfl (a_cons2 (e_var (pv 8)) (a_cons2 (e_call2 c h_law_cost l_law_cost (fun_law_cost f).kp (bd_law_cost f) (f.glo 42 rfl) rfl (a_cons2 (e_var (pv 0)) (a_cons2 (e_var (pv 4)) (a_cons2 (e_var (pv 2)) (a_nil))))) (a_nil))))) (ss_cons (s_if (t_cmp (o_eq c.hu) (e_var (pv 5)) (e_str) rfl) (ss_one (s_ret (e_call2 c h_law_sum l_law_sum (fun_law_sum f).kp (bd_law_sum f) (f.glo 37 rfl) rfl (a_cons2 (e_var (pv 8)) (a_cons2 (e_call2 c h_law_sum l_law_sum (fun_law_sum f).kp (bd_law_sum f) (f.glo 37 rfl) rfl (a_cons2 (e_var (pv 6)) (a_cons2 (e_var (pv 7)) (a_nil)))) (a_nil)))))) (ss_nil)) (ss_one (s_ret (e_call2 c h_law_sum l_law_sum (fun_law_sum f).kp (bd_law_sum f) (f.glo 37 rfl) rfl (a_cons2 (e_var (pv 8)) (a_cons2 (e_tup (a_cons2 (e_bin o_mul (e_ix (e_var (pv 6)) (e_int)) (e_ix (e_var (pv 7)) (e_int))) (a_cons2 (e_bin o_mul (e_ix (e_var (pv 6)) (e_int)) (e_ix (e_var (pv 7)) (e_int))) (a_nil)))) (a_nil))))))))))))))
theorem sc_law_cost : FnScope N_law_cost ["_law_question_here", "_law_plan", "_law_n"] (defScope s_law_cost) := ⟨rfl, rfl, rfl, by decide +kernel, rfl, by decide +kernel, by decide +kernel⟩
theorem b_law_plans (f : Fac fa fn K mg) {k : Nat} {cdv : Value} {S_law_power : SpD} {j_law_power : Nat} (h_law_power : OkF P w K mg base T j_law_power "_law_power" ["_law_n", "_law_many"] S_law_power) (l_law_power : j_law_power ≤ k) {S_law_plans : SpD} {j_law_plans : Nat} (h_law_plans : OkF P w K mg base T j_law_plans "_law_plans" ["_law_question_here", "_law_tables_here"] S_law_plans) (l_law_plans : j_law_plans ≤ k) {S_law_can : SpD} {j_law_can : Nat} (h_law_can : OkF P w K mg base T j_law_can "_law_can" ["_law_question_here", "_law_left", "_law_right_here", "_law_method"] S_law_can) (l_law_can : j_law_can ≤ k) {A : Around} {outer : List Env} {s : Shared} {H : Hp} {E : XK} (c : CtxE (DX P w K mg base N_law_plans "_law_plans" (defScope s_law_plans) (He.ga K "_law_plans") cdv A outer s H E) E k) :
    SsJ T (DX P w K mg base N_law_plans "_law_plans" (defScope s_law_plans) (He.ga K "_law_plans") cdv A outer s H E) E (defBody s_law_plans) (m_law_plans S_law_power S_law_plans S_law_can) := by
  exact ss_cons (s_if (t_cmp (o_eq c.hu) (e_callB2 c_len rfl (f.fre 59 rfl) bb_len (a_cons2 (e_var (pv 1)) (a_nil))) (e_int) rfl) (ss_one (s_ret (e_callTy2 c_list rfl (f.fre 60 rfl) bb_list (a_cons2 (e_var (pv 1)) (a_nil))))) (ss_nil)) (ss_cons (s_new (i := 2) c.nd rfl (by first | exact .inl rfl | exact .inr rfl) (n_lst (a_nil))) (ss_cons (s_for dx_own c.calm (i_range2 rfl (f.fre 63 rfl) (a_cons2 (e_int) (a_cons2 (e_bin o_sub (e_call2 c h_law_power l_law_power (fun_law_power f).kp (bd_law_power f) (f.glo 35 rfl) rfl (a_cons2 (e_int) (a_cons2 (e_callB2 c_len rfl (f.fre 59 rfl) bb_len (a_cons2 (e_var (pv 1)) (a_nil))) (a_nil)))) (e_int)) (a_nil)))) (tg_name (i := 3) c.nd rfl (by first | exact .inl rfl | exact .inr rfl)) (ss_cons (s_asg (e_tup (a_cons2 (e_const 9 (by kernel_rfl)) (a_cons2 (e_var (pv 3)) (a_nil)))) (tg_tup c.calm (show PGs _ _ (gNames [4, 5]) from pgs_cons (pg_name (i := 4) c.nd rfl (by first | exact .inl rfl | exact .inr rfl)) (pgs_cons (pg_name (i := 5) c.nd rfl (by first | exact .inl rfl | exact .inr rfl)) (pgs_nil))))) (ss_cons (s_for dx_own c.calm (i_list (e_var (pv 1))) (tg_name (i := 6) c.nd rfl (by first | exact .inl rfl | exact .inr rfl)) (ss_cons (s_set (i := 4) c.nd rfl (by first | exact .inl rfl | exact .inr rfl) (e_bin o_add (e_var (pv 4)) (e_if (t_cmp (o_eq c.hu) (e_bin o_mod (e_var (pv 5)) (e_int)) (e_int) rfl) (e_lst (a_cons2 (e_var (pv 6)) (a_nil))) (e_const 9 (by kernel_rfl))))) (ss_one (s_set (i := 5) c.nd rfl (by first | exact .inl rfl | exact .inr rfl) (e_bin o_fdiv (e_var (pv 5)) (e_int)))))) (ss_cons (s_setLc (i := 7) (own := [("_law_table", 6)]) (vs := [6]) c.calm c.nd rfl rfl rfl (i_list (e_var (pv 1))) (blkOk_by (by kernel_rfl)) (fun _ _ _ _ _ => pg_name (i := 6) c.blk.nd rfl (by first | exact .inl rfl | exact .inr rfl)) (ct_name (i := 6) (by decide)) (td_one fun _ _ _ _ _ => t_cmp (o_notIn c.blk.hu) (e_var (pv 6)) (e_var (pv 4)) rfl) (fun _ _ _ _ _ => e_var (pv 6))) (ss_one (s_for dx_own c.calm (i_list (e_call2 c h_law_plans l_law_plans (fun_law_plans f).kp (bd_law_plans f) (f.glo 43 rfl) rfl (a_cons2 (e_var (pv 0)) (a_cons2 (e_var (pv 4)) (a_nil))))) (tg_name (i := 8) c.nd rfl (by first | exact .inl rfl | exact .inr rfl)) (ss_one (s_for dx_own c.calm (i_list (e_call2 c h_law_plans l_law_plans (fun_law_plans f).kp (bd_law_plans f) (f.glo 43 rfl) rfl (a_cons2 (e_var (pv 0)) (a_cons2 (e_var (pv 7)) (a_nil))))) (tg_name (i := 9) c.nd rfl (by first | exact .inl rfl | exact .inr rfl)) (ss_one (s_for dx_own c.calm (i_list (e_const 9 (by kernel_rfl))) (tg_name (i := 10) c.nd rfl (by first | exact .inl rfl | exact .inr rfl)) (ss_one (s_if (t_val (e_call2 c h_law_can l_law_can (fun_law_can f).kp (bd_law_can f) (f.glo 41 rfl) rfl (a_cons2 (e_var (pv 0)) (a_cons2 (e_var (pv 8)) (a_cons2 (e_var (pv 9)) (a_cons2 (e_var (pv 10)) (a_nil))))))) (ss_one (s_app (pv 2) (e_tup (a_cons2 (e_var (pv 8)) (a_cons2 (e_var (pv 9)) (a_cons2 (e_var (pv 10)) (a_nil))))) (fun h => pe_append (pv 2) h))) (ss_nil))))))))))))) (ss_one (s_retOwn (pv 2)))))
theorem sc_law_plans : FnScope N_law_plans ["_law_question_here", "_law_tables_here"] (defScope s_law_plans) := ⟨rfl, rfl, rfl, by decide +kernel, rfl, by decide +kernel, by decide +kernel⟩
def k_law_known_0 : Expr := asgV (defBody s_law_known)[0]?
def k_law_known_1 : Expr := asgV (defBody s_law_known)[1]?
def k_law_known_2_2 : Expr := tupAt (retV (defBody s_law_known)[2]?) 2
theorem b_law_known (f : Fac fa fn K mg) {k : Nat} {cdv : Value} {A : Around} {outer : List Env} {s : Shared} {H : Hp} {E : XK} (c : CtxE (DX P w K mg base N_law_known "_law_known" (defScope s_law_known) (He.ga K "_law_known") cdv A outer s H E) E k) :
    SsJ T (DX P w K mg base N_law_known "_law_known" (defScope s_law_known) (He.ga K "_law_known") cdv A outer s H E) E (defBody s_law_known) m_law_known := by
  have hb : defBody s_law_known = [Stmt.Assign [Expr.Name "_law_one" ⟨257, 4, 257, 12⟩] k_law_known_0 ⟨257, 4, 257, 54⟩, Stmt.Assign [Expr.Name "_law_two" ⟨258, 4, 258, 12⟩] k_law_known_1 ⟨258, 4, 258, 56⟩, Stmt.Return (some (Expr.Tuple [Expr.Name "_law_one" ⟨259, 12, 259, 20⟩, Expr.Name "_law_two" ⟨259, 22, 259, 30⟩, k_law_known_2_2] 0 ⟨259, 11, 259, 97⟩)) ⟨259, 4, 259, 97⟩] := by kernel_rfl
  rw [hb]
  exact ss_cons (s_set (i := 0) c.nd rfl (by first | exact .inl rfl | exact .inr rfl) (e_const 9 (by kernel_rfl))) (ss_cons (s_set (i := 1) c.nd rfl (by first | exact .inl rfl | exact .inr rfl) (e_const 9 (by kernel_rfl))) (ss_one (s_ret (e_tup (a_cons2 (e_var (pv 0)) (a_cons2 (e_var (pv 1)) (a_cons2 (e_const 9 (by kernel_rfl)) (a_nil))))))))
theorem sc_law_known : FnScope N_law_known [] (defScope s_law_known) := ⟨rfl, rfl, rfl, by decide +kernel, rfl, by decide +kernel, by decide +kernel⟩
theorem b_law_right (f : Fac fa fn K mg) {k : Nat} {cdv : Value} {S_cost : SpD} {j_cost : Nat} (h_cost : OkF P w K mg base T j_cost "cost" ["question", "plan"] S_cost) (l_cost : j_cost ≤ k) {S_law_common : SpD} {j_law_common : Nat} (h_law_common : OkF P w K mg base T j_law_common "_law_common" ["_law_one", "_law_other"] S_law_common) (l_law_common : j_law_common ≤ k) {S_law_draw : SpD} {j_law_draw : Nat} (h_law_draw : OkF P w K mg base T j_law_draw "_law_draw" ["_law_source_here", "_law_many"] S_law_draw) (l_law_draw : j_law_draw ≤ k) {S_law_cost : SpD} {j_law_cost : Nat} (h_law_cost : OkF P w K mg base T j_law_cost "_law_cost" ["_law_question_here", "_law_plan", "_law_n"] S_law_cost) (l_law_cost : j_law_cost ≤ k) {S_cost_at : SpD} {j_cost_at : Nat} (h_cost_at : OkF P w K mg base T j_cost_at "cost_at" ["question", "plan", "n"] S_cost_at) (l_cost_at : j_cost_at ≤ k) {S_law_worth : SpD} {j_law_worth : Nat} (h_law_worth : OkF P w K mg base T j_law_worth "_law_worth" ["_law_form", "_law_n"] S_law_worth) (l_law_worth : j_law_worth ≤ k) {A : Around} {outer : List Env} {s : Shared} {H : Hp} {E : XK} (c : CtxE (DX P w K mg base N_law_right "_law_right" (defScope s_law_right) (He.ga K "_law_right") cdv A outer s H E) E k) :
    SsJ T (DX P w K mg base N_law_right "_law_right" (defScope s_law_right) (He.ga K "_law_right") cdv A outer s H E) E (defBody s_law_right) (m_law_right S_cost S_law_common S_law_draw S_law_cost S_cost_at S_law_worth) := by
  exact ss_cons (s_set (i := 3) c.nd rfl (by first | exact .inl rfl | exact .inr rfl) (e_call2 c h_cost l_cost (fun_cost f).kp (bd_cost f) (f.glo 28 rfl) rfl (a_cons2 (e_var (pv 1)) (a_cons2 (e_var (pv 2)) (a_nil))))) (ss_cons (s_if (t_cmp (o_ne c.hu) (e_lc (own := [("_law_part", 11)]) (vs := [11]) c.calm c.nd (i_tup (e_var (pv 3))) (blkOk_by (by kernel_rfl)) (fun _ _ _ _ _ => pg_name (i := 11) c.blk.nd rfl (by first | exact .inl rfl | exact .inr rfl)) (ct_name (i := 11) (by decide)) (td_one fun _ _ _ _ _ => WJ.t (w_or (t_cmp o_le (e_ix (e_var (pv 11)) (e_int)) (e_int) rfl) (w_or1 (t_cmp (o_lt c.blk.hu) (e_ix (e_var (pv 11)) (e_int)) (e_int) rfl)))) (fun _ _ _ _ _ => e_var (pv 11))) (e_const 9 (by kernel_rfl)) rfl) (ss_one (s_ret (e_bool))) (ss_nil)) (ss_cons (s_setLc (i := 4) (own := [("_law_part", 11)]) (vs := [11]) c.calm c.nd rfl rfl rfl (i_tup (e_var (pv 3))) (blkOk_by (by kernel_rfl)) (fun _ _ _ _ _ => pg_name (i := 11) c.blk.nd rfl (by first | exact .inl rfl | exact .inr rfl)) (ct_name (i := 11) (by decide)) td_none (fun _ _ _ _ _ => e_ix (e_var (pv 11)) (e_int))) (ss_cons (s_if (t_cmp (o_ne c.hu) (e_var (pv 4)) (e_sortedSet c.calm rfl (f.fre 65 rfl) (st_set c.calm rfl (f.fre 64 rfl) (e_var (pv 4)))) rfl) (ss_one (s_ret (e_bool))) (ss_nil)) (ss_cons (s_for dx_own c.calm (i_tup (e_var (pv 3))) (tg_tup c.calm (show PGs _ _ (gNames [5, 6, 7]) from pgs_cons (pg_name (i := 5) c.nd rfl (by first | exact .inl rfl | exact .inr rfl)) (pgs_cons (pg_name (i := 6) c.nd rfl (by first | exact .inl rfl | exact .inr rfl)) (pgs_cons (pg_name (i := 7) c.nd rfl (by first | exact .inl rfl | exact .inr rfl)) (pgs_nil))))) (ss_one (s_if (t_cmp (o_ne c.hu) (e_call2 c h_law_common l_law_common (fun_law_common f).kp (bd_law_common f) (f.glo 33 rfl) rfl (a_cons2 (e_var (pv 6)) (a_cons2 (e_var (pv 7)) (a_nil)))) (e_int) rfl) (ss_one (s_ret (e_bool))) (ss_nil)))) (ss_cons (s_set (i := 8) c.nd rfl (by first | exact .inl rfl | exact .inr rfl) (e_bin o_add (e_bin o_pow (e_int) (e_int)) (e_call2 c h_law_draw l_law_draw (fun_law_draw f).kp (bd_law_draw f) (f.glo 31 rfl) rfl (a_cons2 (e_var (pv 0)) (a_cons2 (e_bin o_pow (e_int) (e_int)) (a_nil)))))) (ss_cons (s_for dx_own c.calm (i_list (e_lst (a_cons2 (e_int) (a_cons2 (e_int) (a_cons2 (e_int) (a_cons2 (e_int) (a_cons2 (e_bin o_add (e_int) (e_call2 c h_law_draw l_law_draw (fun_law_draw f).kp (bd_law_draw f) (f.glo 31 rfl) rfl (a_cons2 (e_var (pv 0)) (a_cons2 (e_int) (a_nil))))) (a_cons2 (e_var (pv 8)) (a_cons2 (e_bin o_pow (e_int) (e_int)) (a_nil)))))))))) (tg_name (i := 9) c.nd rfl (by first | exact .inl rfl | exact .inr rfl)) (ss_cons (s_set (i := 10) c.nd rfl (by first | exact .inl rfl | exact .inr rfl) (e_call2 c h_law_cost l_law_cost (fun_law_cost f).kp (bd_law_cost f) (f.glo 42 rfl) rfl (a_cons2 (e_var (pv 1)) (a_cons2 (e_var (pv 2)) (a_cons2 (e_var (pv 9)) (a_nil)))))) (ss_one (s_if (WJ.t (w_or (t_cmp (o_ne c.hu) (e_call2 c h_cost_at l_cost_at (fun_cost_at f).kp (bd_cost_at f) (f.glo 29 rfl) rfl (a_cons2 (e_var (pv 1)) (a_cons2 (e_var (pv 2)) (a_cons2 (e_var (pv 9)) (a_nil))))) (e_var (pv 10)) rfl) (w_or1 (t_cmp (o_ne c.hu) (e_call2 c h_law_worth l_law_worth (fun_law_worth f).kp (bd_law_worth f) (f.glo 36 rfl) rfl (a_cons2 (e_var (pv 3)) (a_cons2 (e_var (pv 9)) (a_nil)))) (e_var (pv 10)) rfl)))) (ss_one (s_ret (e_bool))) (ss_nil))))) (ss_one (s_ret (e_bool)))))))))
theorem sc_law_right : FnScope N_law_right ["_law_source_here", "_law_question_here", "_law_plan"] (defScope s_law_right) := ⟨rfl, rfl, rfl, by decide +kernel, rfl, by decide +kernel, by decide +kernel⟩
end
end GJ.k03

namespace GJ.k03
open PySem PySem.Spec PyProof.Rows L2
section
variable {P : Program} {w : World} {K : PySem.W.Frag} {mg : Str → Option Value} {base : Heap} {T : TabL}
def N_law_word : List Str := ["_law_call", "e"]
theorem sc_law_word : FnScope N_law_word ["_law_call"] (defScope s_law_word) := ⟨rfl, rfl, rfl, by decide +kernel, rfl, by decide +kernel, by decide +kernel⟩
theorem gw {X : Cx} (f : Fac fa fn X.K X.mg) (cdg : Value) : LamX.GivesTo X N_law_word "_law_word" (defScope s_law_word) (He.ga X.K "_law_word") cdg (defBody s_law_word) "_law_call" (X.env.qual ++ "<lambda>") (TWd X.K (He.ga X.K "JoinError") [(He.ga X.K "InvalidPlan", "plan"), (He.ga X.K "InvalidNumber", "number")] "none") :=
  word_gives (i := 1) sc_law_word.nd rfl rfl (fun _ => rfl) (fun s H => .cons ⟨rfl, by decide, .inl (f.glo 51 rfl)⟩ (suite_word rfl (f.fre 58 rfl) rfl (f.glo 48 rfl) (by decide) rfl (by first | exact .inl rfl | exact .inr rfl) (by decide) (by decide)) (.cons ⟨rfl, by decide, .inl (f.glo 49 rfl)⟩ (suite_word rfl (f.fre 58 rfl) rfl (f.glo 48 rfl) (by decide) rfl (by first | exact .inl rfl | exact .inr rfl) (by decide) (by decide)) (.nil))) (fun _ => rfl)
theorem b_law (f : Fac fa fn K mg) {k : Nat} {cdv : Value} {S_law_source : SpD} {j_law_source : Nat} (h_law_source : OkF P w K mg base T j_law_source "_law_source" ["_law_script", "_law_k"] S_law_source) (l_law_source : j_law_source ≤ k) {S_law_question : SpD} {j_law_question : Nat} (h_law_question : OkF P w K mg base T j_law_question "_law_question" ["_law_source_here", "_law_most"] S_law_question) (l_law_question : j_law_question ≤ k) {S_law_plans : SpD} {j_law_plans : Nat} (h_law_plans : OkF P w K mg base T j_law_plans "_law_plans" ["_law_question_here", "_law_tables_here"] S_law_plans) (l_law_plans : j_law_plans ≤ k) {S_law_right : SpD} {j_law_right : Nat} (h_law_right : OkF P w K mg base T j_law_right "_law_right" ["_law_source_here", "_law_question_here", "_law_plan"] S_law_right) (l_law_right : j_law_right ≤ k) {S_law_of : SpD} {j_law_of : Nat} (h_law_of : OkF P w K mg base T j_law_of "_law_of" ["_law_source_here", "_law_items"] S_law_of) (l_law_of : j_law_of ≤ k) {S_cost : SpD} {j_cost : Nat} (h_cost : OkF P w K mg base T j_cost "cost" ["question", "plan"] S_cost) (l_cost : j_cost ≤ k) {S_cost_at : SpD} {j_cost_at : Nat} (h_cost_at : OkF P w K mg base T j_cost_at "cost_at" ["question", "plan", "n"] S_cost_at) (l_cost_at : j_cost_at ≤ k) {S_law_known : SpD} {j_law_known : Nat} (h_law_known : OkF P w K mg base T j_law_known "_law_known" [] S_law_known) (l_law_known : j_law_known ≤ k) {lc lP : Addr} (tB : LamX.TabB base mg lc lP) (hcode : cdv = .ref lc) (hmT : (lP, lamQ "law") ∈ T) (hu : ∀ p ∈ T, p.1 = lP → p.2 = lamQ "law") {A : Around} {outer : List Env} {s : Shared} {H : Hp} {E : XK} (c : CtxE (DX P w K mg base N_law "law" (defScope s_law) (He.ga K "law") cdv A outer s H E) E (k + 2)) :
    SsJ T (DX P w K mg base N_law "law" (defScope s_law) (He.ga K "law") cdv A outer s H E) E (defBody s_law) (m_law K S_law_source S_law_question S_law_plans S_law_right S_law_of S_cost S_cost_at S_law_known (Wd K (He.ga K "JoinError") [(He.ga K "InvalidPlan", "plan"), (He.ga K "InvalidNumber", "number")])) := by
  exact ss_cons (s_for dx_own c.calm (i_range1 rfl (f.fre 63 rfl) (a_cons2 (e_bin o_add (e_int) (e_callB2 (c_min c.calm) rfl (f.fre 62 rfl) bb_min (a_cons2 (e_callB2 c_lenS rfl (f.fre 59 rfl) bb_len (a_cons2 (e_var (pv 0)) (a_nil))) (a_cons2 (e_int) (a_nil))))) (a_nil))) (tg_name (i := 1) c.nd rfl (by first | exact .inl rfl | exact .inr rfl)) (ss_cons (s_set (i := 2) c.nd rfl (by first | exact .inl rfl | exact .inr rfl) (e_call2 c h_law_source (Nat.le_add_right_of_le l_law_source) (fun_law_source f).kp (bd_law_source f) (f.glo 30 rfl) rfl (a_cons2 (e_var (pv 0)) (a_cons2 (e_var (pv 1)) (a_nil))))) (ss_cons (s_set (i := 3) c.nd rfl (by first | exact .inl rfl | exact .inr rfl) (e_call2 c h_law_question (Nat.le_add_right_of_le l_law_question) (fun_law_question f).kp (bd_law_question f) (f.glo 38 rfl) rfl (a_cons2 (e_var (pv 2)) (a_cons2 (e_int) (a_nil))))) (ss_cons (s_set (i := 4) c.nd rfl (by first | exact .inl rfl | exact .inr rfl) (e_call2 c h_law_plans (Nat.le_add_right_of_le l_law_plans) (fun_law_plans f).kp (bd_law_plans f) (f.glo 43 rfl) rfl (a_cons2 (e_var (pv 3)) (a_cons2 (e_listRg (e_callB2 c_len rfl (f.fre 59 rfl) bb_len (a_cons2 (e_ix (e_var (pv 3)) (e_int)) (a_nil))) c.calm rfl (f.fre 60 rfl) rfl (f.fre 63 rfl)) (a_nil))))) (ss_cons (s_for dx_own c.calm (i_range1 rfl (f.fre 63 rfl) (a_cons2 (e_int) (a_nil))) (tg_name (i := 5) c.nd rfl (by first | exact .inl rfl | exact .inr rfl)) (ss_one (s_if (t_not (t_val (e_call2 c h_law_right (Nat.le_add_right_of_le l_law_right) (fun_law_right f).kp (bd_law_right f) (f.glo 46 rfl) rfl (a_cons2 (e_var (pv 2)) (a_cons2 (e_var (pv 3)) (a_cons2 (e_call2 c h_law_of (Nat.le_add_right_of_le l_law_of) (fun_law_of f).kp (bd_law_of f) (f.glo 32 rfl) rfl (a_cons2 (e_var (pv 2)) (a_cons2 (e_var (pv 4)) (a_nil)))) (a_nil))))))) (ss_one (s_ret (e_bool))) (ss_nil)))) (ss_cons (s_for dx_own c.calm (i_list (e_const 9 (by kernel_rfl))) (tg_name (i := 6) c.nd rfl (by first | exact .inl rfl | exact .inr rfl)) (ss_cons (s_if (t_cmp (o_ne c.hu) (e_word (k := k) rfl (f.glo 45 rfl) (fun_law_word f) (bd_law_word f) sc_law_word rfl (by first | exact .inl rfl | exact .inr rfl) (gw (X := DX P w K mg base N_law "law" (defScope s_law) (He.ga K "law") cdv A outer s H E) f) tB hcode hmT hu c.room (show LamX.LamS (defScope s_law) _ from LamX.lamS_by (by decide +kernel)) rfl (fun _ _ _ _ _ => rfl) (fun _ _ _ _ _ _ _ hr2 => e_call2 (lam_ctx c.nd hr2) h_cost l_cost (fun_cost f).kp (bd_cost f) (f.glo 28 rfl) rfl (a_cons2 (e_var (pv 3)) (a_cons2 (e_var (pv 6)) (a_nil))))) (e_str) rfl) (ss_one (s_ret (e_bool))) (ss_nil)) (ss_one (s_if (t_cmp (o_ne c.hu) (e_word (k := k) rfl (f.glo 45 rfl) (fun_law_word f) (bd_law_word f) sc_law_word rfl (by first | exact .inl rfl | exact .inr rfl) (gw (X := DX P w K mg base N_law "law" (defScope s_law) (He.ga K "law") cdv A outer s H E) f) tB hcode hmT hu c.room (show LamX.LamS (defScope s_law) _ from LamX.lamS_by (by decide +kernel)) rfl (fun _ _ _ _ _ => rfl) (fun _ _ _ _ _ _ _ hr2 => e_call2 (lam_ctx c.nd hr2) h_cost_at l_cost_at (fun_cost_at f).kp (bd_cost_at f) (f.glo 29 rfl) rfl (a_cons2 (e_var (pv 3)) (a_cons2 (e_var (pv 6)) (a_cons2 (e_none) (a_nil)))))) (e_str) rfl) (ss_one (s_ret (e_bool))) (ss_nil))))) (ss_one (s_for dx_own c.calm (i_list (e_lst (a_cons2 (e_none) (a_cons2 (e_int) (a_cons2 (e_neg (e_int)) (a_cons2 (e_bin o_add (e_bin o_pow (e_int) (e_int)) (e_int)) (a_cons2 (e_bool) (a_cons2 (e_str) (a_nil))))))))) (tg_name (i := 6) c.nd rfl (by first | exact .inl rfl | exact .inr rfl)) (ss_one (s_if (t_cmp (o_ne c.hu) (e_word (k := k) rfl (f.glo 45 rfl) (fun_law_word f) (bd_law_word f) sc_law_word rfl (by first | exact .inl rfl | exact .inr rfl) (gw (X := DX P w K mg base N_law "law" (defScope s_law) (He.ga K "law") cdv A outer s H E) f) tB hcode hmT hu c.room (show LamX.LamS (defScope s_law) _ from LamX.lamS_by (by decide +kernel)) rfl (fun _ _ _ _ _ => rfl) (fun _ _ _ _ _ _ _ hr2 => e_call2 (lam_ctx c.nd hr2) h_cost_at l_cost_at (fun_cost_at f).kp (bd_cost_at f) (f.glo 29 rfl) rfl (a_cons2 (e_var (pv 3)) (a_cons2 (e_ix (e_var (pv 4)) (e_int)) (a_cons2 (e_var (pv 6)) (a_nil)))))) (e_str) rfl) (ss_one (s_ret (e_bool))) (ss_nil))))))))))) (ss_cons (s_asg (e_call0 c h_law_known (Nat.le_add_right_of_le l_law_known) (fun_law_known f).kp (bd_law_known f) (f.glo 44 rfl) rfl) (tg_tup c.calm (show PGs _ _ (gNames [7, 8, 9]) from pgs_cons (pg_name (i := 7) c.nd rfl (by first | exact .inl rfl | exact .inr rfl)) (pgs_cons (pg_name (i := 8) c.nd rfl (by first | exact .inl rfl | exact .inr rfl)) (pgs_cons (pg_name (i := 9) c.nd rfl (by first | exact .inl rfl | exact .inr rfl)) (pgs_nil)))))) (ss_cons (s_if (t_cmp (o_ne c.hu) (e_call2 c h_cost (Nat.le_add_right_of_le l_cost) (fun_cost f).kp (bd_cost f) (f.glo 28 rfl) rfl (a_cons2 (e_var (pv 7)) (a_cons2 (e_const 9 (by kernel_rfl)) (a_nil)))) (e_const 9 (by kernel_rfl)) rfl) (ss_one (s_ret (e_bool))) (ss_nil)) (ss_cons (s_if (t_cmp (o_ne c.hu) (e_call2 c h_cost (Nat.le_add_right_of_le l_cost) (fun_cost f).kp (bd_cost f) (f.glo 28 rfl) rfl (a_cons2 (e_var (pv 7)) (a_cons2 (e_const 9 (by kernel_rfl)) (a_nil)))) (e_const 9 (by kernel_rfl)) rfl) (ss_one (s_ret (e_bool))) (ss_nil)) (ss_cons (s_if (t_cmp (o_ne c.hu) (e_call2 c h_cost (Nat.le_add_right_of_le l_cost) (fun_cost f).kp (bd_cost f) (f.glo 28 rfl) rfl (a_cons2 (e_var (pv 8)) (a_cons2 (e_const 9 (by kernel_rfl)) (a_nil)))) (e_const 9 (by kernel_rfl)) rfl) (ss_one (s_ret (e_bool))) (ss_nil)) (ss_cons (s_if (t_cmp (o_ne c.hu) (e_call2 c h_cost (Nat.le_add_right_of_le l_cost) (fun_cost f).kp (bd_cost f) (f.glo 28 rfl) rfl (a_cons2 (e_var (pv 8)) (a_cons2 (e_const 9 (by kernel_rfl)) (a_nil)))) (e_const 9 (by kernel_rfl)) rfl) (ss_one (s_ret (e_bool))) (ss_nil)) (ss_cons (s_set (i := 10) c.nd rfl (by first | exact .inl rfl | exact .inr rfl) (e_const 9 (by kernel_rfl))) (ss_cons (s_if (t_cmp (o_ne c.hu) (e_call2 c h_cost (Nat.le_add_right_of_le l_cost) (fun_cost f).kp (bd_cost f) (f.glo 28 rfl) rfl (a_cons2 (e_var (pv 9)) (a_cons2 (e_var (pv 10)) (a_nil)))) (e_const 9 (by kernel_rfl)) rfl) (ss_one (s_ret (e_bool))) (ss_nil)) (ss_one (s_ret (e_cmp (o_eq c.hu) (e_call2 c h_cost_at (Nat.le_add_right_of_le l_cost_at) (fun_cost_at f).kp (bd_cost_at f) (f.glo 29 rfl) rfl (a_cons2 (e_var (pv 9)) (a_cons2 (e_var (pv 10)) (a_cons2 (e_int) (a_nil))))) (e_const 9 (by kernel_rfl)) rfl))))))))))
theorem sc_law : FnScope N_law ["_law_script"] (defScope s_law) := ⟨rfl, rfl, rfl, by decide +kernel, rfl, by decide +kernel, by decide +kernel⟩
end
end GJ.k03

namespace GJ
open PySem PySem.Spec PyProof.Rows L2
theorem fn_false {P : Program} {w : World} {K : PySem.W.Frag} {mg : Str → Option Value} {base : Heap} {T : TabL} {x qual : Str} {st : Stmt} {f : Addr} {fd : FuncData} {ps : List Str} {j : Nat} (_ : Fun K x qual st f fd) : FnOk P w K mg base (L2.CX P w) j f fd ps (dsp T ps.length fun _ _ _ => False) :=
  ⟨fun vs H Q E h => h.1, fun A outer s H args us vs Q E hr e0 hb r hsp => by
    obtain ⟨_, _, _, _, _, _, _, _, _, z, _⟩ := hsp
    exact z.elim⟩
namespace k03
section
variable {P : Program} {w : World} {K : PySem.W.Frag} {mg : Str → Option Value} {base : Heap} {T : TabL}
theorem ok_is_number (f : Fac fa fn K mg) : OkF P w K mg base T 1 "is_number" ["value", "least", "most"] (S_is_number) :=
  fn_def (fun_is_number f) sc_is_number (fun cdv A outer s H E c => b_is_number f  c) (fun ws Q R _ h => p_is_number ws Q R h)
theorem ok_is_tuple (f : Fac fa fn K mg) : OkF P w K mg base T 1 "is_tuple" ["value", "least", "most"] (S_is_tuple) :=
  fn_def (fun_is_tuple f) sc_is_tuple (fun cdv A outer s H E c => b_is_tuple f  c) (fun ws Q R _ h => p_is_tuple ws Q R h)
theorem ok_divisor (f : Fac fa fn K mg) : OkF P w K mg base T 1 "divisor" ["one", "other"] (S_divisor) :=
  fn_def (fun_divisor f) sc_divisor (fun cdv A outer s H E c => b_divisor f  c) (fun ws Q R _ h => p_divisor ws Q R h)
theorem ok_reduced (f : Fac fa fn K mg) : OkF P w K mg base T 2 "reduced" ["top", "below"] (S_reduced) :=
  fn_def (fun_reduced f) sc_reduced (fun cdv A outer s H E c => b_reduced f (ok_divisor f) (by decide) c) (fun ws Q R _ h => p_reduced ws Q R h)
theorem ok_need_n (f : Fac fa fn K mg) : OkF P w K mg base T 2 "need_n" ["value", "most"] (S_need_n (He.ga K "InvalidNumber")) :=
  fn_def (fun_need_n f) sc_need_n (fun cdv A outer s H E c => b_need_n f (ok_is_number f) (by decide) c) (fun ws Q R _ h => p_need_n _ ws Q R h)
theorem ok_form_of (f : Fac fa fn K mg) : OkF P w K mg base T 3 "form_of" ["parts"] (S_form_of) :=
  fn_def (fun_form_of f) sc_form_of (fun cdv A outer s H E c => b_form_of f (ok_reduced f) (by decide) c) (fun ws Q R _ h => p_form_of ws Q R h)
theorem ok_added (f : Fac fa fn K mg) : OkF P w K mg base T 4 "added" ["forms"] (S_added) :=
  fn_def (fun_added f) sc_added (fun cdv A outer s H E c => b_added f (ok_form_of f) (by decide) c) (fun ws Q R _ h => p_added ws Q R h)
theorem ok_scaled (f : Fac fa fn K mg) : OkF P w K mg base T 4 "scaled" ["form", "many"] (S_scaled) :=
  fn_def (fun_scaled f) sc_scaled (fun cdv A outer s H E c => b_scaled f (ok_form_of f) (by decide) c) (fun ws Q R _ h => p_scaled ws Q R h)
theorem ok_product (f : Fac fa fn K mg) : OkF P w K mg base T 4 "product" ["one", "other"] (S_product) :=
  fn_def (fun_product f) sc_product (fun cdv A outer s H E c => b_product f (ok_form_of f) (by decide) c) (fun ws Q R _ h => p_product ws Q R h)
theorem ok_power_of (f : Fac fa fn K mg) : OkF P w K mg base T 1 "power_of" ["n", "many"] (S_power_of) :=
  fn_def (fun_power_of f) sc_power_of (fun cdv A outer s H E c => b_power_of f  c) (fun ws Q R _ h => p_power_of ws Q R h)
theorem ok_worth_of (f : Fac fa fn K mg) : OkF P w K mg base T 3 "worth_of" ["form", "n"] (S_worth_of) :=
  fn_def (fun_worth_of f) sc_worth_of (fun cdv A outer s H E c => b_worth_of f (ok_reduced f) (by decide) (ok_power_of f) (by decide) c) (fun ws Q R _ h => p_worth_of ws Q R h)
theorem ok_is_table (f : Fac fa fn K mg) : OkF P w K mg base T 2 "is_table" ["value"] (S_is_table) :=
  fn_def (fun_is_table f) sc_is_table (fun cdv A outer s H E c => b_is_table f (ok_is_tuple f) (by decide) (ok_is_number f) (by decide) c) (fun ws Q R _ h => p_is_table ws Q R h)
theorem ok_is_link (f : Fac fa fn K mg) : OkF P w K mg base T 2 "is_link" ["tables", "value"] (S_is_link) :=
  fn_def (fun_is_link f) sc_is_link (fun cdv A outer s H E c => b_is_link f (ok_is_tuple f) (by decide) (ok_is_number f) (by decide) c) (fun ws Q R _ h => p_is_link ws Q R h)
theorem ok_are_numbers (f : Fac fa fn K mg) : OkF P w K mg base T 2 "are_numbers" ["tables", "value", "least"] (S_are_numbers) :=
  fn_def (fun_are_numbers f) sc_are_numbers (fun cdv A outer s H E c => b_are_numbers f (ok_is_tuple f) (by decide) (ok_is_number f) (by decide) c) (fun ws Q R _ h => p_are_numbers ws Q R h)
theorem ok_is_good_question (f : Fac fa fn K mg) : OkF P w K mg base T 3 "is_good_question" ["value"] (S_is_good_question) :=
  fn_def (fun_is_good_question f) sc_is_good_question (fun cdv A outer s H E c => b_is_good_question f (ok_is_tuple f) (by decide) (ok_is_table f) (by decide) (ok_is_link f) (by decide) (ok_are_numbers f) (by decide) c) (fun ws Q R _ h => p_is_good_question ws Q R h)
theorem ok_are_linked (f : Fac fa fn K mg) : OkF P w K mg base T 1 "are_linked" ["question", "left", "right"] (S_are_linked) :=
  fn_def (fun_are_linked f) sc_are_linked (fun cdv A outer s H E c => b_are_linked f  c) (fun ws Q R _ h => p_are_linked ws Q R h)
theorem ok_tables_in (f : Fac fa fn K mg) : ∀ n : Nat, OkF P w K mg base T (n + 1) "tables_in" ["plan"] (S_tables_in n)
  | 0 => fn_def (fun_tables_in f) sc_tables_in (fun cdv A outer s H E c => b_tables_in f (fn_false (j := 0) (fun_tables_in f)) (by omega) c) (fun ws Q R _ h => p_tables_in0 _ ws Q R h)
  | n + 1 => fn_def (fun_tables_in f) sc_tables_in (fun cdv A outer s H E c => b_tables_in f (ok_tables_in f n) (by omega) c) (fun ws Q R _ h => p_tables_in n ws Q R h)
theorem ok_can_stand (f : Fac fa fn K mg) (n : Nat) : OkF P w K mg base T (n + 2) "can_stand" ["question", "left", "right", "method"] (S_can_stand n) :=
  fn_def (fun_can_stand f) sc_can_stand (fun cdv A outer s H E c => b_can_stand f (ok_tables_in f n) (by omega) (ok_are_linked f) (by omega) c) (fun ws Q R _ h => p_can_stand n ws Q R h)
theorem ok_is_shape (f : Fac fa fn K mg) (w_METHODS : ∀ H, SqT K H (He.ga K "METHODS") (wr_METHODS.map V.str)) : ∀ n : Nat, OkF P w K mg base T (n + 2) "is_shape" ["question", "value", "deep"] (S_is_shape n)
  | 0 => fn_def (fun_is_shape f) sc_is_shape (fun cdv A outer s H E c => b_is_shape f (ok_is_number f) (by omega) (ok_is_tuple f) (by omega) (fn_false (j := 0) (fun_is_shape f)) (by omega) w_METHODS c) (fun ws Q R _ h => p_is_shape0 _ ws Q R h)
  | n + 1 => fn_def (fun_is_shape f) sc_is_shape (fun cdv A outer s H E c => b_is_shape f (ok_is_number f) (by omega) (ok_is_tuple f) (by omega) (ok_is_shape f w_METHODS n) (by omega) w_METHODS c) (fun ws Q R _ h => p_is_shape n ws Q R h)
theorem ok_can_be_led (f : Fac fa fn K mg) : ∀ n : Nat, OkF P w K mg base T (n + 2) "can_be_led" ["question", "plan"] (S_can_be_led n)
  | 0 => fn_def (fun_can_be_led f) sc_can_be_led (fun cdv A outer s H E c => b_can_be_led f (fn_false (j := 0) (fun_can_be_led f)) (by omega) (fn_false (j := 0) (fun_can_stand f)) (by omega) c) (fun ws Q R _ h => p_can_be_led0 _ _ ws Q R h)
  | n + 1 => fn_def (fun_can_be_led f) sc_can_be_led (fun cdv A outer s H E c => b_can_be_led f (ok_can_be_led f n) (by omega) (ok_can_stand f n) (by omega) c) (fun ws Q R _ h => p_can_be_led n ws Q R h)
theorem ok_is_part_plan (f : Fac fa fn K mg) (w_METHODS : ∀ H, SqT K H (He.ga K "METHODS") (wr_METHODS.map V.str)) : OkF P w K mg base T 6 "is_part_plan" ["question", "value"] (S_is_part_plan) :=
  fn_def (fun_is_part_plan f) sc_is_part_plan (fun cdv A outer s H E c => b_is_part_plan f (ok_is_shape f w_METHODS 3) (by decide) (ok_tables_in f 3) (by decide) (ok_can_be_led f 3) (by decide) c) (fun ws Q R _ h => p_is_part_plan ws Q R h)
theorem ok_is_good_plan (f : Fac fa fn K mg) (w_METHODS : ∀ H, SqT K H (He.ga K "METHODS") (wr_METHODS.map V.str)) : OkF P w K mg base T 7 "is_good_plan" ["question", "value"] (S_is_good_plan) :=
  fn_def (fun_is_good_plan f) sc_is_good_plan (fun cdv A outer s H E c => b_is_good_plan f (ok_is_part_plan f w_METHODS) (by decide) (ok_tables_in f 3) (by decide) c) (fun ws Q R _ h => p_is_good_plan ws Q R h)
theorem ok_need_question (f : Fac fa fn K mg) : OkF P w K mg base T 4 "need_question" ["value"] (S_need_question (He.ga K "InvalidQuestion")) :=
  fn_def (fun_need_question f) sc_need_question (fun cdv A outer s H E c => b_need_question f (ok_is_good_question f) (by decide) c) (fun ws Q R _ h => p_need_question _ ws Q R h)
theorem ok_need_plan (f : Fac fa fn K mg) (w_METHODS : ∀ H, SqT K H (He.ga K "METHODS") (wr_METHODS.map V.str)) : OkF P w K mg base T 8 "need_plan" ["question", "value"] (S_need_plan (He.ga K "InvalidPlan")) :=
  fn_def (fun_need_plan f) sc_need_plan (fun cdv A outer s H E c => b_need_plan f (ok_is_good_plan f w_METHODS) (by decide) c) (fun ws Q R _ h => p_need_plan _ ws Q R h)
theorem ok_need_both (f : Fac fa fn K mg) (w_METHODS : ∀ H, SqT K H (He.ga K "METHODS") (wr_METHODS.map V.str)) : OkF P w K mg base T 9 "need_both" ["question", "plan"] (S_need_both (He.ga K "InvalidPlan")) :=
  fn_def (fun_need_both f) sc_need_both (fun cdv A outer s H E c => b_need_both f (ok_need_question f) (by decide) (ok_need_plan f w_METHODS) (by decide) c) (fun ws Q R _ h => p_need_both _ _ ws Q R h)
theorem ok_size_of (f : Fac fa fn K mg) : OkF P w K mg base T 3 "size_of" ["question", "tables"] (S_size_of) :=
  fn_def (fun_size_of f) sc_size_of (fun cdv A outer s H E c => b_size_of f (ok_reduced f) (by decide) c) (fun ws Q R _ h => p_size_of ws Q R h)
theorem ok_join_form (f : Fac fa fn K mg) : OkF P w K mg base T 5 "join_form" ["question", "left", "right", "method"] (S_join_form) :=
  fn_def (fun_join_form f) sc_join_form (fun cdv A outer s H E c => b_join_form f (ok_size_of f) (by decide) (ok_added f) (by decide) (ok_product f) (by decide) (ok_scaled f) (by decide) c) (fun ws Q R _ h => p_join_form ws Q R h)
theorem ok_cost_of (f : Fac fa fn K mg) : ∀ n : Nat, OkF P w K mg base T (n + 6) "cost_of" ["question", "plan"] (S_cost_of n)
  | 0 => fn_def (fun_cost_of f) sc_cost_of (fun cdv A outer s H E c => b_cost_of f (ok_size_of f) (by omega) (fn_false (j := 0) (fun_cost_of f)) (by omega) (fn_false (j := 0) (fun_join_form f)) (by omega) (fn_false (j := 0) (fun_tables_in f)) (by omega) (fn_false (j := 0) (fun_added f)) (by omega) c) (fun ws Q R _ h => p_cost_of0 _ _ _ _ ws Q R h)
  | n + 1 => fn_def (fun_cost_of f) sc_cost_of (fun cdv A outer s H E c => b_cost_of f (ok_size_of f) (by omega) (ok_cost_of f n) (by omega) (ok_join_form f) (by omega) (ok_tables_in f n) (by omega) (ok_added f) (by omega) c) (fun ws Q R _ h => p_cost_of n ws Q R h)
theorem ok_cost (f : Fac fa fn K mg) (w_METHODS : ∀ H, SqT K H (He.ga K "METHODS") (wr_METHODS.map V.str)) : OkF P w K mg base T 10 "cost" ["question", "plan"] (S_cost (He.ga K "InvalidPlan")) :=
  fn_def (fun_cost f) sc_cost (fun cdv A outer s H E c => b_cost f (ok_need_both f w_METHODS) (by decide) (ok_cost_of f 3) (by decide) c) (fun ws Q R _ h => p_cost _ ws Q R h)
theorem ok_cost_at (f : Fac fa fn K mg) (w_METHODS : ∀ H, SqT K H (He.ga K "METHODS") (wr_METHODS.map V.str)) : OkF P w K mg base T 10 "cost_at" ["question", "plan", "n"] (S_cost_at (He.ga K "InvalidPlan") (He.ga K "InvalidNumber")) :=
  fn_def (fun_cost_at f) sc_cost_at (fun cdv A outer s H E c => b_cost_at f (ok_need_both f w_METHODS) (by decide) (ok_need_n f) (by decide) (ok_worth_of f) (by decide) (ok_cost_of f 3) (by decide) c) (fun ws Q R _ h => p_cost_at _ _ ws Q R h)
theorem ok_law_source (f : Fac fa fn K mg) : OkF P w K mg base T 1 "_law_source" ["_law_script", "_law_k"] (S_law_source K) :=
  fn_def (fun_law_source f) sc_law_source (fun cdv A outer s H E c => b_law_source f  c) (fun ws Q R _ h => p_law_source K ws Q R h)
theorem ok_law_draw (f : Fac fa fn K mg) : OkF P w K mg base T 1 "_law_draw" ["_law_source_here", "_law_many"] (S_law_draw) :=
  fn_def (fun_law_draw f) sc_law_draw (fun cdv A outer s H E c => b_law_draw f  c) (fun ws Q R _ h => p_law_draw ws Q R h)
theorem ok_law_of (f : Fac fa fn K mg) : OkF P w K mg base T 2 "_law_of" ["_law_source_here", "_law_items"] (S_law_of) :=
  fn_def (fun_law_of f) sc_law_of (fun cdv A outer s H E c => b_law_of f (ok_law_draw f) (by decide) c) (fun ws Q R _ h => p_law_of ws Q R h)
theorem ok_law_common (f : Fac fa fn K mg) : OkF P w K mg base T 1 "_law_common" ["_law_one", "_law_other"] (S_law_common) :=
  fn_def (fun_law_common f) sc_law_common (fun cdv A outer s H E c => b_law_common f  c) (fun ws Q R _ h => p_law_common ws Q R h)
theorem ok_law_fraction (f : Fac fa fn K mg) : OkF P w K mg base T 2 "_law_fraction" ["_law_top", "_law_below"] (S_law_fraction) :=
  fn_def (fun_law_fraction f) sc_law_fraction (fun cdv A outer s H E c => b_law_fraction f (ok_law_common f) (by decide) c) (fun ws Q R _ h => p_law_fraction ws Q R h)
theorem ok_law_power (f : Fac fa fn K mg) : OkF P w K mg base T 1 "_law_power" ["_law_n", "_law_many"] (S_power_of) :=
  fn_def (fun_law_power f) sc_law_power (fun cdv A outer s H E c => b_law_power f  c) (fun ws Q R _ h => p_law_power ws Q R h)
theorem ok_law_worth (f : Fac fa fn K mg) : OkF P w K mg base T 3 "_law_worth" ["_law_form", "_law_n"] (S_law_worth) :=
  fn_def (fun_law_worth f) sc_law_worth (fun cdv A outer s H E c => b_law_worth f (ok_law_power f) (by decide) (ok_law_fraction f) (by decide) c) (fun ws Q R _ h => p_law_worth ws Q R h)
theorem ok_law_sum (f : Fac fa fn K mg) : OkF P w K mg base T 3 "_law_sum" ["_law_one", "_law_other"] (S_law_sum) :=
  fn_def (fun_law_sum f) sc_law_sum (fun cdv A outer s H E c => b_law_sum f (ok_law_fraction f) (by decide) c) (fun ws Q R _ h => p_law_sum ws Q R h)
theorem ok_law_question (f : Fac fa fn K mg) : OkF P w K mg base T 3 "_law_question" ["_law_source_here", "_law_most"] (S_law_question) :=
  fn_def (fun_law_question f) sc_law_question (fun cdv A outer s H E c => b_law_question f (ok_law_draw f) (by decide) (ok_law_of f) (by decide) c) (fun ws Q R _ h => p_law_question ws Q R h)
theorem ok_law_size (f : Fac fa fn K mg) : OkF P w K mg base T 3 "_law_size" ["_law_question_here", "_law_tables_here", "_law_n"] (S_law_size) :=
  fn_def (fun_law_size f) sc_law_size (fun cdv A outer s H E c => b_law_size f (ok_law_power f) (by decide) (ok_law_fraction f) (by decide) c) (fun ws Q R _ h => p_law_size ws Q R h)
theorem ok_law_tables (f : Fac fa fn K mg) : ∀ n : Nat, OkF P w K mg base T (n + 1) "_law_tables" ["_law_plan"] (S_law_tables n)
  | 0 => fn_def (fun_law_tables f) sc_law_tables (fun cdv A outer s H E c => b_law_tables f (fn_false (j := 0) (fun_law_tables f)) (by omega) c) (fun ws Q R _ h => p_law_tables0 _ ws Q R h)
  | n + 1 => fn_def (fun_law_tables f) sc_law_tables (fun cdv A outer s H E c => b_law_tables f (ok_law_tables f n) (by omega) c) (fun ws Q R _ h => p_law_tables n ws Q R h)
theorem ok_law_can (f : Fac fa fn K mg) (n : Nat) : OkF P w K mg base T (n + 2) "_law_can" ["_law_question_here", "_law_left", "_law_right_here", "_law_method"] (S_law_can n) :=
  fn_def (fun_law_can f) sc_law_can (fun cdv A outer s H E c => b_law_can f (ok_law_tables f n) (by omega) c) (fun ws Q R _ h => p_law_can n ws Q R h)
theorem ok_law_cost (f : Fac fa fn K mg) : ∀ n : Nat, OkF P w K mg base T (n + 4) "_law_cost" ["_law_question_here", "_law_plan", "_law_n"] (S_law_cost n)
  | 0 => fn_def (fun_law_cost f) sc_law_cost (fun cdv A outer s H E c => b_law_cost f (ok_law_size f) (by omega) (fn_false (j := 0) (fun_law_tables f)) (by omega) (fn_false (j := 0) (fun_law_sum f)) (by omega) (fn_false (j := 0) (fun_law_cost f)) (by omega) c) (fun ws Q R _ h => p_law_cost0 _ _ _ ws Q R h)
  | n + 1 => fn_def (fun_law_cost f) sc_law_cost (fun cdv A outer s H E c => b_law_cost f (ok_law_size f) (by omega) (ok_law_tables f (n + 1)) (by omega) (ok_law_sum f) (by omega) (ok_law_cost f n) (by omega) c) (fun ws Q R _ h => p_law_cost n ws Q R h)
theorem ok_law_plans0 (f : Fac fa fn K mg) : OkF P w K mg base T 2 "_law_plans" ["_law_question_here", "_law_tables_here"] (S_law_plans 0) :=
  fn_def (fun_law_plans f) sc_law_plans (fun cdv A outer s H E c => b_law_plans f (ok_law_power f) (by omega) (fn_false (j := 0) (fun_law_plans f)) (by omega) (fn_false (j := 0) (fun_law_can f)) (by omega) c) (fun ws Q R _ h => p_law_plans0 _ _ _ ws Q R h)
theorem ok_law_plansS (f : Fac fa fn K mg) (n : Nat) (hn : n ≤ 9) (ih : OkF P w K mg base T (n + 2) "_law_plans" ["_law_question_here", "_law_tables_here"] (S_law_plans n)) : OkF P w K mg base T (n + 3) "_law_plans" ["_law_question_here", "_law_tables_here"] (S_law_plans (n + 1)) :=
  fn_def (fun_law_plans f) sc_law_plans (fun cdv A outer s H E c => b_law_plans f (ok_law_power f) (by omega) ih (by omega) (ok_law_can f n) (by omega) c) (fun ws Q R _ h => p_law_plans n hn ws Q R h)
theorem ok_law_plans (f : Fac fa fn K mg) : OkF P w K mg base T 5 "_law_plans" ["_law_question_here", "_law_tables_here"] (S_law_plans 3) :=
  ok_law_plansS f 2 (by omega) (ok_law_plansS f 1 (by omega) (ok_law_plansS f 0 (by omega) (ok_law_plans0 f)))
theorem ok_law_known (f : Fac fa fn K mg) : OkF P w K mg base T 1 "_law_known" [] (S_law_known) :=
  fn_def (fun_law_known f) sc_law_known (fun cdv A outer s H E c => b_law_known f  c) (fun ws Q R _ h => p_law_known ws Q R h)
theorem ok_law_right (f : Fac fa fn K mg) (w_METHODS : ∀ H, SqT K H (He.ga K "METHODS") (wr_METHODS.map V.str)) : OkF P w K mg base T 11 "_law_right" ["_law_source_here", "_law_question_here", "_law_plan"] (S_law_right (He.ga K "InvalidPlan") (He.ga K "InvalidNumber")) :=
  fn_def (fun_law_right f) sc_law_right (fun cdv A outer s H E c => b_law_right f (ok_cost f w_METHODS) (by decide) (ok_law_common f) (by decide) (ok_law_draw f) (by decide) (ok_law_cost f 3) (by decide) (ok_cost_at f w_METHODS) (by decide) (ok_law_worth f) (by decide) c) (fun ws Q R _ h => p_law_right _ _ ws Q R h)
end
end k03
end GJ

/-! H3: what more is asked of the head: a written tuple of texts, error classes that isinstance asks. -/
namespace GJ
open PySem PySem.Spec PyProof.Rows L2
def wrB (K : PySem.W.Frag) (x : Str) (xs : List Str) : Bool := match K.lookup (He.ga K x) with
  | some ⟨.type c, _, .seq its _, _⟩ => decide (c = "tuple") && (decide (its.size ≤ 40) && He.relAll (xs.map V.str) its.toList)
  | _ => false
theorem wrB_ok {K : PySem.W.Frag} {x : Str} {xs : List Str} (h : wrB K x xs = true) : ∀ H, SqT K H (He.ga K x) (xs.map V.str) := by
  intro H
  unfold wrB at h
  split at h
  · rename_i c od its n sl e
    simp only [Bool.and_eq_true, decide_eq_true_eq] at h
    obtain ⟨rfl, h2, h3⟩ := h
    exact .inr ⟨_, its, n, e, rfl, rfl, Nat.le_trans h2 (by decide), He.relAll_ok h3⟩
  · cases h
def excB (K : PySem.W.Frag) (x : Str) : Bool :=
  (He.eqO (PySem.W.findIn K (.ref (He.ga K x)) "__getattribute__") (some (some (.builtin "BaseException.__getattribute__"))) && (He.eqO (PySem.W.findIn K (.ref (He.ga K x)) "__getattr__") (some none) && (decide (PySem.W.subIn K (.ref (He.ga K x)) (.type "BaseException") = some true) && PySem.W.hasDictIn K (He.ga K x)))) &&
  ((He.eqO (PySem.W.findIn K (.ref (He.ga K x)) "__class__") (some (some (.builtin "object.__class__"))) && He.eqO (PySem.W.specialIn K (.builtin "object.__class__") "__get__") (some (some (.builtin "getset_descriptor.__get__")))) && (decide (PySem.W.takesIn K (.builtin "object.__class__") = some true) && decide (PySem.W.mroIn K (He.ga K x) (.type "object") = some true)))
theorem excB_ok {K : PySem.W.Frag} {x : Str} (h : excB K x = true) : ExcC K (He.ga K x) := by
  unfold excB at h
  simp only [Bool.and_eq_true, decide_eq_true_eq] at h
  obtain ⟨⟨h1, h2, h3, h4⟩, ⟨h5, h6⟩, h7, h8⟩ := h
  exact ⟨He.eqO_ok h1, He.eqO_ok h2, h3, h4, He.eqO_ok h5, He.eqO_ok h6, h7, h8⟩
def kitBB (K : PySem.W.Frag) (x y : Str) : Bool := decide (PySem.W.kitOne K (.ref (He.ga K x)) (.ref (He.ga K y)) = some true)
theorem kitBB_ok {K : PySem.W.Frag} {x y : Str} (h : kitBB K x y = true) : PySem.W.kitOne K (.ref (He.ga K x)) (.ref (He.ga K y)) = some true := of_decide_eq_true h
/-- the law's promise at the head -/
theorem law_sp {K : PySem.W.Frag} {T : TabL} {S : SpD} {H : Hp} {a : Addr} {ns : List Int} (hS : ∀ (Q : W → Prop) (R : Addr → Prop), Q (.val (.bool true)) → S [.scr K ns] Q R) (tb : LamX.Tabs T H) (sq : SqL K H a (ns.map V.int)) :
    dsp T 1 S [.ref a] H (fun v _ => v = .bl true) fun _ _ _ => False := by
  refine ⟨rfl, fun _ => False, [.scr K ns], fun w => w = .val (.bool true), fun _ => False, fun _ z => z.elim, tb, .cons ⟨a, rfl, ?_⟩ .nil, ?_, hS _ _ rfl, ?_, fun _ _ z => z.elim⟩
  · rcases sq with (h | h) | h
    · exact .inl ⟨h, fun z => z⟩
    · exact .inr (.inl h)
    · exact .inr (.inr h)
  · intro w m
    rw [List.mem_singleton.mp m]; rfl
  · rintro v H' w _ r _ rfl
    cases r; rfl
end GJ

namespace GJ.k03
open PySem PySem.Spec PyProof.Rows L2
def ex (K : PySem.W.Frag) : Bool := (wrB K "METHODS" wr_METHODS && (excB K "InvalidPlan" && (excB K "InvalidNumber" && (kitBB K "InvalidPlan" "JoinError" && kitBB K "InvalidNumber" "JoinError"))))
def tf : List He.Defn := [("law", none)]
def lo0 : List Str := ["__name__", "JoinError", "InvalidNumber", "InvalidQuestion", "InvalidPlan", "FAR", "is_number", "is_tuple", "divisor", "reduced", "need_n", "form_of", "added", "scaled", "product", "power_of", "worth_of", "METHODS", "is_table", "is_link", "are_numbers", "is_good_question", "are_linked", "can_stand", "tables_in", "is_shape", "can_be_led", "is_part_plan", "is_good_plan", "need_question"]
def lo1 : List Str := ["need_plan", "need_both", "size_of", "join_form", "cost_of", "cost", "cost_at", "_law_source", "_law_draw", "_law_of", "_law_common", "_law_fraction", "_law_power", "_law_worth", "_law_sum", "_law_question", "_law_size", "_law_tables", "_law_can", "_law_cost", "_law_plans", "_law_known", "_law_word", "_law_right"]
def lo : List Str := lo0 ++ lo1
abbrev R : PySem.W.OpenRow := PySem.W.OpenLaw.row PySem.Challenge.rw_growjoins_k03_costs_of_plans
abbrev hk : PySem.W.Hook := He.hookX 6 fa fn [] tf ex
def ob (s : PySem.W.SharedT) : He.AlX := He.obsX 6 fa fn [] tf ex (HandSHeadRun.getT s)
theorem ob_eq (s : PySem.W.SharedT) : ob s = hk.obs s.abs := He.obsX_eq (HandSHeadRun.getT_eq s)
theorem run (w : World) : HandSHeadRun.RunEq R (PySem.W.view R.prog [58]) hk ob 4000 lo w := by
  intro os
  kernel_rfl
theorem wd_InvalidPlan {K : PySem.W.Frag} {mg : Str → Option Value} (f : Fac fa fn K mg) (x : ex K = true) : Wd K (He.ga K "JoinError") [(He.ga K "InvalidPlan", "plan"), (He.ga K "InvalidNumber", "number")] (He.ga K "InvalidPlan") "plan" := by
  obtain ⟨w0, z5⟩ := He.ba x
  obtain ⟨e_InvalidPlan, z4⟩ := He.ba z5
  obtain ⟨e_InvalidNumber, z3⟩ := He.ba z4
  obtain ⟨k_InvalidPlan, z2⟩ := He.ba z3
  have k_InvalidNumber := z2
  exact ⟨true, He.exm_ok (f.says.fact 78 rfl), fun _ => ⟨rfl, excB_ok e_InvalidPlan, kitBB_ok k_InvalidPlan⟩, fun z => by cases z⟩
theorem wd_InvalidNumber {K : PySem.W.Frag} {mg : Str → Option Value} (f : Fac fa fn K mg) (x : ex K = true) : Wd K (He.ga K "JoinError") [(He.ga K "InvalidPlan", "plan"), (He.ga K "InvalidNumber", "number")] (He.ga K "InvalidNumber") "number" := by
  obtain ⟨w0, z5⟩ := He.ba x
  obtain ⟨e_InvalidPlan, z4⟩ := He.ba z5
  obtain ⟨e_InvalidNumber, z3⟩ := He.ba z4
  obtain ⟨k_InvalidPlan, z2⟩ := He.ba z3
  have k_InvalidNumber := z2
  exact ⟨false, He.exm_ok (f.says.fact 76 rfl), fun z => (by cases z), fun _ => ⟨true, He.exm_ok (f.says.fact 80 rfl), fun _ => ⟨rfl, excB_ok e_InvalidNumber, kitBB_ok k_InvalidNumber⟩, fun z => by cases z⟩⟩
theorem w_METHODS {K : PySem.W.Frag} (x : ex K = true) : ∀ H, SqT K H (He.ga K "METHODS") (wr_METHODS.map V.str) := by
  obtain ⟨w0, z5⟩ := He.ba x
  obtain ⟨e_InvalidPlan, z4⟩ := He.ba z5
  obtain ⟨e_InvalidNumber, z3⟩ := He.ba z4
  obtain ⟨k_InvalidPlan, z2⟩ := He.ba z3
  have k_InvalidNumber := z2
  exact wrB_ok w0
theorem ok_law {P : Program} {w : World} {K : PySem.W.Frag} {mg : Str → Option Value} {base : Heap} {T : TabL} {lc lP : Addr} (f : Fac fa fn K mg) (x : ex K = true) (tB : LamX.TabB base mg lc lP) (hcode : (fdOf K "law").code = .ref lc) (hmT : (lP, lamQ "law") ∈ T) (hu : ∀ p ∈ T, p.1 = lP → p.2 = lamQ "law") : OkF P w K mg base T 14 "law" ["_law_script"] (S_law K) :=
  fn_defC (k := 13) (fun_law f) sc_law (fun A outer s H E c => b_law f (ok_law_source f) (by omega) (ok_law_question f) (by omega) (ok_law_plans f) (by omega) (ok_law_right f (w_METHODS x)) (by omega) (ok_law_of f) (by omega) (ok_cost f (w_METHODS x)) (by omega) (ok_cost_at f (w_METHODS x)) (by omega) (ok_law_known f) (by omega) tB hcode hmT hu c) (fun ws Q R _ h => p_law K _ _ _ (wd_InvalidPlan f x) (wd_InvalidNumber f x) ws Q R h)
theorem facts {P : Program} {w : World} {K : PySem.W.Frag} {h : Heap} {mg : Str → Option Value} {fa' : Addr} (X : K.In h) (G : h.Ns mainGlobals mg) (hfa : mg ("law" : Str) = some (.ref fa')) (c : He.SaysX fa fn [] tf ex w h K) (f : Fac fa fn K mg) :
    ∃ (fd : FuncData) (cs : List (Addr × Addr)) (sp : Sp), (∀ p ∈ cs, h.get? p.2 = some { cls := .none, data := .fields #[] }) ∧ (∀ p ∈ cs, K.lookup p.2 = none) ∧ (∀ p ∈ cs, PySem.W.CodeHd h p.1 p.2) ∧ (∀ (s : Shared) (u : Value), BindsTo s fd ⟨[u], []⟩ [("_law_script", u)]) ∧
    (∀ (H : Hp) (a : Addr) (ns : List Int), ns.length ≤ 63 → (∀ z ∈ ns, Builtin.Int.intBits z ≤ 1048576) → (∀ p ∈ cs, H p.2 = some (.tbl #[])) → SqL K H a (ns.map V.int) → sp [.ref a] H (fun v _ => v = .bl true) fun _ _ _ => False) ∧
    ∀ base : Heap, K.In base → base.Ns mainGlobals mg → (∀ p ∈ cs, LamX.TabB base mg p.1 p.2) → FnOk P w K mg base (L2.CX P w) 14 fa' fd ["_law_script"] sp := by
  have e := hfa.symm.trans (f.glo 47 rfl)
  cases e
  have b : ∀ (s : Shared) (u : Value), BindsTo s (fdOf K "law") ⟨[u], []⟩ [("_law_script", u)] := by
    obtain ⟨fd', F'⟩ := f.says.def_ 47 (d := d_law) rfl
    obtain ⟨oc, od, dV, kV, doc, pm, an, cdv, ct, osl, e1, lk, _⟩ := F'.ex
    have e2 : fdOf K "law" = fd' := fdOf_eq lk
    rw [e2]
    exact fun s u => L2.FunD.bindsA (ps := ["_law_script"]) F' (fun _ _ _ _ _ _ us hl => match us, hl with | [_], _ => rfl) s [u] rfl

  obtain ⟨oc, od, kV, doc, pm, an, cdv, ct, osl, e1, lk, hcd⟩ := (fun_law f).ex
  obtain ⟨lc, rfl⟩ := He.codeIn_ref hcd
  have hcode : (fdOf K "law").code = .ref lc := by rw [e1]
  have hc : He.codeOf K ("law", none) = lc := He.codeOf_eq lk hcode
  have m0 : (("law", none) : He.Defn) ∈ tf := by decide
  have hT : (He.cT K ("law", none)).1 = lc := hc
  refine ⟨fdOf K "law", [He.cT K ("law", none)], dsp [((He.cT K ("law", none)).2, lamQ "law")] 1 (S_law K), ?_, ?_, ?_, b, ?_, ?_⟩
  · intro p m; rw [List.mem_singleton.mp m]; exact c.empty _ m0
  · intro p m; rw [List.mem_singleton.mp m]; exact c.out _ m0
  · intro p m; rw [List.mem_singleton.mp m]; exact PySem.W.codeHd_of_K X (c.hd _ m0)
  · intro H a ns hl _ hH hS
    refine law_sp (fun Q R q => ⟨ns, rfl, hl, q⟩) (fun p m => ?_) hS
    rw [List.mem_singleton.mp m]
    exact LamX.TabS.nil (hH _ List.mem_cons_self)
  · intro base hK hns hTB
    have tB := hTB _ List.mem_cons_self
    rw [hT] at tB
    exact ok_law f c.more tB hcode List.mem_cons_self (fun p m _ => by rw [List.mem_singleton.mp m])
end GJ.k03
open PySem PySem.W PySem.Calls PyProof.Rows
theorem PySem.Challenge.cw_growjoins_k03_costs_of_plans_holds : PySem.Challenge.rw_growjoins_k03_costs_of_plans.Holds := by
  w_on; o_law
  refine HandSHeadRun.head_any (r := OpenLaw.row PySem.Challenge.rw_growjoins_k03_costs_of_plans) (q := view (OpenLaw.row PySem.Challenge.rw_growjoins_k03_costs_of_plans).prog [58]) (H := GJ.k03.hk) (ob := GJ.k03.ob) (M := 4000) (loose := GJ.k03.lo) (d := HandSHeadRun.topDef (OpenLaw.row PySem.Challenge.rw_growjoins_k03_costs_of_plans).prog 58) (kwd := []) GJ.k03.ob_eq
    (by kernel_rfl) (fun s => by kernel_rfl) GJ.k03.run (by kernel_rfl) (by kernel_rfl) (by kernel_rfl) (by rfl) (by first | assumption | decide +kernel) (by decide +kernel) ⟨rfl, rfl, rfl, rfl, rfl, by decide +kernel⟩ ?hw ?hc
  case hw => w_witness2
  case hc =>
    refine LamX.walk_ofTsE (l := PySem.Challenge.rw_growjoins_k03_costs_of_plans) (n := 63) (k := 14) (x := "_law_script") (CX := fun w => L2.CX PySem.Challenge.rw_growjoins_k03_costs_of_plans.prog w) rfl (by decide) (by kernel_rfl) ⟨rfl, by decide, by decide⟩ ?F (fun w H s e s' h => ?_)
    · intro w mg fa h Y G hmg0
      obtain ⟨K, KX, c⟩ := Y
      have hmg : mg ("law" : PySem.Str) = some (.ref fa) := by
        have e : (HandSHeadRun.topDef (OpenLaw.row PySem.Challenge.rw_growjoins_k03_costs_of_plans).prog 58).name = ("law" : PySem.Str) := by kernel_rfl
        rw [← e]
        exact hmg0
      exact ⟨K, KX, GJ.k03.facts KX G hmg c ⟨c.t.d, h, KX, G⟩⟩
    · obtain ⟨_, _, _, _, _, _, _, _, _, _, _, _, z⟩ := h
      exact z.elim

