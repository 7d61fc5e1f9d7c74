import PyProof.Rows.All
import Wide.All
import OpenK.AllK
import Wide.FinOn
import HandS.ForMost
import HandS.Codes
import HandS.Deep
import HandS.IsInst
import HandS.DictComp
import HandS.SortKw
import HandS.Zip
import HandS.Flow
import HandS.Strs
import KE.Datum
import KE.DatumOrd
import KE.SortData
import KE.KeyNested
import HandS.TupSets
import HandS.Defaults
import HandS.HeadHook2
import PySem.Challenge.RW_anylatency_k55_whole_gaps_and_meetings_b
import KE.KStateDown
import HandS.Base
import HandS.Call
import HandS.Ends
import HandS.More
import HandS.Words
import HandS.WordsExc
import HandS.Head0
import HandS.Head1
import HandS.Head2
import HandS.HeadEnd
import HandS.HeadHook1
import KE.OsSortAny
import HandS.Star
import HandS.Style
import HandS.Text
import PyProof.Rows.TupAdd
import KE.GoesMore
import PyProof.Draws
import KE.KDictWalk
import KE.KDictDisplayH
import HandS.Wide
import HandS.Conv
import KE.KDictCopyH
import KE.KDictPairs
set_option Elab.async false
set_option linter.all false
set_option maxRecDepth 100000
set_option maxHeartbeats 0
/-! B0 -/
namespace My
open PySem L2

/-! ### frames -/
/-- what can be read stays readable, tuples stay -/
structure Sm (H H' : Hp) : Prop where
  rd : ∀ a u, Mut (some u) → Rd H a u → Rd H' a u
  tp : ∀ a xs, H a = some (.tup xs) → H' a = some (.tup xs)
  fz : ∀ a o xs, H a = some (.frz o (.tup xs)) → H' a = some (.frz o (.tup xs))
theorem Sm.refl (H : Hp) : Sm H H := ⟨fun _ _ _ h => h, fun _ _ h => h, fun _ _ _ h => h⟩
theorem Sm.trans {H H1 H2 : Hp} (a : Sm H H1) (b : Sm H1 H2) : Sm H H2 := ⟨fun x o m h => b.rd x o m (a.rd x o m h), fun x o h => b.tp x o (a.tp x o h), fun x o xs h => b.fz x o xs (a.fz x o xs h)⟩
theorem sm_of {H H' : Hp} (e : Same H H') : Sm H H' :=
  ⟨fun a u _ h => h.elim (fun h => .inl (e a _ h)) fun ⟨o, h⟩ => .inr ⟨o, e a _ h⟩, fun a xs h => e a _ h, fun a o xs h => e a _ h⟩
theorem same_new {H : Hp} {p : Addr} {o : HO} (h : H p = none) : Same H (upd H p o) := fun a u e => by
  rw [upd_ne (ne_of_none e h)]
  exact e
/-- an object that H does not know may change -/
theorem same_mut {H H' : Hp} {p : Addr} {o : HO} (e : Same H H') (h : H p = none) : Same H (upd H' p o) := fun a u ha => by
  rw [upd_ne (ne_of_none ha h)]
  exact e a u ha
theorem Sm.mut {H H' : Hp} {p : Addr} {o : HO} (e : Sm H H') (h : H p = none) : Sm H (upd H' p o) := by
  refine ⟨fun a u m r => ?_, fun a xs r => ?_, fun a o xs r => by rw [upd_ne (ne_of_none r h)]; exact e.fz a o xs r⟩
  · have ne : a ≠ p := by
      rcases r with r | ⟨o, r⟩
      · exact ne_of_none r h
      · exact ne_of_none r h
    rcases e.rd a u m r with q | ⟨o', q⟩
    · exact .inl (by rw [upd_ne ne]; exact q)
    · exact .inr ⟨o', by rw [upd_ne ne]; exact q⟩
  · have ne : a ≠ p := ne_of_none r h
    rw [upd_ne ne]
    exact e.tp a xs r
/-- lock and unlock -/
theorem Sm.lock {H : Hp} {d : Addr} {u : HO} {od : Obj} (h : H d = some u) (mu : Mut (some u)) : Sm H (upd H d (.frz od u)) := by
  refine ⟨fun a x m r => ?_, fun a xs r => ?_, fun a o xs r => by
    have e : a ≠ d := by
      rintro rfl
      rw [h] at r
      cases r
      exact mu.elim
    rw [upd_ne e]
    exact r⟩
  · by_cases e : a = d
    · subst e
      rcases r with r | ⟨o, r⟩
      · rw [h] at r
        cases r
        exact .inr ⟨od, upd_same⟩
      · rw [h] at r
        cases r
        exact mu.elim
    · rcases r with r | ⟨o, r⟩
      · exact .inl (by rw [upd_ne e]; exact r)
      · exact .inr ⟨o, by rw [upd_ne e]; exact r⟩
  · have e : a ≠ d := by
      rintro rfl
      rw [h] at r
      cases r
      exact mu
    rw [upd_ne e]
    exact r
theorem Sm.unlock {H : Hp} {d : Addr} {u : HO} {od : Obj} (h : H d = some (.frz od u)) (nt : ∀ xs, u ≠ .tup xs := by intro _ z; cases z) : Sm H (upd H d u) := by
  refine ⟨fun a x m r => ?_, fun a xs r => ?_, fun a o xs r => by
    have e : a ≠ d := by
      rintro rfl
      rw [h] at r
      injection r with r
      injection r with _ r
      exact nt xs r
    rw [upd_ne e]
    exact r⟩
  · by_cases e : a = d
    · subst e
      rcases r with r | ⟨o, r⟩
      · rw [h] at r
        cases r
        exact m.elim
      · rw [h] at r
        cases r
        exact .inl upd_same
    · rcases r with r | ⟨o, r⟩
      · exact .inl (by rw [upd_ne e]; exact r)
      · exact .inr ⟨o, by rw [upd_ne e]; exact r⟩
  · have e : a ≠ d := by
      rintro rfl
      rw [h] at r
      cases r
    rw [upd_ne e]
    exact r
theorem same_unlock {H H' : Hp} {d : Addr} {u : HO} {od : Obj} (h : H d = some u) (e : Same (upd H d (.frz od u)) H') : Same H (upd H' d u) := fun a o ha => by
  by_cases q : a = d
  · subst q
    rw [h] at ha
    rw [upd_same]
    exact ha
  · rw [upd_ne q]
    exact e a o (by rw [upd_ne q]; exact ha)

/-! ### data -/
mutual
/-- v holds the datum d -/
inductive Rp (H : Hp) : V → PyData → Prop
  | non : Rp H .non .none
  | bl (b : Bool) : Rp H (.bl b) (.bool b)
  | int (i : Int) : Rp H (.int i) (.int i)
  | str (x : Str) : Rp H (.str x) (.str x)
  | lst {a : Addr} {xs : List V} {ds : List PyData} : Rd H a (.lst xs) → RpA H xs ds → Rp H (.ref a) (.list ds)
  | tup {a : Addr} {xs : List V} {ds : List PyData} : H a = some (.tup xs) → RpA H xs ds → Rp H (.ref a) (.tuple ds)
inductive RpA (H : Hp) : List V → List PyData → Prop
  | nil : RpA H [] []
  | cons {v : V} {vs : List V} {d : PyData} {ds : List PyData} : Rp H v d → RpA H vs ds → RpA H (v :: vs) (d :: ds)
end
section
variable {H H' : Hp}
mutual
theorem Rp.mono (e : Sm H H') : ∀ (d : PyData) (v : V), Rp H v d → Rp H' v d
  | .none, _, h => by cases h; exact .non
  | .bool b, _, h => by cases h; exact .bl b
  | .int i, _, h => by cases h; exact .int i
  | .str x, _, h => by cases h; exact .str x
  | .list ds, _, h => by
    cases h with
    | lst h1 h2 => exact .lst (e.rd _ _ True.intro h1) (RpA.mono e ds _ h2)
  | .tuple ds, _, h => by
    cases h with
    | tup h1 h2 => exact .tup (e.tp _ _ h1) (RpA.mono e ds _ h2)
  | .dict _, _, h => by cases h
theorem RpA.mono (e : Sm H H') : ∀ (ds : List PyData) (vs : List V), RpA H vs ds → RpA H' vs ds
  | [], _, h => by cases h; exact .nil
  | d :: ds, _, h => by
    cases h with
    | cons h1 h2 => exact .cons (Rp.mono e d _ h1) (RpA.mono e ds _ h2)
end
/-! no list within -/
mutual
def tupD : PyData → Bool
  | .list _ => false
  | .dict _ => false
  | .tuple ds => tupDs ds
  | _ => true
def tupDs : List PyData → Bool
  | [] => true
  | d :: ds => tupD d && tupDs ds
end
/-- tuples alone stay -/
def Tp (H H' : Hp) : Prop := ∀ a xs, H a = some (.tup xs) → H' a = some (.tup xs)
mutual
theorem Rp.tps (e : Tp H H') : ∀ (d : PyData) (v : V), tupD d = true → Rp H v d → Rp H' v d
  | .none, _, _, h => by cases h; exact .non
  | .bool b, _, _, h => by cases h; exact .bl b
  | .int i, _, _, h => by cases h; exact .int i
  | .str x, _, _, h => by cases h; exact .str x
  | .list ds, _, z, _ => by simp [tupD] at z
  | .tuple ds, _, z, h => by
    simp only [tupD] at z
    cases h with
    | tup h1 h2 => exact .tup (e _ _ h1) (RpA.tps e ds _ z h2)
  | .dict _, _, _, h => by cases h
theorem RpA.tps (e : Tp H H') : ∀ (ds : List PyData) (vs : List V), tupDs ds = true → RpA H vs ds → RpA H' vs ds
  | [], _, _, h => by cases h; exact .nil
  | d :: ds, _, z, h => by
    simp only [tupDs, Bool.and_eq_true] at z
    cases h with
    | cons h1 h2 => exact .cons (Rp.tps e d _ z.1 h1) (RpA.tps e ds _ z.2 h2)
end
theorem tp_of {H H' : Hp} (e : Same H H') : Tp H H' := fun a xs h => e a _ h
theorem tp_upd {H : Hp} {p : Addr} {u o : HO} (h : H p = some u) (nt : ∀ xs, u ≠ .tup xs) : Tp H (upd H p o) := fun a xs r => by
  have e : a ≠ p := by
    rintro rfl
    rw [h] at r
    cases r
    exact nt xs rfl
  rw [upd_ne e]
  exact r
theorem RpA.length : ∀ {vs : List V} {ds : List PyData}, RpA H vs ds → vs.length = ds.length
  | _, _, .nil => rfl
  | _, _, .cons _ t => by rw [List.length_cons, List.length_cons, RpA.length t]
theorem RpA.get : ∀ {vs : List V} {ds : List PyData} {i : Nat} {v : V}, RpA H vs ds → vs[i]? = some v → ∃ d, ds[i]? = some d ∧ Rp H v d
  | _, _, _, _, .nil, e => by simp at e
  | _, _, 0, _, .cons r _, e => by simp at e; subst e; exact ⟨_, rfl, r⟩
  | _, _, i + 1, v, .cons _ t, e => by
    obtain ⟨d, h1, h2⟩ := RpA.get (i := i) (v := v) t (by simpa using e)
    exact ⟨d, by simpa using h1, h2⟩
theorem RpA.get' : ∀ {vs : List V} {ds : List PyData} {i : Nat} {d : PyData}, RpA H vs ds → ds[i]? = some d → ∃ v, vs[i]? = some v ∧ Rp H v d
  | _, _, _, _, .nil, e => by simp at e
  | _, _, 0, _, .cons r _, e => by simp at e; subst e; exact ⟨_, rfl, r⟩
  | _, _, i + 1, v, .cons _ t, e => by
    obtain ⟨d, h1, h2⟩ := RpA.get' (i := i) t (by simpa using e)
    exact ⟨d, by simpa using h1, h2⟩
theorem RpA.append : ∀ {vs ws : List V} {ds es : List PyData}, RpA H vs ds → RpA H ws es → RpA H (vs ++ ws) (ds ++ es)
  | _, _, _, _, .nil, s => s
  | _, _, _, _, .cons r t, s => .cons r (RpA.append t s)
theorem RpA.snoc {vs : List V} {v : V} {ds : List PyData} {d : PyData} (a : RpA H vs ds) (b : Rp H v d) : RpA H (vs ++ [v]) (ds ++ [d]) := a.append (.cons b .nil)
theorem RpA.strs : ∀ {vs : List V} {xs : List Str}, RpA H vs (xs.map .str) → vs = xs.map V.str
  | _, [], h => by cases h; rfl
  | _, x :: xs, h => by
    cases h with
    | cons h1 h2 => cases h1; rw [RpA.strs h2]; rfl
theorem rpA_strs : ∀ (xs : List Str), RpA H (xs.map V.str) (xs.map .str)
  | [] => .nil
  | x :: xs => .cons (.str x) (rpA_strs xs)
theorem RpA.ints : ∀ {vs : List V} {xs : List Int}, RpA H vs (xs.map .int) → vs = xs.map V.int
  | _, [], h => by cases h; rfl
  | _, x :: xs, h => by
    cases h with
    | cons h1 h2 => cases h1; rw [RpA.ints h2]; rfl
theorem RpA.bls : ∀ {vs : List V} {xs : List Bool}, RpA H vs (xs.map .bool) → vs = xs.map V.bl
  | _, [], h => by cases h; rfl
  | _, x :: xs, h => by
    cases h with
    | cons h1 h2 => cases h1; rw [RpA.bls h2]; rfl
theorem rpA_ints : ∀ (xs : List Int), RpA H (xs.map V.int) (xs.map .int)
  | [] => .nil
  | x :: xs => .cons (.int x) (rpA_ints xs)
mutual
theorem Rp.dp (K : PySem.W.Frag) : ∀ (d : PyData) (v : V), Rp H v d → Dp K H v d
  | .none, _, h => by cases h; exact .non
  | .bool b, _, h => by cases h; exact .bl b
  | .int i, _, h => by cases h; exact .int i
  | .str x, _, h => by cases h; exact .str x
  | .list ds, _, h => by
    cases h with
    | lst h1 h2 => exact .lst (.inl h1) (RpA.dp K ds _ h2)
  | .tuple ds, _, h => by
    cases h with
    | tup h1 h2 => exact .tup (.inl (.inl h1)) (RpA.dp K ds _ h2)
  | .dict _, _, h => by cases h
theorem RpA.dp (K : PySem.W.Frag) : ∀ (ds : List PyData) (vs : List V), RpA H vs ds → DpAll K H vs ds
  | [], _, h => by cases h; exact .nil
  | d :: ds, _, h => by
    cases h with
    | cons h1 h2 => exact .cons (Rp.dp K d _ h1) (RpA.dp K ds _ h2)
end
theorem RpA.take : ∀ {vs : List V} {ds : List PyData} (n : Nat), RpA H vs ds → RpA H (vs.take n) (ds.take n)
  | _, _, 0, _ => .nil
  | _, _, _ + 1, .nil => .nil
  | _, _, n + 1, .cons r t => .cons r (RpA.take n t)
theorem RpA.drop : ∀ {vs : List V} {ds : List PyData} (n : Nat), RpA H vs ds → RpA H (vs.drop n) (ds.drop n)
  | _, _, 0, r => r
  | _, _, _ + 1, .nil => .nil
  | _, _, n + 1, .cons _ t => RpA.drop n t
theorem RpA.rev {vs : List V} {ds : List PyData} (h : RpA H vs ds) : RpA H vs.reverse ds.reverse := by
  have go : ∀ {vs : List V} {ds : List PyData}, RpA H vs ds → RpA H vs.reverse ds.reverse := by
    intro vs
    induction vs with
    | nil => intro ds h; cases h; exact .nil
    | cons v vs ih =>
      intro ds h
      cases h with
      | cons h1 h2 =>
        rw [List.reverse_cons, List.reverse_cons]
        exact (ih h2).snoc h1
  exact go h
/-- by a map -/
theorem rpA_map {α : Type} {f : α → V} {g : α → PyData} : ∀ {l : List α}, (∀ x ∈ l, Rp H (f x) (g x)) → RpA H (l.map f) (l.map g)
  | [], _ => .nil
  | x :: l, h => .cons (h x List.mem_cons_self) (rpA_map fun y hy => h y (List.mem_cons_of_mem _ hy))
end

/-! ### relations that frames keep -/
abbrev Rel := V → Hp → Prop
class Mono (R : Rel) : Prop where
  up : ∀ {v : V} {H H' : Hp}, Sm H H' → R v H → R v H'
def Is (d : PyData) : Rel := fun v H => Rp H v d
instance {d : PyData} : Mono (Is d) := ⟨fun e h => Rp.mono e d _ h⟩
/-- a dict with text keys: its entries in order -/
inductive KvA (H : Hp) : List (Key × V) → List (Str × PyData) → Prop
  | nil : KvA H [] []
  | cons {k : Str} {v : V} {d : PyData} {kvs : List (Key × V)} {m : List (Str × PyData)} : Rp H v d → KvA H kvs m → KvA H ((.inr k, v) :: kvs) ((k, d) :: m)
theorem KvA.mono {H H' : Hp} (e : Sm H H') : ∀ {kvs : List (Key × V)} {m : List (Str × PyData)}, KvA H kvs m → KvA H' kvs m
  | _, _, .nil => .nil
  | _, _, .cons r t => .cons (Rp.mono e _ _ r) (KvA.mono e t)
/-- a dict whose keys are tuples of texts -/
inductive KtA (H : Hp) : List (List Key × V) → List (List Str × PyData) → Prop
  | nil : KtA H [] []
  | cons {k : List Str} {v : V} {d : PyData} {kvs : List (List Key × V)} {m : List (List Str × PyData)} : Rp H v d → KtA H kvs m → KtA H ((k.map .inr, v) :: kvs) ((k, d) :: m)
theorem KtA.mono {H H' : Hp} (e : Sm H H') : ∀ {kvs : List (List Key × V)} {m : List (List Str × PyData)}, KtA H kvs m → KtA H' kvs m
  | _, _, .nil => .nil
  | _, _, .cons r t => .cons (Rp.mono e _ _ r) (KtA.mono e t)
def DK (m : List (Str × PyData)) : Rel := fun v H => ∃ p kvs, v = .ref p ∧ Rd H p (.dK kvs) ∧ KvA H kvs m
def DT (m : List (List Str × PyData)) : Rel := fun v H => ∃ p kvs, v = .ref p ∧ Rd H p (.dT kvs) ∧ KtA H kvs m
instance {m : List (Str × PyData)} : Mono (DK m) := ⟨fun e ⟨p, kvs, h1, h2, h3⟩ => ⟨p, kvs, h1, e.rd _ _ True.intro h2, h3.mono e⟩⟩
instance {m : List (List Str × PyData)} : Mono (DT m) := ⟨fun e ⟨p, kvs, h1, h2, h3⟩ => ⟨p, kvs, h1, e.rd _ _ True.intro h2, h3.mono e⟩⟩
/-- a list or a tuple -/
def Sq (ds : List PyData) : Rel := fun v H => Rp H v (.list ds) ∨ Rp H v (.tuple ds)
instance {ds : List PyData} : Mono (Sq ds) := ⟨fun e h => h.elim (fun h => .inl (Rp.mono e _ _ h)) fun h => .inr (Rp.mono e _ _ h)⟩
def Eqv (c : V) : Rel := fun v _ => v = c
instance {c : V} : Mono (Eqv c) := ⟨fun _ h => h⟩

/-! ### what an expression comes to -/
section
variable (X : Cx)
def wE (e : Expr) : TE := fun σ H Q => ∀ (pins : List (Addr × Obj)) (s : Shared), Inv X pins σ H s → wpAny (model X.prog X.w) X.A (eval e X.env) (EP X pins σ Q) X.xe s
def wT (e : Expr) : TT := fun σ H Q => ∀ (pins : List (Addr × Obj)) (s : Shared), Inv X pins σ H s → wpAny (model X.prog X.w) X.A (isTrue e X.env (eval e X.env)) (TP X pins σ Q) X.xe s
def wW (e : Expr) : TT := fun σ H Q => ∀ (whole : Sem Value) (pins : List (Addr × Obj)) (s : Shared), Inv X pins σ H s → wpAny (model X.prog X.w) X.A (isTrue e X.env whole) (TP X pins σ Q) X.xe s
def wA (es : List Expr) : TA := fun σ H Q => ∀ (pos : Pos) (pins : List (Addr × Obj)) (s : Shared), Inv X pins σ H s → wpAny (model X.prog X.w) X.A (spliced (backTo pos (starEach es X.env))) (AP X pins σ Q) X.xe s
def wS (st : Stmt) : TS := fun D σ H => ∀ (pins : List (Addr × Obj)) (s : Shared), Inv X pins σ H s → wpAny (model X.prog X.w) X.A (exec st X.env) (SP X pins D) X.xe s
def wB (st : List Stmt) : TS := fun D σ H => ∀ (pins : List (Addr × Obj)) (s : Shared), Inv X pins σ H s → wpAny (model X.prog X.w) X.A (execs st X.env) (SP X pins D) X.xe s
end
section
variable {X : Cx}
theorem pe_w (e : Expr) : PE X e (wE X e) := ⟨fun pins s σ H Q I h => h pins s I⟩
theorem pt_w (e : Expr) : PT X e (wT X e) := ⟨fun pins s σ H Q I h => h pins s I⟩
theorem pw_w (e : Expr) : PW X e (wW X e) := ⟨fun wh pins s σ H Q I h => h wh pins s I⟩
theorem pa_w (es : List Expr) : PA X es (wA X es) := ⟨fun pos pins s σ H Q I h => h pos pins s I⟩
theorem ps_w (st : Stmt) : PS X st (wS X st) := ⟨fun pins s σ H D I h => h pins s I⟩
theorem pb_w (st : List Stmt) : PSs X st (wB X st) := ⟨fun pins s σ H D I h => h pins s I⟩
theorem we {e : Expr} {t : TE} {σ : St} {H : Hp} {Q : VK} (h : PE X e t) (q : t σ H Q) : wE X e σ H Q := fun pins s I => h.run pins s σ H Q I q
theorem wt {e : Expr} {t : TT} {σ : St} {H : Hp} {Q : Bool → Hp → Prop} (h : PT X e t) (q : t σ H Q) : wT X e σ H Q := fun pins s I => h.run pins s σ H Q I q
theorem ww {e : Expr} {t : TT} {σ : St} {H : Hp} {Q : Bool → Hp → Prop} (h : PW X e t) (q : t σ H Q) : wW X e σ H Q := fun wh pins s I => h.run wh pins s σ H Q I q
theorem wa {es : List Expr} {t : TA} {σ : St} {H : Hp} {Q : List V → Hp → Prop} (h : PA X es t) (q : t σ H Q) : wA X es σ H Q := fun pos pins s I => h.run pos pins s σ H Q I q
theorem ws {st : Stmt} {t : TS} {σ : St} {H : Hp} {D : Ends} (h : PS X st t) (q : t D σ H) : wS X st D σ H := fun pins s I => h.run pins s σ H D I q
theorem wb {st : List Stmt} {t : TS} {σ : St} {H : Hp} {D : Ends} (h : PSs X st t) (q : t D σ H) : wB X st D σ H := fun pins s I => h.run pins s σ H D I q
end
/-- e comes to a value of which R holds; all that is tracked stays -/
def Ev (X : Cx) (e : Expr) (σ : St) (H : Hp) (R : Rel) : Prop := ∀ H1, Sm H H1 → ∀ Q : VK, (∀ v H2, Same H1 H2 → R v H2 → Q v H2) → wE X e σ H1 Q
def EvT (X : Cx) (e : Expr) (σ : St) (H : Hp) (b : Bool) : Prop := ∀ H1, Sm H H1 → ∀ Q : Bool → Hp → Prop, (∀ H2, Same H1 H2 → Q b H2) → wT X e σ H1 Q
def EvW (X : Cx) (e : Expr) (σ : St) (H : Hp) (b : Bool) : Prop := ∀ H1, Sm H H1 → ∀ Q : Bool → Hp → Prop, (∀ H2, Same H1 H2 → Q b H2) → wW X e σ H1 Q
abbrev RelA := List V → Hp → Prop
class MonoA (R : RelA) : Prop where
  up : ∀ {v : List V} {H H' : Hp}, Sm H H' → R v H → R v H'
def EvA (X : Cx) (es : List Expr) (σ : St) (H : Hp) (R : RelA) : Prop := ∀ H1, Sm H H1 → ∀ Q : List V → Hp → Prop, (∀ vs H2, Same H1 H2 → R vs H2 → Q vs H2) → wA X es σ H1 Q
def IsA (ds : List PyData) : RelA := fun vs H => RpA H vs ds
instance {ds : List PyData} : MonoA (IsA ds) := ⟨fun e h => RpA.mono e ds _ h⟩
def RNil : RelA := fun vs _ => vs = []
def RCons (R : Rel) (T : RelA) : RelA := fun vs H => ∃ v r, vs = v :: r ∧ R v H ∧ T r H
instance : MonoA RNil := ⟨fun _ h => h⟩
instance {R : Rel} {T : RelA} [Mono R] [MonoA T] : MonoA (RCons R T) := ⟨fun e ⟨v, r, h1, h2, h3⟩ => ⟨v, r, h1, Mono.up e h2, MonoA.up e h3⟩⟩

section
variable {X : Cx} {σ : St} {H H' : Hp} {R R' : Rel} {e a b c : Expr} {es : List Expr} {pos : Pos}
theorem Ev.up (m : Sm H H') (h : Ev X e σ H R) : Ev X e σ H' R := fun H1 q => h H1 (m.trans q)
theorem EvT.up {k : Bool} (m : Sm H H') (h : EvT X e σ H k) : EvT X e σ H' k := fun H1 q => h H1 (m.trans q)
theorem EvA.up {T : RelA} (m : Sm H H') (h : EvA X es σ H T) : EvA X es σ H' T := fun H1 q => h H1 (m.trans q)
theorem Ev.weak (h : Ev X e σ H R) (k : ∀ v H1, R v H1 → R' v H1) : Ev X e σ H R' := fun H1 q Q z => h H1 q Q fun v H2 s r => z v H2 s (k v H2 r)
theorem Ev.is {d d' : PyData} (h : Ev X e σ H (Is d)) (k : d = d') : Ev X e σ H (Is d') := k ▸ h
theorem EvT.is {k k' : Bool} (h : EvT X e σ H k) (z : k = k') : EvT X e σ H k' := z ▸ h
theorem Ev.go (h : Ev X e σ H R) {Q : VK} (k : ∀ v H1, Same H H1 → R v H1 → Q v H1) : wE X e σ H Q := h H (Sm.refl H) Q k
theorem EvT.go {k : Bool} (h : EvT X e σ H k) {Q : Bool → Hp → Prop} (z : ∀ H1, Same H H1 → Q k H1) : wT X e σ H Q := h H (Sm.refl H) Q z
theorem EvA.go {T : RelA} (h : EvA X es σ H T) {Q : List V → Hp → Prop} (k : ∀ v H1, Same H H1 → T v H1 → Q v H1) : wA X es σ H Q := h H (Sm.refl H) Q k

/-! ### names, constants -/
theorem ev_name (i : Nat) {x : Str} {v : V} [Mono R] (hs : σ[i]? = some (some v)) (r : R v H) (hN : X.N[i]? = some x := by rfl)
    (hv : Vis X.env.scope x := by first | exact Or.inl rfl | exact Or.inr (Or.inl rfl) | exact Or.inr (Or.inr rfl)) (hd : (x == ("__debug__" : Str)) = false := by decide) (hcd : (x == ("__classdict__" : Str)) = false := by decide) : Ev X (.Name x pos) σ H R :=
  fun H1 m Q k => we (pe_var hN hv hd hcd) ⟨v, hs, k v H1 (Same.refl H1) (Mono.up m r)⟩
theorem ev_int {i j} : Ev X (.Constant (.int i) j pos) σ H (Is (.int i)) := fun H1 _ Q k => we pe_int (k _ H1 (Same.refl H1) (.int i))
theorem ev_bl {i j} : Ev X (.Constant (.bool i) j pos) σ H (Is (.bool i)) := fun H1 _ Q k => we pe_bl (k _ H1 (Same.refl H1) (.bl i))
theorem ev_non {j} : Ev X (.Constant .none j pos) σ H (Is .none) := fun H1 _ Q k => we pe_non (k _ H1 (Same.refl H1) .non)
theorem ev_str {i j} : Ev X (.Constant (.str i) j pos) σ H (Is (.str i)) := fun H1 _ Q k => we pe_str (k _ H1 (Same.refl H1) (.str i))

/-! ### operators -/
theorem ev_op {op : Operator} {r : R2} {Ra Rb : Rel} [Mono Ra] (ho : OpR X (binaryOp op) r) (ha : Ev X a σ H Ra) (hb : Ev X b σ H Rb)
    (hr : ∀ x y H1, Sm H H1 → Ra x H1 → Rb y H1 → ∀ Q : VK, (∀ v H2, Same H1 H2 → R v H2 → Q v H2) → r x y H1 Q) : Ev X (.BinOp a op b pos) σ H R :=
  fun H1 m Q k => we (pe_op ho (pe_w a) (pe_w b)) (ha H1 m _ fun x H2 s2 r2 => hb H2 (m.trans (sm_of s2)) _ fun y H3 s3 r3 =>
    hr x y H3 ((m.trans (sm_of s2)).trans (sm_of s3)) (Mono.up (sm_of s3) r2) r3 Q fun v H4 s4 r4 => k v H4 ((s2.trans s3).trans s4) r4)
theorem ev_cmp {op : CmpOp} {r : R2} {Ra Rb : Rel} [Mono Ra] (ho : OpR X (compareOp op) r) (hm : behindInMarks op b = false) (ha : Ev X a σ H Ra) (hb : Ev X b σ H Rb)
    (hr : ∀ x y H1, Sm H H1 → Ra x H1 → Rb y H1 → ∀ Q : VK, (∀ v H2, Same H1 H2 → R v H2 → Q v H2) → r x y H1 Q) : Ev X (.Compare a [op] [b] pos) σ H R :=
  fun H1 m Q k => we (pe_cmpR ho (pe_w a) (pe_w b) hm) (ha H1 m _ fun x H2 s2 r2 => hb H2 (m.trans (sm_of s2)) _ fun y H3 s3 r3 =>
    hr x y H3 ((m.trans (sm_of s2)).trans (sm_of s3)) (Mono.up (sm_of s3) r2) r3 Q fun v H4 s4 r4 => k v H4 ((s2.trans s3).trans s4) r4)
theorem is_int {v : V} {i : Int} (h : Is (.int i) v H) : v = .int i := by cases h; rfl
theorem is_bl {v : V} {i : Bool} (h : Is (.bool i) v H) : v = .bl i := by cases h; rfl
theorem is_str {v : V} {i : Str} (h : Is (.str i) v H) : v = .str i := by cases h; rfl
theorem is_non {v : V} (h : Is .none v H) : v = .non := by cases h; rfl
theorem ev_add {i j : Int} (ha : Ev X a σ H (Is (.int i))) (hb : Ev X b σ H (Is (.int j))) : Ev X (.BinOp a .Add b pos) σ H (Is (.int (i + j))) :=
  ev_op op_add ha hb fun x y H1 _ h1 h2 Q k => ⟨i, j, is_int h1, is_int h2, k _ _ (Same.refl _) (.int _)⟩
theorem ev_sub {i j : Int} (ha : Ev X a σ H (Is (.int i))) (hb : Ev X b σ H (Is (.int j))) : Ev X (.BinOp a .Sub b pos) σ H (Is (.int (i - j))) :=
  ev_op op_sub ha hb fun x y H1 _ h1 h2 Q k => ⟨i, j, is_int h1, is_int h2, k _ _ (Same.refl _) (.int _)⟩
theorem ev_mul {i j : Int} (ha : Ev X a σ H (Is (.int i))) (hb : Ev X b σ H (Is (.int j))) (hc : CMul i j) : Ev X (.BinOp a .Mult b pos) σ H (Is (.int (i * j))) :=
  ev_op op_mul ha hb fun x y H1 _ h1 h2 Q k => ⟨i, j, is_int h1, is_int h2, hc, k _ _ (Same.refl _) (.int _)⟩
theorem ev_lt {i j : Int} (ha : Ev X a σ H (Is (.int i))) (hb : Ev X b σ H (Is (.int j))) : Ev X (.Compare a [.Lt] [b] pos) σ H (Is (.bool (decide (i < j)))) :=
  ev_cmp op_lt (nomark _) ha hb fun x y H1 _ h1 h2 Q k => ⟨i, j, is_int h1, is_int h2, k _ _ (Same.refl _) (.bl _)⟩
theorem ev_gt {i j : Int} (ha : Ev X a σ H (Is (.int i))) (hb : Ev X b σ H (Is (.int j))) : Ev X (.Compare a [.Gt] [b] pos) σ H (Is (.bool (decide (j < i)))) :=
  ev_cmp op_gt (nomark _) ha hb fun x y H1 _ h1 h2 Q k => ⟨i, j, is_int h1, is_int h2, k _ _ (Same.refl _) (.bl _)⟩
theorem ev_le {i j : Int} (ha : Ev X a σ H (Is (.int i))) (hb : Ev X b σ H (Is (.int j))) : Ev X (.Compare a [.LtE] [b] pos) σ H (Is (.bool (decide (i ≤ j)))) :=
  ev_cmp op_le (nomark _) ha hb fun x y H1 _ h1 h2 Q k => ⟨i, j, is_int h1, is_int h2, k _ _ (Same.refl _) (.bl _)⟩
theorem ev_ge {i j : Int} (ha : Ev X a σ H (Is (.int i))) (hb : Ev X b σ H (Is (.int j))) : Ev X (.Compare a [.GtE] [b] pos) σ H (Is (.bool (decide (j ≤ i)))) :=
  ev_cmp op_ge (nomark _) ha hb fun x y H1 _ h1 h2 Q k => ⟨i, j, is_int h1, is_int h2, k _ _ (Same.refl _) (.bl _)⟩
/-- is None -/
theorem ev_isN {d : PyData} {j p'} (ha : Ev X a σ H (Is d)) : Ev X (.Compare a [.Is] [.Constant .none j p'] pos) σ H (Is (.bool (match d with | .none => true | _ => false))) :=
  ev_cmp op_isN (nomark _) ha ev_non fun x y H1 _ r1 r2 Q k => ⟨is_non r2, by
    refine k _ _ (Same.refl _) ?_
    cases r1 <;> exact .bl _⟩
theorem ev_notN {d : PyData} {j p'} (ha : Ev X a σ H (Is d)) : Ev X (.Compare a [.IsNot] [.Constant .none j p'] pos) σ H (Is (.bool (match d with | .none => false | _ => true))) :=
  ev_cmp op_notN (nomark _) ha ev_non fun x y H1 _ r1 r2 Q k => ⟨is_non r2, by
    refine k _ _ (Same.refl _) ?_
    cases r1 <;> exact .bl _⟩

/-! ### tests -/
theorem et_val {k : Bool} (h : Ev X e σ H (Is (.bool k))) (he : ∀ whole, isTrue e X.env whole = (do let v ← whole; standAt e.pos; holding [v] (truthy v)) := by intro _; rfl) : EvT X e σ H k :=
  fun H1 m Q z => wt (pt_val (pe_w e) he) (h H1 m _ fun v H2 s2 r2 => ⟨k, is_bl r2, z H2 s2⟩)
theorem et_cmp {op : CmpOp} {r : R2} {Ra Rb : Rel} [Mono Ra] {k : Bool} (ho : OpR X (compareOp op) r) (hm : behindInMarks op b = false) (ha : Ev X a σ H Ra) (hb : Ev X b σ H Rb)
    (hr : ∀ x y H1, Sm H H1 → Ra x H1 → Rb y H1 → ∀ Q : VK, (∀ H2, Same H1 H2 → Q (.bl k) H2) → r x y H1 Q) : EvT X (.Compare a [op] [b] pos) σ H k :=
  fun H1 m Q z => wt (pt_cmpR ho (pe_w a) (pe_w b) hm) (ha H1 m _ fun x H2 s2 r2 => hb H2 (m.trans (sm_of s2)) _ fun y H3 s3 r3 =>
    hr x y H3 ((m.trans (sm_of s2)).trans (sm_of s3)) (Mono.up (sm_of s3) r2) r3 _ fun H4 s4 => ⟨k, rfl, z H4 ((s2.trans s3).trans s4)⟩)
theorem ec_val {op : CmpOp} {k : Bool} (h : ∀ pos, Ev X (.Compare a [op] [b] pos) σ H (Is (.bool k))) : True := trivial
theorem ew_t {k : Bool} (h : EvW X e σ H k) : EvT X e σ H k := fun H1 m Q z => wt (PW.pt (pw_w e)) (h H1 m Q z)
theorem ew_and1 {k : Bool} (h : EvT X a σ H k) : EvW X (.BoolOp .And [a] pos) σ H k := fun H1 m Q z => ww (pw_and1 (pt_w a)) (h H1 m Q z)
theorem ew_or1 {k : Bool} (h : EvT X a σ H k) : EvW X (.BoolOp .Or [a] pos) σ H k := fun H1 m Q z => ww (pw_or1 (pt_w a)) (h H1 m Q z)
theorem ew_and {k l : Bool} (h1 : EvT X a σ H k) (h2 : k = true → EvW X (.BoolOp .And (b :: es) pos) σ H l) : EvW X (.BoolOp .And (a :: b :: es) pos) σ H (k && l) :=
  fun H1 m Q z => ww (pw_and (pt_w a) (pw_w _)) (h1 H1 m _ fun H2 s2 => by
    cases k with
    | true => exact iteT (h2 rfl H2 (m.trans (sm_of s2)) Q fun H3 s3 => z H3 (s2.trans s3))
    | false => exact iteF (z H2 s2))
theorem ew_or {k l : Bool} (h1 : EvT X a σ H k) (h2 : k = false → EvW X (.BoolOp .Or (b :: es) pos) σ H l) : EvW X (.BoolOp .Or (a :: b :: es) pos) σ H (k || l) :=
  fun H1 m Q z => ww (pw_or (pt_w a) (pw_w _)) (h1 H1 m _ fun H2 s2 => by
    cases k with
    | true => exact iteT (z H2 s2)
    | false => exact iteF (h2 rfl H2 (m.trans (sm_of s2)) Q fun H3 s3 => z H3 (s2.trans s3)))
theorem et_not {k : Bool} (h : EvT X a σ H k) : EvT X (.UnaryOp .Not a pos) σ H (!k) := fun H1 m Q z => wt (pt_not (pt_w a)) (h H1 m _ fun H2 s2 => z H2 s2)
/-- and, or, not as values -/
theorem ev_one {op : BoolOp} (h : Ev X a σ H R) : Ev X (.BoolOp op [a] pos) σ H R := fun H1 m Q z => we (pe_one (pe_w a)) (h H1 m Q z)
theorem ev_and {k l : Bool} (h1 : Ev X a σ H (Is (.bool k))) (h2 : k = true → Ev X (.BoolOp .And (b :: es) pos) σ H (Is (.bool l))) : Ev X (.BoolOp .And (a :: b :: es) pos) σ H (Is (.bool (k && l))) :=
  fun H1 m Q z => we (pe_and (pe_w a) (pe_w _)) (h1 H1 m _ fun v H2 s2 r2 => ⟨k, is_bl r2, by
    cases k with
    | true => exact iteT (h2 rfl H2 (m.trans (sm_of s2)) Q fun v H3 s3 r3 => z v H3 (s2.trans s3) r3)
    | false => exact iteF (z _ H2 s2 (.bl _))⟩)
theorem ev_or {k l : Bool} (h1 : Ev X a σ H (Is (.bool k))) (h2 : k = false → Ev X (.BoolOp .Or (b :: es) pos) σ H (Is (.bool l))) : Ev X (.BoolOp .Or (a :: b :: es) pos) σ H (Is (.bool (k || l))) :=
  fun H1 m Q z => we (pe_or (pe_w a) (pe_w _)) (h1 H1 m _ fun v H2 s2 r2 => ⟨k, is_bl r2, by
    cases k with
    | true => exact iteT (z _ H2 s2 (.bl _))
    | false => exact iteF (h2 rfl H2 (m.trans (sm_of s2)) Q fun v H3 s3 r3 => z v H3 (s2.trans s3) r3)⟩)
theorem ev_not {k : Bool} (h : Ev X a σ H (Is (.bool k))) : Ev X (.UnaryOp .Not a pos) σ H (Is (.bool (!k))) :=
  fun H1 m Q z => we (pe_not (pe_w a)) (h H1 m _ fun v H2 s2 r2 => ⟨k, is_bl r2, z _ H2 s2 (.bl _)⟩)
theorem ev_if {k : Bool} (h : EvT X c σ H k) (h1 : k = true → Ev X a σ H R) (h2 : k = false → Ev X b σ H R) : Ev X (.IfExp c a b pos) σ H R :=
  fun H1 m Q z => we (pe_ifExp (pt_w c) (pe_w a) (pe_w b)) (h H1 m _ fun H2 s2 => by
    cases k with
    | true => exact iteT (h1 rfl H2 (m.trans (sm_of s2)) Q fun v H3 s3 r3 => z v H3 (s2.trans s3) r3)
    | false => exact iteF (h2 rfl H2 (m.trans (sm_of s2)) Q fun v H3 s3 r3 => z v H3 (s2.trans s3) r3))

/-! ### arguments, displays -/
theorem ea_nil : EvA X [] σ H RNil := fun H1 _ Q z => wa pa_nil (z [] H1 (Same.refl H1) rfl)
theorem ea_cons {T : RelA} [Mono R] (h : Ev X e σ H R) (ht : EvA X es σ H T) (hs : starEach (e :: es) X.env = (false, eval e X.env) :: starEach es X.env := by rfl) : EvA X (e :: es) σ H (RCons R T) :=
  fun H1 m Q z => wa (pa_cons (pe_w e) (pa_w es) hs) (h H1 m _ fun v H2 s2 r2 => ht H2 (m.trans (sm_of s2)) _ fun vs H3 s3 r3 => z _ H3 (s2.trans s3) ⟨v, vs, rfl, Mono.up (sm_of s3) r2, r3⟩)
theorem EvA.weak {T T' : RelA} (h : EvA X es σ H T) (k : ∀ v H1, T v H1 → T' v H1) : EvA X es σ H T' := fun H1 q Q z => h H1 q Q fun v H2 s r => z v H2 s (k v H2 r)
theorem ea_isNil : EvA X [] σ H (IsA []) := fun H1 _ Q z => wa pa_nil (z [] H1 (Same.refl H1) .nil)
theorem ea_is {d : PyData} {ds : List PyData} (h : Ev X e σ H (Is d)) (ht : EvA X es σ H (IsA ds)) (hs : starEach (e :: es) X.env = (false, eval e X.env) :: starEach es X.env := by rfl) : EvA X (e :: es) σ H (IsA (d :: ds)) :=
  (ea_cons h ht hs).weak fun vs H1 ⟨v, r, e1, h1, h2⟩ => by subst e1; exact .cons h1 h2
theorem ev_tup {ds : List PyData} {x1} (h : EvA X es σ H (IsA ds)) (hz : ds.length ≤ 100000) : Ev X (.Tuple es x1 pos) σ H (Is (.tuple ds)) :=
  fun H1 m Q z => we (pe_tup (pa_w es)) (h H1 m _ fun vs H2 s2 r2 => ⟨by rw [r2.length]; exact Nat.le_trans hz (by decide), fun p hp => z _ _ (s2.trans (same_new hp)) (.tup upd_same (RpA.mono (sm_of (same_new hp)) _ _ r2))⟩)
theorem ev_lst {ds : List PyData} (h : EvA X es σ H (IsA ds)) (hz : ds.length ≤ 100000) : Ev X (.List es pos) σ H (Is (.list ds)) :=
  fun H1 m Q z => we (pe_lst (pa_w es)) (h H1 m _ fun vs H2 s2 r2 => ⟨by rw [r2.length]; exact Nat.le_trans hz (by decide), fun p hp => z _ _ (s2.trans (same_new hp)) (.lst (.inl upd_same) (RpA.mono (sm_of (same_new hp)) _ _ r2))⟩)
end
end My
/-! B1 -/
namespace My
open PySem L2

/-! ### targets, tests, walks -/
section
variable (X : Cx)
def wG (tg : Expr) : TG := fun v σ H Q => ∀ (pins : List (Addr × Obj)) (s : Shared) (u : Value), Inv X pins σ H s → RelV v u → wpAny (model X.prog X.w) X.A (assign tg X.env u) (fun _ s' => ∃ σ' H', Inv X pins σ' H' s' ∧ Q σ' H') X.xe s
def wGs (ts : List Expr) : TGs := fun vs σ H Q => ∀ (pins : List (Addr × Obj)) (s : Shared) (us : List Value), Inv X pins σ H s → Vals vs us → wpAny (model X.prog X.w) X.A (assignInOrder ((assignEach ts X.env).map (·.2)) us) (fun _ s' => ∃ σ' H', Inv X pins σ' H' s' ∧ Q σ' H') X.xe s
def wTs (ifs : List Expr) : TT := fun σ H Q => ∀ (pins : List (Addr × Obj)) (s : Shared), Inv X pins σ H s →
    wpAny (model X.prog X.w) X.A (forIn ifs true fun c r => if r = true then do let ok ← isTrue c X.env (eval c X.env); pure (ForInStep.yield ok) else pure (ForInStep.yield r)) (TP X pins σ Q) X.xe s
def wI (tg iter : Expr) : TI := fun σ H R => ∀ (pins : List (Addr × Obj)) (s : Shared), Inv X pins σ H s →
    wpAny (model X.prog X.w) X.A (eval iter X.env) (fun v s1 => wpAny (model X.prog X.w) X.A (pyIter v) (PIE X pins σ tg R) X.xe s1) X.xe s
end
section
variable {X : Cx}
theorem pg_w (tg : Expr) : PG X tg (wG X tg) := ⟨fun pins s σ H v u Q I r h => h pins s u I r⟩
theorem pgs_w (ts : List Expr) : PGs X ts (wGs X ts) := ⟨fun pins s σ H v u Q I r h => h pins s u I r⟩
theorem pts_w (ifs : List Expr) : PTs X ifs (wTs X ifs) := ⟨fun pins s σ H Q I h => h pins s I⟩
theorem pi_w (tg iter : Expr) : PI X tg iter (wI X tg iter) := ⟨fun pins s σ H R I h => h pins s I⟩
theorem wg {tg : Expr} {t : TG} {v : V} {σ : St} {H : Hp} {Q : St → Hp → Prop} (h : PG X tg t) (q : t v σ H Q) : wG X tg v σ H Q := fun pins s u I r => h.run pins s σ H v u Q I r q
theorem wgs {ts : List Expr} {t : TGs} {v : List V} {σ : St} {H : Hp} {Q : St → Hp → Prop} (h : PGs X ts t) (q : t v σ H Q) : wGs X ts v σ H Q := fun pins s u I r => h.run pins s σ H v u Q I r q
theorem wts {ifs : List Expr} {t : TT} {σ : St} {H : Hp} {Q : Bool → Hp → Prop} (h : PTs X ifs t) (q : t σ H Q) : wTs X ifs σ H Q := fun pins s I => h.run pins s σ H Q I q
theorem wi {tg iter : Expr} {t : TI} {σ : St} {H : Hp} {R : It → Hp → Prop} (h : PI X tg iter t) (q : t σ H R) : wI X tg iter σ H R := fun pins s I => h.run pins s σ H R I q
/-- the state's invariant is at hand behind an expression -/
theorem we_inv {e : Expr} {σ : St} {H : Hp} {Q : VK} (h : wE X e σ H fun v H1 => ∀ pins s, Inv X pins σ H1 s → Q v H1) : wE X e σ H Q := fun pins s I =>
  thn (h pins s I) fun u s' ⟨v, H', I', r, q⟩ => ⟨v, H', I', r, q pins s' I'⟩
end
/-- v is stored in tg: the slots are σ' then -/
def EvG (X : Cx) (tg : Expr) (σ : St) (H : Hp) (v : V) (σ' : St) : Prop := ∀ Q : St → Hp → Prop, Q σ' H → wG X tg v σ H Q
def EvGs (X : Cx) (ts : List Expr) (σ : St) (H : Hp) (vs : List V) (σ' : St) : Prop := ∀ Q : St → Hp → Prop, Q σ' H → wGs X ts vs σ H Q
def EvTs (X : Cx) (ifs : List Expr) (σ : St) (H : Hp) (k : Bool) : Prop := ∀ H1, Sm H H1 → ∀ Q : Bool → Hp → Prop, (∀ H2, Same H1 H2 → Q k H2) → wTs X ifs σ H1 Q
section
variable {X : Cx} {σ σ' σ'' : St} {H : Hp} {v : V} {vs : List V} {e c : Expr} {es ts : List Expr} {pos : Pos}
theorem eg_name (i : Nat) {x : Str} (nd : X.N.Nodup) (hi : X.N[i]? = some x := by rfl) (hx : Loc X.env.scope x := by first | exact Or.inl rfl | exact Or.inr rfl)
    (hf : X.fn x = true ∨ X.env.scope.names.lookup x = some .local := by first | exact .inl rfl | exact .inr rfl) : EvG X (.Name x pos) σ H v (σ.set i (some v)) := fun Q q => wg (pg_name nd hi hx hf) q
theorem egs_nil : EvGs X [] σ H [] σ := fun Q q => wgs pgs_nil ⟨rfl, q⟩
theorem egs_cons (h : EvG X e σ H v σ') (ht : EvGs X ts σ' H vs σ'') (hs : (assignEach (e :: ts) X.env).map (·.2) = assign e X.env :: (assignEach ts X.env).map (·.2) := by rfl) : EvGs X (e :: ts) σ H (v :: vs) σ'' :=
  fun Q q => wgs (pgs_cons (pg_w e) (pgs_w ts) hs) ⟨v, vs, rfl, h _ (ht Q q)⟩
theorem eg_tup {k : Nat} {a : Addr} (h : EvGs X ts σ H vs σ') (ha : H a = some (.tup vs)) (hc : X.calm = true := by rfl) (hn : (assignEach ts X.env).length = vs.length := by rfl) (hst : (assignEach ts X.env).findIdx? (·.1) = none := by rfl) : EvG X (.Tuple ts k pos) σ H (.ref a) σ' :=
  fun Q q => wg (pg_tup hc (pgs_w ts) hn hst) ⟨a, vs, rfl, SqT.of ha, rfl, h Q q⟩
theorem ets_nil : EvTs X [] σ H true := fun H1 _ Q z => wts pts_nil (z H1 (Same.refl H1))
theorem ets_one {k : Bool} (h : EvT X c σ H k) : EvTs X [c] σ H k := fun H1 m Q z => wts (pts_one (pt_w c)) (h H1 m Q z)
end

/-- J walks the data ds while all that stands in Hb stands -/
structure Wk (J : It) (ds : List PyData) (Hb : Hp) : Prop where
  len : ds.length ≤ sizeLine
  go : ∀ i H, Same Hb H → i < ds.length → J.go i H
  stop : ∀ H, Same Hb H → J.stop ds.length H
  yld : ∀ i H x H', Same Hb H → J.yld i H x H' → i < ds.length → Same H H' ∧ ∃ d, ds[i]? = some d ∧ Rp H' x d
def Src (X : Cx) (tg iter : Expr) (σ : St) (H : Hp) (ds : List PyData) : Prop := ∀ H1, Sm H H1 → ∀ R : It → Hp → Prop, (∀ J H2, Same H1 H2 → Wk J ds H2 → R J H2) → wI X tg iter σ H1 R
/-- .. from this very heap on -/
def SrcAt (X : Cx) (tg iter : Expr) (σ : St) (H : Hp) (ds : List PyData) : Prop := ∀ R : It → Hp → Prop, (∀ J H2, Same H H2 → Wk J ds H2 → R J H2) → wI X tg iter σ H R
def EvAt (X : Cx) (e : Expr) (σ : St) (H : Hp) (R : Rel) : Prop := ∀ Q : VK, (∀ v H2, Same H H2 → R v H2 → Q v H2) → wE X e σ H Q
section
variable {X : Cx} {σ : St} {H H' : Hp} {tg iter : Expr} {ds : List PyData} {pos : Pos}
theorem Src.up (m : Sm H H') (h : Src X tg iter σ H ds) : Src X tg iter σ H' ds := fun H1 q => h H1 (m.trans q)

theorem src_list (h : Ev X iter σ H (Is (.list ds))) : Src X tg iter σ H ds := fun H1 m R k => by
  refine wi (pi_list (pe_w iter)) ?_
  refine we_inv (h H1 m _ fun v H2 s2 r2 pins s I => ?_)
  cases r2 with
  | @lst a xs _ ha hx =>
    obtain ⟨_, _, _, hz⟩ := I.list (a := a) (xs := xs) (.inl ha)
    have up : ∀ {H'}, Same H2 H' → SqL X.K H' a xs := fun s => .inl ((sm_of s).rd _ _ True.intro ha)
    refine ⟨a, rfl, ⟨xs, .inl ha⟩, k _ H2 s2 ⟨by rw [← hx.length]; exact hz, fun i H' s hi => ⟨xs, xs[i]'(by rw [hx.length]; exact hi), up s, by simp⟩, fun H' s => ⟨xs, up s, by rw [hx.length]; exact Nat.le_refl _⟩, fun i H' x H'' s y hi => ?_⟩⟩
    obtain ⟨e, q⟩ := y
    subst e
    obtain ⟨d, hd, hr⟩ := hx.get (q xs (up s))
    exact ⟨Same.refl _, d, hd, Rp.mono (sm_of s) _ _ hr⟩
theorem src_tup (h : Ev X iter σ H (Is (.tuple ds))) : Src X tg iter σ H ds := fun H1 m R k => by
  refine wi (pi_tup (pe_w iter)) ?_
  refine we_inv (h H1 m _ fun v H2 s2 r2 pins s I => ?_)
  cases r2 with
  | @tup a xs _ ha hx =>
    obtain ⟨_, _, _, hz⟩ := I.tuple (a := a) (xs := xs) (SqT.of ha)
    have up : ∀ {H'}, Same H2 H' → SqT X.K H' a xs := fun s => SqT.of (s _ _ ha)
    refine ⟨a, rfl, ⟨xs, SqT.of ha⟩, k _ H2 s2 ⟨by rw [← hx.length]; exact hz, fun i H' s hi => ⟨xs, xs[i]'(by rw [hx.length]; exact hi), up s, by simp⟩, fun H' s => ⟨xs, up s, by rw [hx.length]; exact Nat.le_refl _⟩, fun i H' x H'' s y hi => ?_⟩⟩
    obtain ⟨e, q⟩ := y
    subst e
    obtain ⟨d, hd, hr⟩ := hx.get (q xs (up s))
    exact ⟨Same.refl _, d, hd, Rp.mono (sm_of s) _ _ hr⟩
theorem src_range {n : Nat} {p : Pos} (h : Ev X iter σ H (Is (.int (n : Int)))) (hn : n ≤ 100000) (hm : X.mg "range" = none) (hg : Gl X "range" := by rfl) (hs : starEach [iter] X.env = [(false, eval iter X.env)] := by rfl) :
    Src X tg (.Call (.Name "range" p) [iter] [] pos) σ H ((List.range n).map fun i => .int (i : Nat)) := fun H1 m R k => by
  refine wi (pi_range1 hg hm (pa_cons (pe_w iter) pa_nil (by rw [hs]; rfl)) hs) ?_
  refine h H1 m _ fun v H2 s2 r2 => ⟨n, by rw [is_int r2], by omega, by omega, ?_⟩
  refine k _ H2 s2 ⟨by rw [List.length_map, List.length_range]; exact Nat.le_trans hn (by decide), fun i H' s hi => ?_, fun H' s => ?_, fun i H' x H'' s y hi => ?_⟩
  · rw [List.length_map, List.length_range] at hi
    show i < (n : Int).toNat
    omega
  · rw [List.length_map, List.length_range]
    show (n : Int).toNat ≤ n
    omega
  · obtain ⟨e, q⟩ := y
    subst e q
    rw [List.length_map, List.length_range] at hi
    refine ⟨Same.refl _, .int (i : Nat), by rw [List.getElem?_map, List.getElem?_range hi]; rfl, ?_⟩
    rw [Int.zero_add]
    exact .int _
/-- enumerate of a list -/
def numbered (ds : List PyData) : List PyData := ds.zipIdx.map fun p => .tuple [.int (p.2 : Nat), p.1]
theorem numbered_get {ds : List PyData} {i : Nat} {d : PyData} (h : ds[i]? = some d) : (numbered ds)[i]? = some (.tuple [.int (i : Nat), d]) := by
  unfold numbered
  rw [List.getElem?_map, List.getElem?_zipIdx, h]
  simp
theorem numbered_length (ds : List PyData) : (numbered ds).length = ds.length := by unfold numbered; rw [List.length_map, List.length_zipIdx]
theorem src_enum {p tpos : Pos} {elts : List Expr} {kk : Nat} (h : Ev X iter σ H (Is (.list ds))) (hm : X.mg "enumerate" = none) (hg : Gl X "enumerate" := by rfl) (hs : starEach [iter] X.env = [(false, eval iter X.env)] := by rfl) :
    Src X (.Tuple elts kk tpos) (.Call (.Name "enumerate" p) [iter] [] pos) σ H (numbered ds) := fun H1 m R k => by
  refine wi (pi_enum hg hm (pa_cons (pe_w iter) pa_nil (by rw [hs]; rfl)) hs) ?_
  refine we_inv (h H1 m _ fun v H2 s2 r2 pins s I => ?_)
  cases r2 with
  | @lst a xs _ ha hx =>
    obtain ⟨_, _, _, hz⟩ := I.list (a := a) (xs := xs) (.inl ha)
    have up : ∀ {H'}, Same H2 H' → SqL X.K H' a xs := fun s => .inl ((sm_of s).rd _ _ True.intro ha)
    refine ⟨a, xs, rfl, .inl ha, k _ H2 s2 ⟨by rw [numbered_length, ← hx.length]; exact hz, fun i H' s hi => ⟨xs, xs[i]'(by rw [hx.length, ← numbered_length]; exact hi), up s, by simp⟩, fun H' s => ⟨xs, up s, by rw [hx.length, numbered_length]; exact Nat.le_refl _⟩, fun i H' x H'' s y hi => ?_⟩⟩
    obtain ⟨T, z, e1, hT, e2, q⟩ := y
    subst e1 e2
    obtain ⟨d, hd, hr⟩ := hx.get (q xs (up s))
    refine ⟨same_new hT, _, numbered_get hd, .tup upd_same (.cons (.int _) (.cons (Rp.mono ((sm_of s).trans (sm_of (same_new hT))) _ _ hr) .nil))⟩
end

/-! ### list comprehensions -/
/-- the contexts of a comprehension's block -/
abbrev BI : Type := Shared × Hp × Addr × List (Str × Addr) × List Addr
abbrev BX (X : Cx) (scope : Scope) (j : BI) : Cx := X.blk j.1 j.2.1 scope (compEnvC scope j.2.2.2.1 j.2.2.1 X.env) j.2.2.2.2
theorem tupDs_map {α : Type} {g : α → PyData} : ∀ {l : List α}, (∀ x ∈ l, tupD (g x) = true) → tupDs (l.map g) = true
  | [], _ => by simp [tupDs]
  | x :: l, h => by
    rw [List.map_cons]
    simp only [tupDs, Bool.and_eq_true]
    exact ⟨h x List.mem_cons_self, tupDs_map fun y hy => h y (List.mem_cons_of_mem _ hy)⟩
def jG (X : Cx) (scope : Scope) (tg : Expr) : TG := fun v σ H Q => ∀ j, wG (BX X scope j) tg v σ H Q
def jTs (X : Cx) (scope : Scope) (ifs : List Expr) : TT := fun σ H Q => ∀ j, wTs (BX X scope j) ifs σ H Q
def jE (X : Cx) (scope : Scope) (e : Expr) : TE := fun σ H Q => ∀ j, wE (BX X scope j) e σ H Q
def jI (X : Cx) (scope : Scope) (tg iter : Expr) : TI := fun σ H Q => ∀ j, wI (BX X scope j) tg iter σ H Q
/-- one item of a comprehension: its target's slots, its test, its element -/
structure LcTurn (X : Cx) (scope : Scope) (tg : Expr) (ifs : List Expr) (elt : Expr) (vs : List Nat) (σ : St) (H : Hp) (v : V) (k : Bool) (R : Rel) : Prop where
  go : ∃ σ', wipe σ' vs = wipe σ vs ∧ (∀ j, EvG (BX X scope j) tg (wipe σ vs) H v σ') ∧ (∀ j, EvTs (BX X scope j) ifs σ' H k) ∧ (k = true → ∀ j, Ev (BX X scope j) elt σ' H R)
theorem take_snoc {α : Type} {l : List α} {i : Nat} {x : α} (h : l[i]? = some x) : l.take (i + 1) = l.take i ++ [x] := by
  rw [List.take_add_one, h]
  rfl
section
variable {X : Cx} {σ : St} {H : Hp} {tg iter elt : Expr} {ifs : List Expr} {scope : Scope} {pos : Pos} {α : Type} {l : List α} {enc : α → PyData} {f : α → Bool} {g : α → PyData} {vs : List Nat}
theorem lc_at (src : SrcAt X tg iter σ H (l.map enc)) (ht : ∀ x ∈ l, f x = true → tupD (g x) = true)
    (turn : ∀ x ∈ l, ∀ v H1, Same H H1 → Rp H1 v (enc x) → LcTurn X scope tg ifs elt vs σ H1 v (f x) (Is (g x))) (Q : VK) (k : ∀ v H2, Same H H2 → Is (.list ((l.filter f).map g)) v H2 → Q v H2) :
    tLc (wI X tg iter) (jG X scope tg) (jTs X scope ifs) (jE X scope elt) vs σ H Q := by
  refine src _ fun J H2 s2 W D hD => ?_
  have hl : (l.map enc).length = l.length := List.length_map ..
  let P : Nat → Hp → Prop := fun i H' => Same H2 H' ∧ ∃ ys, H' D = some (.lst ys) ∧ RpA H' ys (((l.take i).filter f).map g) ∧ ys.length ≤ i
  refine ⟨fun i mm H' => mm = l.length - i ∧ i ≤ l.length ∧ P i H', ⟨l.length, rfl, Nat.zero_le _, same_new hD, [], upd_same, .nil, Nat.le_refl _⟩, ?_⟩
  rintro i mm H' ⟨rfl, hi, s', ys, hy, ry, ly⟩
  by_cases hlt : i < l.length
  · refine .inr ⟨W.go i H' s' (by rw [hl]; exact hlt), P (i + 1), fun H'' p => ⟨l.length - (i + 1), by omega, rfl, hlt, p⟩, fun v H3 y => ?_⟩
    obtain ⟨s3, d, hd, rd⟩ := W.yld i H' v H3 s' y (by rw [hl]; exact hlt)
    obtain ⟨x, hx, ex⟩ : ∃ x, l[i]? = some x ∧ enc x = d := by
      rw [List.getElem?_map] at hd
      cases q : l[i]? with
      | none => rw [q] at hd; cases hd
      | some x => rw [q] at hd; exact ⟨x, rfl, Option.some.inj hd⟩
    subst ex
    have hm : x ∈ l := List.mem_of_getElem? hx
    have m3 : Same H H3 := (s2.trans s').trans s3
    obtain ⟨σ', hw, hg, hts, hel⟩ := (turn x hm v H3 m3 rd).go
    have hy3 : H3 D = some (.lst ys) := s3 _ _ hy
    have td : tupDs (((l.take i).filter f).map g) = true := tupDs_map fun z hz => ht z (List.mem_of_mem_take (List.mem_filter.mp hz).1) (List.mem_filter.mp hz).2
    refine fun j => hg j _ ⟨hw, fun j => hts j H3 (Sm.refl _) _ fun H4 s4 => ?_⟩
    cases hf : f x with
    | false =>
      refine iteF ⟨(s'.trans s3).trans s4, ys, s4 _ _ hy3, ?_, Nat.le_succ_of_le ly⟩
      rw [take_snoc hx, List.filter_append, List.filter_cons_of_neg (by rw [hf]; decide), List.filter_nil, List.append_nil]
      exact RpA.mono (sm_of (s3.trans s4)) _ _ ry
    | true =>
      refine iteT fun j => hel hf j H4 (sm_of s4) _ fun u H5 s5 r5 => ?_
      have hy5 : H5 D = some (.lst ys) := s5 _ _ (s4 _ _ hy3)
      have tpu : Tp H5 (upd H5 D (.lst (ys ++ [u]))) := tp_upd hy5 fun _ z => nomatch z
      refine ⟨ys, hy5, ?_, same_mut (((s'.trans s3).trans s4).trans s5) hD, ys ++ [u], upd_same, ?_, ?_⟩
      · have := W.len
        rw [hl] at this
        omega
      · rw [take_snoc hx, List.filter_append, List.filter_cons_of_pos hf, List.filter_nil, List.map_append]
        exact RpA.snoc (RpA.tps tpu _ _ td (RpA.mono (sm_of ((s3.trans s4).trans s5)) _ _ ry)) (Rp.tps tpu _ _ (ht x hm hf) r5)
      · rw [List.length_append]
        show ys.length + 1 ≤ i + 1
        omega
  · have e : i = l.length := by omega
    subst e
    refine .inl ⟨by have := W.stop H' s'; rwa [hl] at this, k _ _ (s2.trans s') (.lst (.inl hy) ?_)⟩
    rw [List.take_length] at ry
    exact ry
theorem lc_read (src : Src X tg iter σ H (l.map enc)) (ht : ∀ x ∈ l, f x = true → tupD (g x) = true)
    (turn : ∀ x ∈ l, ∀ v H1, Sm H H1 → Rp H1 v (enc x) → LcTurn X scope tg ifs elt vs σ H1 v (f x) (Is (g x))) (H1 : Hp) (m : Sm H H1) (Q : VK) (k : ∀ v H2, Same H1 H2 → Is (.list ((l.filter f).map g)) v H2 → Q v H2) :
    tLc (wI X tg iter) (jG X scope tg) (jTs X scope ifs) (jE X scope elt) vs σ H1 Q :=
  lc_at (fun R z => src H1 m R z) ht (fun x hx v H2 s r => turn x hx v H2 (m.trans (sm_of s)) r) Q k
theorem ev_lc {own : List (Str × Nat)} {N : List Str} (sc : Scope) (nd : N.Nodup) (src : Src X tg iter σ H (l.map enc)) (ht : ∀ x ∈ l, f x = true → tupD (g x) = true)
    (turn : ∀ x ∈ l, ∀ v H1, Sm H H1 → Rp H1 v (enc x) → LcTurn X scope tg ifs elt (own.map (·.2)) σ H1 v (f x) (Is (g x))) (hN : X.N = N := by rfl) (hsc : X.env.scope = sc := by rfl) (ok : blkC N sc scope own = true := by decide +kernel) (hc : X.calm = true := by rfl) (hs : ∀ x, foldedSetIterable iter X.env x = pure x := by intro _; rfl) :
    Ev X (.ListComp elt [⟨tg, iter, ifs, 0⟩] scope pos) σ H (Is (.list ((l.filter f).map g))) := fun H1 m Q k =>
  we (pe_lc hc (by rw [hN]; exact nd) (pi_w tg iter) (blkOk_by (by rw [hN, hsc]; exact ok)) (fun s H C cl fp => ⟨fun pins s' σ H v u Q I r h => h (s, _, C, cl, fp) pins s' u I r⟩) (fun s H C cl fp => ⟨fun pins s' σ H Q I h => h (s, _, C, cl, fp) pins s' I⟩)
    (fun s H C cl fp => ⟨fun pins s' σ H Q I h => h (s, _, C, cl, fp) pins s' I⟩) hs) (lc_read src ht turn H1 m Q k)

theorem wipe1 (σ : L2.St) (i : Nat) (x : V) : wipe (σ.set i (some x)) [i] = wipe σ [i] := by
  show (σ.set i (some x)).set i none = σ.set i none
  rw [List.set_set]
theorem lt_name {X : Cx} {σ : L2.St} {H : Hp} {scope : Scope} {ifs : List Expr} {elt : Expr} {v : V} {k : Bool} {R : Rel} {N : List Str} {i : Nat} {x : Str} {px : Pos} {sc : Scope} (nd : N.Nodup) (hN : X.N = N) (hi : N[i]? = some x) (hsc : X.env.scope = sc)
    (hx : (relS scope sc).names.lookup x = some .local ∨ ((relS scope sc).names.lookup x = some .cell ∧ (scope.names.lookup x == some .cell) = true))
    (h1 : ∀ j, EvTs (BX X scope j) ifs (σ.set i (some v)) H k) (h2 : k = true → ∀ j, Ev (BX X scope j) elt (σ.set i (some v)) H R) : LcTurn X scope (.Name x px) ifs elt [i] σ H v k R := by
  subst hN hsc
  refine ⟨⟨σ.set i (some v), wipe1 _ _ _, fun j => ?_, h1, h2⟩⟩
  have e : (wipe σ [i]).set i (some v) = σ.set i (some v) := by
    show (σ.set i none).set i (some v) = _
    rw [List.set_set]
  have q := @eg_name (BX X scope j) (wipe σ [i]) H v px i x nd hi (hx.elim .inl fun z => .inr z.1) (hx.elim .inr fun z => .inl z.2)
  rw [e] at q
  exact q
/-- [elt for x in iter if ..] -/
theorem ev_lcN {N : List Str} {i : Nat} {x : Str} {px : Pos} (sc : Scope) (nd : N.Nodup) (src : Src X (.Name x px) iter σ H (l.map enc)) (ht : ∀ y ∈ l, f y = true → tupD (g y) = true)
    (turn : ∀ y ∈ l, ∀ v H1, Sm H H1 → Rp H1 v (enc y) → (∀ j, EvTs (BX X scope j) ifs (σ.set i (some v)) H1 (f y)) ∧ (f y = true → ∀ j, Ev (BX X scope j) elt (σ.set i (some v)) H1 (Is (g y))))
    (hN : X.N = N := by rfl) (hsc : X.env.scope = sc := by rfl) (ok : blkC N sc scope [(x, i)] = true := by decide +kernel) (hi : N[i]? = some x := by rfl)
    (hx : (relS scope sc).names.lookup x = some .local ∨ ((relS scope sc).names.lookup x = some .cell ∧ (scope.names.lookup x == some .cell) = true) := by first | exact .inl (by rfl) | exact .inr ⟨by rfl, by rfl⟩)
    (hc : X.calm = true := by rfl) (hs : ∀ x, foldedSetIterable iter X.env x = pure x := by intro _; rfl) : Ev X (.ListComp elt [⟨.Name x px, iter, ifs, 0⟩] scope pos) σ H (Is (.list ((l.filter f).map g))) :=
  ev_lc (own := [(x, i)]) sc nd src ht (fun y hy v H1 m r => lt_name nd hN hi hsc hx (turn y hy v H1 m r).1 (turn y hy v H1 m r).2) hN hsc ok hc hs
/-- [elt for x in iter] -/
theorem ev_lcA {N : List Str} {i : Nat} {x : Str} {px : Pos} (sc : Scope) (nd : N.Nodup) (src : Src X (.Name x px) iter σ H (l.map enc)) (ht : ∀ y ∈ l, tupD (g y) = true)
    (turn : ∀ y ∈ l, ∀ v H1, Sm H H1 → Rp H1 v (enc y) → ∀ j, Ev (BX X scope j) elt (σ.set i (some v)) H1 (Is (g y)))
    (hN : X.N = N := by rfl) (hsc : X.env.scope = sc := by rfl) (ok : blkC N sc scope [(x, i)] = true := by decide +kernel) (hi : N[i]? = some x := by rfl)
    (hx : (relS scope sc).names.lookup x = some .local ∨ ((relS scope sc).names.lookup x = some .cell ∧ (scope.names.lookup x == some .cell) = true) := by first | exact .inl (by rfl) | exact .inr ⟨by rfl, by rfl⟩)
    (hc : X.calm = true := by rfl) (hs : ∀ x, foldedSetIterable iter X.env x = pure x := by intro _; rfl) : Ev X (.ListComp elt [⟨.Name x px, iter, [], 0⟩] scope pos) σ H (Is (.list (l.map g))) := by
  have h := ev_lcN (X := X) (pos := pos) (elt := elt) (ifs := []) (f := fun _ => true) (g := g) sc nd src (fun y hy _ => ht y hy) (fun y hy v H1 m r => ⟨fun j => ets_nil, fun _ => turn y hy v H1 m r⟩) hN hsc ok hi hx hc hs
  rw [List.filter_eq_self.mpr (fun _ _ => rfl)] at h
  exact h
end
end My
/-! B2 -/
namespace My
open PySem L2

/-! ### statements -/
section
variable {X : Cx} {σ : St} {H : Hp} {D : Ends} {R : Rel} {e c : Expr} {st : Stmt} {rest a b : List Stmt} {pos pos' : Pos}
theorem b_nil (q : D.nx σ H) : wB X [] D σ H := wb pss_nil q
theorem b_cons (q : wS X st { D with nx := wB X rest D } σ H) : wB X (st :: rest) D σ H := wb (pss_cons (ps_w st) (pb_w rest)) q
theorem b_one (q : wS X st D σ H) : wB X [st] D σ H := wb (pss_one (ps_w st)) q
theorem s_set (i : Nat) {x : Str} (nd : X.N.Nodup) (h : Ev X e σ H R) (k : ∀ v H1, Same H H1 → R v H1 → D.nx (σ.set i (some v)) H1) (hi : X.N[i]? = some x := by rfl) (hx : Loc X.env.scope x := by first | exact Or.inl rfl | exact Or.inr rfl)
    (hs : swapsWith e (some (.Name x pos')) pos.line X.env = pure false := by rfl) (hf : X.fn x = true ∨ X.env.scope.names.lookup x = some .local := by first | exact .inl rfl | exact .inr rfl) : wS X (.Assign [.Name x pos'] e pos) D σ H :=
  ws (ps_set nd hi hx (pe_w e) hs hf) (h.go k)
/-- .. where the value's way is not told by Ev -/
theorem s_setW (i : Nat) {x : Str} (nd : X.N.Nodup) (h : wE X e σ H fun v H1 => D.nx (σ.set i (some v)) H1) (hi : X.N[i]? = some x := by rfl) (hx : Loc X.env.scope x := by first | exact Or.inl rfl | exact Or.inr rfl)
    (hs : swapsWith e (some (.Name x pos')) pos.line X.env = pure false := by rfl) (hf : X.fn x = true ∨ X.env.scope.names.lookup x = some .local := by first | exact .inl rfl | exact .inr rfl) : wS X (.Assign [.Name x pos'] e pos) D σ H :=
  ws (ps_set nd hi hx (pe_w e) hs hf) h
theorem s_ret (h : Ev X e σ H R) (k : ∀ v H1, Same H H1 → R v H1 → D.rt v H1) : wS X (.Return (some e) pos) D σ H := ws (ps_ret (pe_w e)) (h.go k)
theorem s_retW (h : wE X e σ H D.rt) : wS X (.Return (some e) pos) D σ H := ws (ps_ret (pe_w e)) h
theorem s_if {k : Bool} (h : EvT X c σ H k) (h1 : k = true → ∀ H1, Same H H1 → wB X a D σ H1) (h2 : k = false → ∀ H1, Same H H1 → wB X b D σ H1) : wS X (.If c a b pos) D σ H :=
  ws (ps_if (pt_w c) (pb_w a) (pb_w b)) (h.go fun H1 s1 => by
    cases k with
    | true => exact iteT (h1 rfl H1 s1)
    | false => exact iteF (h2 rfl H1 s1))
theorem s_expr (h : wE X e σ H fun _ H1 => D.nx σ H1) (hs : swapsWith e none pos.line X.env = pure false := by rfl) : wS X (.Expr e pos) D σ H := ws (ps_expr (pe_w e) hs) h
/-- a name = a list comprehension, on one line -/
theorem s_setLc {elt tg iter : Expr} {ifs : List Expr} {scope : Scope} {α : Type} {l : List α} {enc : α → PyData} {f : α → Bool} {g : α → PyData} {own : List (Str × Nat)} {p2 : Pos} (i : Nat) {x : Str} {N : List Str} (sc : Scope) (nd : N.Nodup) (src : Src X tg iter σ H (l.map enc)) (ht : ∀ x ∈ l, f x = true → tupD (g x) = true)
    (turn : ∀ x ∈ l, ∀ v H1, Sm H H1 → Rp H1 v (enc x) → LcTurn X scope tg ifs elt (own.map (·.2)) σ H1 v (f x) (Is (g x))) (k : ∀ v H1, Same H H1 → Is (.list ((l.filter f).map g)) v H1 → D.nx (σ.set i (some v)) H1)
    (hN : X.N = N := by rfl) (hsc : X.env.scope = sc := by rfl) (ok : blkC N sc scope own = true := by decide +kernel) (hsw : swapsWith (.ListComp elt [⟨tg, iter, ifs, 0⟩] scope p2) (some (.Name x pos')) pos.line X.env = pure true) (hi : X.N[i]? = some x := by rfl) (hxl : X.env.scope.names.lookup x = some .local := by rfl) (hc : X.calm = true := by rfl) (hs : ∀ x, foldedSetIterable iter X.env x = pure x := by intro _; rfl) :
    wS X (.Assign [.Name x pos'] (.ListComp elt [⟨tg, iter, ifs, 0⟩] scope p2) pos) D σ H :=
  ws (ps_setLc hc (by rw [hN]; exact nd) hi hxl hsw (pi_w tg iter) (blkOk_by (by rw [hN, hsc]; exact ok)) (fun s H C cl fp => ⟨fun pins s' σ H v u Q I r h => h (s, _, C, cl, fp) pins s' u I r⟩) (fun s H C cl fp => ⟨fun pins s' σ H Q I h => h (s, _, C, cl, fp) pins s' I⟩)
    (fun s H C cl fp => ⟨fun pins s' σ H Q I h => h (s, _, C, cl, fp) pins s' I⟩) hs) (lc_read src ht turn H (Sm.refl H) _ k)
end

/-! ### calls -/
section
variable {X : Cx} {σ : St} {H : Hp} {R : Rel} {T : RelA} {e a b : Expr} {es : List Expr} {x : Str} {p pos : Pos} {id ty : String} {r : List V → Hp → VK → Prop}
theorem ev_call {k j : Nat} {sp : Sp} (c : C8.Cal X.prog X.w X.K X.mg X.base k x sp []) (hr : Room j X.A) (args : EvA X (e :: es) σ H T) (h : ∀ vs H1, Sm H H1 → T vs H1 → ∀ Q : VK, (∀ v H2, Same H1 H2 → R v H2 → Q v H2) → sp vs H1 Q E0)
    (hk : k ≤ j := by decide) (hg : Gl X x := by rfl) (hdb : (x == ("__debug__" : Str)) = false := by decide) (he : starEach (e :: es) X.env = (false, eval e X.env) :: starEach es X.env := by rfl) (hpl : (backTo pos (starEach es X.env)).any (·.1) = false := by rfl) :
    Ev X (.Call (.Name x p) (e :: es) [] pos) σ H R := fun H1 m Q z =>
  we (C8.pe_c c hr hk hg (pa_w (e :: es)) hdb he hpl) (args H1 m _ fun vs H2 s2 t2 => by
    show sp (vs ++ []) H2 Q E0
    rw [List.append_nil]
    exact h vs H2 (m.trans (sm_of s2)) t2 Q fun v H3 s3 r3 => z v H3 (s2.trans s3) r3)
theorem ev_callB (hc : CallR X (.builtin id) r) (hv : bootBuiltins x = some (.builtin id)) (hm : X.mg x = none) (args : EvA X (e :: es) σ H T) (h : ∀ vs H1, Sm H H1 → T vs H1 → ∀ Q : VK, (∀ v H2, Same H1 H2 → R v H2 → Q v H2) → r vs H1 Q)
    (hg : Gl X x := by rfl) (hn : x ≠ "__name__" := by decide) (hdb : (x == ("__debug__" : Str)) = false := by decide) (he : starEach (e :: es) X.env = (false, eval e X.env) :: starEach es X.env := by rfl) (hpl : (backTo pos (starEach es X.env)).any (·.1) = false := by rfl) :
    Ev X (.Call (.Name x p) (e :: es) [] pos) σ H R := fun H1 m Q z =>
  we (pe_callB hc hg hm hv (pa_w (e :: es)) hn hdb he hpl) (args H1 m _ fun vs H2 s2 t2 => h vs H2 (m.trans (sm_of s2)) t2 Q fun v H3 s3 r3 => z v H3 (s2.trans s3) r3)
theorem ev_callTy (hc : CallR X (.type ty) r) (hv : bootBuiltins x = some (.type ty)) (hm : X.mg x = none) (args : EvA X (e :: es) σ H T) (h : ∀ vs H1, Sm H H1 → T vs H1 → ∀ Q : VK, (∀ v H2, Same H1 H2 → R v H2 → Q v H2) → r vs H1 Q)
    (hg : Gl X x := by rfl) (hn : x ≠ "__name__" := by decide) (hdb : (x == ("__debug__" : Str)) = false := by decide) (he : starEach (e :: es) X.env = (false, eval e X.env) :: starEach es X.env := by rfl) (hpl : (backTo pos (starEach es X.env)).any (·.1) = false := by rfl) :
    Ev X (.Call (.Name x p) (e :: es) [] pos) σ H R := fun H1 m Q z =>
  we (pe_callTy hc hg hm hv (pa_w (e :: es)) hn hdb he hpl) (args H1 m _ fun vs H2 s2 t2 => h vs H2 (m.trans (sm_of s2)) t2 Q fun v H3 s3 r3 => z v H3 (s2.trans s3) r3)
theorem one_of {vs : List V} (h : RCons R RNil vs H) : ∃ v, vs = [v] ∧ R v H := by
  obtain ⟨v, r, e1, h1, h2⟩ := h
  cases h2
  exact ⟨v, e1, h1⟩
theorem two_of {R2 : Rel} {vs : List V} (h : RCons R (RCons R2 RNil) vs H) : ∃ v w, vs = [v, w] ∧ R v H ∧ R2 w H := by
  obtain ⟨v, r, e1, h1, h2⟩ := h
  obtain ⟨w, e2, h3⟩ := one_of h2
  subst e2
  exact ⟨v, w, e1, h1, h3⟩
abbrev bb (x : Str) (id : String) : Prop := bootBuiltins x = some (.builtin id)
abbrev bt (x : Str) (id : String) : Prop := bootBuiltins x = some (.type id)
theorem b_len : bb "len" "len" := boot_len
theorem b_any : bb "any" "any" := by decide +kernel
theorem b_all : bb "all" "all" := by decide +kernel
theorem b_sum : bb "sum" "sum" := by decide +kernel
theorem b_max : bb "max" "max" := by decide +kernel
theorem b_min : bb "min" "min" := by decide +kernel
theorem b_abs : bb "abs" "abs" := by decide +kernel
theorem b_sorted : bb "sorted" "sorted" := by decide +kernel
theorem b_isi : bb "isinstance" "isinstance" := by decide +kernel
theorem b_tuple : bt "tuple" "tuple" := by decide +kernel
theorem b_list : bt "list" "list" := by decide +kernel
theorem b_int : bt "int" "int" := by decide +kernel
theorem b_set : bt "set" "set" := by decide +kernel
theorem b_dict : bt "dict" "dict" := by decide +kernel
theorem Sq.seq {K : PySem.W.Frag} {ds : List PyData} {v : V} (h : Sq ds v H) : ∃ a xs, v = .ref a ∧ (SqL K H a xs ∨ SqT K H a xs) ∧ RpA H xs ds := by
  rcases h with h | h
  · cases h with
    | lst h1 h2 => exact ⟨_, _, rfl, .inl (.inl h1), h2⟩
  · cases h with
    | tup h1 h2 => exact ⟨_, _, rfl, .inr (SqT.of h1), h2⟩
theorem ev_len {ds : List PyData} (hm : X.mg "len" = none) (h : Ev X a σ H (Sq ds)) (hg : Gl X "len" := by rfl) (he : starEach [a] X.env = (false, eval a X.env) :: starEach [] X.env := by rfl) (hpl : (backTo pos (starEach [] X.env)).any (·.1) = false := by rfl) :
    Ev X (.Call (.Name "len" p) [a] [] pos) σ H (Is (.int (ds.length : Int))) :=
  ev_callB call_len_seq b_len hm (ea_cons h ea_nil he) (fun vs H1 _ t Q z => by
    obtain ⟨v, rfl, r1⟩ := one_of t
    obtain ⟨q, xs, rfl, hs, hx⟩ := Sq.seq (K := X.K) r1
    exact ⟨q, xs, rfl, hs, by rw [hx.length]; exact z _ _ (Same.refl _) (.int _)⟩) hg (by decide) (by decide) he hpl
theorem ev_lst_sq {ds : List PyData} (h : Ev X a σ H (Is (.list ds))) : Ev X a σ H (Sq ds) := h.weak fun _ _ r => .inl r
theorem ev_tup_sq {ds : List PyData} (h : Ev X a σ H (Is (.tuple ds))) : Ev X a σ H (Sq ds) := h.weak fun _ _ r => .inr r
theorem ev_any {bs : List Bool} (hm : X.mg "any" = none) (h : Ev X a σ H (Is (.list (bs.map .bool)))) (hc : X.calm = true := by rfl) (hg : Gl X "any" := by rfl) (he : starEach [a] X.env = (false, eval a X.env) :: starEach [] X.env := by rfl) (hpl : (backTo pos (starEach [] X.env)).any (·.1) = false := by rfl) :
    Ev X (.Call (.Name "any" p) [a] [] pos) σ H (Is (.bool (bs.any fun k => k))) :=
  ev_callB (cr_any hc) b_any hm (ea_cons h ea_nil he) (fun vs H1 _ t Q z => by
    obtain ⟨v, rfl, r1⟩ := one_of t
    cases r1 with
    | @lst q xs _ ha hx =>
      have := hx.bls
      subst this
      exact ⟨q, bs, rfl, .inl ha, z _ _ (Same.refl _) (.bl _)⟩) hg (by decide) (by decide) he hpl
theorem ev_all {bs : List Bool} (hm : X.mg "all" = none) (h : Ev X a σ H (Is (.list (bs.map .bool)))) (hc : X.calm = true := by rfl) (hg : Gl X "all" := by rfl) (he : starEach [a] X.env = (false, eval a X.env) :: starEach [] X.env := by rfl) (hpl : (backTo pos (starEach [] X.env)).any (·.1) = false := by rfl) :
    Ev X (.Call (.Name "all" p) [a] [] pos) σ H (Is (.bool (bs.all fun k => k))) :=
  ev_callB (cr_all hc) b_all hm (ea_cons h ea_nil he) (fun vs H1 _ t Q z => by
    obtain ⟨v, rfl, r1⟩ := one_of t
    cases r1 with
    | @lst q xs _ ha hx =>
      have := hx.bls
      subst this
      exact ⟨q, bs, rfl, .inl ha, z _ _ (Same.refl _) (.bl _)⟩) hg (by decide) (by decide) he hpl
theorem ev_sum {ns : List Int} (hm : X.mg "sum" = none) (h : Ev X a σ H (Is (.list (ns.map .int)))) (hc : X.calm = true := by rfl) (hg : Gl X "sum" := by rfl) (he : starEach [a] X.env = (false, eval a X.env) :: starEach [] X.env := by rfl) (hpl : (backTo pos (starEach [] X.env)).any (·.1) = false := by rfl) :
    Ev X (.Call (.Name "sum" p) [a] [] pos) σ H (Is (.int ns.sum)) :=
  ev_callB (cr_sum hc) b_sum hm (ea_cons h ea_nil he) (fun vs H1 _ t Q z => by
    obtain ⟨v, rfl, r1⟩ := one_of t
    cases r1 with
    | @lst q xs _ ha hx =>
      have := hx.ints
      subst this
      exact ⟨q, ns, rfl, .inl ha, z _ _ (Same.refl _) (.int _)⟩) hg (by decide) (by decide) he hpl
/-- max of ints: any m that is in the list and is not below any -/
theorem ev_max {ns : List Int} {m : Int} (hm : X.mg "max" = none) (h : Ev X a σ H (Is (.list (ns.map .int)))) (h1 : m ∈ ns) (h2 : ∀ y ∈ ns, y ≤ m) (hc : X.calm = true := by rfl) (hg : Gl X "max" := by rfl) (he : starEach [a] X.env = (false, eval a X.env) :: starEach [] X.env := by rfl) (hpl : (backTo pos (starEach [] X.env)).any (·.1) = false := by rfl) :
    Ev X (.Call (.Name "max" p) [a] [] pos) σ H (Is (.int m)) :=
  ev_callB (cr_max hc) b_max hm (ea_cons h ea_nil he) (fun vs H1 _ t Q z => by
    obtain ⟨v, rfl, r1⟩ := one_of t
    cases r1 with
    | @lst q xs _ ha hx =>
      have := hx.ints
      subst this
      refine ⟨q, ns, rfl, .inl ha, List.length_pos_of_mem h1, fun m' q1 q2 => ?_⟩
      have e : m' = m := Int.le_antisymm (h2 _ q1) (q2 _ h1)
      subst e
      exact z _ _ (Same.refl _) (.int _)) hg (by decide) (by decide) he hpl
theorem ev_min {ns : List Int} {m : Int} (hm : X.mg "min" = none) (h : Ev X a σ H (Is (.list (ns.map .int)))) (h1 : m ∈ ns) (h2 : ∀ y ∈ ns, m ≤ y) (hc : X.calm = true := by rfl) (hg : Gl X "min" := by rfl) (he : starEach [a] X.env = (false, eval a X.env) :: starEach [] X.env := by rfl) (hpl : (backTo pos (starEach [] X.env)).any (·.1) = false := by rfl) :
    Ev X (.Call (.Name "min" p) [a] [] pos) σ H (Is (.int m)) :=
  ev_callB (cr_min hc) b_min hm (ea_cons h ea_nil he) (fun vs H1 _ t Q z => by
    obtain ⟨v, rfl, r1⟩ := one_of t
    cases r1 with
    | @lst q xs _ ha hx =>
      have := hx.ints
      subst this
      refine ⟨q, ns, rfl, .inl ha, List.length_pos_of_mem h1, fun m' q1 q2 => ?_⟩
      have e : m' = m := Int.le_antisymm (q2 _ h1) (h2 _ q1)
      subst e
      exact z _ _ (Same.refl _) (.int _)) hg (by decide) (by decide) he hpl
theorem ev_tuple {ds : List PyData} (hm : X.mg "tuple" = none) (h : Ev X a σ H (Sq ds)) (hg : Gl X "tuple" := by rfl) (he : starEach [a] X.env = (false, eval a X.env) :: starEach [] X.env := by rfl) (hpl : (backTo pos (starEach [] X.env)).any (·.1) = false := by rfl) :
    Ev X (.Call (.Name "tuple" p) [a] [] pos) σ H (Is (.tuple ds)) :=
  ev_callTy call_tuple_of b_tuple hm (ea_cons h ea_nil he) (fun vs H1 _ t Q z => by
    obtain ⟨v, rfl, r1⟩ := one_of t
    rcases r1 with r1 | r1
    · cases r1 with
      | @lst q xs _ ha hx => exact ⟨q, xs, rfl, .inl ⟨.inl ha, fun l hl => z _ _ (same_new hl) (.tup upd_same (RpA.mono (sm_of (same_new hl)) _ _ hx))⟩⟩
    · cases r1 with
      | @tup q xs _ ha hx => exact ⟨q, xs, rfl, .inr ⟨SqT.of ha, z _ _ (Same.refl _) (.tup ha hx)⟩⟩) hg (by decide) (by decide) he hpl
/-- list(..) is a new list -/
def NewL (H : Hp) (ds : List PyData) : Rel := fun v H1 => ∃ p xs, v = .ref p ∧ H p = none ∧ H1 p = some (.lst xs) ∧ RpA H1 xs ds
theorem w_list {ds : List PyData} {Q : VK} (hm : X.mg "list" = none) (h : Ev X a σ H (Sq ds)) (z : ∀ q xs H1, H q = none → Same H H1 → H1 q = some (.lst xs) → RpA H1 xs ds → Q (.ref q) H1) (hg : Gl X "list" := by rfl) (he : starEach [a] X.env = (false, eval a X.env) :: starEach [] X.env := by rfl) (hpl : (backTo pos (starEach [] X.env)).any (·.1) = false := by rfl) :
    wE X (.Call (.Name "list" p) [a] [] pos) σ H Q :=
  we (pe_callTy call_list_of hg hm b_list (pa_w [a]) (by decide) (by decide) he hpl) ((ea_cons h ea_nil he).go fun vs H1 s1 t => by
    obtain ⟨v, rfl, r1⟩ := one_of t
    obtain ⟨q, xs, rfl, hs, hx⟩ := Sq.seq (K := X.K) r1
    exact ⟨q, xs, rfl, hs, fun l hl => z l xs _ (s1.free hl) (s1.trans (same_new hl)) upd_same (RpA.mono (sm_of (same_new hl)) _ _ hx)⟩)
theorem ev_list {ds : List PyData} (hm : X.mg "list" = none) (h : Ev X a σ H (Sq ds)) (hg : Gl X "list" := by rfl) (he : starEach [a] X.env = (false, eval a X.env) :: starEach [] X.env := by rfl) (hpl : (backTo pos (starEach [] X.env)).any (·.1) = false := by rfl) :
    Ev X (.Call (.Name "list" p) [a] [] pos) σ H (Is (.list ds)) :=
  ev_callTy call_list_of b_list hm (ea_cons h ea_nil he) (fun vs H1 _ t Q z => by
    obtain ⟨v, rfl, r1⟩ := one_of t
    obtain ⟨q, xs, rfl, hs, hx⟩ := Sq.seq (K := X.K) r1
    exact ⟨q, xs, rfl, hs, fun l hl => z _ _ (same_new hl) (.lst (.inl upd_same) (RpA.mono (sm_of (same_new hl)) _ _ hx))⟩) hg (by decide) (by decide) he hpl
theorem ev_abs {i : Int} (hm : X.mg "abs" = none) (h : Ev X a σ H (Is (.int i))) (hg : Gl X "abs" := by rfl) (he : starEach [a] X.env = (false, eval a X.env) :: starEach [] X.env := by rfl) (hpl : (backTo pos (starEach [] X.env)).any (·.1) = false := by rfl) :
    Ev X (.Call (.Name "abs" p) [a] [] pos) σ H (Is (.int (if i < 0 then -i else i))) :=
  ev_callB call_abs b_abs hm (ea_cons h ea_nil he) (fun vs H1 _ t Q z => by
    obtain ⟨v, rfl, r1⟩ := one_of t
    exact ⟨i, by rw [is_int r1], z _ _ (Same.refl _) (.int _)⟩) hg (by decide) (by decide) he hpl
theorem ev_intB {k : Bool} (hm : X.mg "int" = none) (h : Ev X a σ H (Is (.bool k))) (hg : Gl X "int" := by rfl) (he : starEach [a] X.env = (false, eval a X.env) :: starEach [] X.env := by rfl) (hpl : (backTo pos (starEach [] X.env)).any (·.1) = false := by rfl) :
    Ev X (.Call (.Name "int" p) [a] [] pos) σ H (Is (.int (if k then 1 else 0))) :=
  ev_callTy call_int1 b_int hm (ea_cons h ea_nil he) (fun vs H1 _ t Q z => by
    obtain ⟨v, rfl, r1⟩ := one_of t
    exact .inr ⟨k, by rw [is_bl r1], z _ _ (Same.refl _) (.int _)⟩) hg (by decide) (by decide) he hpl
theorem ev_intI {k : Int} (hm : X.mg "int" = none) (h : Ev X a σ H (Is (.int k))) (hg : Gl X "int" := by rfl) (he : starEach [a] X.env = (false, eval a X.env) :: starEach [] X.env := by rfl) (hpl : (backTo pos (starEach [] X.env)).any (·.1) = false := by rfl) :
    Ev X (.Call (.Name "int" p) [a] [] pos) σ H (Is (.int k)) :=
  ev_callTy call_int1 b_int hm (ea_cons h ea_nil he) (fun vs H1 _ t Q z => by
    obtain ⟨v, rfl, r1⟩ := one_of t
    exact .inl ⟨k, by rw [is_int r1], z _ _ (Same.refl _) (.int _)⟩) hg (by decide) (by decide) he hpl
/-- isinstance(x, T) and isinstance(x, (T, ..)) by the datum's type -/
def tyD : PyData → String
  | .none => "NoneType"
  | .bool _ => "bool"
  | .int _ => "int"
  | .str _ => "str"
  | .list _ => "list"
  | .tuple _ => "tuple"
  | .dict _ => "dict"
theorem tyx_of {K : PySem.W.Frag} {d : PyData} {v : V} (h : Rp H v d) : TyX K H v (.type (tyD d)) := by
  cases h with
  | non => exact .base .non
  | bl b => exact .base (.bl b)
  | int i => exact .base (.int i)
  | str x => exact .base (.str x)
  | lst h1 _ =>
    rcases h1 with h1 | ⟨o, h1⟩
    · exact .base (.lst h1)
    · exact .base (.frz h1)
  | tup h1 _ => exact .base (.tup h1)
theorem ev_isi {d : PyData} {k : Bool} {T : String} (hm : X.mg "isinstance" = none) (h : Ev X a σ H (Is d)) (ht : Ev X b σ H (Eqv (.ty T))) (hk : kitB (tyD d) T = some k) (hg : Gl X "isinstance" := by rfl) (he : starEach [a, b] X.env = (false, eval a X.env) :: starEach [b] X.env := by rfl) (he2 : starEach [b] X.env = (false, eval b X.env) :: starEach [] X.env := by rfl) (hpl : (backTo pos (starEach [b] X.env)).any (·.1) = false := by rfl) :
    Ev X (.Call (.Name "isinstance" p) [a, b] [] pos) σ H (Is (.bool k)) :=
  ev_callB call_isi b_isi hm (ea_cons h (ea_cons ht ea_nil he2) he) (fun vs H1 _ t Q z => by
    obtain ⟨v, w, rfl, r1, r2⟩ := two_of t
    cases r2
    exact ⟨v, _, _, _, k, rfl, .ty T, tyx_of r1, kit_ty hk, z _ _ (Same.refl _) (.bl _)⟩) hg (by decide) (by decide) he hpl
/-- a tuple of two classes -/
def TyTup (Ts : List String) : Rel := fun v H => ∃ p, v = .ref p ∧ H p = some (.tup (Ts.map .ty))
instance {Ts : List String} : Mono (TyTup Ts) := ⟨fun e ⟨p, h1, h2⟩ => ⟨p, h1, e.tp _ _ h2⟩⟩
theorem paired_ty : ∀ Ts : List String, Paired ClsV (Ts.map .ty) (Ts.map .type)
  | [] => .nil
  | T :: Ts => .cons (.ty T) (paired_ty Ts)
def kitsB (d : String) : List String → Option Bool
  | [] => some false
  | T :: Ts => match kitB d T with
    | some true => some true
    | some false => kitsB d Ts
    | none => none
theorem kits_any {K : PySem.W.Frag} {d : String} : ∀ {Ts : List String} {k : Bool}, kitsB d Ts = some k → PySem.W.kitAny K (.type d) (Ts.map .type) = some k
  | [], k, h => by cases h; exact kitAny_nil
  | T :: Ts, k, h => by
    unfold kitsB at h
    split at h
    · next e => cases h; exact kitAny_cons (kit_ty e) (fun z => nomatch z) fun _ => rfl
    · next e => exact kitAny_cons (kit_ty e) (fun _ => kits_any h) fun z => nomatch z
    · cases h
theorem ev_isiT {d : PyData} {k : Bool} {Ts : List String} (hm : X.mg "isinstance" = none) (h : Ev X a σ H (Is d)) (ht : Ev X b σ H (TyTup Ts)) (hk : kitsB (tyD d) Ts = some k) (hg : Gl X "isinstance" := by rfl) (he : starEach [a, b] X.env = (false, eval a X.env) :: starEach [b] X.env := by rfl) (he2 : starEach [b] X.env = (false, eval b X.env) :: starEach [] X.env := by rfl) (hpl : (backTo pos (starEach [b] X.env)).any (·.1) = false := by rfl) :
    Ev X (.Call (.Name "isinstance" p) [a, b] [] pos) σ H (Is (.bool k)) :=
  ev_callB call_isiT b_isi hm (ea_cons h (ea_cons ht ea_nil he2) he) (fun vs H1 _ t Q z => by
    obtain ⟨v, w, rfl, r1, tp, rfl, r2⟩ := two_of t
    exact ⟨v, tp, _, _, _, k, rfl, r2, paired_ty Ts, tyx_of r1, kits_any hk, z _ _ (Same.refl _) (.bl _)⟩) hg (by decide) (by decide) he hpl
theorem ev_ty {T : String} (hm : X.mg x = none) (hv : bootBuiltins x = some (.type T)) (hg : Gl X x := by rfl) (hn : x ≠ "__name__" := by decide) (hd : (x == ("__debug__" : Str)) = false := by decide) : Ev X (.Name x pos) σ H (Eqv (.ty T)) :=
  fun H1 _ Q k => we (pe_bltn (v := .ty T) hg hm hv rfl hn hd) (k _ H1 (Same.refl H1) rfl)
theorem ev_tyTup {T U : String} {x1} (h1 : Ev X a σ H (Eqv (.ty T))) (h2 : Ev X b σ H (Eqv (.ty U))) (he : starEach [a, b] X.env = (false, eval a X.env) :: starEach [b] X.env := by rfl) (he2 : starEach [b] X.env = (false, eval b X.env) :: starEach [] X.env := by rfl) : Ev X (.Tuple [a, b] x1 pos) σ H (TyTup [T, U]) :=
  fun H1 m Q z => we (pe_tup (pa_w _)) (ea_cons h1 (ea_cons h2 ea_nil he2) he H1 m _ fun vs H2 s2 t => by
    obtain ⟨v, w, rfl, rfl, rfl⟩ := two_of t
    exact ⟨by show 2 ≤ sizeLine; decide, fun p hp => z _ _ (s2.trans (same_new hp)) ⟨p, rfl, upd_same⟩⟩)
end

/-! ### subscripts, in -/
section
variable {X : Cx} {σ : St} {H : Hp} {a b : Expr} {pos : Pos}
theorem ev_ixT {ds : List PyData} {d : PyData} {i : Int} (ha : Ev X a σ H (Is (.tuple ds))) (hb : Ev X b σ H (Is (.int i))) (h : atI ds i = some d) (hs : PlainIx b := by intro _ _; rfl) : Ev X (.Subscript a b pos) σ H (Is d) :=
  fun H1 m Q k => we (pe_ix ix_tup (pe_w a) (pe_w b) hs) (ha H1 m _ fun x H2 s2 r2 => hb H2 (m.trans (sm_of s2)) _ fun y H3 s3 r3 => by
    cases r2 with
    | @tup q xs _ h1 h2 =>
      unfold atI at h
      rw [Option.bind_eq_some_iff] at h
      obtain ⟨j, hj, hd⟩ := h
      obtain ⟨v, hv, rv⟩ := h2.get' hd
      exact ⟨q, xs, i, v, rfl, is_int r3, SqT.of (s3 _ _ h1), by unfold atI; rw [h2.length, hj]; exact hv, k _ _ (s2.trans s3) (Rp.mono (sm_of s3) _ _ rv)⟩)
theorem ev_ixL {ds : List PyData} {d : PyData} {i : Int} (ha : Ev X a σ H (Is (.list ds))) (hb : Ev X b σ H (Is (.int i))) (h : atI ds i = some d) (hs : PlainIx b := by intro _ _; rfl) : Ev X (.Subscript a b pos) σ H (Is d) :=
  fun H1 m Q k => we (pe_ix ix_list (pe_w a) (pe_w b) hs) (ha H1 m _ fun x H2 s2 r2 => hb H2 (m.trans (sm_of s2)) _ fun y H3 s3 r3 => by
    cases r2 with
    | @lst q xs _ h1 h2 =>
      unfold atI at h
      rw [Option.bind_eq_some_iff] at h
      obtain ⟨j, hj, hd⟩ := h
      obtain ⟨v, hv, rv⟩ := h2.get' hd
      exact ⟨q, xs, i, v, rfl, is_int r3, .inl ((sm_of s3).rd _ _ True.intro h1), by unfold atI; rw [h2.length, hj]; exact hv, k _ _ (s2.trans s3) (Rp.mono (sm_of s3) _ _ rv)⟩)
theorem atI_of {α : Type} {l : List α} {j : Nat} {x : α} (h : l[j]? = some x) : atI l (j : Int) = some x := atI_nat h
/-- d[k], a text key -/
def look {β : Type} : List (Str × β) → Str → Option β
  | [], _ => none
  | (k, d) :: m, x => if k = x then some d else look m x
def lookT {β : Type} : List (List Str × β) → List Str → Option β
  | [], _ => none
  | (k, d) :: m, x => if k = x then some d else lookT m x
theorem KvA.look {kvs : List (Key × V)} {m : List (Str × PyData)} {x : Str} (h : KvA H kvs m) : match My.look m x with | some d => ∃ v, valV kvs (.inr x) = some v ∧ Rp H v d | none => valV kvs (.inr x) = none := by
  induction h with
  | nil => exact rfl
  | @cons k v d kvs m r t ih =>
    unfold My.look
    by_cases e : k = x
    · subst e
      rw [if_pos rfl]
      exact ⟨v, valV_pos rfl, r⟩
    · rw [if_neg e]
      have ne : ¬ ((Sum.inr k : Key) = Sum.inr x) := fun z => e (Sum.inr.inj z)
      rw [valV_neg (p := ((Sum.inr k : Key), v)) ne]
      exact ih
theorem inr_inj {k x : List Str} (h : (k.map .inr : List Key) = x.map .inr) : k = x := by
  induction k generalizing x with
  | nil => cases x with
    | nil => rfl
    | cons _ _ => simp at h
  | cons a k ih => cases x with
    | nil => simp at h
    | cons b x =>
      simp only [List.map_cons, List.cons.injEq] at h
      rw [Sum.inr.inj h.1, ih h.2]
theorem KtA.look {kvs : List (List Key × V)} {m : List (List Str × PyData)} {x : List Str} (h : KtA H kvs m) : match My.lookT m x with | some d => ∃ v, valV kvs (x.map .inr) = some v ∧ Rp H v d | none => valV kvs (x.map .inr) = none := by
  induction h with
  | nil => exact rfl
  | @cons k v d kvs m r t ih =>
    unfold My.lookT
    by_cases e : k = x
    · subst e
      rw [if_pos rfl]
      exact ⟨v, valV_pos rfl, r⟩
    · rw [if_neg e]
      have ne : ¬ ((k.map .inr : List Key) = x.map .inr) := fun z => e (inr_inj z)
      rw [valV_neg (p := ((k.map .inr : List Key), v)) ne]
      exact ih
theorem dget_k {m : List (Str × PyData)} {x : Str} {d : PyData} {v : V} (h : DK m v H) (hl : look m x = some d) : ∃ p w, v = .ref p ∧ DGet H p (.str x) (some w) ∧ Rp H w d := by
  obtain ⟨p, kvs, e, h1, h2⟩ := h
  have q := h2.look (x := x)
  rw [hl] at q
  obtain ⟨w, hw, rw'⟩ := q
  exact ⟨p, w, e, .inl ⟨kvs, .inr x, h1, rfl, hw.symm⟩, rw'⟩
theorem names_rp {xs : List Str} {v : V} (h : Rp H v (.tuple (xs.map .str))) : ∃ p, v = .ref p ∧ H p = some (.tup ((xs.map .inr : List Key).map kV)) := by
  cases h with
  | @tup a ys _ h1 h2 =>
    refine ⟨a, rfl, ?_⟩
    rw [h1, h2.strs, List.map_map]
    rfl
theorem dget_t {m : List (List Str × PyData)} {x : List Str} {d : PyData} {v u : V} (h : DT m v H) (hu : Rp H u (.tuple (x.map .str))) (hl : lookT m x = some d) : ∃ p w, v = .ref p ∧ DGet H p u (some w) ∧ Rp H w d := by
  obtain ⟨p, kvs, e, h1, h2⟩ := h
  have q := h2.look (x := x)
  rw [hl] at q
  obtain ⟨w, hw, rw'⟩ := q
  obtain ⟨b, rfl, hb⟩ := names_rp hu
  exact ⟨p, w, e, .inr ⟨kvs, _, b, h1, rfl, hb, hw.symm⟩, rw'⟩
theorem ev_dk {k : Nat} {m : List (Str × PyData)} {x : Str} {d : PyData} (hr : Room k X.A) (ha : Ev X a σ H (DK m)) (hb : Ev X b σ H (Is (.str x))) (h : look m x = some d) (hs : NoSl b := by intro _ _; rfl) : Ev X (.Subscript a b pos) σ H (Is d) :=
  fun H1 m Q k => we (pe_dget (hu_of hr) (pe_w a) (pe_w b) hs) (ha H1 m _ fun x H2 s2 r2 => hb H2 (m.trans (sm_of s2)) _ fun y H3 s3 r3 => by
    obtain ⟨p, w, e, g, rw'⟩ := dget_k (Mono.up (sm_of s3) r2) h
    rw [is_str r3]
    exact ⟨p, w, e, g, k _ _ (s2.trans s3) rw'⟩)
theorem ev_dt {k : Nat} {m : List (List Str × PyData)} {x : List Str} {d : PyData} (hr : Room k X.A) (ha : Ev X a σ H (DT m)) (hb : Ev X b σ H (Is (.tuple (x.map .str)))) (h : lookT m x = some d) (hs : NoSl b := by intro _ _; rfl) : Ev X (.Subscript a b pos) σ H (Is d) :=
  fun H1 m Q k => we (pe_dget (hu_of hr) (pe_w a) (pe_w b) hs) (ha H1 m _ fun x H2 s2 r2 => hb H2 (m.trans (sm_of s2)) _ fun y H3 s3 r3 => by
    obtain ⟨p, w, e, g, rw'⟩ := dget_t (Mono.up (sm_of s3) r2) r3 h
    exact ⟨p, w, e, g, k _ _ (s2.trans s3) rw'⟩)

/-- data without dicts, at most n deep -/
def Shp (n : Nat) (d : PyData) : Prop := d.plain = true ∧ d.depth ≤ n
def ShpA (n : Nat) (ds : List PyData) : Prop := PyData.plainAll ds = true ∧ PyData.depthAll ds ≤ n
theorem shp_none {n : Nat} : Shp n .none := ⟨by simp [PyData.plain], by simp [PyData.depth]⟩
theorem shp_bool {n : Nat} {b : Bool} : Shp n (.bool b) := ⟨by simp [PyData.plain], by simp [PyData.depth]⟩
theorem shp_int {n : Nat} {b : Int} : Shp n (.int b) := ⟨by simp [PyData.plain], by simp [PyData.depth]⟩
theorem shp_str {n : Nat} {b : Str} : Shp n (.str b) := ⟨by simp [PyData.plain], by simp [PyData.depth]⟩
theorem shp_all {n : Nat} : ∀ {ds : List PyData}, (∀ d ∈ ds, Shp n d) → ShpA n ds
  | [], _ => ⟨by simp [PyData.plainAll], by simp [PyData.depthAll]⟩
  | d :: ds, h => by
    have h1 := h d List.mem_cons_self
    have h2 := shp_all fun x hx => h x (List.mem_cons_of_mem _ hx)
    unfold ShpA
    simp only [PyData.plainAll, PyData.depthAll]
    exact ⟨by rw [h1.1, h2.1]; rfl, Nat.max_le.mpr ⟨h1.2, h2.2⟩⟩
theorem shp_tup {n : Nat} {ds : List PyData} (q : ShpA n ds) : Shp (n + 1) (.tuple ds) :=
  ⟨by simp only [PyData.plain]; exact q.1, by have := q.2; simp only [PyData.depth]; omega⟩
theorem shp_lst {n : Nat} {ds : List PyData} (q : ShpA n ds) : Shp (n + 1) (.list ds) :=
  ⟨by simp only [PyData.plain]; exact q.1, by have := q.2; simp only [PyData.depth]; omega⟩
theorem shpA_map {α : Type} {n : Nat} {l : List α} {f : α → PyData} (h : ∀ x ∈ l, Shp n (f x)) : ShpA n (l.map f) := shp_all fun d hd => by
  obtain ⟨x, hx, rfl⟩ := List.mem_map.mp hd
  exact h x hx
theorem shpA_nil {n : Nat} : ShpA n [] := ⟨by simp [PyData.plainAll], by simp [PyData.depthAll]⟩
theorem shpA_cons {n : Nat} {d : PyData} {ds : List PyData} (h1 : Shp n d) (h2 : ShpA n ds) : ShpA n (d :: ds) := by
  unfold ShpA
  simp only [PyData.plainAll, PyData.depthAll]
  exact ⟨by rw [h1.1, h2.1]; rfl, Nat.max_le.mpr ⟨h1.2, h2.2⟩⟩
theorem shpA_strs {n : Nat} (xs : List Str) : ShpA n (xs.map .str) := shpA_map fun _ _ => shp_str
theorem shp_names {n : Nat} (xs : List Str) : Shp (n + 1) (.tuple (xs.map .str)) := shp_tup (shpA_strs xs)
theorem Shp.le {n m : Nat} {d : PyData} (h : Shp n d) (l : n ≤ m) : Shp m d := ⟨h.1, Nat.le_trans h.2 l⟩
theorem room_d {u n : Nat} {d : PyData} {m : Nat} (h : d.depth ≤ n) (hn : n ≤ 64) (hu : u + 65 < cLine) : u + 1 + min m d.depth < cLine := by
  omega
theorem room_d1 {u n : Nat} {d : PyData} {m : Nat} (h : d.depth ≤ n) (hn : n ≤ 64) (hu : u + 65 < cLine) : u + min d.depth m < cLine := by
  omega
/-- == of data -/
def rEqP (n : Nat) (neg : Bool) : R2 := fun x y H Q => ∃ d e, Rp H x d ∧ Rp H y e ∧ Shp n d ∧ Shp n e ∧ Q (.bl (if neg then !PyData.eqv d e else PyData.eqv d e)) H
theorem op_eqP {n : Nat} (hn : n ≤ 64) (hu : X.A.units + 65 < cLine) : OpR X (compareOp .Eq) (rEqP n false) := by
  intro pins s σ H x y v u Q I rx ry h
  obtain ⟨d, e, hd, he, sd, se, q⟩ := h
  obtain ⟨as, r1⟩ := Dp.reads I d x v (hd.dp _) rx
  obtain ⟨bs, r2⟩ := Dp.reads I e y u (he.dp _) ry
  exact SeqAt.eq_plain r1 r2 sd.1 se.1 (room_d1 sd.2 hn hu) ⟨.bl _, H, I, rfl, q⟩
theorem op_neP {n : Nat} (hn : n ≤ 64) (hu : X.A.units + 65 < cLine) : OpR X (compareOp .NotEq) (rEqP n true) := by
  intro pins s σ H x y v u Q I rx ry h
  obtain ⟨d, e, hd, he, sd, se, q⟩ := h
  obtain ⟨as, r1⟩ := Dp.reads I d x v (hd.dp _) rx
  obtain ⟨bs, r2⟩ := Dp.reads I e y u (he.dp _) ry
  exact SeqAt.ne_plain r1 r2 sd.1 se.1 (room_d1 sd.2 hn hu) ⟨.bl _, H, I, rfl, q⟩
/-- in, not in, over a list or a tuple of data -/
def rInS (n : Nat) (neg : Bool) : R2 := fun x y H Q => ∃ d ds, Rp H x d ∧ Sq ds y H ∧ Shp n d ∧ PyData.plainAll ds = true ∧ Q (.bl (if neg then !(ds.any fun z => PyData.eqv z d) else ds.any fun z => PyData.eqv z d)) H
theorem op_inS {n : Nat} (hn : n ≤ 64) (hu : X.A.units + 65 < cLine) : OpR X (compareOp .In) (rInS n false) := by
  intro pins s σ H x y v u Q I rx ry h
  obtain ⟨d, ds, hd, he, sd, se, q⟩ := h
  obtain ⟨as, r1⟩ := Dp.reads I d x v (hd.dp _) rx
  rcases he with he | he
  · obtain ⟨bs, r2⟩ := Dp.reads I (.list ds) y u (he.dp _) ry
    exact SeqAt.in_list_data r2 r1 se sd.1 (room_d sd.2 hn hu) ⟨.bl _, H, I, rfl, q⟩
  · obtain ⟨bs, r2⟩ := Dp.reads I (.tuple ds) y u (he.dp _) ry
    exact SeqAt.in_tuple_data r2 r1 se sd.1 (room_d sd.2 hn hu) ⟨.bl _, H, I, rfl, q⟩
theorem op_notInS {n : Nat} (hn : n ≤ 64) (hu : X.A.units + 65 < cLine) : OpR X (compareOp .NotIn) (rInS n true) := by
  intro pins s σ H x y v u Q I rx ry h
  obtain ⟨d, ds, hd, he, sd, se, q⟩ := h
  obtain ⟨as, r1⟩ := Dp.reads I d x v (hd.dp _) rx
  rcases he with he | he
  · obtain ⟨bs, r2⟩ := Dp.reads I (.list ds) y u (he.dp _) ry
    exact SeqAt.notIn_list_data r2 r1 se sd.1 (room_d sd.2 hn hu) ⟨.bl _, H, I, rfl, q⟩
  · obtain ⟨bs, r2⟩ := Dp.reads I (.tuple ds) y u (he.dp _) ry
    exact SeqAt.notIn_tuple_data r2 r1 se sd.1 (room_d sd.2 hn hu) ⟨.bl _, H, I, rfl, q⟩
theorem room_u65 {k : Nat} {A : Around} (r : Room k A) : A.units + 65 < cLine := by have := r.un; omega
theorem ev_eq {k n : Nat} {d d' : PyData} (hr : Room k X.A) (ha : Ev X a σ H (Is d)) (hb : Ev X b σ H (Is d')) (h1 : Shp n d) (h2 : Shp n d') (hn : n ≤ 64 := by decide) : Ev X (.Compare a [.Eq] [b] pos) σ H (Is (.bool (PyData.eqv d d'))) :=
  ev_cmp (op_eqP hn (room_u65 hr)) (nomark _) ha hb fun x y H1 _ r1 r2 Q k => ⟨d, d', r1, r2, h1, h2, k _ _ (Same.refl _) (.bl _)⟩
theorem ev_ne {k n : Nat} {d d' : PyData} (hr : Room k X.A) (ha : Ev X a σ H (Is d)) (hb : Ev X b σ H (Is d')) (h1 : Shp n d) (h2 : Shp n d') (hn : n ≤ 64 := by decide) : Ev X (.Compare a [.NotEq] [b] pos) σ H (Is (.bool (!PyData.eqv d d'))) :=
  ev_cmp (op_neP hn (room_u65 hr)) (nomark _) ha hb fun x y H1 _ r1 r2 Q k => ⟨d, d', r1, r2, h1, h2, k _ _ (Same.refl _) (.bl _)⟩
theorem ev_inD {k n : Nat} {ds : List PyData} {d : PyData} (hr : Room k X.A) (ha : Ev X a σ H (Is d)) (hb : Ev X b σ H (Sq ds)) (h1 : Shp n d) (h2 : PyData.plainAll ds = true) (hn : n ≤ 64 := by decide) (hm : behindInMarks .In b = false := by rfl) : Ev X (.Compare a [.In] [b] pos) σ H (Is (.bool (ds.any fun z => PyData.eqv z d))) :=
  ev_cmp (op_inS hn (room_u65 hr)) hm ha hb fun x y H1 _ r1 r2 Q k => ⟨d, ds, r1, r2, h1, h2, k _ _ (Same.refl _) (.bl _)⟩
theorem ev_notInD {k n : Nat} {ds : List PyData} {d : PyData} (hr : Room k X.A) (ha : Ev X a σ H (Is d)) (hb : Ev X b σ H (Sq ds)) (h1 : Shp n d) (h2 : PyData.plainAll ds = true) (hn : n ≤ 64 := by decide) (hm : behindInMarks .NotIn b = false := by rfl) : Ev X (.Compare a [.NotIn] [b] pos) σ H (Is (.bool (!ds.any fun z => PyData.eqv z d))) :=
  ev_cmp (op_notInS hn (room_u65 hr)) hm ha hb fun x y H1 _ r1 r2 Q k => ⟨d, ds, r1, r2, h1, h2, k _ _ (Same.refl _) (.bl _)⟩
theorem any_strs (xs : List Str) (x : Str) : ((xs.map PyData.str).any fun z => PyData.eqv z (.str x)) = decide (x ∈ xs) := by
  induction xs with
  | nil => simp
  | cons a xs ih =>
    rw [List.map_cons, List.any_cons, ih]
    simp only [PyData.eqv]
    by_cases e : a = x
    · subst e; simp
    · have e' : ¬ x = a := fun z => e z.symm
      simp [e, e']
theorem ev_inN {k : Nat} {xs : List Str} {x : Str} (hr : Room k X.A) (ha : Ev X a σ H (Is (.str x))) (hb : Ev X b σ H (Sq (xs.map .str))) (hm : behindInMarks .In b = false := by rfl) : Ev X (.Compare a [.In] [b] pos) σ H (Is (.bool (decide (x ∈ xs)))) :=
  (ev_inD (n := 0) hr ha hb shp_str (shpA_strs (n := 0) xs).1 (by decide) hm).is (by rw [any_strs])
theorem ev_notInN {k : Nat} {xs : List Str} {x : Str} (hr : Room k X.A) (ha : Ev X a σ H (Is (.str x))) (hb : Ev X b σ H (Sq (xs.map .str))) (hm : behindInMarks .NotIn b = false := by rfl) : Ev X (.Compare a [.NotIn] [b] pos) σ H (Is (.bool (!decide (x ∈ xs)))) :=
  (ev_notInD (n := 0) hr ha hb shp_str (shpA_strs (n := 0) xs).1 (by decide) hm).is (by rw [any_strs])
end
end My
/-! B3 -/
namespace My
open PySem L2

/-! ### the text by places, defs -/
def top (i : Nat) : Stmt := PySem.Challenge.pw_anylatency_k55_whole_gaps_and_meetings_b.main.body.getD i (.Pass ⟨0, 0, 0, 0⟩)
/-- a def of the text behind the top -/
structure Df (K : PySem.W.Frag) (mg : Str → Option Value) (x : Str) (st : Stmt) : Prop where
  ex : ∃ (f : Addr) (fd : FuncData), FunD K x x (defArgs st) (defBody st) (defScope st) [] [] f fd ∧ mg x = some (.ref f)
abbrev XF (P : Program) (w : World) (K : PySem.W.Frag) (mg : Str → Option Value) (base : Heap) (N : List Str) (x : Str) (sc : Scope) (f : Addr) (cdv : Value) (A : Around) (outer : List Env) (s : Shared) (H : Hp) (E : XK) : Cx :=
  (cxOf CX0 P w K mg base N x sc f cdv A outer s H E).nox
section
variable {P : Program} {w : World} {K : PySem.W.Frag} {mg : Str → Option Value} {base : Heap}
theorem cal_mk {x : Str} {st : Stmt} {N ps : List Str} {k : Nat} {sp : Sp} (F : Df K mg x st) (S : FnScope N ps (defScope st))
    (hb : ∀ (kV doc pm : Value) (an : Option Addr) (cdv ct : Value) (us : List Value), us.length = ps.length → bindArgs (PySem.W.fnOf x x (defArgs st) (defBody st) (defScope st) .none kV doc pm an cdv ct) ⟨us, []⟩ = pure (ps.zip us))
    (len : ∀ vs H Q E, sp vs H Q E → vs.length = ps.length)
    (body : ∀ (f : Addr) (cdv : Value) (A : Around) (outer : List Env) (s : Shared) (H : Hp) (vs : List V) (Q : VK) (E : XK), Room k (XF P w K mg base N x (defScope st) f cdv A outer s H E).A → sp vs H Q E →
      wB (XF P w K mg base N x (defScope st) f cdv A outer s H E) (defBody st) { nx := fun _ H' => Q .non H', rt := Q } (start N vs) H) : C8.Cal P w K mg base (k + 1) x sp [] := by
  obtain ⟨f, fd, G, hm⟩ := F.ex
  refine ⟨⟨f, fd, ps, [], ?_, hm, G.kp, G.bindsN hb, .nil⟩⟩
  exact G.ok S len fun cdv A outer s H vs Q E hr h => ⟨_, (pb_w _).nox, body f cdv A outer s H vs Q E hr h⟩
/-- the promise of a def that changes nothing: arguments of which A holds at x, a value of which B x holds -/
def PF {α : Type} (A : α → List V → Hp → Prop) (B : α → Rel) : Sp := fun vs H Q _ => ∃ x, A x vs H ∧ ∀ v H', Same H H' → B x v H' → Q v H'
theorem cal_pf {α : Type} {A : α → RelA} {B : α → Rel} {x : Str} {st : Stmt} {N ps : List Str} {k : Nat} (F : Df K mg x st) (S : FnScope N ps (defScope st))
    (hb : ∀ (kV doc pm : Value) (an : Option Addr) (cdv ct : Value) (us : List Value), us.length = ps.length → bindArgs (PySem.W.fnOf x x (defArgs st) (defBody st) (defScope st) .none kV doc pm an cdv ct) ⟨us, []⟩ = pure (ps.zip us))
    (len : ∀ x vs H, A x vs H → vs.length = ps.length)
    (body : ∀ (f : Addr) (cdv : Value) (Ar : Around) (outer : List Env) (s : Shared) (H : Hp) (vs : List V) (Q : VK) (E : XK) (a : α), Room k (XF P w K mg base N x (defScope st) f cdv Ar outer s H E).A → A a vs H → (∀ v H', Same H H' → B a v H' → Q v H') →
      wB (XF P w K mg base N x (defScope st) f cdv Ar outer s H E) (defBody st) { nx := fun _ H' => Q .non H', rt := Q } (start N vs) H) : C8.Cal P w K mg base (k + 1) x (PF A B) [] :=
  cal_mk F S hb (fun vs H Q E ⟨a, h, _⟩ => len a vs H h) fun f cdv Ar outer s H vs Q E hr ⟨a, h, q⟩ => body f cdv Ar outer s H vs Q E a hr h q
/-- a call of such a def -/
theorem ev_pf {α : Type} {A : α → RelA} {B : α → Rel} {X : Cx} {σ : St} {H : Hp} {T : RelA} {e : Expr} {es : List Expr} {x : Str} {p pos : Pos} {k j : Nat} (y : α) (c : C8.Cal X.prog X.w X.K X.mg X.base k x (PF A B) []) (hr : Room j X.A) (args : EvA X (e :: es) σ H T)
    (h : ∀ vs H1, Sm H H1 → T vs H1 → A y vs H1) (hk : k ≤ j := by decide) (hg : Gl X x := by rfl) (hdb : (x == ("__debug__" : Str)) = false := by decide) (he : starEach (e :: es) X.env = (false, eval e X.env) :: starEach es X.env := by rfl) (hpl : (backTo pos (starEach es X.env)).any (·.1) = false := by rfl) :
    Ev X (.Call (.Name x p) (e :: es) [] pos) σ H (B y) :=
  ev_call c hr args (fun vs H1 m t Q z => ⟨y, h vs H1 m t, z⟩) hk hg hdb he hpl
end
end My
/-! HD -/
namespace My
open PySem PySem.Spec PyProof.Rows L2
abbrev dd (x : Str) (i : Nat) : He.DefD := ⟨(x, none), x, x, defArgs (top i), defBody (top i), defScope (top i), [], []⟩
def fn1 : List He.DefD := [dd "is_name" 7, dd "set_of" 8, dd "tupled" 9, dd "table_of" 11, dd "needs_by" 12, dd "names_in" 13, dd "check_names" 14, dd "readers_of" 15, dd "needs_of" 16, dd "needed_by" 17, dd "slow_in" 18, dd "awaited_in" 19, dd "is_order" 20, dd "check_order" 21, dd "free_in" 22, dd "ways_by" 23, dd "least_order" 24, dd "order_at" 25, dd "all_orders" 26, dd "reader_place" 28, dd "all_waits" 29, dd "are_meeting" 30, dd "meeting" 31, dd "greatest_gap" 33, dd "order_with_gap" 34, dd "are_awaited" 35]
def fn2 : List He.DefD := [dd "can_meet" 36, dd "followers" 37, dd "ready" 38, dd "order_meeting" 39, dd "can_all_meet" 40, dd "how_many_meeting" 41, dd "great_meetings" 42, dd "ticks_of" 44, dd "end_of" 45, dd "_law_box" 47, dd "_law_take" 48, dd "_law_cells" 49, dd "_law_same" 50, dd "_law_pick" 51, dd "_law_tags" 52, dd "_law_kit" 53, dd "_law_lines" 54, dd "_law_twos" 55, dd "_law_four" 56, dd "_law_pairs" 57, dd "_law_slowed" 58, dd "_law_apart" 59, dd "_law_hand_right" 60, dd "_law_case_right" 61, dd "_law_right" 62, dd "law" 63]
def fn : List He.DefD := fn1 ++ fn2
def fa1 : List He.Fa := [.glo "is_name", .glo "set_of", .glo "tupled", .glo "table_of", .glo "needs_by", .glo "names_in", .glo "check_names", .glo "readers_of", .glo "needs_of", .glo "needed_by", .glo "slow_in", .glo "awaited_in", .glo "is_order", .glo "check_order", .glo "free_in", .glo "ways_by", .glo "least_order", .glo "order_at", .glo "all_orders", .glo "reader_place", .glo "all_waits", .glo "are_meeting", .glo "meeting", .glo "greatest_gap", .glo "order_with_gap", .glo "are_awaited"]
def fa2 : List He.Fa := [.glo "can_meet", .glo "followers", .glo "ready", .glo "order_meeting", .glo "can_all_meet", .glo "how_many_meeting", .glo "great_meetings", .glo "ticks_of", .glo "end_of", .glo "_law_box", .glo "_law_take", .glo "_law_cells", .glo "_law_same", .glo "_law_pick", .glo "_law_tags", .glo "_law_kit", .glo "_law_lines", .glo "_law_twos", .glo "_law_four", .glo "_law_pairs", .glo "_law_slowed", .glo "_law_apart", .glo "_law_hand_right", .glo "_law_case_right", .glo "_law_right", .glo "law"]
def fa3 : List He.Fa := [.str "LETTERS" "abcdefghijklmnopqrstuvwxyz", .int "LONGEST" 8, .free "tuple", .free "list", .free "set", .free "dict", .free "str", .free "int", .free "bool", .free "len", .free "sorted", .free "all", .free "any", .free "min", .free "max", .free "sum", .free "abs", .free "isinstance", .free "range", .free "enumerate", .free "zip"]
def fa : List He.Fa := fa1 ++ (fa2 ++ fa3)
abbrev R : PySem.W.OpenRow := PySem.W.OpenLaw.row PySem.Challenge.rw_anylatency_k55_whole_gaps_and_meetings_b
def loo1 : List Str := ["__name__", "NoName", "NoNumber", "NoOrder", "LETTERS", "LONGEST", "is_name", "set_of", "tupled", "table_of", "needs_by", "names_in", "check_names", "readers_of", "needs_of", "needed_by", "slow_in", "awaited_in", "is_order", "check_order", "free_in", "ways_by", "least_order", "order_at", "all_orders", "reader_place", "all_waits", "are_meeting", "meeting", "greatest_gap"]
def loo2 : List Str := ["order_with_gap", "are_awaited", "can_meet", "followers", "ready", "order_meeting", "can_all_meet", "how_many_meeting", "great_meetings", "ticks_of", "end_of", "_law_box", "_law_take", "_law_cells", "_law_same", "_law_pick", "_law_tags", "_law_kit", "_law_lines", "_law_twos", "_law_four", "_law_pairs", "_law_slowed", "_law_apart", "_law_hand_right", "_law_case_right", "_law_right"]
def loo : List Str := loo1 ++ loo2
abbrev hkk : PySem.W.Hook := He.hookD 4 fa fn
def ob (s : PySem.W.SharedT) : He.AlD := He.obsDG 4 fa fn (HandSHeadRun.getT s)
theorem ob_eq (s : PySem.W.SharedT) : ob s = hkk.obs s.abs := He.obsDG_eq (HandSHeadRun.getT_eq s)
theorem run (w : World) : HandSHeadRun.RunEq R (PySem.W.view R.prog [63]) hkk ob 3000 loo w := by
  intro os
  kernel_rfl
end My
/-! P1 -/
/-! plain: orders, sorted lists, sets as sorted lists -/
namespace My
open PySem PyProof.Rows PySem.W
structure Ord {α : Type} (lt : α → α → Bool) : Prop where
  irr : ∀ a, lt a a = false
  tr : ∀ a b c, lt a b = true → lt b c = true → lt a c = true
  tot : ∀ a b, lt a b = false → lt b a = false → a = b
section
variable {α : Type} {lt : α → α → Bool}
theorem Ord.asym (O : Ord lt) {a b : α} (h : lt a b = true) : lt b a = false := by
  cases q : lt b a with
  | false => rfl
  | true => have := O.tr a b a h q; rw [O.irr] at this; cases this
def insU (lt : α → α → Bool) (x : α) : List α → List α
  | [] => [x]
  | y :: l => if lt y x = true then y :: insU lt x l else if lt x y = true then x :: y :: l else y :: l
/-- the set of some things, ascending -/
def setL (lt : α → α → Bool) : List α → List α
  | [] => []
  | x :: l => insU lt x (setL lt l)
def insS (lt : α → α → Bool) (x : α) : List α → List α
  | [] => [x]
  | y :: l => if lt y x = true then y :: insS lt x l else x :: y :: l
/-- sorted -/
def sortL (lt : α → α → Bool) : List α → List α
  | [] => []
  | x :: l => insS lt x (sortL lt l)
abbrev Asc (lt : α → α → Bool) (l : List α) : Prop := l.Pairwise (fun a b => lt a b = true)
theorem insU_mem (O : Ord lt) {x z : α} : ∀ {l : List α}, z ∈ insU lt x l ↔ z = x ∨ z ∈ l
  | [] => by simp [insU]
  | y :: l => by
    unfold insU
    split
    · rw [List.mem_cons, insU_mem O, List.mem_cons]
      constructor
      · rintro (h | h | h) <;> simp [h]
      · rintro (h | h | h) <;> simp [h]
    · split
      · rw [List.mem_cons]
      · rename_i h1 h2
        have e : x = y := O.tot x y (by simpa using h2) (by simpa using h1)
        subst e
        simp
theorem insU_asc (O : Ord lt) {x : α} : ∀ {l : List α}, Asc lt l → Asc lt (insU lt x l)
  | [], _ => by simp [insU, Asc]
  | y :: l, h => by
    obtain ⟨h1, h2⟩ := List.pairwise_cons.mp h
    unfold insU
    split
    · rename_i hy
      refine List.pairwise_cons.mpr ⟨fun z hz => ?_, insU_asc O h2⟩
      rcases (insU_mem O).mp hz with e | hz
      · rw [e]; exact hy
      · exact h1 z hz
    · split
      · rename_i hx
        refine List.pairwise_cons.mpr ⟨fun z hz => ?_, h⟩
        rcases List.mem_cons.mp hz with e | hz
        · rw [e]; exact hx
        · exact O.tr _ _ _ hx (h1 z hz)
      · exact h
theorem setL_mem (O : Ord lt) {z : α} : ∀ {l : List α}, z ∈ setL lt l ↔ z ∈ l
  | [] => by simp [setL]
  | x :: l => by rw [setL, insU_mem O, setL_mem O, List.mem_cons]
theorem setL_asc (O : Ord lt) : ∀ {l : List α}, Asc lt (setL lt l)
  | [] => List.Pairwise.nil
  | x :: l => insU_asc O (setL_asc O)
theorem asc_nodup (O : Ord lt) {l : List α} (h : Asc lt l) : l.Nodup := h.imp fun {a b} h e => by
  subst e
  rw [O.irr] at h
  cases h
/-- two ascending lists with the same members are one -/
theorem asc_ext (O : Ord lt) : ∀ {l m : List α}, Asc lt l → Asc lt m → (∀ z, z ∈ l ↔ z ∈ m) → l = m
  | [], [], _, _, _ => rfl
  | [], y :: m, _, _, h => absurd ((h y).mpr List.mem_cons_self) (by simp)
  | x :: l, [], _, _, h => absurd ((h x).mp List.mem_cons_self) (by simp)
  | x :: l, y :: m, hl, hm, h => by
    obtain ⟨l1, l2⟩ := List.pairwise_cons.mp hl
    obtain ⟨m1, m2⟩ := List.pairwise_cons.mp hm
    have e : x = y := by
      rcases List.mem_cons.mp ((h x).mp List.mem_cons_self) with e | hx
      · exact e
      · rcases List.mem_cons.mp ((h y).mpr List.mem_cons_self) with e | hy
        · exact e.symm
        · have := O.tr _ _ _ (m1 x hx) (l1 y hy)
          rw [O.irr] at this
          cases this
    subst e
    rw [asc_ext O l2 m2 fun z => ?_]
    have hz := h z
    rw [List.mem_cons, List.mem_cons] at hz
    constructor
    · intro q
      rcases hz.mp (.inr q) with e | r
      · have := l1 z q
        rw [e, O.irr] at this
        cases this
      · exact r
    · intro q
      rcases hz.mpr (.inr q) with e | r
      · have := m1 z q
        rw [e, O.irr] at this
        cases this
      · exact r
theorem setL_of_asc (O : Ord lt) {l m : List α} (h : Asc lt l) (e : ∀ z, z ∈ l ↔ z ∈ m) : l = setL lt m := asc_ext O h (setL_asc O) fun z => (e z).trans (setL_mem O).symm
theorem setL_self (O : Ord lt) {l : List α} (h : Asc lt l) : setL lt l = l := (setL_of_asc O h fun _ => Iff.rfl).symm
theorem setL_congr (O : Ord lt) {l m : List α} (e : ∀ z, z ∈ l ↔ z ∈ m) : setL lt l = setL lt m := setL_of_asc O (setL_asc O) fun z => (setL_mem O).trans (e z)
theorem insS_perm {x : α} : ∀ {l : List α}, (insS lt x l).Perm (x :: l)
  | [] => .refl _
  | y :: l => by
    unfold insS
    split
    · exact ((insS_perm (l := l)).cons y).trans (.swap x y l)
    · exact .refl _
theorem sortL_perm : ∀ {l : List α}, (sortL lt l).Perm l
  | [] => .refl _
  | x :: l => insS_perm.trans (sortL_perm.cons x)
abbrev Up (lt : α → α → Bool) (l : List α) : Prop := l.Pairwise (fun a b => lt b a = false)
theorem Ord.up_trans (O : Ord lt) {a b c : α} (h1 : lt b a = false) (h2 : lt c b = false) : lt c a = false := by
  cases q : lt c a with
  | false => rfl
  | true =>
    cases r : lt a b with
    | true => have := O.tr _ _ _ q r; rw [h2] at this; cases this
    | false =>
      have e := O.tot _ _ r h1
      subst e
      rw [h2] at q
      cases q
theorem insS_up (O : Ord lt) {x : α} : ∀ {l : List α}, Up lt l → Up lt (insS lt x l)
  | [], _ => by simp [insS, Up]
  | y :: l, h => by
    obtain ⟨h1, h2⟩ := List.pairwise_cons.mp h
    unfold insS
    split
    · rename_i hy
      refine List.pairwise_cons.mpr ⟨fun z hz => ?_, insS_up O h2⟩
      rcases List.mem_cons.mp (insS_perm.mem_iff.mp hz) with e | hz
      · rw [e]; exact O.asym hy
      · exact h1 z hz
    · rename_i hy
      refine List.pairwise_cons.mpr ⟨fun z hz => ?_, h⟩
      rcases List.mem_cons.mp hz with e | hz
      · rw [e]; simpa using hy
      · exact O.up_trans (by simpa using hy) (h1 z hz)
theorem sortL_up (O : Ord lt) : ∀ {l : List α}, Up lt (sortL lt l)
  | [] => List.Pairwise.nil
  | x :: l => insS_up O (sortL_up O)
theorem sortL_uniq (O : Ord lt) {l m : List α} (hp : m.Perm l) (hu : Up lt m) : m = sortL lt l := by
  have tot : ∀ x y : α, ((!lt y x) || (!lt x y)) = true := fun x y => by
    cases h : lt y x with
    | false => rfl
    | true => rw [O.asym h]; rfl
  have trn : ∀ x y z : α, (!lt y x) = true → (!lt z y) = true → (!lt z x) = true := fun x y z a b => by
    rw [Bool.not_eq_true'] at a b ⊢
    exact O.up_trans a b
  have anti : ∀ x y : α, (!lt y x) = true → (!lt x y) = true → x = y := fun x y a b => by
    rw [Bool.not_eq_true'] at a b
    exact O.tot _ _ b a
  have e1 := Srt.the_of_perm (fun x y => !lt y x) trn tot anti hp (hu.imp fun {a b} h => by rw [h]; rfl)
  have e2 := Srt.the_of_perm (fun x y => !lt y x) trn tot anti (sortL_perm (lt := lt) (l := l)) ((sortL_up O).imp fun {a b} h => by rw [h]; rfl)
  rw [e1, e2]
theorem sortL_self (O : Ord lt) {l : List α} (h : Asc lt l) : sortL lt l = l := (sortL_uniq O (.refl l) (h.imp fun h => O.asym h)).symm
theorem up_asc (O : Ord lt) {l : List α} (h : Up lt l) (n : l.Nodup) : Asc lt l := by
  refine List.Pairwise.imp₂ (fun {a b} h1 h2 => ?_) h n
  cases q : lt a b with
  | true => rfl
  | false => exact absurd (O.tot _ _ q h1) h2
theorem sortL_set (O : Ord lt) {l : List α} (n : l.Nodup) : sortL lt l = setL lt l :=
  setL_of_asc O (up_asc O (sortL_up O) (sortL_perm.nodup_iff.mpr n)) fun z => sortL_perm.mem_iff
end

/-! ### things that are sorted by their data -/
class Kd (α : Type) where
  enc : α → PyData
  inj : ∀ a b, PyData.eqv (enc a) (enc b) = true → a = b
  alk : ∀ a b, alike (enc a) (enc b) = true
  tup : ∀ a, tupD (enc a) = true
  dep : ∀ a, (enc a).depth ≤ 4
  kin : (∀ a, ∃ xs, enc a = .tuple xs) ∨ ∀ a, enc a ≠ .none ∧ ∀ xs, enc a ≠ .tuple xs
def ltK {α : Type} [Kd α] (a b : α) : Bool := dataLt (Kd.enc a) (Kd.enc b)
theorem toks_inj {x y : PyData} (h : alike x y = true) (e : keyToks x = keyToks y) : PyData.eqv x y = true := by
  cases q : PyData.eqv x y with
  | true => rfl
  | false =>
    have z := (toks_eqv x y h).2 q [] [.inl 0]
    rw [e, lex_pre, lex_irrefl] at z
    cases z
theorem ordK {α : Type} [Kd α] : Ord (ltK (α := α)) where
  irr a := lex_irrefl _
  tr a b c h1 h2 := lex_trans _ _ _ h1 h2
  tot a b h1 h2 := Kd.inj a b (toks_inj (Kd.alk a b) (lex_total _ _ h1 h2))
theorem alk_map {α : Type} {f : α → PyData} (h : ∀ a b, alike (f a) (f b) = true) : ∀ l m : List α, alikeAll (l.map f) (m.map f) = true
  | [], _ => by simp [alikeAll]
  | _ :: _, [] => by simp [alikeAll]
  | a :: l, b :: m => by
    rw [List.map_cons, List.map_cons]
    simp only [alikeAll, Bool.and_eq_true]
    exact ⟨h a b, alk_map h l m⟩
theorem eqv_map {α : Type} {f : α → PyData} (h : ∀ a b, PyData.eqv (f a) (f b) = true → a = b) : ∀ l m : List α, PyData.eqvAll (l.map f) (m.map f) = true → l = m
  | [], [], _ => rfl
  | [], _ :: _, z => by simp [PyData.eqvAll] at z
  | _ :: _, [], z => by simp [PyData.eqvAll] at z
  | a :: l, b :: m, z => by
    rw [List.map_cons, List.map_cons] at z
    simp only [PyData.eqvAll, Bool.and_eq_true] at z
    rw [h a b z.1, eqv_map h l m z.2]
theorem tup_map {α : Type} {f : α → PyData} (h : ∀ a, tupD (f a) = true) : ∀ l : List α, tupDs (l.map f) = true
  | [] => by simp [tupDs]
  | a :: l => by
    rw [List.map_cons]
    simp only [tupDs, Bool.and_eq_true]
    exact ⟨h a, tup_map h l⟩
theorem dep_map {α : Type} {f : α → PyData} {n : Nat} (h : ∀ a, (f a).depth ≤ n) : ∀ l : List α, PyData.depthAll (l.map f) ≤ n
  | [] => by simp [PyData.depthAll]
  | a :: l => by
    rw [List.map_cons]
    simp only [PyData.depthAll]
    exact Nat.max_le.mpr ⟨h a, dep_map h l⟩
abbrev eS : Str → PyData := PyData.str
abbrev eN (xs : List Str) : PyData := .tuple (xs.map .str)
abbrev eP (p : Str × Str) : PyData := .tuple [.str p.1, .str p.2]
abbrev eM (m : List (Str × Str)) : PyData := .tuple (m.map eP)
theorem eqvS (a b : Str) (h : PyData.eqv (.str a) (.str b) = true) : a = b := by simpa [PyData.eqv] using h
theorem eqvP (a b : Str × Str) (h : PyData.eqv (eP a) (eP b) = true) : a = b := by
  simp only [PyData.eqv, PyData.eqvAll, Bool.and_eq_true, Bool.and_true, beq_iff_eq] at h
  exact Prod.ext h.1 h.2
instance : Kd Str where
  enc := .str
  inj := eqvS
  alk a b := by simp [alike]
  tup a := by simp [tupD]
  dep a := by simp [PyData.depth]
  kin := .inr fun a => ⟨fun z => (nomatch z), fun xs z => (nomatch z)⟩
instance : Kd (List Str) where
  enc := eN
  inj a b h := eqv_map eqvS a b (by simpa [PyData.eqv] using h)
  alk a b := by
    simp only [alike]
    exact alk_map (fun a b => by simp [alike]) a b
  tup a := by
    simp only [tupD]
    exact tup_map (fun a => by simp [tupD]) a
  dep a := by
    have := dep_map (f := PyData.str) (n := 0) (fun a => by simp [PyData.depth]) a
    simp only [PyData.depth]
    omega
  kin := .inl fun a => ⟨_, rfl⟩
instance : Kd (Str × Str) where
  enc := eP
  inj := eqvP
  alk a b := by simp [alike, alikeAll]
  tup a := by simp [tupD, tupDs]
  dep a := by simp [PyData.depth, PyData.depthAll]
  kin := .inl fun a => ⟨_, rfl⟩
instance : Kd (List (Str × Str)) where
  enc := eM
  inj a b h := eqv_map eqvP a b (by simpa [PyData.eqv] using h)
  alk a b := by
    simp only [alike]
    exact alk_map (fun a b => by simp [alike, alikeAll]) a b
  tup a := by
    simp only [tupD]
    exact tup_map (fun a => by simp [tupD, tupDs]) a
  dep a := by
    have := dep_map (f := eP) (n := 1) (fun a => by simp [PyData.depth, PyData.depthAll]) a
    simp only [PyData.depth]
    omega
  kin := .inl fun a => ⟨_, rfl⟩

/-! ### blocks -/
structure Row where
  name : Str
  reads : List Str
  slow : Bool
deriving DecidableEq
abbrev eR (r : Row) : PyData := .tuple [.str r.name, eN r.reads, .bool r.slow]
theorem eqvR (a b : Row) (h : PyData.eqv (eR a) (eR b) = true) : a = b := by
  cases a
  cases b
  simp only [PyData.eqv, PyData.eqvAll, Bool.and_eq_true, Bool.and_true, beq_iff_eq] at h
  obtain ⟨h1, h2, h3⟩ := h
  have h2' := eqv_map eqvS _ _ h2
  subst h1 h2' h3
  rfl
instance : Kd Row where
  enc := eR
  inj := eqvR
  alk a b := by
    simp only [alike, alikeAll, Bool.true_and, Bool.and_true]
    exact alk_map (fun a b => by simp [alike]) _ _
  tup a := by
    simp only [tupD, tupDs, Bool.true_and, Bool.and_true]
    exact tup_map (fun a => by simp [tupD]) _
  dep a := by
    have := dep_map (f := PyData.str) (n := 0) (fun a => by simp [PyData.depth]) a.reads
    simp only [PyData.depth, PyData.depthAll]
    omega
  kin := .inl fun a => ⟨_, rfl⟩
structure Blk where
  rows : List Row
  live : List Str
deriving DecidableEq
abbrev eB (b : Blk) : PyData := .tuple [.tuple (b.rows.map eR), eN b.live]
end My
/-! P2 -/
/-! plain: what the package's functions come to -/
namespace My
open PySem
abbrev names (b : Blk) : List Str := b.rows.map (·.name)
def rowOf (b : Blk) (x : Str) : Option Row := b.rows.find? fun r => decide (r.name = x)
def readsOf (b : Blk) (x : Str) : List Str := match rowOf b x with
  | some r => r.reads
  | none => []
def slowOf (b : Blk) (x : Str) : Bool := match rowOf b x with
  | some r => r.slow
  | none => false
abbrev letters : List Nat := [97, 98, 99, 100, 101, 102, 103, 104, 105, 106, 107, 108, 109, 110, 111, 112, 113, 114, 115, 116, 117, 118, 119, 120, 121, 122]
def nmOk (x : Str) : Bool := decide (1 ≤ x.cps.size) && decide (x.cps.size ≤ 8) && x.cps.toList.all fun c => decide (c ∈ letters)
structure WF (b : Blk) : Prop where
  asc : Asc ltK (names b)
  nm : ∀ x ∈ names b, nmOk x = true
  few : b.rows.length ≤ 6
  rd : ∀ r ∈ b.rows, ∀ x ∈ r.reads, x ∈ names b
  rl : ∀ r ∈ b.rows, r.reads.length ≤ 6
  lv : ∀ x ∈ b.live, x ∈ names b
  ll : b.live.length ≤ 6
  rk : ∃ rk : Str → Nat, ∀ r ∈ b.rows, ∀ x ∈ r.reads, rk x < rk r.name
theorem WF.nd {b : Blk} (w : WF b) : (names b).Nodup := asc_nodup ordK w.asc
theorem rowOf_mem {b : Blk} {x : Str} {r : Row} (h : rowOf b x = some r) : r ∈ b.rows ∧ r.name = x := ⟨List.mem_of_find?_eq_some h, by simpa using List.find?_some h⟩
theorem rowOf_name {b : Blk} (w : WF b) {r : Row} (h : r ∈ b.rows) : rowOf b r.name = some r := by
  have key : ∀ l : List Row, (l.map (·.name)).Nodup → ∀ r ∈ l, (l.find? fun q => decide (q.name = r.name)) = some r := by
    intro l
    induction l with
    | nil => intro _ r h; cases h
    | cons q l ih =>
      intro hn r hr
      rw [List.map_cons, List.nodup_cons] at hn
      rcases List.mem_cons.mp hr with rfl | hr
      · rw [List.find?_cons_of_pos (by simp)]
      · have ne : q.name ≠ r.name := fun e => hn.1 (e ▸ List.mem_map.mpr ⟨r, hr, rfl⟩)
        rw [List.find?_cons_of_neg (by simpa using ne)]
        exact ih hn.2 r hr
  exact key b.rows w.nd r h
theorem readsOf_name {b : Blk} (w : WF b) {r : Row} (h : r ∈ b.rows) : readsOf b r.name = r.reads := by unfold readsOf; rw [rowOf_name w h]
theorem slowOf_name {b : Blk} (w : WF b) {r : Row} (h : r ∈ b.rows) : slowOf b r.name = r.slow := by unfold slowOf; rw [rowOf_name w h]
theorem mem_names {b : Blk} {x : Str} (h : x ∈ names b) : ∃ r ∈ b.rows, r.name = x := List.mem_map.mp h
theorem readsOf_sub {b : Blk} (w : WF b) {x y : Str} (h : y ∈ readsOf b x) : y ∈ names b := by
  unfold readsOf at h
  cases e : rowOf b x with
  | none => rw [e] at h; cases h
  | some r => rw [e] at h; exact w.rd r (rowOf_mem e).1 y h
theorem readsOf_len {b : Blk} (w : WF b) (x : Str) : (readsOf b x).length ≤ 6 := by
  unfold readsOf
  cases e : rowOf b x with
  | none => exact Nat.zero_le _
  | some r => exact w.rl r (rowOf_mem e).1
/-- the table -/
def tabD (b : Blk) : List (Str × PyData) := b.rows.map fun r => (r.name, .tuple [eN r.reads, .bool r.slow])
/-- readers, slow ones, awaited ones -/
def readers (b : Blk) (x : Str) : List Str := (b.rows.filter fun r => decide (x ∈ r.reads)).map (·.name)
def slows (b : Blk) : List Str := (b.rows.filter fun r => r.slow).map (·.name)
def awaited (b : Blk) : List Str := (slows b).filter fun x => decide (x ∈ b.live) || decide (0 < (readers b x).length)
/-- what can be issued behind done -/
def freeL (b : Blk) (done : List Str) : List Str := (names b).filter fun x => !decide (x ∈ done) && (readsOf b x).all fun y => decide (y ∈ done)
/-- o is an order of b -/
structure IsOrd (b : Blk) (o : List Str) : Prop where
  perm : o.Perm (names b)
  ahead : ∀ i x, o[i]? = some x → ∀ y ∈ readsOf b x, y ∈ o.take i
def ordStep (b : Blk) (l : List (List Str)) : List (List Str) := l.flatMap fun row => (freeL b row).map fun x => row ++ [x]
def ordsN (b : Blk) : Nat → List (List Str)
  | 0 => [[]]
  | n + 1 => ordStep b (ordsN b n)
/-- all orders -/
def ords (b : Blk) : List (List Str) := ordsN b b.rows.length
/-- the place of x in o -/
def plc (o : List Str) (x : Str) : Nat := o.findIdx fun y => decide (y = x)
/-- the least place of a reader -/
def minPl (n : Nat) : List Nat → Nat
  | [] => n
  | p :: ps => ps.foldl min p
def rplace (b : Blk) (o : List Str) (x : Str) : Nat := minPl o.length ((readers b x).map (plc o))
def meets (b : Blk) (o : List Str) (x y : Str) : Bool := decide (plc o x < rplace b o y) && decide (plc o y < rplace b o x)
/-- pairs of things, in their order -/
def twos {α : Type} : List α → List (α × α)
  | [] => []
  | x :: l => l.map (fun y => (x, y)) ++ twos l
def meeting (b : Blk) (o : List Str) : List (Str × Str) := (twos (awaited b)).filter fun p => meets b o p.1 p.2
end My
/-! P4 -/
/-! plain: what an instruction needs -/
namespace My
open PySem
inductive Need (b : Blk) : Str → Str → Prop
  | one {x y : Str} : y ∈ readsOf b x → Need b x y
  | step {x z y : Str} : z ∈ readsOf b x → Need b z y → Need b x y
def needF (b : Blk) : Nat → Str → List Str
  | 0, _ => []
  | n + 1, x => readsOf b x ++ (readsOf b x).flatMap (needF b n)
def needs (b : Blk) (x : Str) : List Str := setL ltK (needF b 6 x)
def neededBy (b : Blk) (x : Str) : List Str := (names b).filter fun y => decide (x ∈ needs b y)
theorem Need.trans {b : Blk} {x y z : Str} (h : Need b x y) (g : Need b y z) : Need b x z := by
  induction h with
  | one h => exact .step h g
  | step h _ ih => exact .step h (ih g)
theorem needF_sound {b : Blk} : ∀ (n : Nat) {x y : Str}, y ∈ needF b n x → Need b x y
  | 0, _, _, h => by cases h
  | n + 1, x, y, h => by
    rcases List.mem_append.mp h with h | h
    · exact .one h
    · obtain ⟨z, hz, h⟩ := List.mem_flatMap.mp h
      exact .step hz (needF_sound n h)
theorem readsOf_rank {b : Blk} {rk : Str → Nat} (h : ∀ r ∈ b.rows, ∀ x ∈ r.reads, rk x < rk r.name) {x y : Str} (hy : y ∈ readsOf b x) : rk y < rk x := by
  unfold readsOf at hy
  cases e : rowOf b x with
  | none => rw [e] at hy; cases hy
  | some r =>
    rw [e] at hy
    obtain ⟨h1, h2⟩ := rowOf_mem e
    have := h r h1 y hy
    rwa [h2] at this
theorem Need.rank {b : Blk} {rk : Str → Nat} (h : ∀ r ∈ b.rows, ∀ x ∈ r.reads, rk x < rk r.name) {x y : Str} (g : Need b x y) : rk y < rk x := by
  induction g with
  | one g => exact readsOf_rank h g
  | step g _ ih => exact Nat.lt_trans ih (readsOf_rank h g)
theorem Need.irrefl {b : Blk} (w : WF b) {x : Str} (h : Need b x x) : False := by
  obtain ⟨rk, hr⟩ := w.rk
  exact Nat.lt_irrefl _ (h.rank hr)
theorem Need.sub {b : Blk} (w : WF b) {x y : Str} (h : Need b x y) : y ∈ names b := by
  induction h with
  | one h => exact readsOf_sub w h
  | step _ _ ih => exact ih
theorem Need.src {b : Blk} {x y : Str} (h : Need b x y) : x ∈ names b := by
  have key : ∀ {z}, z ∈ readsOf b x → x ∈ names b := fun {z} hz => by
    unfold readsOf at hz
    cases e : rowOf b x with
    | none => rw [e] at hz; cases hz
    | some r =>
      obtain ⟨h1, h2⟩ := rowOf_mem e
      exact List.mem_map.mpr ⟨r, h1, h2⟩
  cases h with
  | one h => exact key h
  | step h _ => exact key h
theorem countP_lt {α : Type} {p q : α → Bool} : ∀ {l : List α}, (∀ x ∈ l, p x = true → q x = true) → (∃ x ∈ l, q x = true ∧ p x = false) → l.countP p < l.countP q
  | [], _, ⟨_, h, _⟩ => by cases h
  | y :: l, h, ⟨x, hx, h1, h2⟩ => by
    have mono : l.countP p ≤ l.countP q := List.countP_mono_left fun z hz => h z (List.mem_cons_of_mem _ hz)
    rw [List.countP_cons, List.countP_cons]
    rcases List.mem_cons.mp hx with e | hx
    · subst e
      rw [h1, h2]
      simp
      omega
    · have ih := countP_lt (fun z hz => h z (List.mem_cons_of_mem _ hz)) ⟨x, hx, h1, h2⟩
      by_cases hp : p y = true
      · rw [hp, h y List.mem_cons_self hp]
        simpa using ih
      · have : p y = false := by simpa using hp
        rw [this]
        simp
        split <;> omega
theorem needF_full {b : Blk} (w : WF b) {rk : Str → Nat} (hr : ∀ r ∈ b.rows, ∀ x ∈ r.reads, rk x < rk r.name) : ∀ (n : Nat) {x y : Str}, (names b).countP (fun z => decide (rk z < rk x)) ≤ n → Need b x y → y ∈ needF b n x
  | n, x, y, hc, h => by
    have pos : ∀ {z}, z ∈ readsOf b x → (names b).countP (fun u => decide (rk u < rk z)) < (names b).countP (fun u => decide (rk u < rk x)) := fun {z} hz => by
      have lt := readsOf_rank hr hz
      refine countP_lt (fun u _ hu => ?_) ⟨z, readsOf_sub w hz, ?_, ?_⟩
      · simp only [decide_eq_true_eq] at hu ⊢
        omega
      · simpa using lt
      · simp
    cases n with
    | zero =>
      exfalso
      cases h with
      | one h => have := pos h; omega
      | step h _ => have := pos h; omega
    | succ n =>
      cases h with
      | one h => exact List.mem_append_left _ h
      | step h g => exact List.mem_append_right _ (List.mem_flatMap.mpr ⟨_, h, needF_full w hr n (by have := pos h; omega) g⟩)
theorem mem_needs {b : Blk} (w : WF b) {x y : Str} : y ∈ needs b x ↔ Need b x y := by
  obtain ⟨rk, hr⟩ := w.rk
  unfold needs
  rw [setL_mem ordK]
  refine ⟨needF_sound 6, fun h => needF_full w hr 6 (Nat.le_trans List.countP_le_length ?_) h⟩
  rw [List.length_map]
  exact w.few
theorem mem_neededBy {b : Blk} (w : WF b) {x y : Str} : y ∈ neededBy b x ↔ Need b y x := by
  unfold neededBy
  rw [List.mem_filter, decide_eq_true_eq, mem_needs w]
  exact ⟨fun h => h.2, fun h => ⟨h.src, h⟩⟩
end My
/-! P5 -/
/-! plain: what stands behind each instruction -/
namespace My
open PySem
def folStep (b : Blk) (g : Str → List Str) (p : Str × Str) : Str → List Str :=
  fun z => if z = p.2 then (if z = p.1 then g z ++ readers b p.2 else g z) ++ readers b p.1 else if z = p.1 then g z ++ readers b p.2 else g z
def folL (b : Blk) (ps : List (Str × Str)) : Str → List Str := ps.foldl (folStep b) (readers b)
def fol (b : Blk) (ps : List (Str × Str)) (x : Str) : List Str := setL ltK (folL b ps x)
def PairsOk (b : Blk) (ps : List (Str × Str)) : Prop := ps.length ≤ 100 ∧ ∀ p ∈ ps, p.1 ∈ names b ∧ p.2 ∈ names b
theorem readers_len {b : Blk} (w : WF b) (x : Str) : (readers b x).length ≤ 6 := by
  unfold readers
  rw [List.length_map]
  exact Nat.le_trans (List.length_filter_le _ _) w.few
theorem folL_snoc (b : Blk) (ps : List (Str × Str)) (p : Str × Str) : folL b (ps ++ [p]) = folStep b (folL b ps) p := by
  unfold folL
  rw [List.foldl_append]
  rfl
theorem folL_len {b : Blk} (w : WF b) (z : Str) : ∀ (n : Nat) (ps : List (Str × Str)), ps.length = n → (folL b ps z).length ≤ 6 + 12 * n
  | 0, ps, h => by
    rw [List.length_eq_zero_iff.mp h]
    exact Nat.le_trans (readers_len w z) (by decide)
  | n + 1, ps, h => by
    have ne : ps ≠ [] := by rintro rfl; cases h
    obtain ⟨qs, p, rfl⟩ : ∃ qs p, ps = qs ++ [p] := ⟨ps.dropLast, ps.getLast ne, (List.dropLast_concat_getLast ne).symm⟩
    have ih := folL_len w z n qs (by simpa using h)
    have a1 := readers_len w p.1
    have a2 := readers_len w p.2
    rw [folL_snoc]
    unfold folStep
    split <;> split <;> (try simp only [List.length_append]) <;> omega
theorem mem_folL {b : Blk} {y z : Str} : ∀ (n : Nat) (ps : List (Str × Str)), ps.length = n → (y ∈ folL b ps z ↔ y ∈ readers b z ∨ ∃ p ∈ ps, (z = p.1 ∧ y ∈ readers b p.2) ∨ (z = p.2 ∧ y ∈ readers b p.1))
  | 0, ps, h => by
    rw [List.length_eq_zero_iff.mp h]
    show y ∈ readers b z ↔ _
    simp
  | n + 1, ps, h => by
    have ne : ps ≠ [] := by rintro rfl; cases h
    obtain ⟨qs, p, rfl⟩ : ∃ qs p, ps = qs ++ [p] := ⟨ps.dropLast, ps.getLast ne, (List.dropLast_concat_getLast ne).symm⟩
    have ih := mem_folL (b := b) (y := y) (z := z) n qs (by simpa using h)
    rw [folL_snoc]
    unfold folStep
    have e : (∃ q ∈ qs ++ [p], (z = q.1 ∧ y ∈ readers b q.2) ∨ (z = q.2 ∧ y ∈ readers b q.1)) ↔ (∃ q ∈ qs, (z = q.1 ∧ y ∈ readers b q.2) ∨ (z = q.2 ∧ y ∈ readers b q.1)) ∨ ((z = p.1 ∧ y ∈ readers b p.2) ∨ (z = p.2 ∧ y ∈ readers b p.1)) := by
      simp only [List.mem_append, List.mem_singleton]
      constructor
      · rintro ⟨q, hq | hq, h0⟩
        · exact .inl ⟨q, hq, h0⟩
        · subst hq; exact .inr h0
      · rintro (⟨q, hq, h⟩ | h)
        · exact ⟨q, .inl hq, h⟩
        · exact ⟨p, .inr rfl, h⟩
    rw [e, ← or_assoc, ← ih]
    by_cases h1 : z = p.1 <;> by_cases h2 : z = p.2
    · rw [if_pos h2, if_pos h1, List.mem_append, List.mem_append]
      simp only [h1, h2, true_and]
      rw [or_assoc]
      have h3 : p.1 = p.2 := h1 ▸ h2
      simp [h3]
    · rw [if_neg h2, if_pos h1, List.mem_append]
      simp [h1, h2]
      have h3 : ¬ p.1 = p.2 := fun e => h2 (h1.trans e)
      simp [h3]
    · rw [if_pos h2, if_neg h1, List.mem_append]
      simp [h1, h2]
      have h3 : ¬ p.2 = p.1 := fun e => h1 (h2.trans e)
      simp [h3]
    · rw [if_neg h2, if_neg h1]
      simp [h1, h2]
theorem mem_fol {b : Blk} {ps : List (Str × Str)} {y z : Str} : y ∈ fol b ps z ↔ y ∈ readers b z ∨ ∃ p ∈ ps, (z = p.1 ∧ y ∈ readers b p.2) ∨ (z = p.2 ∧ y ∈ readers b p.1) := by
  unfold fol
  rw [setL_mem ordK]
  exact mem_folL _ ps rfl
def folD (b : Blk) (ps : List (Str × Str)) : List (Str × PyData) := (names b).map fun x => (x, eN (fol b ps x))
end My
/-! P6 -/
/-! plain: ready, order_meeting, how_many_meeting -/
namespace My
open PySem
def restL (b : Blk) (done : List Str) : List Str := (names b).filter fun x => !decide (x ∈ done)
def readyL (b : Blk) (ps : List (Str × Str)) (done : List Str) : List Str := (restL b done).filter fun x => !(restL b done).any fun y => decide (x ∈ fol b ps y)
def omRun (b : Blk) (ps : List (Str × Str)) : Nat → List Str → Option (List Str)
  | 0, f => some f
  | n + 1, f => match readyL b ps f with
    | [] => none
    | x :: _ => omRun b ps n (f ++ [x])
def orderM (b : Blk) (ps : List (Str × Str)) : Option (List Str) := omRun b ps b.rows.length []
def orderMD (b : Blk) (ps : List (Str × Str)) : PyData := match orderM b ps with
  | some o => eN o
  | none => .none
theorem restL_len {b : Blk} (w : WF b) (d : List Str) : (restL b d).length ≤ 6 := Nat.le_trans (List.length_filter_le _ _) (by rw [List.length_map]; exact w.few)
theorem readyL_len {b : Blk} (w : WF b) (ps : List (Str × Str)) (d : List Str) : (readyL b ps d).length ≤ 6 := Nat.le_trans (List.length_filter_le _ _) (restL_len w d)
abbrev Ways := List (List Str × Int)
def lookW : Ways → List Str → Int
  | [], _ => 0
  | (k, d) :: m, x => if k = x then d else lookW m x
def putW (m : Ways) (x : List Str) (d : Int) : Ways := if (m.any fun q => decide (q.1 = x)) = true then m.map fun q => if q.1 = x then (q.1, d) else q else m ++ [(x, d)]
/-- for name in ready(later, done): found[own] += n -/
def wIn (done : List Str) (n : Int) (l : List Str) (f : Ways) : Ways := l.foldl (fun f x => putW f (setL ltK (done ++ [x])) (lookW f (setL ltK (done ++ [x])) + n)) f
def wStep (b : Blk) (ps : List (Str × Str)) (m : Ways) : Ways := m.foldl (fun f q => wIn q.1 q.2 (readyL b ps q.1) f) []
def wRun (b : Blk) (ps : List (Str × Str)) : Nat → Ways
  | 0 => [([], 1)]
  | n + 1 => wStep b ps (wRun b ps n)
def howM (b : Blk) (ps : List (Str × Str)) : Int := ((wRun b ps b.rows.length).map (·.2)).sum
theorem putW_len (m : Ways) (x : List Str) (d : Int) : (putW m x d).length ≤ m.length + 1 := by
  unfold putW
  split
  · rw [List.length_map]; omega
  · rw [List.length_append]; exact Nat.le_refl _
theorem wIn_len (done : List Str) (n : Int) : ∀ (l : List Str) (f : Ways), (wIn done n l f).length ≤ f.length + l.length
  | [], f => Nat.le_refl _
  | x :: l, f => by
    have h1 := wIn_len done n l (putW f (setL ltK (done ++ [x])) (lookW f (setL ltK (done ++ [x])) + n))
    have h2 := putW_len f (setL ltK (done ++ [x])) (lookW f (setL ltK (done ++ [x])) + n)
    have e : wIn done n (x :: l) f = wIn done n l (putW f (setL ltK (done ++ [x])) (lookW f (setL ltK (done ++ [x])) + n)) := rfl
    rw [e, List.length_cons]
    omega
theorem wFold_len {b : Blk} (w : WF b) (ps : List (Str × Str)) : ∀ (m : Ways) (f : Ways), (m.foldl (fun f q => wIn q.1 q.2 (readyL b ps q.1) f) f).length ≤ f.length + 6 * m.length
  | [], f => Nat.le_refl _
  | q :: m, f => by
    have h1 := wFold_len w ps m (wIn q.1 q.2 (readyL b ps q.1) f)
    have h2 := wIn_len q.1 q.2 (readyL b ps q.1) f
    have h3 := readyL_len w ps q.1
    rw [List.foldl_cons, List.length_cons]
    omega
theorem wRun_len {b : Blk} (w : WF b) (ps : List (Str × Str)) : ∀ n, (wRun b ps n).length ≤ 6 ^ n
  | 0 => Nat.le_refl _
  | n + 1 => by
    have h1 := wFold_len w ps (wRun b ps n) []
    have h2 := wRun_len w ps n
    show (wStep b ps _).length ≤ _
    unfold wStep
    rw [Nat.pow_succ]
    rw [List.length_nil] at h1
    omega
theorem putW_keys {m : Ways} {x : List Str} {d : Int} (P : List Str → Prop) (hm : ∀ q ∈ m, P q.1) (hx : P x) : ∀ q ∈ putW m x d, P q.1 := by
  unfold putW
  split
  · intro q hq
    obtain ⟨q', h, e⟩ := List.mem_map.mp hq
    by_cases c : q'.1 = x
    · rw [if_pos c] at e; rw [← e]; exact hm q' h
    · rw [if_neg c] at e; rw [← e]; exact hm q' h
  · intro q hq
    rcases List.mem_append.mp hq with h | h
    · exact hm _ h
    · rw [List.mem_singleton.mp h]; exact hx
theorem putW_nd {m : Ways} {x : List Str} {d : Int} (h : (m.map (·.1)).Nodup) : ((putW m x d).map (·.1)).Nodup := by
  unfold putW
  split
  · rw [List.map_map]
    have e : m.map ((·.1) ∘ fun q : List Str × Int => if q.1 = x then (q.1, d) else q) = m.map (·.1) := List.map_congr_left fun q _ => by
      show (if q.1 = x then (q.1, d) else q).1 = q.1
      split <;> rfl
    rw [e]
    exact h
  · rename_i hh
    rw [List.map_append, List.nodup_append]
    refine ⟨h, by simp, fun a ha c hc => ?_⟩
    rintro rfl
    obtain ⟨q, hq, e⟩ := List.mem_map.mp ha
    simp at hc
    exact hh (List.any_eq_true.mpr ⟨q, hq, by simp [e, hc]⟩)
theorem wIn_keys {done : List Str} {n : Int} (P : List Str → Prop) : ∀ {l : List Str} {f : Ways}, (∀ q ∈ f, P q.1) → (∀ x ∈ l, P (setL ltK (done ++ [x]))) → ∀ q ∈ wIn done n l f, P q.1
  | [], f, hf, _ => hf
  | x :: l, f, hf, hl => wIn_keys P (l := l) (putW_keys P hf (hl x List.mem_cons_self)) fun y hy => hl y (List.mem_cons_of_mem _ hy)
theorem wIn_nd {done : List Str} {n : Int} : ∀ {l : List Str} {f : Ways}, (f.map (·.1)).Nodup → ((wIn done n l f).map (·.1)).Nodup
  | [], f, h => h
  | x :: l, f, h => wIn_nd (l := l) (putW_nd h)
theorem wFold_nd {b : Blk} {ps : List (Str × Str)} : ∀ {m : Ways} {f : Ways}, (f.map (·.1)).Nodup → ((m.foldl (fun f q => wIn q.1 q.2 (readyL b ps q.1) f) f).map (·.1)).Nodup
  | [], f, h => h
  | q :: m, f, h => wFold_nd (m := m) (wIn_nd h)
theorem wRun_nd {b : Blk} {ps : List (Str × Str)} : ∀ n, ((wRun b ps n).map (·.1)).Nodup
  | 0 => by simp [wRun]
  | n + 1 => wFold_nd List.nodup_nil
theorem nd_le {α : Type} : ∀ (l D : List α), l.Nodup → (∀ x ∈ l, x ∈ D) → l.length ≤ D.length
  | [], _, _, _ => Nat.zero_le _
  | x :: l, D, hn, hs => by
    obtain ⟨n1, n2⟩ := List.nodup_cons.mp hn
    obtain ⟨A, B, e⟩ := List.append_of_mem (hs x List.mem_cons_self)
    have ih := nd_le l (A ++ B) n2 fun y hy => by
      have hy' := hs y (List.mem_cons_of_mem x hy)
      rw [e] at hy'
      rcases List.mem_append.mp hy' with z | z
      · exact List.mem_append_left _ z
      · rcases List.mem_cons.mp z with z | z
        · exact absurd (z ▸ hy) n1
        · exact List.mem_append_right _ z
    rw [e]
    simp only [List.length_append, List.length_cons] at ih ⊢
    omega
theorem setL_len_le {l : List Str} : (setL ltK l).length ≤ l.length := nd_le _ _ (asc_nodup ordK (setL_asc ordK)) fun x h => (setL_mem ordK).mp h
theorem wFold_keys {b : Blk} {ps : List (Str × Str)} {k : Nat} : ∀ {m : Ways} {f : Ways}, (∀ q ∈ m, q.1.length ≤ k) → (∀ q ∈ f, q.1.length ≤ k + 1) → ∀ q ∈ m.foldl (fun f q => wIn q.1 q.2 (readyL b ps q.1) f) f, q.1.length ≤ k + 1
  | [], f, _, h => h
  | q :: m, f, hm, h => wFold_keys (m := m) (fun q hq => hm q (List.mem_cons_of_mem _ hq)) (wIn_keys (fun x => x.length ≤ k + 1) h fun x _ => Nat.le_trans setL_len_le (by rw [List.length_append]; exact Nat.succ_le_succ (hm q List.mem_cons_self)))
theorem wRun_keylen {b : Blk} {ps : List (Str × Str)} : ∀ n, ∀ q ∈ wRun b ps n, q.1.length ≤ n
  | 0, q, h => by
    have e : q = ([], 1) := List.mem_singleton.mp h
    rw [e]
    exact Nat.le_refl _
  | n + 1, q, h => wFold_keys (wRun_keylen n) (by intro q hq; cases hq) q h
end My
/-! P7 -/
/-! plain: the blocks that the law draws -/
namespace My
open PySem PyProof.Rows PySem.W
theorem ltR {a b : Row} (h : a.name ≠ b.name) : ltK a b = ltK a.name b.name := by
  have ne : (Sum.inr a.name.cps.toList : Int ⊕ List Nat) ≠ Sum.inr b.name.cps.toList := fun e => h (by
    have e1 := Sum.inr.inj e
    have e2 := Array.toList_inj.mp e1
    cases ha : a.name
    cases hb : b.name
    rw [ha, hb] at e2
    exact congrArg Str.mk e2)
  show PyProof.Rows.lexLt itemOrd (keyToks (eR a)) (keyToks (eR b)) = PyProof.Rows.lexLt itemOrd (keyToks (.str a.name)) (keyToks (.str b.name))
  simp only [keyToks, keyToksAll]
  have z := lex_pre [.inl 1] (Sum.inr a.name.cps.toList :: keyToksAll [eN a.reads, .bool a.slow]) (Sum.inr b.name.cps.toList :: keyToksAll [eN b.reads, .bool b.slow])
  have z2 := lex_atom ne (keyToksAll [eN a.reads, .bool a.slow]) (keyToksAll [eN b.reads, .bool b.slow])
  exact z.trans z2
theorem sort_rows {rows : List Row} (nd : (rows.map (·.name)).Nodup) : Asc ltK ((sortL ltK rows).map (·.name)) := by
  have pm : (sortL ltK rows).Perm rows := sortL_perm
  have nd2 : ((sortL ltK rows).map (·.name)).Nodup := (pm.map (·.name)).nodup_iff.mpr nd
  have up : Up ltK (sortL ltK rows) := sortL_up ordK
  rw [Asc, List.pairwise_map]
  rw [List.Nodup, List.pairwise_map] at nd2
  refine (up.and nd2).imp fun {a b} h => ?_
  have h1 := h.1
  rw [ltR (fun e => h.2 e.symm)] at h1
  cases q : ltK a.name b.name with
  | true => rfl
  | false => exact absurd (ordK.tot _ _ q h1) h.2
/-- the rows that the law makes, in the order of its line -/
structure Made (line : List Str) (rows : List Row) : Prop where
  nms : rows.map (·.name) = line
  rd : ∀ i r, rows[i]? = some r → ∀ x ∈ r.reads, x ∈ line.take i
  rl : ∀ r ∈ rows, r.reads.length ≤ 6
structure Drawn (b : Blk) : Prop where
  wf : WF b
  le : b.rows.length ≤ 5
def lawNames : List Str := ["a", "b", "ab", "c", "ld", "mul", "use", "zzzzzzzz"]
theorem lawNames_ok : ∀ x ∈ lawNames, nmOk x = true := by decide +kernel
theorem lawNames_nd : lawNames.Nodup := by decide +kernel
theorem findIdx_take {line : List Str} {x : Str} {i : Nat} (h : x ∈ line.take i) : line.findIdx (fun y => decide (y = x)) < i := by
  obtain ⟨j, hj, e⟩ := List.mem_take_iff_getElem.mp h
  have z : line.findIdx (fun y => decide (y = x)) ≤ j := by
    rcases Nat.lt_or_ge j (line.findIdx (fun y => decide (y = x))) with q | q
    · have := List.not_of_lt_findIdx q
      simp [e] at this
    · exact q
  omega
theorem made_wf {tags line : List Str} {rows : List Row} {live : List Str} (ta : Asc ltK tags) (tn : ∀ x ∈ tags, x ∈ lawNames) (tl : tags.length ≤ 5) (pm : line.Perm tags) (m : Made line rows) (lv : live.Sublist tags) : Drawn ⟨sortL ltK rows, live⟩ := by
  have nd : line.Nodup := pm.nodup_iff.mpr (asc_nodup ordK ta)
  have ndr : (rows.map (·.name)).Nodup := by rw [m.nms]; exact nd
  have ps : (sortL ltK rows).Perm rows := sortL_perm
  have mem : ∀ x, x ∈ names ⟨sortL ltK rows, live⟩ ↔ x ∈ line := fun x => by
    show x ∈ (sortL ltK rows).map (·.name) ↔ _
    rw [(ps.map (·.name)).mem_iff, m.nms]
  have len : (sortL ltK rows).length = line.length := by rw [ps.length_eq, ← m.nms, List.length_map]
  have l5 : line.length ≤ 5 := by rw [pm.length_eq]; exact tl
  have idx : ∀ r ∈ rows, ∃ i, rows[i]? = some r ∧ line[i]? = some r.name := fun r hr => by
    obtain ⟨i, hi, e⟩ := List.mem_iff_getElem.mp hr
    refine ⟨i, by rw [List.getElem?_eq_getElem hi, e], ?_⟩
    rw [← m.nms, List.getElem?_map, List.getElem?_eq_getElem hi, e]
    rfl
  refine ⟨⟨sort_rows ndr, fun x hx => lawNames_ok x (tn x (pm.subset ((mem x).mp hx))), ?_, fun r hr x hx => ?_, fun r hr => m.rl r (ps.subset hr), fun x hx => ?_, ?_, ?_⟩, ?_⟩
  · show (sortL ltK rows).length ≤ 6
    omega
  · obtain ⟨i, h1, _⟩ := idx r (ps.subset hr)
    exact (mem x).mpr (List.mem_of_mem_take (m.rd i r h1 x hx))
  · exact (mem x).mpr (pm.symm.subset (lv.subset hx))
  · exact Nat.le_trans lv.length_le (by omega)
  · refine ⟨fun x => line.findIdx (fun y => decide (y = x)), fun r hr x hx => ?_⟩
    obtain ⟨i, h1, h2⟩ := idx r (ps.subset hr)
    have lt := findIdx_take (m.rd i r h1 x hx)
    have e : line.findIdx (fun y => decide (y = r.name)) = i := by
      obtain ⟨hi, e2⟩ := List.getElem?_eq_some_iff.mp h2
      refine (List.findIdx_eq hi).mpr ⟨by simp [e2], fun j hj => ?_⟩
      simp only [decide_eq_false_iff_not]
      intro e3
      have e4 : line[j]? = line[i]? := by rw [List.getElem?_eq_getElem (by omega), List.getElem?_eq_getElem hi, e3, e2]
      have := (List.getElem?_inj (by omega) nd).mp e4
      omega
    show line.findIdx _ < line.findIdx _
    omega
  · show (sortL ltK rows).length ≤ 5
    omega
end My
/-! P3 -/
/-! plain: ticks, ends -/
namespace My
open PySem
def maxL (m : Int) (l : List Int) : Int := l.foldl max m
theorem maxL_le (m : Int) : ∀ (l : List Int), m ≤ maxL m l ∧ ∀ x ∈ l, x ≤ maxL m l
  | [] => ⟨Int.le_refl _, fun _ h => (by cases h)⟩
  | y :: l => by
    have h := maxL_le (max m y) l
    show m ≤ maxL (max m y) l ∧ ∀ x ∈ y :: l, x ≤ maxL (max m y) l
    refine ⟨Int.le_trans (Int.le_max_left m y) h.1, fun x hx => ?_⟩
    rcases List.mem_cons.mp hx with e | hx
    · rw [e]
      exact Int.le_trans (Int.le_max_right m y) h.1
    · exact h.2 x hx
theorem maxL_mem (m : Int) : ∀ (l : List Int), maxL m l = m ∨ maxL m l ∈ l
  | [] => .inl rfl
  | y :: l => by
    show maxL (max m y) l = m ∨ maxL (max m y) l ∈ y :: l
    rcases maxL_mem (max m y) l with h | h
    · rw [h]
      rcases Int.le_total m y with c | c
      · rw [Int.max_eq_right c]
        exact .inr List.mem_cons_self
      · rw [Int.max_eq_left c]
        exact .inl rfl
    · exact .inr (List.mem_cons_of_mem _ h)
abbrev Tk := Str × Int × Int
def lkT : List Tk → Str → Option (Int × Int)
  | [], _ => none
  | (k, d) :: m, x => if k = x then some d else lkT m x
def lkI : List (Str × Int) → Str → Option Int
  | [], _ => none
  | (k, d) :: m, x => if k = x then some d else lkI m x
def come (f : List Tk) (y : Str) : Int := ((lkT f y).getD (0, 0)).2
def lat (b : Blk) (ls : List (Str × Int)) (x : Str) : Int := if slowOf b x = true then (lkI ls x).getD 0 else 1
def tickAt (b : Blk) (f : List Tk) (tick : Int) (x : Str) : Int := maxL (tick + 1) ((readsOf b x).map (come f))
/-- one more is issued -/
def tkStep (b : Blk) (ls : List (Str × Int)) (st : List Tk × Int) (x : Str) : List Tk × Int :=
  (st.1 ++ [(x, tickAt b st.1 st.2 x, tickAt b st.1 st.2 x + lat b ls x)], tickAt b st.1 st.2 x)
def tkRun (b : Blk) (ls : List (Str × Int)) (o : List Str) : List Tk × Int := o.foldl (tkStep b ls) ([], -1)
/-- the end -/
def endOf (b : Blk) (o : List Str) (ls : List (Str × Int)) : Int := maxL 0 (((tkRun b ls o).1.map fun t => t.2.1 + 1) ++ b.live.map (come (tkRun b ls o).1))
theorem tkRun_snoc (b : Blk) (ls : List (Str × Int)) (o : List Str) (x : Str) : tkRun b ls (o ++ [x]) = tkStep b ls (tkRun b ls o) x := by
  unfold tkRun
  rw [List.foldl_append]
  rfl
theorem tkRun_keys (b : Blk) (ls : List (Str × Int)) (o : List Str) : (tkRun b ls o).1.map (·.1) = o := by
  have key : ∀ (o : List Str) (st : List Tk × Int), (o.foldl (tkStep b ls) st).1.map (·.1) = st.1.map (·.1) ++ o := by
    intro o
    induction o with
    | nil => intro st; simp
    | cons x o ih =>
      intro st
      rw [List.foldl_cons, ih]
      simp [tkStep]
  have z := key o ([], -1)
  rw [List.map_nil, List.nil_append] at z
  exact z
theorem lkT_mem {f : List Tk} {x : Str} (h : x ∈ f.map (·.1)) : ∃ d, lkT f x = some d := by
  induction f with
  | nil => cases h
  | cons p f ih =>
    obtain ⟨k, d⟩ := p
    unfold lkT
    by_cases e : k = x
    · exact ⟨d, if_pos e⟩
    · rw [if_neg e]
      rw [List.map_cons] at h
      rcases List.mem_cons.mp h with z | z
      · exact absurd z.symm e
      · exact ih z
theorem lkI_mem {f : List (Str × Int)} {x : Str} (h : x ∈ f.map (·.1)) : ∃ d, lkI f x = some d := by
  induction f with
  | nil => cases h
  | cons p f ih =>
    obtain ⟨k, d⟩ := p
    unfold lkI
    by_cases e : k = x
    · exact ⟨d, if_pos e⟩
    · rw [if_neg e]
      rw [List.map_cons] at h
      rcases List.mem_cons.mp h with z | z
      · exact absurd z.symm e
      · exact ih z
end My
/-! P8 -/
/-! plain: the law's own lines -/
namespace My
open PySem
def lineOk (line : List Str) (r : Row) : Bool := !decide (r.name ∈ line) && decide ((r.reads.filter fun y => !decide (y ∈ line)) = [])
def linesIn (b : Blk) (line : List Str) : List (List Str) := (b.rows.filter (lineOk line)).map fun r => line ++ [r.name]
def linesN (b : Blk) : Nat → List (List Str)
  | 0 => [[]]
  | n + 1 => (linesN b n).flatMap (linesIn b)
def lines (b : Blk) : List (List Str) := linesN b b.rows.length
def slowed (b : Blk) (m : List (Str × Int)) : List (Str × Int) := (b.rows.filter fun r => r.slow).map fun r => (r.name, 1 + (lkI m r.name).getD 0)
theorem linesN_ords {b : Blk} (w : WF b) : ∀ n, linesN b n = ordsN b n
  | 0 => rfl
  | n + 1 => by
    show (linesN b n).flatMap (linesIn b) = ordStep b (ordsN b n)
    rw [linesN_ords w n]
    unfold ordStep
    refine congrArg (fun z => List.flatMap z (ordsN b n)) (funext fun line => ?_)
    unfold linesIn freeL names
    rw [List.filter_map, List.map_map]
    have e : b.rows.filter (lineOk line) = b.rows.filter ((fun x => !decide (x ∈ line) && (readsOf b x).all fun y => decide (y ∈ line)) ∘ fun r => r.name) := by
      refine List.filter_congr fun r hr => ?_
      show lineOk line r = (!decide (r.name ∈ line) && (readsOf b r.name).all fun y => decide (y ∈ line))
      rw [readsOf_name w hr]
      unfold lineOk
      congr 1
      rw [Bool.eq_iff_iff, decide_eq_true_eq, List.filter_eq_nil_iff, List.all_eq_true]
      simp
    rw [e]
    rfl
theorem lines_ords {b : Blk} (w : WF b) : lines b = ords b := linesN_ords w _
theorem slowed_keys (b : Blk) (m : List (Str × Int)) : (slowed b m).map (·.1) = slows b := by
  unfold slowed slows
  rw [List.map_map]
  rfl
end My
/-! B4 -/
namespace My
open PySem L2

/-! ### a dict locked while it is walked -/
section
variable {X : Cx} {σ : L2.St} {H : Hp} {R : Rel} {e iter tg : Expr} {p pos : Pos} {d : Addr} {m : List (Str × PyData)}
theorem evAt_lock (hd : DK m (.ref d) H) (h : ∀ Hl o kvs, Sm H Hl → Hl d = some (.frz o (.dK kvs)) → KvA Hl kvs m → EvAt X e σ Hl R) [Mono R] : Ev X e σ H R := fun H1 q Q k => by
  obtain ⟨p, kvs, e1, h1, h2⟩ := Mono.up (R := DK m) q hd
  cases e1
  rcases h1 with h1 | ⟨o, h1⟩
  · refine we (pe_lock (pe_w e)) ⟨d, .dK kvs, h1, trivial, fun od => ?_⟩
    have sl : Sm H1 (upd H1 d (.frz od (.dK kvs))) := Sm.lock h1 trivial
    refine h _ od kvs (q.trans sl) upd_same (h2.mono sl) _ fun v H2 s2 r2 => ?_
    have hf : H2 d = some (.frz od (.dK kvs)) := s2 _ _ upd_same
    exact ⟨hf, k _ _ (same_unlock h1 s2) (Mono.up (Sm.unlock hf) r2)⟩
  · exact h H1 o kvs q h1 h2 Q k
theorem evAt_lockT {m : List (List Str × PyData)} (hd : DT m (.ref d) H) (h : ∀ Hl o kvs, Sm H Hl → Hl d = some (.frz o (.dT kvs)) → KtA Hl kvs m → EvAt X e σ Hl R) [Mono R] : Ev X e σ H R := fun H1 q Q k => by
  obtain ⟨p, kvs, e1, h1, h2⟩ := Mono.up (R := DT m) q hd
  cases e1
  rcases h1 with h1 | ⟨o, h1⟩
  · refine we (pe_lock (pe_w e)) ⟨d, .dT kvs, h1, trivial, fun od => ?_⟩
    have sl : Sm H1 (upd H1 d (.frz od (.dT kvs))) := Sm.lock h1 trivial
    refine h _ od kvs (q.trans sl) upd_same (h2.mono sl) _ fun v H2 s2 r2 => ?_
    have hf : H2 d = some (.frz od (.dT kvs)) := s2 _ _ upd_same
    exact ⟨hf, k _ _ (same_unlock h1 s2) (Mono.up (Sm.unlock hf) r2)⟩
  · exact h H1 o kvs q h1 h2 Q k
theorem KvA.length {kvs : List (Key × V)} (h : KvA H kvs m) : kvs.length = m.length := by
  induction h with
  | nil => rfl
  | cons _ _ ih => rw [List.length_cons, List.length_cons, ih]
theorem KvA.key {kvs : List (Key × V)} (h : KvA H kvs m) : ∀ {i : Nat} {k : Key} {v : V}, kvs[i]? = some (k, v) → ∃ x dd, m[i]? = some (x, dd) ∧ k = .inr x ∧ Rp H v dd := by
  induction h with
  | nil => intro i k v e; simp at e
  | @cons k0 v0 d0 kvs m0 r t ih =>
    intro i k v e
    cases i with
    | zero => simp at e; obtain ⟨e1, e2⟩ := e; subst e1 e2; exact ⟨_, _, rfl, rfl, r⟩
    | succ i => simp at e; obtain ⟨x, dd, h1, h2⟩ := ih e; exact ⟨x, dd, by simpa using h1, h2⟩
/-- for x in d, d locked -/
theorem src_keys {o : Obj} {kvs : List (Key × V)} (h : EvAt X iter σ H (Eqv (.ref d))) (hd : H d = some (.frz o (.dK kvs))) (hk : KvA H kvs m) : SrcAt X tg iter σ H (m.map fun q => .str q.1) := fun R k => by
  refine wi (pi_keys (pe_w iter)) ?_
  refine we_inv (h _ fun v H2 s2 r2 pins s I => ?_)
  cases r2
  have hd2 : H2 d = some (.frz o (.dK kvs)) := s2 _ _ hd
  have hz : kvs.length ≤ sizeLine := (Rd.ok (u := .dK kvs) (.inr ⟨o, hd2⟩) I.hok).1
  have hl : (m.map fun q => PyData.str q.1).length = kvs.length := by rw [List.length_map, hk.length]
  refine ⟨d, o, rfl, .inl ⟨kvs, hd2, k _ H2 s2 ⟨by rw [hl]; exact hz, fun i H' s hi => ⟨s _ _ hd2, by rw [← hl]; exact hi⟩, fun H' s => ⟨s _ _ hd2, by rw [hl]; exact Nat.le_refl _⟩, fun i H' x H'' s y hi => ?_⟩⟩⟩
  obtain ⟨e, kk, vv, hkv, ex⟩ := y
  subst e ex
  obtain ⟨x, dd, h1, h2, _⟩ := hk.key hkv
  subst h2
  exact ⟨Same.refl _, .str x, by rw [List.getElem?_map, h1]; rfl, .str x⟩
/-- for v in d.values(), d locked -/
theorem src_vals {o : Obj} {kvs : List (Key × V)} {apos : Pos} (h : EvAt X iter σ H (Eqv (.ref d))) (hd : H d = some (.frz o (.dK kvs))) (hk : KvA H kvs m) (hbase : attributeBase iter "values" X.env (eval iter X.env) = eval iter X.env := by rfl) (hline : (apos.endLine == pos.line) = true := by rfl) : SrcAt X tg (.Call (.Attribute iter "values" apos) [] [] pos) σ H (m.map fun q => q.2) := fun R k => by
  refine wi (pi_values (pe_w iter) hbase hline) ?_
  refine we_inv (h _ fun v H2 s2 r2 pins s I => ?_)
  cases r2
  have hd2 : H2 d = some (.frz o (.dK kvs)) := s2 _ _ hd
  have hz : kvs.length ≤ sizeLine := (Rd.ok (u := .dK kvs) (.inr ⟨o, hd2⟩) I.hok).1
  have hl : (m.map fun q => q.2).length = kvs.length := by rw [List.length_map, hk.length]
  refine ⟨d, o, kvs, rfl, hd2, k _ H2 s2 ⟨by rw [hl]; exact hz, fun i H' s hi => ⟨s _ _ hd2, by rw [← hl]; exact hi⟩, fun H' s => ⟨s _ _ hd2, by rw [hl]; exact Nat.le_refl _⟩, fun i H' x H'' s y hi => ?_⟩⟩
  obtain ⟨e, kk, hkv⟩ := y
  subst e
  obtain ⟨x, dd, h1, _, h2⟩ := hk.key hkv
  exact ⟨Same.refl _, dd, by rw [List.getElem?_map, h1]; rfl, Rp.mono ((sm_of s2).trans (sm_of s)) _ _ h2⟩
theorem evAt_of (h : Ev X e σ H R) : EvAt X e σ H R := fun Q k => h H (Sm.refl H) Q k
theorem srcAt_of {ds : List PyData} (h : Src X tg iter σ H ds) : SrcAt X tg iter σ H ds := fun R k => h H (Sm.refl H) R k
/-- the signs of a text -/
theorem src_str {x : Str} (h : Ev X iter σ H (Is (.str x))) (hz : x.cps.size ≤ 100000) : Src X tg iter σ H (x.cps.toList.map fun c => .str ⟨#[c]⟩) := fun H1 m R k => by
  refine wi (pi_str (pe_w iter)) (h H1 m _ fun v H2 s2 r2 => ⟨x, is_str r2, k _ H2 s2 ⟨by rw [List.length_map]; exact Nat.le_trans (by simpa using hz) (by decide), fun i H' s hi => ?_, fun H' s => ?_, fun i H' v H'' s y hi => ?_⟩⟩)
  · rw [List.length_map, Array.length_toList] at hi
    exact hi
  · show x.cps.size ≤ _
    rw [List.length_map, Array.length_toList]
    exact Nat.le_refl _
  · obtain ⟨e, c, hc, e2⟩ := y
    subst e e2
    exact ⟨Same.refl _, _, by rw [List.getElem?_map, Array.getElem?_toList, hc]; rfl, .str _⟩
end

/-! ### comprehensions from this heap on -/
section
variable {X : Cx} {σ : L2.St} {H : Hp} {tg iter elt : Expr} {ifs : List Expr} {scope : Scope} {pos : Pos} {α : Type} {l : List α} {enc : α → PyData} {f : α → Bool} {g : α → PyData} {vs : List Nat}
theorem evAt_lcN {N : List Str} {i : Nat} {x : Str} {px : Pos} (sc : Scope) (nd : N.Nodup) (src : SrcAt X (.Name x px) iter σ H (l.map enc)) (ht : ∀ y ∈ l, f y = true → tupD (g y) = true)
    (turn : ∀ y ∈ l, ∀ v H1, Same H H1 → Rp H1 v (enc y) → (∀ j, EvTs (BX X scope j) ifs (σ.set i (some v)) H1 (f y)) ∧ (f y = true → ∀ j, Ev (BX X scope j) elt (σ.set i (some v)) H1 (Is (g y))))
    (hN : X.N = N := by rfl) (hsc : X.env.scope = sc := by rfl) (ok : blkC N sc scope [(x, i)] = true := by decide +kernel) (hi : N[i]? = some x := by rfl)
    (hx : (relS scope sc).names.lookup x = some .local ∨ ((relS scope sc).names.lookup x = some .cell ∧ (scope.names.lookup x == some .cell) = true) := by first | exact .inl (by rfl) | exact .inr ⟨by rfl, by rfl⟩)
    (hc : X.calm = true := by rfl) (hs : ∀ x, foldedSetIterable iter X.env x = pure x := by intro _; rfl) : EvAt X (.ListComp elt [⟨.Name x px, iter, ifs, 0⟩] scope pos) σ H (Is (.list ((l.filter f).map g))) := fun Q k =>
  we (pe_lc (own := [(x, i)]) hc (by rw [hN]; exact nd) (pi_w _ iter) (blkOk_by (by rw [hN, hsc]; exact ok)) (fun s H C cl fp => ⟨fun pins s' σ H v u Q I r h => h (s, _, C, cl, fp) pins s' u I r⟩) (fun s H C cl fp => ⟨fun pins s' σ H Q I h => h (s, _, C, cl, fp) pins s' I⟩)
    (fun s H C cl fp => ⟨fun pins s' σ H Q I h => h (s, _, C, cl, fp) pins s' I⟩) hs) (lc_at src ht (fun y hy v H1 s r => lt_name nd hN hi hsc hx (turn y hy v H1 s r).1 (turn y hy v H1 s r).2) Q k)

/-! ### dict comprehensions with text keys -/
structure DcTurn (X : Cx) (scope : Scope) (tg : Expr) (ifs : List Expr) (kx vx : Expr) (vs : List Nat) (σ : L2.St) (H : Hp) (v : V) (x : Str) (d : PyData) : Prop where
  go : ∃ σ', wipe σ' vs = wipe σ vs ∧ (∀ j, EvG (BX X scope j) tg (wipe σ vs) H v σ') ∧ (∀ j, Ev (BX X scope j) kx σ' H (Is (.str x))) ∧ (∀ j, Ev (BX X scope j) vx σ' H (Is d))
theorem KvA.tps {H H' : Hp} (e : Tp H H') {kvs : List (Key × V)} {m : List (Str × PyData)} (h : KvA H kvs m) : (∀ q ∈ m, tupD q.2 = true) → KvA H' kvs m := by
  induction h with
  | nil => exact fun _ => .nil
  | @cons k v d kvs m r t ih => exact fun z => .cons (Rp.tps e _ _ (z _ List.mem_cons_self) r) (ih fun q hq => z q (List.mem_cons_of_mem _ hq))
theorem KvA.snoc {H : Hp} {kvs : List (Key × V)} {m : List (Str × PyData)} {k : Str} {v : V} {d : PyData} (h : KvA H kvs m) (r : Rp H v d) : KvA H (kvs ++ [(.inr k, v)]) (m ++ [(k, d)]) := by
  induction h with
  | nil => exact .cons r .nil
  | cons r0 t ih => exact .cons r0 ih
theorem KvA.fresh {H : Hp} {kvs : List (Key × V)} {m : List (Str × PyData)} {k : Str} (h : KvA H kvs m) : k ∉ m.map (·.1) → valV kvs (.inr k) = none := by
  induction h with
  | nil => exact fun _ => rfl
  | @cons k0 v0 d0 kvs m0 r t ih =>
    intro z
    rw [List.map_cons, List.mem_cons, not_or] at z
    rw [valV_neg (p := ((Sum.inr k0 : Key), v0)) (fun q => z.1 (Sum.inr.inj q).symm)]
    exact ih z.2
theorem ev_dc {kx vx : Expr} {ky : α → Str} {own : List (Str × Nat)} {N : List Str} (sc : Scope) (nd : N.Nodup) (src : Src X tg iter σ H (l.map enc)) (hn : (l.map ky).Nodup) (ht : ∀ x ∈ l, tupD (g x) = true)
    (turn : ∀ x ∈ l, ∀ v H1, Sm H H1 → Rp H1 v (enc x) → DcTurn X scope tg [] kx vx (own.map (·.2)) σ H1 v (ky x) (g x)) (hN : X.N = N := by rfl) (hsc : X.env.scope = sc := by rfl) (ok : blkC N sc scope own = true := by decide +kernel) (hc : X.calm = true := by rfl) (hs : ∀ x, foldedSetIterable iter X.env x = pure x := by intro _; rfl) :
    Ev X (.DictComp kx vx [⟨tg, iter, [], 0⟩] scope pos) σ H (DK (l.map fun x => (ky x, g x))) := fun H1 m Q k => by
  refine we (pe_dc (tk := jE X scope kx) (tv := jE X scope vx) (tt := tYes) (g := jG X scope tg) hc (by rw [hN]; exact nd) (pi_w tg iter) (blkOk_by (by rw [hN, hsc]; exact ok)) (fun s H C cl fp => ⟨fun pins s' σ H v u Q I r h => h (s, _, C, cl, fp) pins s' u I r⟩) (fun s H C cl fp => pts_nil)
    (fun s H C cl fp => ⟨fun pins s' σ H Q I h => h (s, _, C, cl, fp) pins s' I⟩) (fun s H C cl fp => ⟨fun pins s' σ H Q I h => h (s, _, C, cl, fp) pins s' I⟩) hs) ?_
  refine src H1 m _ fun J H2 s2 W D hD => ?_
  have hl : (l.map enc).length = l.length := List.length_map ..
  let P : Nat → Hp → Prop := fun i H' => Same H2 H' ∧ ∃ kvs, H' D = some (.dK kvs) ∧ KvA H' kvs ((l.take i).map fun x => (ky x, g x)) ∧ kvs.length = i
  refine ⟨fun i mm H' => mm = l.length - i ∧ i ≤ l.length ∧ P i H', ⟨l.length, rfl, Nat.zero_le _, same_new hD, [], upd_same, .nil, rfl⟩, ?_⟩
  rintro i mm H' ⟨rfl, hi, s', kvs, hy, ry, ly⟩
  by_cases hlt : i < l.length
  · refine .inr ⟨W.go i H' s' (by rw [hl]; exact hlt), P (i + 1), fun H'' p => ⟨l.length - (i + 1), by omega, rfl, hlt, p⟩, fun v H3 y => ?_⟩
    obtain ⟨s3, d, hd, rd⟩ := W.yld i H' v H3 s' y (by rw [hl]; exact hlt)
    obtain ⟨x, hx, ex⟩ : ∃ x, l[i]? = some x ∧ enc x = d := by
      rw [List.getElem?_map] at hd
      cases q : l[i]? with
      | none => rw [q] at hd; cases hd
      | some x => rw [q] at hd; exact ⟨x, rfl, Option.some.inj hd⟩
    subst ex
    have hm : x ∈ l := List.mem_of_getElem? hx
    have m3 : Sm H H3 := m.trans (sm_of ((s2.trans s').trans s3))
    obtain ⟨σ', hw, hg, hk, hv⟩ := (turn x hm v H3 m3 rd).go
    have td : ∀ q ∈ (l.take i).map fun x => (ky x, g x), tupD q.2 = true := fun q hq => by
      obtain ⟨z, hz, e⟩ := List.mem_map.mp hq
      rw [← e]
      exact ht z (List.mem_of_mem_take hz)
    refine fun j => hg j _ ⟨hw, ?_⟩
    refine iteT (B := P (i + 1) H3) ?_
    refine fun j => hk j H3 (Sm.refl _) _ fun u H4 s4 r4 => ?_
    refine fun j => hv j H4 (sm_of s4) _ fun z H5 s5 r5 => ?_
    have hy5 : H5 D = some (.dK kvs) := s5 _ _ (s4 _ _ (s3 _ _ hy))
    have ry5 := ry.mono (sm_of ((s3.trans s4).trans s5))
    have fr : valV kvs (.inr (ky x)) = none := ry.fresh (by
      rw [List.map_map]
      intro q
      obtain ⟨z, hz, ez⟩ := List.mem_map.mp q
      obtain ⟨n, hlt', en⟩ := List.mem_take_iff_getElem.mp hz
      have : (l.map ky)[n]? = some (ky x) := by
        rw [List.getElem?_map, List.getElem?_eq_getElem (by omega)]
        rw [en]
        exact congrArg some ez
      have q2 : (l.map ky)[i]? = some (ky x) := by rw [List.getElem?_map, hx]; rfl
      have := (List.getElem?_inj (by rw [List.length_map]; omega) hn).mp (this.trans q2.symm)
      omega)
    have tpu : Tp H5 (upd H5 D (.dK (kvs ++ [(.inr (ky x), z)]))) := tp_upd hy5 fun _ z => nomatch z
    refine ⟨kvs, .inr (ky x), is_str r4, hy5, ?_, ?_⟩
    · have := W.len
      rw [hl] at this
      omega
    · rw [putK_new _ fr]
      refine ⟨same_mut (((s'.trans s3).trans s4).trans s5) hD, _, upd_same, ?_, by rw [List.length_append, ly]; rfl⟩
      rw [take_snoc hx, List.map_append]
      exact KvA.snoc (ry5.tps tpu td) (Rp.tps tpu _ _ (ht x hm) r5)
  · have e : i = l.length := by omega
    subst e
    refine .inl ⟨by have := W.stop H' s'; rwa [hl] at this, k _ _ (s2.trans s') ⟨D, kvs, rfl, .inl hy, ?_⟩⟩
    rw [List.take_length] at ry
    exact ry
end
end My
/-! B5 -/
namespace My
open PySem L2

/-! ### new lists -/
/-- e gives a new list -/
def EvN (X : Cx) (e : Expr) (σ : L2.St) (H : Hp) (ds : List PyData) : Prop := ∀ H1, Sm H H1 → ∀ Q : VK, (∀ p xs H2, Same H1 H2 → H1 p = none → H2 p = some (.lst xs) → RpA H2 xs ds → Q (.ref p) H2) → wE X e σ H1 Q
section
variable {X : Cx} {σ : L2.St} {H H' : Hp} {e : Expr} {ds : List PyData}
theorem EvN.ev (h : EvN X e σ H ds) : Ev X e σ H (Is (.list ds)) := fun H1 m Q k => h H1 m Q fun p xs H2 s _ hp hx => k _ _ s (.lst (.inl hp) hx)
theorem EvN.up (m : Sm H H') (h : EvN X e σ H ds) : EvN X e σ H' ds := fun H1 q => h H1 (m.trans q)
theorem EvN.is {ds' : List PyData} (h : EvN X e σ H ds) (k : ds = ds') : EvN X e σ H ds' := k ▸ h
/-- the promise of a def that hands back a new list -/
def PL {α : Type} (A : α → List V → Hp → Prop) (B : α → List PyData) : Sp := fun vs H Q _ => ∃ x, A x vs H ∧ ∀ p xs H', Same H H' → H p = none → H' p = some (.lst xs) → RpA H' xs (B x) → Q (.ref p) H'
theorem ev_pl {α : Type} {A : α → RelA} {B : α → List PyData} {T : RelA} {es : List Expr} {x : Str} {p pos : Pos} {k j : Nat} (y : α) (c : C8.Cal X.prog X.w X.K X.mg X.base k x (PL A B) []) (hr : Room j X.A) (args : EvA X (e :: es) σ H T)
    (h : ∀ vs H1, Sm H H1 → T vs H1 → A y vs H1) (hk : k ≤ j := by decide) (hg : Gl X x := by rfl) (hdb : (x == ("__debug__" : Str)) = false := by decide) (he : starEach (e :: es) X.env = (false, eval e X.env) :: starEach es X.env := by rfl) (hpl : (backTo pos (starEach es X.env)).any (·.1) = false := by rfl) :
    EvN X (.Call (.Name x p) (e :: es) [] pos) σ H (B y) := fun H1 m Q z =>
  we (C8.pe_c c hr hk hg (pa_w (e :: es)) hdb he hpl) (args H1 m _ fun vs H2 s2 t2 => by
    show (PL A B) (vs ++ []) H2 Q E0
    rw [List.append_nil]
    exact ⟨y, h vs H2 (m.trans (sm_of s2)) t2, fun p xs H3 s3 hp h3 hx => z p xs H3 (s2.trans s3) (s2.free hp) h3 hx⟩)
end
section
variable {P : Program} {w : World} {K : PySem.W.Frag} {mg : Str → Option Value} {base : Heap}
theorem cal_pl {α : Type} {A : α → RelA} {B : α → List PyData} {x : Str} {st : Stmt} {N ps : List Str} {k : Nat} (F : Df K mg x st) (S : FnScope N ps (defScope st))
    (hb : ∀ (kV doc pm : Value) (an : Option Addr) (cdv ct : Value) (us : List Value), us.length = ps.length → bindArgs (PySem.W.fnOf x x (defArgs st) (defBody st) (defScope st) .none kV doc pm an cdv ct) ⟨us, []⟩ = pure (ps.zip us))
    (len : ∀ x vs H, A x vs H → vs.length = ps.length)
    (body : ∀ (f : Addr) (cdv : Value) (Ar : Around) (outer : List Env) (s : Shared) (H : Hp) (vs : List V) (Q : VK) (E : XK) (a : α), Room k (XF P w K mg base N x (defScope st) f cdv Ar outer s H E).A → A a vs H → (∀ p xs H', Same H H' → H p = none → H' p = some (.lst xs) → RpA H' xs (B a) → Q (.ref p) H') →
      wB (XF P w K mg base N x (defScope st) f cdv Ar outer s H E) (defBody st) { nx := fun _ H' => Q .non H', rt := Q } (start N vs) H) : C8.Cal P w K mg base (k + 1) x (PL A B) [] :=
  cal_mk F S hb (fun vs H Q E ⟨a, h, _⟩ => len a vs H h) fun f cdv Ar outer s H vs Q E hr ⟨a, h, q⟩ => body f cdv Ar outer s H vs Q E a hr h q
theorem s_retN {X : Cx} {σ : L2.St} {H : Hp} {D : Ends} {e : Expr} {ds : List PyData} {pos : Pos} (h : EvN X e σ H ds) (k : ∀ p xs H', Same H H' → H p = none → H' p = some (.lst xs) → RpA H' xs ds → D.rt (.ref p) H') : wS X (.Return (some e) pos) D σ H :=
  s_retW (h H (Sm.refl H) _ k)
end
/-- J walks ds while Hs and the tuples of Hb stand -/
structure WkN (J : It) (ds : List PyData) (Hs Hb : Hp) : Prop where
  len : ds.length ≤ sizeLine
  go : ∀ i H, Same Hs H → i < ds.length → J.go i H
  stop : ∀ H, Same Hs H → J.stop ds.length H
  yld : ∀ i H x H', Same Hs H → Tp Hb H → J.yld i H x H' → i < ds.length → Same H H' ∧ ∃ d, ds[i]? = some d ∧ Rp H' x d
/-- the source is a tuple or a new list: what was a list ahead is not it -/
def SrcN (X : Cx) (tg iter : Expr) (σ : L2.St) (H : Hp) (ds : List PyData) : Prop := ∀ H1, Sm H H1 → ∀ R : It → Hp → Prop, (∀ J Hs H2, Same H1 H2 → Same Hs H2 → (∀ D ys, H1 D = some (.lst ys) → Hs D = none) → WkN J ds Hs H2 → R J H2) → wI X tg iter σ H1 R
def only (a : Addr) (o : HO) : Hp := fun b => if b = a then some o else none
theorem only_at {a : Addr} {o : HO} : only a o a = some o := by unfold only; rw [if_pos rfl]
theorem only_same {a : Addr} {o : HO} {H : Hp} (h : H a = some o) : Same (only a o) H := fun b u e => by
  unfold only at e
  split at e
  · rename_i q
    rw [q, h]
    exact e
  · cases e
theorem tupDs_left : ∀ {ds es : List PyData}, tupDs (ds ++ es) = true → tupDs ds = true
  | [], _, _ => by simp [tupDs]
  | d :: ds, es, h => by
    rw [List.cons_append] at h
    simp only [tupDs, Bool.and_eq_true] at h ⊢
    exact ⟨h.1, tupDs_left h.2⟩
theorem mem_tupDs {d : PyData} : ∀ {ds : List PyData}, tupDs ds = true → d ∈ ds → tupD d = true
  | e :: ds, h, m => by
    simp only [tupDs, Bool.and_eq_true] at h
    rcases List.mem_cons.mp m with rfl | m
    · exact h.1
    · exact mem_tupDs h.2 m
section
variable {X : Cx} {σ : L2.St} {H H' : Hp} {tg iter : Expr} {ds : List PyData} {pos : Pos}
theorem srcN_tup (h : Ev X iter σ H (Is (.tuple ds))) (ht : tupDs ds = true) : SrcN X tg iter σ H ds := fun H1 m R k => by
  refine wi (pi_tup (pe_w iter)) ?_
  refine we_inv (h H1 m _ fun v H2 s2 r2 pins s I => ?_)
  cases r2 with
  | @tup a xs _ ha hx =>
    obtain ⟨_, _, _, hz⟩ := I.tuple (a := a) (xs := xs) (SqT.of ha)
    have up : ∀ {H'}, Same (only a (.tup xs)) H' → SqT X.K H' a xs := fun s => SqT.of (s _ _ only_at)
    refine ⟨a, rfl, ⟨xs, SqT.of ha⟩, k _ (only a (.tup xs)) H2 s2 (only_same ha) (fun D ys hD => ?_) ⟨by rw [← hx.length]; exact hz, fun i H' s hi => ⟨xs, xs[i]'(by rw [hx.length]; exact hi), up s, by simp⟩, fun H' s => ⟨xs, up s, by rw [hx.length]; exact Nat.le_refl _⟩, fun i H' x H'' s tp y hi => ?_⟩⟩
    · unfold only
      rw [if_neg]
      rintro rfl
      rw [s2 _ _ hD] at ha
      cases ha
    · obtain ⟨e, q⟩ := y
      subst e
      obtain ⟨d, hd, hr⟩ := hx.get (q xs (up s))
      exact ⟨Same.refl _, d, hd, Rp.tps tp _ _ (mem_tupDs ht (List.mem_of_getElem? hd)) hr⟩
theorem srcN_new (h : EvN X iter σ H ds) (ht : tupDs ds = true) : SrcN X tg iter σ H ds := fun H1 m R k => by
  refine wi (pi_list (pe_w iter)) ?_
  refine we_inv (h H1 m _ fun a xs H2 s2 fr ha hx pins s I => ?_)
  obtain ⟨_, _, _, hz⟩ := I.list (a := a) (xs := xs) (SqL.of ha)
  have up : ∀ {H'}, Same (only a (.lst xs)) H' → SqL X.K H' a xs := fun s => SqL.of (s _ _ only_at)
  refine ⟨a, rfl, ⟨xs, SqL.of ha⟩, k _ (only a (.lst xs)) H2 s2 (only_same ha) (fun D ys hD => ?_) ⟨by rw [← hx.length]; exact hz, fun i H' s hi => ⟨xs, xs[i]'(by rw [hx.length]; exact hi), up s, by simp⟩, fun H' s => ⟨xs, up s, by rw [hx.length]; exact Nat.le_refl _⟩, fun i H' x H'' s tp y hi => ?_⟩⟩
  · unfold only
    rw [if_neg]
    rintro rfl
    rw [fr] at hD
    cases hD
  · obtain ⟨e, q⟩ := y
    subst e
    obtain ⟨d, hd, hr⟩ := hx.get (q xs (up s))
    exact ⟨Same.refl _, d, hd, Rp.tps tp _ _ (mem_tupDs ht (List.mem_of_getElem? hd)) hr⟩
end

/-! ### two fors -/
structure Lc2Turn (X : Cx) (scope : Scope) (tg tg1 iter1 : Expr) (elt : Expr) (vs : List Nat) (i1 : Nat) (σ : L2.St) (H : Hp) (v : V) {β : Type} (l1 : List β) (enc1 : β → PyData) (g : β → PyData) : Prop where
  go : ∃ σ', wipe σ' vs = wipe σ vs ∧ (∀ j H1, Sm H H1 → EvG (BX X scope j) tg (wipe σ vs) H1 v σ') ∧ (∀ j, SrcN (BX X scope j) tg1 iter1 σ' H (l1.map enc1)) ∧
    ∀ y ∈ l1, ∀ u H1, Sm H H1 → Rp H1 u (enc1 y) → (∀ j, EvG (BX X scope j) tg1 (wipe σ' [i1]) H1 u (σ'.set i1 (some u))) ∧ ∀ j, Ev (BX X scope j) elt (σ'.set i1 (some u)) H1 (Is (g y))
section
variable {X : Cx} {σ : L2.St} {H : Hp} {tg iter tg1 iter1 elt : Expr} {scope : Scope} {pos : Pos} {α β : Type} {l : List α} {enc : α → PyData} {l1 : α → List β} {enc1 : α → β → PyData} {g : α → β → PyData} {vs : List Nat} {i1 : Nat}
theorem lc2_read (src : Src X tg iter σ H (l.map enc)) (hz : (l.flatMap fun x => (l1 x).map (g x)).length < sizeLine) (h0 : ∀ x ∈ l, tupD (enc x) = true) (ht : ∀ x ∈ l, ∀ y ∈ l1 x, tupD (g x y) = true)
    (turn : ∀ x ∈ l, ∀ v H1, Sm H H1 → Rp H1 v (enc x) → Lc2Turn X scope tg tg1 iter1 elt vs i1 σ H1 v (l1 x) (enc1 x) (g x)) (H1 : Hp) (m : Sm H H1) (Q : VK) (k : ∀ v H2, Same H1 H2 → Is (.list (l.flatMap fun x => (l1 x).map (g x))) v H2 → Q v H2) :
    tLc2 (wI X tg iter) (jG X scope tg) tYes (jI X scope tg1 iter1) (jG X scope tg1) tYes (jE X scope elt) vs [i1] σ H1 Q := by
  refine src H1 m _ fun J H2 s2 W D hD => ?_
  have hl : (l.map enc).length = l.length := List.length_map ..
  let F : Nat → List PyData := fun i => (l.take i).flatMap fun x => (l1 x).map (g x)
  have tF : ∀ i, tupDs (F i) = true := fun i => by
    have e : F i = ((l.take i).flatMap fun x => (l1 x).map fun y => (x, y)).map fun p => g p.1 p.2 := by
      show ((l.take i).flatMap fun x => (l1 x).map (g x)) = _
      rw [List.map_flatMap]
      refine congrArg (fun z => (l.take i).flatMap z) (funext fun x => ?_)
      rw [List.map_map]
      rfl
    rw [e]
    refine tupDs_map fun p hp => ?_
    obtain ⟨x, hx, hp⟩ := List.mem_flatMap.mp hp
    obtain ⟨y, hy, e⟩ := List.mem_map.mp hp
    rw [← e]
    exact ht x (List.mem_of_mem_take hx) y hy
  have lF : ∀ i, (F i).length ≤ (l.flatMap fun x => (l1 x).map (g x)).length := fun i => by
    have e : l.flatMap (fun x => (l1 x).map (g x)) = F i ++ (l.drop i).flatMap fun x => (l1 x).map (g x) := by
      show _ = ((l.take i).flatMap _) ++ _
      rw [← List.flatMap_append, List.take_append_drop]
    rw [e, List.length_append]
    exact Nat.le_add_right _ _
  let P : Nat → Hp → Prop := fun i H' => Same H2 H' ∧ ∃ ys, H' D = some (.lst ys) ∧ RpA H' ys (F i)
  refine ⟨fun i mm H' => mm = l.length - i ∧ i ≤ l.length ∧ P i H', ⟨l.length, rfl, Nat.zero_le _, same_new hD, [], upd_same, .nil⟩, ?_⟩
  rintro i mm H' ⟨rfl, hi, s', ys, hy, ry⟩
  by_cases hlt : i < l.length
  · refine .inr ⟨W.go i H' s' (by rw [hl]; exact hlt), P (i + 1), fun H'' p => ⟨l.length - (i + 1), by omega, rfl, hlt, p⟩, fun v H3 y => ?_⟩
    obtain ⟨s3, d, hd, rd⟩ := W.yld i H' v H3 s' y (by rw [hl]; exact hlt)
    obtain ⟨x, hx, ex⟩ : ∃ x, l[i]? = some x ∧ enc x = d := by
      rw [List.getElem?_map] at hd
      cases q : l[i]? with
      | none => rw [q] at hd; cases hd
      | some x => rw [q] at hd; exact ⟨x, rfl, Option.some.inj hd⟩
    subst ex
    have hm : x ∈ l := List.mem_of_getElem? hx
    have hy3 : H3 D = some (.lst ys) := s3 _ _ hy
    have s23 : Same H2 H3 := s'.trans s3
    -- all but D
    let B3 : Hp := fun b => if b = D then none else H3 b
    have b3D : B3 D = none := if_pos rfl
    have b3 : Same B3 H3 := fun b o e => by
      by_cases q : b = D
      · rw [q, b3D] at e; cases e
      · rw [← e]; exact (if_neg q).symm
    have of3 : ∀ {b o}, b ≠ D → H3 b = some o → B3 b = some o := fun {b o} q e => by show (if b = D then none else H3 b) = _; rw [if_neg q]; exact e
    have s2B : Same H2 B3 := fun b o e => of3 (ne_of_none e hD) (s23 _ _ e)
    have tB3 : Tp H3 B3 := fun b xs e => of3 (by rintro rfl; rw [hy3] at e; cases e) e
    have m3 : Sm H B3 := m.trans (sm_of (s2.trans s2B))
    obtain ⟨σ', hw, hg, hsrc, hturn⟩ := (turn x hm v B3 m3 (Rp.tps tB3 _ _ (h0 x hm) rd)).go
    have eF : F (i + 1) = F i ++ (l1 x).map (g x) := by
      show (l.take (i + 1)).flatMap _ = (l.take i).flatMap _ ++ _
      rw [take_snoc hx, List.flatMap_append]
      simp
    refine fun j => hg j H3 (sm_of b3) _ ⟨hw, ?_⟩
    refine iteT (B := P (i + 1) H3) fun j => hsrc j H3 (sm_of b3) _ fun J1 Hs H4 s4 ss4 nD W1 => ?_
    have hl1 : ((l1 x).map (enc1 x)).length = (l1 x).length := List.length_map ..
    have hsD : Hs D = none := nD D ys hy3
    have hy4 : H4 D = some (.lst ys) := s4 _ _ hy3
    let B4 : Hp := fun b => if b = D then none else H4 b
    have b4D : B4 D = none := if_pos rfl
    have b4 : Same B4 H4 := fun b o e => by
      by_cases q : b = D
      · rw [q, b4D] at e; cases e
      · rw [← e]; exact (if_neg q).symm
    have of4 : ∀ {b o}, b ≠ D → H4 b = some o → B4 b = some o := fun {b o} q e => by show (if b = D then none else H4 b) = _; rw [if_neg q]; exact e
    have s34 : Same B3 B4 := fun b o e => of4 (by rintro rfl; rw [b3D] at e; cases e) (s4 _ _ (b3 _ _ e))
    have sHs : Same Hs B4 := fun b o e => of4 (by rintro rfl; rw [hsD] at e; cases e) (ss4 _ _ e)
    have tp4 : ∀ {H'}, Same B4 H' → Tp H4 H' := fun q b xs e => q _ _ (of4 (by rintro rfl; rw [hy4] at e; cases e) e)
    let P1 : Nat → Hp → Prop := fun n H' => Same B4 H' ∧ ∃ ys, H' D = some (.lst ys) ∧ RpA H' ys (F i ++ ((l1 x).take n).map (g x))
    refine ⟨fun n mm H' => mm = (l1 x).length - n ∧ n ≤ (l1 x).length ∧ P1 n H', ⟨(l1 x).length, rfl, Nat.zero_le _, b4, ys, hy4, by rw [List.take_zero, List.map_nil, List.append_nil]; exact RpA.mono (sm_of (s3.trans s4)) _ _ ry⟩, ?_⟩
    rintro n mm H5 ⟨rfl, hn, s5, zs, hz5, rz⟩
    by_cases hlt1 : n < (l1 x).length
    · refine .inr ⟨W1.go n H5 (sHs.trans s5) (by rw [hl1]; exact hlt1), P1 (n + 1), fun H'' p => ⟨(l1 x).length - (n + 1), by omega, rfl, hlt1, p⟩, fun u H6 y6 => ?_⟩
      obtain ⟨s6, d, hd, rd6⟩ := W1.yld n H5 u H6 (sHs.trans s5) (tp4 s5) y6 (by rw [hl1]; exact hlt1)
      obtain ⟨y, hy1, ey⟩ : ∃ y, (l1 x)[n]? = some y ∧ enc1 x y = d := by
        rw [List.getElem?_map] at hd
        cases q : (l1 x)[n]? with
        | none => rw [q] at hd; cases hd
        | some y => rw [q] at hd; exact ⟨y, rfl, Option.some.inj hd⟩
      subst ey
      have hmy : y ∈ l1 x := List.mem_of_getElem? hy1
      obtain ⟨hg1, he1⟩ := hturn y hmy u H6 (sm_of (s34.trans (s5.trans s6))) rd6
      refine fun j => hg1 j _ ⟨wipe1 _ _ _, ?_⟩
      refine iteT (B := P1 (n + 1) H6) fun j => he1 j H6 (Sm.refl _) _ fun z H7 s7 r7 => ?_
      have hz7 : H7 D = some (.lst zs) := s7 _ _ (s6 _ _ hz5)
      have tpu : Tp H7 (upd H7 D (.lst (zs ++ [z]))) := tp_upd hz7 fun _ z => nomatch z
      have rz7 := RpA.mono (sm_of (s6.trans s7)) _ _ rz
      have eL : F i ++ ((l1 x).take (n + 1)).map (g x) = (F i ++ ((l1 x).take n).map (g x)) ++ [g x y] := by
        rw [take_snoc hy1, List.map_append, List.append_assoc]
        rfl
      refine ⟨zs, hz7, ?_, ?_, zs ++ [z], upd_same, ?_⟩
      · have e1 := rz.length
        have e2 := lF (i + 1)
        rw [eF, List.length_append, List.length_map] at e2
        rw [List.length_append, List.length_map, List.length_take] at e1
        omega
      · refine same_mut ((s5.trans s6).trans s7) b4D
      · rw [eL]
        have t7 : tupDs (F i ++ ((l1 x).take n).map (g x)) = true := by
          have q := tF (i + 1)
          rw [eF] at q
          have e : (l1 x).map (g x) = ((l1 x).take n).map (g x) ++ ((l1 x).drop n).map (g x) := by rw [← List.map_append, List.take_append_drop]
          rw [e, ← List.append_assoc] at q
          exact tupDs_left q
        exact RpA.snoc (RpA.tps tpu _ _ t7 rz7) (Rp.tps tpu _ _ (ht x hm y hmy) r7)
    · have e : n = (l1 x).length := by omega
      subst e
      refine .inl ⟨by have := W1.stop H5 (sHs.trans s5); rwa [hl1] at this, s2B.trans (s34.trans s5), zs, hz5, ?_⟩
      rw [eF]
      rw [List.take_length] at rz
      exact rz
  · have e : i = l.length := by omega
    subst e
    refine .inl ⟨by have := W.stop H' s'; rwa [hl] at this, k _ _ (s2.trans s') (.lst (.inl hy) ?_)⟩
    have e : F l.length = l.flatMap fun x => (l1 x).map (g x) := by
      show (l.take l.length).flatMap _ = _
      rw [List.take_length]
    rw [e] at ry
    exact ry
theorem ev_lc2 {own : List (Str × Nat)} {N : List Str} (i1 : Nat) (sc : Scope) (nd : N.Nodup) (src : Src X tg iter σ H (l.map enc)) (hz : (l.flatMap fun x => (l1 x).map (g x)).length < sizeLine) (h0 : ∀ x ∈ l, tupD (enc x) = true) (ht : ∀ x ∈ l, ∀ y ∈ l1 x, tupD (g x y) = true)
    (turn : ∀ x ∈ l, ∀ v H1, Sm H H1 → Rp H1 v (enc x) → Lc2Turn X scope tg tg1 iter1 elt (own.map (·.2)) i1 σ H1 v (l1 x) (enc1 x) (g x)) (hN : X.N = N := by rfl) (hsc : X.env.scope = sc := by rfl) (ok : blkC N sc scope own = true := by decide +kernel) (hv : ∀ i ∈ [i1], i ∈ own.map (·.2) := by decide) (hc : X.calm = true := by rfl)
    (hs : ∀ x, foldedSetIterable iter X.env x = pure x := by intro _; rfl) (hs1 : ∀ env x, foldedSetIterable iter1 env x = pure x := by intro _ _; rfl) :
    Ev X (.ListComp elt [⟨tg, iter, [], 0⟩, ⟨tg1, iter1, [], 0⟩] scope pos) σ H (Is (.list (l.flatMap fun x => (l1 x).map (g x)))) := fun H1 m Q k =>
  we (pe_lc2 hc (by rw [hN]; exact nd) (pi_w tg iter) (blkOk_by (by rw [hN, hsc]; exact ok)) hv (fun s H C cl fp => ⟨fun pins s' σ H v u Q I r h => h (s, _, C, cl, fp) pins s' u I r⟩) (fun s H C cl fp => pts_nil) (fun s H C cl fp => ⟨fun pins s' σ H R I h => h (s, _, C, cl, fp) pins s' I⟩)
    (fun s H C cl fp => ⟨fun pins s' σ H v u Q I r h => h (s, _, C, cl, fp) pins s' u I r⟩) (fun s H C cl fp => pts_nil) (fun s H C cl fp => ⟨fun pins s' σ H Q I h => h (s, _, C, cl, fp) pins s' I⟩) hs hs1) (lc2_read src hz h0 ht turn H1 m Q k)
theorem s_setLc2 {D : Ends} {own : List (Str × Nat)} {N : List Str} {x : Str} {pos' p2 : Pos} (i i1 : Nat) (sc : Scope) (nd : N.Nodup) (src : Src X tg iter σ H (l.map enc)) (hz : (l.flatMap fun x => (l1 x).map (g x)).length < sizeLine) (h0 : ∀ x ∈ l, tupD (enc x) = true) (ht : ∀ x ∈ l, ∀ y ∈ l1 x, tupD (g x y) = true)
    (turn : ∀ x ∈ l, ∀ v H1, Sm H H1 → Rp H1 v (enc x) → Lc2Turn X scope tg tg1 iter1 elt (own.map (·.2)) i1 σ H1 v (l1 x) (enc1 x) (g x)) (k : ∀ v H1, Same H H1 → Is (.list (l.flatMap fun x => (l1 x).map (g x))) v H1 → D.nx (σ.set i (some v)) H1)
    (hN : X.N = N := by rfl) (hsc : X.env.scope = sc := by rfl) (ok : blkC N sc scope own = true := by decide +kernel) (hsw : swapsWith (.ListComp elt [⟨tg, iter, [], 0⟩, ⟨tg1, iter1, [], 0⟩] scope p2) (some (.Name x pos')) pos.line X.env = pure true) (hi : X.N[i]? = some x := by rfl) (hxl : X.env.scope.names.lookup x = some .local := by rfl)
    (hv : ∀ i ∈ [i1], i ∈ own.map (·.2) := by decide) (hc : X.calm = true := by rfl) (hs : ∀ x, foldedSetIterable iter X.env x = pure x := by intro _; rfl) (hs1 : ∀ env x, foldedSetIterable iter1 env x = pure x := by intro _ _; rfl) :
    wS X (.Assign [.Name x pos'] (.ListComp elt [⟨tg, iter, [], 0⟩, ⟨tg1, iter1, [], 0⟩] scope p2) pos) D σ H :=
  ws (ps_setLc2 hc (by rw [hN]; exact nd) hi hxl hsw (pi_w tg iter) (blkOk_by (by rw [hN, hsc]; exact ok)) hv (fun s H C cl fp => ⟨fun pins s' σ H v u Q I r h => h (s, _, C, cl, fp) pins s' u I r⟩) (fun s H C cl fp => pts_nil) (fun s H C cl fp => ⟨fun pins s' σ H R I h => h (s, _, C, cl, fp) pins s' I⟩)
    (fun s H C cl fp => ⟨fun pins s' σ H v u Q I r h => h (s, _, C, cl, fp) pins s' u I r⟩) (fun s H C cl fp => pts_nil) (fun s H C cl fp => ⟨fun pins s' σ H Q I h => h (s, _, C, cl, fp) pins s' I⟩) hs hs1) (lc2_read src hz h0 ht turn H (Sm.refl H) _ k)
end
end My
/-! S1 -/
/-! sets whose items are nested keys: texts, and tuples of texts at any depth -/
namespace My
open PySem PySem.Spec PyProof.Rows L2
abbrev NK := NestedKey
abbrev Rw := Value × NK
section
variable {P : Program} {w : World} {A : Around} {E : Value → Shared → Prop} {s : Shared}

/-! ### the model's small questions, asked of nested keys -/
def Plain1 (P : Program) (w : World) (n : Nat) (s : Shared) (v : Value) : Prop := ∀ (A : Around) (E : Value → Shared → Prop) (Q : Bool → Shared → Prop), Q false s → wpAny (model P w) A (ofAClassStatement n v) Q E s
mutual
theorem ofClass_key : ∀ (k : NK) (v : Value) (n : Nat) (s : Shared), NestedIs s.heap k v → k.depth ≤ n → Plain1 P w n s v
  | .none, v, n, s, x, _ => fun A E Q q => by cases x; cases n <;> exact wpAny_pure q
  | .num i, v, n, s, x, _ => fun A E Q q => by cases x <;> cases n <;> exact wpAny_pure q
  | .text y, v, n, s, x, _ => fun A E Q q => by cases x; cases n <;> exact wpAny_pure q
  | .tup ks, v, n, s, x, hn => fun A E Q q => by
    cases x with
    | @tup a o vs m _ hg hc hd hk =>
      simp only [NestedKey.depth] at hn
      cases n with
      | zero => omega
      | succ n =>
        have all := ofClass_keys ks _ n s hk (by omega)
        unfold ofAClassStatement
        refine wpAny_bind (wpAny_typeOf (T := "tuple") ⟨o, hg, hc⟩ ?_)
        dsimp only
        simp only [beq_self_eq_true, if_true, Bool.not_true, Bool.false_eq_true, if_false]
        try refine wpAny_bind (wpAny_pure ?_)
        try simp only [Bool.not_true, Bool.false_eq_true, if_false]
        show wpAny _ _ (seqItems? (.ref a) >>= _) Q E s
        refine wpAny_bind (wpAny_seqItems hg hd (wpAny_bind ?_))
        show wpAny _ _ (forIn vs _ _) _ E s
        rw [← Array.forIn_toList]
        refine wpAny_forIn_list _ (fun l r z => r.1 = none ∧ z = s ∧ ∀ u ∈ l, Plain1 P w n s u) _ ?_ ?_ _ _ ⟨rfl, rfl, all⟩
        · rintro u l r z ⟨hr, rfl, hall⟩
          refine wpAny_bind (hall u List.mem_cons_self A E _ ?_)
          simp only [Bool.false_eq_true, if_false]
          exact wpAny_pure ⟨rfl, rfl, fun y hy => hall y (List.mem_cons_of_mem u hy)⟩
        · rintro ⟨r1, r2⟩ z ⟨hr, rfl, _⟩
          cases hr
          exact wpAny_pure q
theorem ofClass_keys : ∀ (ks : List NK) (vs : List Value) (n : Nat) (s : Shared), NestedAll s.heap ks vs → NestedKey.depthAll ks ≤ n → ∀ v ∈ vs, Plain1 P w n s v
  | [], _, n, s, x, _, v, hv => by cases x; cases hv
  | k :: ks, _, n, s, x, hn, v, hv => by
    simp only [NestedKey.depthAll] at hn
    cases x with
    | cons x1 x2 =>
      rcases List.mem_cons.mp hv with rfl | hv
      · exact ofClass_key k v n s x1 (by omega)
      · exact ofClass_keys ks _ n s x2 (by omega) v hv
end
def Hby (P : Program) (w : World) (n : Nat) (s : Shared) (v : Value) : Prop := ∀ (A : Around) (E : Value → Shared → Prop) (Q : Bool → Shared → Prop), (∀ b, Q b s) → wpAny (model P w) A (hashByValue n v) Q E s
mutual
theorem hashBy_key : ∀ (k : NK) (v : Value) (n : Nat) (s : Shared), NestedIs s.heap k v → k.depth ≤ n → Hby P w n s v
  | .none, v, n, s, x, _ => fun A E Q q => by cases x; cases n <;> exact wpAny_pure (q _)
  | .num i, v, n, s, x, _ => fun A E Q q => by cases x <;> cases n <;> exact wpAny_pure (q _)
  | .text y, v, n, s, x, _ => fun A E Q q => by cases x; cases n <;> exact wpAny_pure (q _)
  | .tup ks, v, n, s, x, hn => fun A E Q q => by
    cases x with
    | @tup a o vs m _ hg hc hd hk =>
      simp only [NestedKey.depth] at hn
      cases n with
      | zero => omega
      | succ n =>
        have all := hashBy_keys ks _ n s hk (by omega)
        unfold hashByValue
        refine wpAny_bind (wpAny_specialOf (T := "tuple") ⟨o, hg, hc⟩ F.slot_tuple_hash.lookup ?_)
        show wpAny _ _ (seqItems? (.ref a) >>= _) Q E s
        refine wpAny_bind (wpAny_seqItems hg hd (wpAny_bind ?_))
        show wpAny _ _ (forIn vs _ _) _ E s
        rw [← Array.forIn_toList]
        refine wpAny_forIn_list _ (fun l r z => r.1 = none ∧ z = s ∧ ∀ u ∈ l, Hby P w n s u) _ ?_ ?_ _ _ ⟨rfl, rfl, all⟩
        · rintro u l r z ⟨hr, rfl, hall⟩
          refine wpAny_bind (hall u List.mem_cons_self A E _ fun b => ?_)
          cases b with
          | true =>
            simp only [Bool.not_true, Bool.false_eq_true, if_false]
            exact wpAny_pure ⟨rfl, rfl, fun y hy => hall y (List.mem_cons_of_mem u hy)⟩
          | false =>
            simp only [Bool.not_false, if_true]
            exact wpAny_pure (wpAny_pure (q _))
        · rintro ⟨r1, r2⟩ z ⟨hr, rfl, _⟩
          cases hr
          exact wpAny_pure (q _)
theorem hashBy_keys : ∀ (ks : List NK) (vs : List Value) (n : Nat) (s : Shared), NestedAll s.heap ks vs → NestedKey.depthAll ks ≤ n → ∀ v ∈ vs, Hby P w n s v
  | [], _, n, s, x, _, v, hv => by cases x; cases hv
  | k :: ks, _, n, s, x, hn, v, hv => by
    simp only [NestedKey.depthAll] at hn
    cases x with
    | cons x1 x2 =>
      rcases List.mem_cons.mp hv with rfl | hv
      · exact hashBy_key k v n s x1 (by omega)
      · exact hashBy_keys ks _ n s x2 (by omega) v hv
end
/-- the tuple at b is the key k -/
def IsK (h : Heap) (p : Rw) : Prop := NestedIs h p.2 p.1 ∧ p.2.depth ≤ 8
def TupR (p : Rw) : Prop := ∃ b ks, p = (.ref b, .tup ks)
theorem IsK.keep {h h' : Heap} {p : Rw} (x : IsK h p) (k : ∀ b o, h.get? b = some o → h'.get? b = some o) : IsK h' p := ⟨NestedIs.at (fun a o _ _ e _ => k a o e) _ _ x.1, x.2⟩
theorem IsK.other {h h' : Heap} {p : Rw} {a : Addr} {o : Obj} {es : Array (Int × Value)} {ep : Nat} {t : SetTable} (x : IsK h p) (ho : h.get? a = some o) (hd : o.data = .set es ep t) (sb : Heap.SameBut a h h') : IsK h' p :=
  ⟨NestedIs.at (fun b u vs n e q => by
    by_cases z : b = a
    · subst z
      rw [ho] at e
      cases e
      rw [hd] at q
      cases q
    · exact (sb.2 b z).trans e) _ _ x.1, x.2⟩
theorem unseen {b : Addr} {ks : List NK} {Q : Bool → Shared → Prop} (x : IsK s.heap (.ref b, .tup ks)) {ys : List Value} (hy : ∀ y ∈ ys, ∃ c k, y = Value.ref c ∧ IsK s.heap (.ref c, k)) (q : Q false s) :
    wpAny (model P w) A (searchCouldBeSeen (.ref b) ys) Q E s := by
  unfold searchCouldBeSeen
  refine wpAny_bind ?_
  refine wpAny_forIn_list _ (fun l r z => r.1 = none ∧ z = s ∧ ∀ y ∈ l, ∃ c k, y = Value.ref c ∧ IsK s.heap (.ref c, k)) _ ?_ ?_ _ _ ⟨rfl, rfl, hy⟩
  · rintro u l r z ⟨hr, rfl, hall⟩
    obtain ⟨c, k, rfl, hc⟩ := hall u List.mem_cons_self
    have more : ∀ y ∈ l, ∃ c k, y = Value.ref c ∧ IsK z.heap (.ref c, k) := fun y hy => hall y (List.mem_cons_of_mem _ hy)
    dsimp only
    by_cases hv : (b == c || (carriedByValue (.ref b) && carriedByValue (.ref c))) = true
    · exact L2.wp_if_pos hv (wpAny_pure ⟨rfl, rfl, more⟩)
    · refine L2.wp_if_neg hv (wpAny_bind (quiet_key _ _ 8 z x.1 x.2 A E _ ?_))
      simp only [Bool.not_true, Bool.false_eq_true, if_false]
      refine wpAny_bind (quiet_key _ _ 8 z hc.1 hc.2 A E _ ?_)
      simp only [Bool.not_true, Bool.false_eq_true, if_false]
      refine wpAny_bind (ofClass_key _ _ 8 z x.1 x.2 A E _ ?_)
      simp only [Bool.false_eq_true, if_false]
      refine wpAny_bind (ofClass_key _ _ 8 z hc.1 hc.2 A E _ ?_)
      simp only [Bool.false_eq_true, if_false]
      exact wpAny_pure ⟨rfl, rfl, more⟩
  · rintro ⟨r1, r2⟩ z ⟨hr, rfl, _⟩
    cases hr
    exact wpAny_pure q
end
end My
/-! S2 -/
namespace My
open PySem PySem.Spec PyProof.Rows L2
/-! ### what a set holds -/
abbrev hOf (w : World) (p : Rw) : Int := p.2.hash w
def rws (w : World) (L : List Rw) : List (Int × Value) := L.map fun p => (hOf w p, p.1)
/-- the object at a is a set with these rows, in its own order -/
structure ZR (w : World) (h : Heap) (a : Addr) (L : List Rw) (es : Array (Int × Value)) (ep : Nat) (t : SetTable) : Prop where
  ob : ∃ o, h.get? a = some o ∧ o.ExactSet ∧ o.data = .set es ep t
  rows : es.toList = rws w L
  ris : Ris t.place.toList
  fit : t.fits es.size = true
  nd : (L.map (·.2)).Nodup
  led : w.params.followText "set-order" = true ∨ t.led = true
  few : L.length ≤ 4000
theorem rws_size {w : World} {L : List Rw} {es : Array (Int × Value)} (h : es.toList = rws w L) : es.size = L.length := by
  have e := congrArg List.length h
  simpa [rws] using e
theorem rws_get {w : World} {L : List Rw} {es : Array (Int × Value)} (h : es.toList = rws w L) {i : Nat} {p : Rw} (hp : L[i]? = some p) : es[i]? = some (hOf w p, p.1) := by
  rw [← Array.getElem?_toList, h, rws, List.getElem?_map, hp]
  rfl
theorem rws_perm {w : World} : ∀ {l : List (Int × Value)} {m : List (Int × Value)}, l.Perm m → ∀ L : List Rw, m = rws w L → ∃ L1 : List Rw, l = rws w L1 ∧ L1.Perm L := by
  intro l m h
  induction h with
  | nil => intro L e; exact ⟨L, e, .refl L⟩
  | @cons x l m _ ih =>
    intro L e
    cases L with
    | nil => cases e
    | cons p L =>
      have e' : x :: m = (hOf w p, p.1) :: rws w L := e
      injection e' with e1 e2
      obtain ⟨L1, h1, h2⟩ := ih L e2
      exact ⟨p :: L1, by rw [h1, e1]; rfl, h2.cons p⟩
  | swap x y l =>
    intro L e
    match L, e with
    | p :: q :: L, e =>
      have e' : x :: y :: l = (hOf w p, p.1) :: (hOf w q, q.1) :: rws w L := e
      injection e' with e1 e2
      injection e2 with e2 e3
      exact ⟨q :: p :: L, by rw [e1, e2, e3]; rfl, .swap p q L⟩
  | trans _ _ ih1 ih2 =>
    intro L e
    obtain ⟨L1, h1, h2⟩ := ih2 L e
    obtain ⟨L2, h3, h4⟩ := ih1 L1 h1
    exact ⟨L2, h3, h4.trans h2⟩

/-- .. of tuples: the table is known -/
structure ZT (w : World) (h : Heap) (a : Addr) (L : List Rw) (es : Array (Int × Value)) (ep : Nat) (t : SetTable) : Prop where
  z : ZR w h a L es ep t
  tab : TabOk t (L.map (hOf w))
  refs : ∀ p ∈ L, TupR p
  room : L.length * 5 < t.mask * 3
  few : L.length ≤ 70
section
variable {P : Program} {w : World} {A : Around} {E : Value → Shared → Prop} {s : Shared} {a : Addr} {L : List Rw} {es : Array (Int × Value)} {ep : Nat} {t : SetTable}
theorem gw_no {t : SetTable} {hs : List Int} (T : TabOk t hs) : ¬ t.gaveWay = true := by
  rw [SetTable.gaveWay, mask_odd T.mok]
  decide
theorem fits_of {t : SetTable} {hs : List Int} (T : TabOk t hs) {n : Nat} (e : hs.length = n) (hn : n ≤ t.mask) : t.fits n = true := by
  have h1 := T.sz
  unfold SetTable.fits SetTable.fill
  rw [T.dm, Bool.and_eq_true, beq_iff_eq, decide_eq_true_eq]
  refine ⟨by rw [h1, e], ?_⟩
  show t.place.size + 0 ≤ t.mask
  rw [h1, e]
  omega
abbrev st0 (t : SetTable) (h : Int) : SetTable.Probe := runAt t.mask (SetTable.bits h % (t.mask + 1)) (SetTable.bits h)
theorem no_dummy (m : Nat) : ∀ (n : Nat) (p : SetTable.Probe), p.dummy = none → (nth m p n).dummy = none
  | 0, _, h => h
  | n + 1, p, h => no_dummy m n (adv m p) (by unfold adv; split <;> exact h)
/-- the search, from the c-th step on -/
theorem zsearch (R : ZT w s.heap a L es ep t) (hk : ∀ p ∈ L, IsK s.heap p) {x : Addr} {ks : List NK} (hx : IsK s.heap (.ref x, .tup ks)) (hu : A.units + 8 < cLine) {h : Int} (eh : h = NestedKey.hash w (.tup ks)) {K : Nat} (hKf : K < 10 * SetTable.turns t.mask)
    (hK : way t.mask h K ∉ t.place.toList) (hKb : ∀ c, c < K → way t.mask h c ∈ t.place.toList) {Q : SetFound → Shared → Prop}
    (yes : NestedKey.tup ks ∈ L.map (·.2) → Q (.there none) s) (no : NestedKey.tup ks ∉ L.map (·.2) → Q (.free (way t.mask h K) false) s) :
    ∀ (f c : Nat) (from? : Option SetTable.Probe), from?.getD (t.probeStart h) = nth t.mask (st0 t h) c → c ≤ K → K - c < f →
      (∀ (i : Nat) p, L[i]? = some p → p.2 = .tup ks → ∃ c', c ≤ c' ∧ c' < K ∧ t.place.toList[i]? = some (way t.mask h c')) →
      wpAny (model P w) A (setSearchFrom a (.ref x) h true f from?) Q E s
  | 0, _, _, _, _, hf, _ => absurd hf (Nat.not_lt_zero _)
  | f + 1, c, from?, hst, hc, hf, hre => by
    obtain ⟨o, ho, hex, hd⟩ := R.z.ob
    have rw0 := R.z.rows
    rw [setSearchFrom_succ]
    refine wpAny_bind (wpAny_setState_of ho hd R.z.fit ?_)
    dsimp only
    refine L2.wp_if_neg (gw_no R.tab) ?_
    try refine wpAny_bind (wpAny_pure ?_)
    have dm0 := no_dummy t.mask c (st0 t h) rfl
    have sh : ∀ q, nth t.mask (nth t.mask (st0 t h) c) q = nth t.mask (st0 t h) (c + q) := fun q => (nth_add t.mask c _ q).symm
    have e1 : ∀ q, (nth t.mask (nth t.mask (st0 t h) c) q).j = way t.mask h (c + q) := fun q => congrArg SetTable.Probe.j (sh q)
    have cK : c + (K - c) = K := by omega
    let hashAt : Nat → Int := fun i => (es[i]?.map (·.1)).getD 0
    have spec := go_spec t R.tab.ris R.tab.dm hashAt h (10 * SetTable.turns t.mask) (K - c) _ dm0 (by omega) (fun q hq => by rw [e1]; exact hKb _ (by omega)) (by rw [e1, cK]; exact hK)
    have hAt : ∀ (i : Nat) p, L[i]? = some p → hashAt i = hOf w p := fun i p hp => by
      show (es[i]?.map (·.1)).getD 0 = _
      rw [rws_get rw0 hp]
      rfl
    have same : ∀ p : Rw, p.2 = .tup ks → hOf w p = h := fun p e => by rw [eh, hOf, e]
    rcases spec with ⟨q, i, hq, hi, hh, hno, hpr⟩ | ⟨hno, hpr⟩
    · have hpr' : t.probe hashAt h (from?.getD (t.probeStart h)) = some (.candidate (way t.mask h (c + q)) i (nth t.mask (st0 t h) (c + (q + 1)))) := by
        rw [hst, ← e1, ← sh]
        exact hpr
      show wpAny _ _ (match t.probe hashAt h (from?.getD (t.probeStart h)) with | _ => _) _ _ _
      rw [hpr']
      dsimp only
      rw [e1] at hi
      have hil : i < L.length := by
        have h1 : i < t.place.toList.length := (List.getElem?_eq_some_iff.mp hi).1
        rw [Array.length_toList, R.tab.sz, List.length_map] at h1
        exact h1
      obtain ⟨p, hp⟩ : ∃ p, L[i]? = some p := ⟨_, List.getElem?_eq_getElem hil⟩
      have hm : p ∈ L := List.mem_of_getElem? hp
      obtain ⟨b, us, ep'⟩ := R.refs p hm
      have hpk := hk p hm
      have rest : wpAny (model P w) A (searchRest a (.ref x) h true f es t (way t.mask h (c + q)) i (nth t.mask (st0 t h) (c + (q + 1)))) Q E s := by
        unfold searchRest
        rw [rws_get rw0 hp]
        dsimp only
        rw [ep'] at hpk ⊢
        dsimp only
        refine wpAny_bind (wpAny_holding ((nestedKind P w).eqBool (x := .tup us) (y := .tup ks) (a := b) (b := x) (by exact hu) hpk hx ?_))
        refine wpAny_bind (wpAny_setState_of ho hd R.z.fit ?_)
        dsimp only
        by_cases hkk : NestedKey.tup us = .tup ks
        · refine L2.wp_if_pos (by simp [hkk]) (wpAny_pure (yes ?_))
          exact List.mem_map.mpr ⟨p, hm, by rw [ep']; exact hkk⟩
        · refine L2.wp_if_neg (by simp only [hkk]; simp) ?_
          try refine wpAny_bind (wpAny_pure ?_)
          rw [sameMem]
          dsimp only
          have hsl : t.slot (way t.mask h (c + q)) = .live i := slot_live R.tab.ris hi
          have hent : es[i]? = some (hOf w p, .ref b) := by rw [rws_get rw0 hp, ep']
          simp only [if_true, hsl, hent]
          refine wpAny_bind (wpAny_isSame_ref_self (wpAny_bind (wpAny_pure ?_)))
          simp only [if_true]
          refine L2.wp_if_neg (by simp only [hkk]; simp) ?_
          refine zsearch R hk hx hu eh hKf hK hKb yes no f (c + (q + 1)) _ rfl (by omega) (by omega) fun j p0 h0 hk0 => ?_
          obtain ⟨c', a1, a2, a3⟩ := hre j p0 h0 hk0
          refine ⟨c', ?_, a2, a3⟩
          rcases Nat.lt_trichotomy c' (c + q) with z | z | z
          · refine absurd ((hAt j p0 h0).trans (same p0 hk0)) (hno (c' - c) j (by omega) ?_)
            rw [e1, show c + (c' - c) = c' by omega]
            exact a3
          · rw [z] at a3
            have s0 := slot_live R.tab.ris a3
            rw [hsl] at s0
            injection s0 with s0
            rw [← s0, hp] at h0
            cases h0
            rw [ep'] at hk0
            exact absurd hk0 hkk
          · omega
      by_cases hl : t.led = true
      · refine L2.wp_if_neg (by simp [hl]) ?_
        try refine wpAny_bind (wpAny_pure ?_)
        exact rest
      · refine L2.wp_if_pos (by simp [hl]) (wpAny_bind (unseen hx (fun y hy => ?_) ?_))
        · obtain ⟨e, he, ee⟩ := List.mem_map.mp hy
          have he1 : e ∈ es ∧ e.1 = h := by simpa using he
          have he2 : e ∈ es.toList := by simpa using he1.1
          rw [rw0] at he2
          obtain ⟨r, hr, er⟩ := List.mem_map.mp he2
          obtain ⟨b2, us2, eb⟩ := R.refs r hr
          have hrk := hk r hr
          rw [eb] at hrk er
          refine ⟨b2, _, ?_, hrk⟩
          rw [← ee, ← er]
        · refine L2.wp_if_neg (by decide) ?_
          try refine wpAny_bind (wpAny_pure ?_)
          exact rest
    · have hpr' : t.probe hashAt h (from?.getD (t.probeStart h)) = some (.empty (way t.mask h K) none) := by
        have e2 : way t.mask h K = (nth t.mask (nth t.mask (st0 t h) c) (K - c)).j := by rw [e1, cK]
        rw [hst, e2]
        exact hpr
      show wpAny _ _ (match t.probe hashAt h (from?.getD (t.probeStart h)) with | _ => _) _ _ _
      rw [hpr']
      dsimp only
      refine wpAny_pure (no fun hm => ?_)
      obtain ⟨p0, h0, hk0⟩ := List.mem_map.mp hm
      obtain ⟨j, hj, e0⟩ := List.getElem_of_mem h0
      have h00 : L[j]? = some p0 := by rw [List.getElem?_eq_getElem hj, e0]
      obtain ⟨c', a1, a2, a3⟩ := hre j p0 h00 hk0
      refine hno (c' - c) j (by omega) ?_ ((hAt j p0 h00).trans (same p0 hk0))
      rw [e1, show c + (c' - c) = c' by omega]
      exact a3
end
end My
/-! S3 -/
namespace My
open PySem PySem.Spec PyProof.Rows L2
section
variable {P : Program} {w : World} {A : Around} {E : Value → Shared → Prop} {s : Shared} {a : Addr} {L : List Rw} {es : Array (Int × Value)} {ep : Nat} {t : SetTable}
theorem turns_le {t : SetTable} {hs : List Int} (T : TabOk t hs) : 10 * SetTable.turns t.mask ≤ 1420 := by
  unfold SetTable.turns
  rcases T.mok with e | e | e <;> rw [e] <;> omega
theorem zsearch_at (R : ZT w s.heap a L es ep t) (hk : ∀ p ∈ L, IsK s.heap p) {x : Addr} {ks : List NK} (hx : IsK s.heap (.ref x, .tup ks)) (hu : A.units + 8 < cLine) {h : Int} (eh : h = NestedKey.hash w (.tup ks)) {Q : SetFound → Shared → Prop}
    (yes : NestedKey.tup ks ∈ L.map (·.2) → Q (.there none) s)
    (no : ∀ K, NestedKey.tup ks ∉ L.map (·.2) → way t.mask h K ∉ t.place.toList → (∀ c, c < K → way t.mask h c ∈ t.place.toList) → Q (.free (way t.mask h K) false) s) :
    wpAny (model P w) A (setSearch a (.ref x) h true) Q E s := by
  have r0 := R.room
  obtain ⟨K, k1, k2, k3⟩ := R.tab.first (by rw [List.length_map]; omega) h
  have kb := turns_le R.tab
  unfold setSearch
  refine zsearch R hk hx hu eh k1 k2 k3 yes (fun hn => no K hn k2 k3) 100000 0 none rfl (Nat.zero_le _) (by omega) fun i p hp he => ?_
  have hi : (L.map (hOf w))[i]? = some h := by rw [List.getElem?_map, hp, eh, ← he]; rfl
  have hil : i < t.place.toList.length := by
    have h1 : i < L.length := (List.getElem?_eq_some_iff.mp hp).1
    rw [Array.length_toList, R.tab.sz, List.length_map]
    exact h1
  have hj := List.getElem?_eq_getElem hil
  obtain ⟨c, hc, e⟩ := R.tab.before k2 hi hj
  exact ⟨c, Nat.zero_le _, hc, by rw [hj, e]⟩
theorem order_rws (L : List Rw) (es : Array (Int × Value)) (order : Array Nat) (hr : es.toList = rws w L) (hp : order.toList.Perm (List.range L.length)) :
    ∃ L2, (order.filterMap (es[·]?)).toList = rws w L2 ∧ L2.Perm L ∧ L2.map (hOf w) = order.toList.map fun i => (es.map (·.1)).getD i 0 := by
  have sz := rws_size hr
  have key : ∀ l : List Nat, (∀ i ∈ l, i < L.length) → ∃ M : List Rw, l.filterMap (fun i => es[i]?) = rws w M ∧ M = l.filterMap (fun i => L[i]?) ∧ M.map (hOf w) = l.map fun i => (es.map (·.1)).getD i 0 := by
    intro l
    induction l with
    | nil => intro _; exact ⟨[], rfl, rfl, rfl⟩
    | cons i l ih =>
      intro hl
      have hi := hl i List.mem_cons_self
      obtain ⟨M, e1, e2, e3⟩ := ih fun j hj => hl j (List.mem_cons_of_mem _ hj)
      have g := rws_get hr (List.getElem?_eq_getElem hi)
      refine ⟨L[i] :: M, ?_, ?_, ?_⟩
      · rw [List.filterMap_cons_some g, e1]
        rfl
      · rw [List.filterMap_cons_some (List.getElem?_eq_getElem hi), e2]
      · rw [List.map_cons, List.map_cons, e3]
        have e5 : (es.map (·.1))[i]? = some (hOf w L[i]) := by rw [Array.getElem?_map, g]; rfl
        rw [Array.getD_eq_getD_getElem?, e5]
        rfl
  obtain ⟨M, e1, e2, e3⟩ := key order.toList fun i hi => List.mem_range.mp (hp.mem_iff.mp hi)
  have all : ∀ n, n ≤ L.length → (List.range n).filterMap (fun i => L[i]?) = L.take n := by
    intro n
    induction n with
    | zero => intro _; rfl
    | succ n ih =>
      intro hn
      rw [List.range_succ, List.filterMap_append, ih (by omega), List.take_add_one, List.getElem?_eq_getElem hn, List.filterMap_cons_some (List.getElem?_eq_getElem hn)]
      rfl
  refine ⟨M, by first | (rw [Array.toList_filterMap]; exact e1) | simpa using e1, ?_, e3⟩
  have h1 : M.Perm ((List.range L.length).filterMap fun i => L[i]?) := e2 ▸ hp.filterMap _
  rw [all _ (Nat.le_refl _), List.take_length] at h1
  exact h1
theorem lifted (ho : ∃ o, s.heap.get? a = some o ∧ o.ExactSet ∧ o.data = .set es ep t) (es' : Array (Int × Value)) (t' : SetTable) : ∃ o, (s.heap.update a (Obj.putSet es' t')).get? a = some o ∧ o.ExactSet ∧ o.data = .set es' (ep + 1) t' := by
  obtain ⟨o, ho, hex, hd⟩ := ho
  exact ⟨_, store_at ho hd, ⟨hex.1, hex.2.1, hex.2.2⟩, rfl⟩
/-- laid anew, larger -/
theorem zrelay (ob : ∃ o, s.heap.get? a = some o ∧ o.ExactSet ∧ o.data = .set es ep t) (rs : es.toList = rws w L) (T : TabOk t (L.map (hOf w))) (nd : (L.map (·.2)).Nodup) (refs : ∀ p ∈ L, TupR p) (ld : w.params.followText "set-order" = true ∨ t.led = true) (few : L.length ≤ 70) {wanted M : Nat}
    (hw : SetTable.sizeAbove wanted - 1 = M) (hM : MaskOk M) (hw2 : SetTable.sizeAbove wanted ≤ 128) (ht : L.length ≤ t.mask) (hn : L.length * 5 < M * 3) {Q : Unit → Shared → Prop}
    (q : ∀ h' L' es' ep' t', Heap.SameBut a s.heap h' → ZT w h' a L' es' ep' t' → L'.Perm L → Q () { s with heap := h' }) : wpAny (model P w) A (setRelay a wanted) Q E s := by
  have sz := rws_size rs
  have fit := fits_of T (n := es.size) (by rw [List.length_map, sz]) (by omega)
  obtain ⟨t', order, e, hp, T', em, el, _, _⟩ := relaid_ok t (hs := es.map (·.1)) (wanted := wanted) hw hM (by rw [Array.size_map, sz]; omega)
  rw [Array.size_map, sz] at hp
  obtain ⟨M2, r1, r2, r3⟩ := order_rws L es order rs hp
  rw [← r3] at T'
  have hs2 : (order.filterMap (es[·]?)).size = es.size := by rw [rws_size r1, r2.length_eq, sz]
  obtain ⟨o, ho, hex, hd⟩ := id ob
  rw [setRelay_eq]
  refine wpAny_bind (wpAny_setState_of ho hd fit ?_)
  dsimp only
  refine L2.wp_if_neg (by rw [sizeLine_eq]; omega) ?_
  try refine wpAny_bind (wpAny_pure ?_)
  rw [e]
  dsimp only
  refine wpAny_bind (L2.wp_if_neg (by rw [hs2]; simp) ?_)
  try refine wpAny_bind (wpAny_pure ?_)
  refine wpAny_pure ?_
  dsimp only
  refine wpAny_storeSet_of ho hd ?_ (by rw [hs2, sz, sizeLine_eq]; omega)
  refine q _ M2 _ (ep + 1) t' (Heap.SameBut.update ..) ⟨⟨lifted ob _ _, r1, T'.ris, ?_, (r2.map (·.2)).nodup_iff.mpr nd, by rw [el]; exact ld, by rw [r2.length_eq]; omega⟩, T', fun p hp => refs p (r2.mem_iff.mp hp), by rw [r2.length_eq, em]; exact hn, by rw [r2.length_eq]; exact few⟩ r2
  exact fits_of T' (by rw [List.length_map, rws_size r1]) (by rw [hs2, sz, em]; omega)
theorem TabOk.unplain {t : SetTable} {hs : List Int} (T : TabOk t hs) : TabOk { t with plain := false } hs := ⟨T.ris, T.dm, T.sz, T.mok, T.bd, T.reach⟩
theorem mid_perm {α : Type} (L : List α) (n : Nat) (x : α) : (L.take n ++ x :: L.drop n).Perm (x :: L) := by
  have h : (L.take n ++ x :: L.drop n).Perm (x :: (L.take n ++ L.drop n)) := List.perm_middle
  rwa [List.take_append_drop] at h
/-- what adding a row does -/
def AddQ (w : World) (a : Addr) (SR : Heap → List Rw → Prop) (L : List Rw) (p : Rw) (s : Shared) (Q : Bool → Shared → Prop) : Prop :=
  ∀ b h' L', Heap.SameBut a s.heap h' → SR h' L' → (p.2 ∈ L.map (·.2) → L' = L) → (p.2 ∉ L.map (·.2) → L'.Perm (p :: L)) → Q b { s with heap := h' }
def ZTs (w : World) (a : Addr) : Heap → List Rw → Prop := fun h L => ∃ es ep t, ZT w h a L es ep t
theorem zadd (R0 : ZTs w a s.heap L) (hk : ∀ p ∈ L, IsK s.heap p) {p : Rw} (hx : IsK s.heap p) (hr : TupR p) (hu : A.units + 8 < cLine) (hfew : p.2 ∉ L.map (·.2) → L.length + 1 ≤ 70) {Q : Bool → Shared → Prop} (q : AddQ w a (ZTs w a) L p s Q) :
    wpAny (model P w) A (setAddHashed a p.1 (hOf w p)) Q E s := by
  obtain ⟨es, ep, t, R⟩ := R0
  obtain ⟨x, ks, rfl⟩ := hr
  have sz := rws_size R.z.rows
  have r0 := R.room
  obtain ⟨o, ho, hex, hd⟩ := id R.z.ob
  obtain ⟨h, eh⟩ : ∃ h, h = NestedKey.hash w (.tup ks) := ⟨_, rfl⟩
  show wpAny _ _ (setAddHashed a (.ref x) (NestedKey.hash w (.tup ks))) _ _ _
  rw [← eh]
  unfold setAddHashed
  refine wpAny_holding ?_
  rw [show (100000 : Nat) = 99999 + 1 from rfl, setAddHashedIn_succ]
  refine wpAny_bind (wpAny_setState_of ho hd R.z.fit ?_)
  dsimp only
  refine L2.wp_if_neg (by simp [byScan, Value.scannable]) ?_
  try refine wpAny_bind (wpAny_pure ?_)
  refine wpAny_bind (zsearch_at R hk hx hu eh (fun hm => ?_) fun K hm k2 k3 => ?_)
  · dsimp only
    exact wpAny_pure (q false s.heap L (Heap.SameBut.refl a s.heap) ⟨es, ep, t, R⟩ (fun _ => rfl) fun z => absurd hm z)
  · dsimp only
    have hfew := hfew hm
    refine wpAny_bind (wpAny_setState_of ho hd R.z.fit ?_)
    dsimp only
    obtain ⟨q1, q2, q3, q4, q5, q6, q7, q8, q9⟩ := R.tab.put k2 k3
    generalize t.put (way t.mask h K) = pt at q1 q3 q4 q5 q6 q7 q8 q9 ⊢
    obtain ⟨t1, n⟩ := pt
    dsimp only at q1 q3 q4 q5 q6 q7 q8 q9 ⊢
    subst q1
    generalize SetTable.below t.place (way t.mask h K) = n at q2 q3 ⊢
    have pm := mid_perm L n (Value.ref x, NestedKey.tup ks)
    have rs1 : (SetTable.insertAt es n (h, Value.ref x)).toList = rws w (L.take n ++ (Value.ref x, NestedKey.tup ks) :: L.drop n) := by
      rw [SetTable.toList_insertAt, R.z.rows, eh]
      unfold rws
      rw [List.map_append, List.map_cons, List.map_take, List.map_drop]
    have hhs : (L.take n ++ (Value.ref x, NestedKey.tup ks) :: L.drop n).map (hOf w) = (L.map (hOf w)).take n ++ h :: (L.map (hOf w)).drop n := by
      rw [List.map_append, List.map_cons, List.map_take, List.map_drop, eh]
    rw [← hhs] at q3
    generalize L.take n ++ (Value.ref x, NestedKey.tup ks) :: L.drop n = L1 at pm q3 rs1
    have len1 : L1.length = L.length + 1 := pm.length_eq
    have nd1 : (L1.map (·.2)).Nodup := (pm.map (·.2)).nodup_iff.mpr (List.nodup_cons.mpr ⟨hm, R.z.nd⟩)
    have refs1 : ∀ p ∈ L1, TupR p := fun p hp => by
      rcases List.mem_cons.mp (pm.mem_iff.mp hp) with e | hp
      · exact ⟨x, ks, e⟩
      · exact R.refs p hp
    have sz1 := rws_size rs1
    generalize SetTable.insertAt es n (h, Value.ref x) = es1 at rs1 sz1 ⊢
    have fill1 : t1.fill = L.length + 1 := by rw [q9, List.length_map]
    have go : ∀ t2 : SetTable, TabOk t2 (L1.map (hOf w)) → t2.mask = t.mask → t2.led = t.led → t2.fill = L.length + 1 → wpAny (model P w) A (storeSet a es1 t2 >>= fun _ => if (!false && t2.tooFull) = true then (setRelay a (SetTable.grown (es.size + 1)) >>= fun _ => pure true) else pure true) Q E s := fun t2 T2 em el ef => by
      refine wpAny_bind (wpAny_storeSet_of ho hd ?_ (by rw [sz1, len1, sizeLine_eq]; omega))
      have sb : Heap.SameBut a s.heap (s.heap.update a (Obj.putSet es1 t2)) := Heap.SameBut.update ..
      have ob1 := lifted R.z.ob es1 t2
      have ld : w.params.followText "set-order" = true ∨ t2.led = true := by rw [el]; exact R.z.led
      by_cases hf : t2.tooFull = true
      · refine L2.wp_if_pos (by simp [hf]) (wpAny_bind ?_)
        have hfull : (L.length + 1) * 5 ≥ t.mask * 3 := by
          have z := hf
          unfold SetTable.tooFull at z
          rw [decide_eq_true_eq, ef, em] at z
          exact z
        have two : (t.mask = 7 ∧ L.length = 4) ∨ (t.mask = 31 ∧ L.length = 18) := by
          rcases R.tab.mok with e | e | e <;> rw [e] at hfull r0
          · exact .inl ⟨e, by omega⟩
          · exact .inr ⟨e, by omega⟩
          · omega
        have go2 : ∀ M, SetTable.sizeAbove (SetTable.grown (es.size + 1)) - 1 = M → MaskOk M → SetTable.sizeAbove (SetTable.grown (es.size + 1)) ≤ 128 → (L.length + 1) * 5 < M * 3 → wpAny (model P w) A (setRelay a (SetTable.grown (es.size + 1))) (fun _ s' => wpAny (model P w) A (pure true) Q E s') E { s with heap := s.heap.update a (Obj.putSet es1 t2) } :=
          fun M m1 m2 m3 m4 => zrelay (s := { s with heap := s.heap.update a (Obj.putSet es1 t2) }) ob1 rs1 T2 nd1 refs1 ld (by omega) m1 m2 m3 (by rw [len1, em]; omega) (by rw [len1]; exact m4) fun h2 L2 es2 ep2 t3 sb2 R2 pm2 =>
            wpAny_pure (q true h2 L2 (sb.trans sb2) ⟨es2, ep2, t3, R2⟩ (fun z => absurd z hm) fun _ => pm2.trans pm)
        rw [sz] at go2 ⊢
        rcases two with ⟨_, e2⟩ | ⟨_, e2⟩
        · exact go2 31 (by rw [e2, size_20]) (.inr (.inl rfl)) (by rw [e2, size_20]; decide) (by omega)
        · exact go2 127 (by rw [e2, size_76]) (.inr (.inr rfl)) (by rw [e2, size_76]; decide) (by omega)
      · refine L2.wp_if_neg (by simp [hf]) ?_
        have hfull : (L.length + 1) * 5 < t.mask * 3 := by
          have z := hf
          unfold SetTable.tooFull at z
          rw [decide_eq_true_eq, ef, em] at z
          omega
        refine wpAny_pure (q true _ L1 sb ⟨es1, ep + 1, t2, ⟨ob1, rs1, T2.ris, fits_of T2 (by rw [List.length_map, sz1]) (by rw [sz1, len1, em]; omega), nd1, ld, by omega⟩, T2, refs1, by rw [len1, em]; exact hfull, by omega⟩ (fun z => absurd z hm) fun _ => pm)
    by_cases hp1 : t1.plain = true
    · first
        | (refine wpAny_bind ?_; refine L2.wp_if_pos hp1 ?_; refine hashBy_key _ _ 8 s hx.1 hx.2 A E _ fun b => ?_)
        | (refine L2.wp_if_pos hp1 (wpAny_bind (hashBy_key _ _ 8 s hx.1 hx.2 A E _ fun b => ?_)))
      cases b with
      | true =>
        simp only [if_true]
        exact go t1 q3 q4 q5 fill1
      | false =>
        simp only [Bool.false_eq_true, if_false]
        exact go _ (TabOk.unplain q3) q4 q5 fill1
    · first
        | (refine wpAny_bind ?_; refine L2.wp_if_neg hp1 ?_; refine wpAny_pure ?_)
        | (refine L2.wp_if_neg hp1 (wpAny_bind (wpAny_pure ?_)))
      simp only [if_true]
      exact go t1 q3 q4 q5 fill1
end
end My
/-! S4 -/
namespace My
open PySem PySem.Spec PyProof.Rows L2
def TxtR (p : Rw) : Prop := ∃ x u, p = (.str x u, .text x)
def ZXs (w : World) (a : Addr) : Heap → List Rw → Prop := fun h L => (∃ es ep t, ZR w h a L es ep t) ∧ ∀ p ∈ L, TxtR p
section
variable {P : Program} {w : World} {A : Around} {E : Value → Shared → Prop} {s : Shared} {a : Addr} {L : List Rw} {es : Array (Int × Value)} {ep : Nat} {t : SetTable}
theorem txt_elems (hL : ∀ p ∈ L, TxtR p) : ElemsOf (strKind P w) (rws w L) := fun e he => by
  obtain ⟨p, hp, rfl⟩ := List.mem_map.mp he
  obtain ⟨x, u, rfl⟩ := hL p hp
  exact ⟨⟨x, strKind_is P w x u, rfl⟩, rfl⟩
theorem txt_is {p : Rw} (hp : TxtR p) (x : Str) : (strKind P w).is x p.1 = true ↔ p.2 = .text x := by
  obtain ⟨y, u, rfl⟩ := hp
  constructor
  · intro h
    have e := (strKind P w).inj _ _ _ h (strKind_is P w y u)
    rw [e]
  · intro h
    injection h with h
    rw [← h]
    exact strKind_is P w y u
/-- what stands behind a scan that has found nothing -/
theorem xtail {g : Bool → Sem Unit} (hg : ∀ (b : Bool) (z : Shared) (Q' : Unit → Shared → Prop), Q' () z → wpAny (model P w) A (g b) Q' E z) (ob : ∃ o, s.heap.get? a = some o ∧ o.ExactSet ∧ o.data = .set es ep t)
    {es1 : Array (Int × Value)} {t2 : SetTable} {L1 : List Rw} (rs : es1.toList = rws w L1) (nd : (L1.map (·.2)).Nodup) (hL : ∀ p ∈ L1, TxtR p) (few : L1.length ≤ 4000) (hf2 : t2.fits es1.size = true) (hr : Ris t2.place.toList) (hl : w.params.followText "set-order" = true ∨ t2.led = true) {wd : Bool} {R : Option Bool → Shared → Prop}
    (q : ∀ h' L', Heap.SameBut a s.heap h' → ZXs w a h' L' → L'.Perm L1 → R (some true) { s with heap := h' }) :
    wpAny (model P w) A (storeSet a es1 t2 >>= fun _ => if (!wd && t2.tooFull) = true then (g (relayAll t2 es1 (SetTable.grown es1.size)).2.2 >>= fun _ => storeSet a (relayAll t2 es1 (SetTable.grown es1.size)).1 (relayAll t2 es1 (SetTable.grown es1.size)).2.1 >>= fun _ => pure (some true)) else pure (some true)) R E s := by
  have sz1 := rws_size rs
  obtain ⟨o, ho, hex, hd⟩ := id ob
  refine wpAny_bind (wpAny_storeSet_of ho hd ?_ (by rw [sz1, sizeLine_eq]; omega))
  have ob1 := lifted ob es1 t2
  have sb1 : Heap.SameBut a s.heap (s.heap.update a (Obj.putSet es1 t2)) := Heap.SameBut.update ..
  split
  · have pm := relayAll_perm t2 es1 (SetTable.grown es1.size)
    have f3 := relayAll_fits t2 es1 (SetTable.grown es1.size)
    have r3 := relayAll_ris t2 es1 (SetTable.grown es1.size)
    have l3 := relayAll_led t2 es1 (SetTable.grown es1.size)
    generalize relayAll t2 es1 (SetTable.grown es1.size) = Z at pm f3 r3 l3 ⊢
    obtain ⟨es2, t3, gave⟩ := Z
    dsimp only at pm f3 r3 l3 ⊢
    obtain ⟨L2, rs2, p2⟩ := rws_perm pm L1 rs
    have sz2 := rws_size rs2
    obtain ⟨o1, ho1, hex1, hd1⟩ := id ob1
    refine wpAny_bind (hg _ _ _ (wpAny_bind (wpAny_storeSet_of ho1 hd1 ?_ (by rw [sz2, p2.length_eq, sizeLine_eq]; omega))))
    refine wpAny_pure (q _ L2 (sb1.trans (Heap.SameBut.update _ a _)) ⟨⟨es2, ep + 1 + 1, t3, lifted (s := { s with heap := s.heap.update a (Obj.putSet es1 t2) }) ob1 es2 t3, rs2, r3, f3, (p2.map (·.2)).nodup_iff.mpr nd, ?_, by rw [p2.length_eq]; exact few⟩, fun p hp => hL p (p2.mem_iff.mp hp)⟩ p2)
    exact hl.imp id fun z => by rw [l3]; exact z
  · exact wpAny_pure (q _ L1 sb1 ⟨⟨es1, ep + 1, t2, ob1, rs, hr, hf2, nd, hl, few⟩, hL⟩ (.refl L1))
theorem xadd (R0 : ZXs w a s.heap L) {p : Rw} (hx : TxtR p) (hfew : p.2 ∉ L.map (·.2) → L.length + 1 ≤ 4000) {Q : Bool → Shared → Prop} (q : AddQ w a (ZXs w a) L p s Q) :
    wpAny (model P w) A (setAddHashed a p.1 (hOf w p)) Q E s := by
  obtain ⟨⟨es, ep, t, R⟩, hL⟩ := id R0
  obtain ⟨x, u, rfl⟩ := id hx
  have sz := rws_size R.rows
  obtain ⟨o, ho, hex, hd⟩ := id R.ob
  have hkey : (strKind P w).is x (.str x u) = true := strKind_is P w x u
  have hsc : (Value.str x u).scannable = true := rfl
  have hel : ElemsOf (strKind P w) es.toList := by rw [R.rows]; exact txt_elems hL
  have few4 := R.few
  have hb : es.size < scanBound := by rw [sz]; unfold scanBound; omega
  show wpAny _ _ (setAddHashed a (.str x u) ((strKind P w).hash x)) _ _ _
  unfold setAddHashed setAddHashedIn
  refine wpAny_holding (wpAny_bind (wpAny_setState_of ho hd R.fit ?_))
  dsimp only
  rw [byScan_of hsc hb hel]
  simp only [↓reduceIte]
  unfold setAddByScan
  refine wpAny_bind (wpAny_bind (wpAny_rule (wpAny_bind (wpAny_setScan_of hkey ho hd R.fit hel ?_))))
  have mem : NestedKey.text x ∈ L.map (·.2) ↔ ∃ e ∈ es.toList, (strKind P w).is x e.2 = true := by
    rw [R.rows]
    constructor
    · intro h
      obtain ⟨p, hp, e⟩ := List.mem_map.mp h
      exact ⟨_, List.mem_map.mpr ⟨p, hp, rfl⟩, (txt_is (hL p hp) x).mpr e⟩
    · rintro ⟨e, he, hk⟩
      obtain ⟨p, hp, rfl⟩ := List.mem_map.mp he
      exact List.mem_map.mpr ⟨p, hp, (txt_is (hL p hp) x).mp hk⟩
  cases hfi : List.findIdx? (fun e => (strKind P w).is x e.2) es.toList with
  | some j =>
    dsimp only
    obtain ⟨hj, pj, _⟩ := List.findIdx?_eq_some_iff_getElem.mp hfi
    have hm := mem.mpr ⟨_, List.getElem_mem hj, pj⟩
    exact wpAny_pure (wpAny_pure (q false s.heap L (Heap.SameBut.refl a s.heap) R0 (fun _ => rfl) fun z => absurd hm z))
  | none =>
    dsimp only
    have hm : NestedKey.text x ∉ L.map (·.2) := fun z => by
      obtain ⟨e, he, k⟩ := mem.mp z
      have c := List.findIdx?_eq_none_iff.mp hfi e he
      rw [k] at c
      cases c
    have hg : ∀ (b : Bool) (z : Shared) (Q' : Unit → Shared → Prop), Q' () z → wpAny (model P w) A (match b with | true => rule "set.scan.the-table-gave-way" | false => pure ()) Q' E z := fun b z Q' k => by
      cases b
      · exact wpAny_pure k
      · exact wpAny_rule k
    have pm := layNew_perm t es ((strKind P w).hash x) (.str x u)
    have f1 := layNew_fits t es ((strKind P w).hash x) (.str x u)
    have r1 := layNew_ris t es ((strKind P w).hash x) (.str x u) R.ris
    have l1 := layNew_led t es ((strKind P w).hash x) (.str x u)
    generalize layNew t es ((strKind P w).hash x) (.str x u) = Z at pm f1 r1 l1 ⊢
    obtain ⟨es1, t1, wd, gave⟩ := Z
    dsimp only at pm f1 r1 l1 ⊢
    rw [Array.toList_push] at pm
    have pc : es1.toList.Perm (((strKind P w).hash x, Value.str x u) :: es.toList) := pm.trans (List.perm_append_singleton _ _)
    obtain ⟨L1, rs1, p1⟩ := rws_perm pc ((Value.str x u, NestedKey.text x) :: L) (by rw [R.rows]; rfl)
    have nd1 : (L1.map (·.2)).Nodup := (p1.map (·.2)).nodup_iff.mpr (List.nodup_cons.mpr ⟨hm, R.nd⟩)
    have hL1 : ∀ p ∈ L1, TxtR p := fun p hp => by
      rcases List.mem_cons.mp (p1.mem_iff.mp hp) with e | hp
      · exact ⟨x, u, e⟩
      · exact hL p hp
    have few1 : L1.length ≤ 4000 := by rw [p1.length_eq]; exact hfew hm
    have ld1 : w.params.followText "set-order" = true ∨ t1.led = true := R.led.imp id fun z => by rw [l1]; exact z
    have fin : ∀ h' L', Heap.SameBut a s.heap h' → ZXs w a h' L' → L'.Perm L1 → Q true { s with heap := h' } := fun h' L' sb r pp => q true h' L' sb r (fun z => absurd z hm) fun _ => pp.trans p1
    refine wpAny_bind (hg _ _ _ ?_)
    split
    · refine wpAny_bind ?_
      rw [hashByValue_scannable 8 hsc]
      refine wpAny_pure ?_
      refine xtail hg R.ob rs1 nd1 hL1 few1 ?_ ?_ ?_ fun h' L' sb r pp => ?_
      · first | (split <;> first | exact f1 | exact SetTable.fits_plain_off f1) | exact f1
      · first | (split <;> exact r1) | exact r1
      · first | (split <;> exact ld1) | exact ld1
      · dsimp only
        exact wpAny_pure (fin h' L' sb r pp)
    · refine wpAny_bind (wpAny_pure ?_)
      simp only [↓reduceIte]
      refine xtail hg R.ob rs1 nd1 hL1 few1 f1 r1 ld1 fun h' L' sb r pp => ?_
      dsimp only
      exact wpAny_pure (fin h' L' sb r pp)
end
end My
/-! S5 -/
namespace My
open PySem PySem.Spec PyProof.Rows L2
/-- pigeons -/
theorem nd_len {α : Type} : ∀ (l D : List α), l.Nodup → (∀ x ∈ l, x ∈ D) → l.length ≤ D.length
  | [], _, _, _ => Nat.zero_le _
  | x :: l, D, hn, hs => by
    obtain ⟨n1, n2⟩ := List.nodup_cons.mp hn
    obtain ⟨A, B, e⟩ := List.append_of_mem (hs x List.mem_cons_self)
    have ih := nd_len l (A ++ B) n2 fun y hy => by
      have hy' := hs y (List.mem_cons_of_mem x hy)
      rw [e] at hy'
      rcases List.mem_append.mp hy' with z | z
      · exact List.mem_append_left _ z
      · rcases List.mem_cons.mp z with z | z
        · exact absurd (z ▸ hy) n1
        · exact List.mem_append_right _ z
    rw [e]
    simp only [List.length_append, List.length_cons] at ih ⊢
    omega
abbrev freshSet (w : World) : Obj := { cls := .type "set", dict := none, data := .set #[] 0 (.fresh 0 0 (!w.params.followText "set-order")) }
structure Adder (P : Program) (w : World) (S : Addr) (SR : Heap → List Rw → Prop) (okk : Rw → Prop) (N : Nat) : Prop where
  keep : ∀ h h' L, SR h L → (∀ o, h.get? S = some o → h'.get? S = some o) → SR h' L
  zr : ∀ h L, SR h L → ∃ es ep t, ZR w h S L es ep t
  new : ∀ h, h.get? S = some (freshSet w) → SR h []
  add : ∀ (A : Around) (E : Value → Shared → Prop) (s : Shared) (L : List Rw) (p : Rw) (Q : Bool → Shared → Prop), SR s.heap L → (∀ q ∈ L, IsK s.heap q) → IsK s.heap p → okk p → A.units + 8 < cLine → (p.2 ∉ L.map (·.2) → L.length + 1 ≤ N) → AddQ w S SR L p s Q →
    wpAny (model P w) A (setAddHashed S p.1 (hOf w p)) Q E s
section
variable {P : Program} {w : World}
theorem ZR.keep {h h' : Heap} {a : Addr} {L : List Rw} {es : Array (Int × Value)} {ep : Nat} {t : SetTable} (R : ZR w h a L es ep t) (k : ∀ o, h.get? a = some o → h'.get? a = some o) : ZR w h' a L es ep t := by
  obtain ⟨o, ho, r⟩ := R.ob
  exact ⟨⟨o, k o ho, r⟩, R.rows, R.ris, R.fit, R.nd, R.led, R.few⟩
theorem ZR.new {h : Heap} {a : Addr} (ho : h.get? a = some (freshSet w)) : ZR w h a [] #[] 0 (.fresh 0 0 (!w.params.followText "set-order")) where
  ob := ⟨_, ho, ⟨rfl, rfl, rfl⟩, rfl⟩
  rows := rfl
  ris := List.Pairwise.nil
  fit := rfl
  nd := List.nodup_nil
  led := by
    show _ ∨ (!w.params.followText "set-order") = true
    cases w.params.followText "set-order"
    · exact .inr rfl
    · exact .inl rfl
  few := Nat.zero_le _
theorem tupAdder (S : Addr) : Adder P w S (ZTs w S) TupR 70 where
  keep h h' L := fun ⟨es, ep, t, R⟩ k => ⟨es, ep, t, R.z.keep k, R.tab, R.refs, R.room, R.few⟩
  zr h L := fun ⟨es, ep, t, R⟩ => ⟨es, ep, t, R.z⟩
  new h ho := ⟨_, _, _, ZR.new ho, ⟨List.Pairwise.nil, rfl, rfl, .inl rfl, fun x hx => (by cases hx), fun i h j hi => (by simp at hi)⟩, fun p hp => (by cases hp), by show 0 * 5 < 7 * 3; decide, Nat.zero_le _⟩
  add A E s L p Q R hk hx ho hu hf q := zadd R hk hx ho hu hf q
theorem txtAdder (S : Addr) : Adder P w S (ZXs w S) TxtR 4000 where
  keep h h' L := fun ⟨⟨es, ep, t, R⟩, hL⟩ k => ⟨⟨es, ep, t, R.keep k⟩, hL⟩
  zr h L := fun R => R.1
  new h ho := ⟨⟨_, _, _, ZR.new ho⟩, fun p hp => (by cases hp)⟩
  add A E s L p Q R hk hx ho hu hf q := xadd R ho hf q
/-- what the first i items have left in the set -/
structure Has (ks : List Rw) (i : Nat) (L : List Rw) : Prop where
  sub : ∀ p ∈ L, p ∈ ks.take i
  all : ∀ p ∈ ks.take i, p.2 ∈ L.map (·.2)
  nd : (L.map (·.2)).Nodup
theorem Has.old {ks L : List Rw} {i : Nat} {x : Rw} (g : Has ks i L) (h : ks[i]? = some x) (hm : x.2 ∈ L.map (·.2)) : Has ks (i + 1) L := by
  have e : ks.take (i + 1) = ks.take i ++ [x] := by rw [List.take_add_one, h]; rfl
  refine ⟨fun p hp => by rw [e]; exact List.mem_append_left _ (g.sub p hp), fun p hp => ?_, g.nd⟩
  rw [e] at hp
  rcases List.mem_append.mp hp with z | z
  · exact g.all p z
  · cases List.mem_singleton.mp z
    exact hm
theorem Has.one {ks L L' : List Rw} {i : Nat} {x : Rw} (g : Has ks i L) (h : ks[i]? = some x) (hm : x.2 ∉ L.map (·.2)) (pm : L'.Perm (x :: L)) : Has ks (i + 1) L' := by
  have e : ks.take (i + 1) = ks.take i ++ [x] := by rw [List.take_add_one, h]; rfl
  refine ⟨fun p hp => ?_, fun p hp => ?_, (pm.map (·.2)).nodup_iff.mpr (List.nodup_cons.mpr ⟨hm, g.nd⟩)⟩
  · rw [e]
    rcases List.mem_cons.mp (pm.mem_iff.mp hp) with z | z
    · cases z
      exact List.mem_append_right _ List.mem_cons_self
    · exact List.mem_append_left _ (g.sub p z)
  · rw [e] at hp
    refine (pm.map (·.2)).mem_iff.mpr ?_
    rcases List.mem_append.mp hp with z | z
    · exact List.mem_cons_of_mem _ (g.all p z)
    · cases List.mem_singleton.mp z
      exact List.mem_cons_self
/-- distinct keys of ks are at most N -/
def Few (ks : List Rw) (N : Nat) : Prop := ∀ l : List NK, l.Nodup → (∀ k ∈ l, k ∈ ks.map (·.2)) → l.length ≤ N
theorem few_len (ks : List Rw) : Few ks ks.length := fun l hn hs => by
  have := nd_len l (ks.map (·.2)) hn hs
  rwa [List.length_map] at this
theorem few_le {ks : List Rw} {N M : Nat} (h : Few ks N) (l : N ≤ M) : Few ks M := fun x hn hs => Nat.le_trans (h x hn hs) l
section
variable {A : Around} {I : Addr} {fp wr : List Addr} {G : Array GenState → Array GenState → Prop} {n : Nat} {Pv : Nat → Value → Prop} {St : Nat → Shared → Prop} {R : Result → Shared → Prop} {SR : Heap → List Rw → Prop} {okk : Rw → Prop} {N : Nat} {S : Addr}
theorem upd_loop (ad : Adder P w S SR okk N) (W : WalksS P w A.in1 I fp wr G n Pv St) (hSf : S ∉ fp) (ks : List Rw) (hn : n = ks.length) (hfew : Few ks N) (hval : ∀ i v, Pv i v → ∃ p, ks[i]? = some p ∧ v = p.1)
    (h0 : Heap) (hk : ∀ p ∈ ks, IsK h0 p) (hok : ∀ p ∈ ks, okk p) (hS0 : h0.get? S = none) (hw0 : ∀ b ∈ wr, h0.get? b = none) (hu : A.in1.units + 8 < cLine) :
    ∀ (m i : Nat) (s : Shared), n - i = m → i ≤ n → St i s → (∀ b o, h0.get? b = some o → s.heap.get? b = some o) → (∃ L, SR s.heap L ∧ Has ks i L) →
      (∀ s' L, Moved (S :: wr) G s s' → SR s'.heap L → Has ks n L → (∀ b o, h0.get? b = some o → s'.heap.get? b = some o) → R (.ok (.ret .none)) s') →
      codeAny (model P w) A (.builtin "set.update.loop" ⟨[.ref S, .ref I], []⟩) R s := by
  have hSw : S ∉ wr := fun h => hSf (W.sub _ h)
  have more : ∀ b ∈ wr, b ∈ S :: wr := fun b hb => List.mem_cons_of_mem S hb
  have stay : ∀ {s s' : Shared}, Moved wr G s s' → (∀ b o, h0.get? b = some o → s.heap.get? b = some o) → ∀ b o, h0.get? b = some o → s'.heap.get? b = some o := fun hm k b o e =>
    hm.heap b o (fun hb => by rw [hw0 b hb] at e; cases e) (k b o e)
  intro m
  induction m with
  | zero =>
    intro i s e1 hi hst hkp ⟨L, hS, g⟩ hR
    obtain rfl : i = n := by omega
    refine codeAny_builtin F.entry_set_update_loop ?_
    rw [Around.under_plainId F.plain_set_update_loop _]
    show wpAny _ A.in1 (pyNext (.ref I) >>= _) _ _ s
    refine wpAny_bind (W.done s _ _ hst fun s' hm => ?_)
    show wpAny _ A.in1 (ret Value.none) _ _ s'
    exact wpAny_pure (hR s' L (hm.mono more) (ad.keep _ _ L hS fun o e => hm.heap S o hSw e) g (stay hm hkp))
  | succ m ih =>
    intro i s e1 hi hst hkp ⟨L, hS, g⟩ hR
    have hlt : i < n := by omega
    refine codeAny_builtin F.entry_set_update_loop ?_
    rw [Around.under_plainId F.plain_set_update_loop _]
    show wpAny _ A.in1 (pyNext (.ref I) >>= _) _ _ s
    refine wpAny_bind (W.item i s _ _ hlt hst fun v s' hP hst' hm => ?_)
    obtain ⟨p, hp, rfl⟩ := hval i v hP
    have hk1 := stay hm hkp
    have hpm : p ∈ ks := List.mem_of_getElem? hp
    have hS1 : SR s'.heap L := ad.keep _ _ L hS fun o e => hm.heap S o hSw e
    have hkL : ∀ q ∈ L, IsK s'.heap q := fun q hq => (hk q (List.mem_of_mem_take (g.sub q hq))).keep hk1
    have hx : IsK s'.heap p := (hk p hpm).keep hk1
    show wpAny _ A.in1 (holding [p.1] (setAdd S p.1) >>= _) _ _ s'
    refine wpAny_bind (wpAny_holding ?_)
    unfold setAdd
    refine wpAny_holding (wpAny_bind (pyHash_key p.2 p.1 A.in1 s' _ hx.1 (by have := hx.2; omega) ?_))
    refine ad.add A.in1 _ { s' with toks := s'.toks + p.2.draws } L p _ hS1 hkL hx (hok p hpm) hu (fun hn => ?_) fun b h' L' hsb hS2 c1 c2 => ?_
    · have := hfew (p.2 :: L.map (·.2)) (List.nodup_cons.mpr ⟨hn, g.nd⟩) fun k hk' => by
        rcases List.mem_cons.mp hk' with e | hk'
        · rw [e]
          exact List.mem_map.mpr ⟨p, hpm, rfl⟩
        · obtain ⟨q, hq, e⟩ := List.mem_map.mp hk'
          exact List.mem_map.mpr ⟨q, List.mem_of_mem_take (g.sub q hq), e⟩
      rwa [List.length_cons, List.length_map] at this
    have g' : Has ks (i + 1) L' := by
      rcases Classical.em (p.2 ∈ L.map (·.2)) with c | c
      · rw [c1 c]
        exact g.old hp c
      · exact g.one hp c (c2 c)
    have hk2 : ∀ b o, h0.get? b = some o → h'.get? b = some o := fun b o e => (hsb.2 b (fun z => by rw [z, hS0] at e; cases e)).trans (hk1 b o e)
    refine wpAny_pure ⟨plainId_quiet F.plain_set_update_loop _, ih (i + 1) _ (by omega) hlt (W.frame _ s' _ _ hst' (Nat.le_add_right _ _) fun b hb o e => ?_) hk2 ⟨L', hS2, g'⟩ fun z Lz hmz hSz gz hkz => ?_⟩
    · rw [hsb.2 b (fun h : b = S => hSf (by rw [← h]; exact hb))]
      exact e
    · refine hR z Lz (Moved.trans W.gtrans ((hm.mono more).then_heap (Nat.le_add_right _ _) fun b o hb e => ?_) hmz) hSz gz hkz
      rw [hsb.2 b (fun h : b = S => hb (by rw [h]; exact List.mem_cons_self))]
      exact e
end
end
end My
/-! S7 -/
namespace My
open PySem PySem.Spec PyProof.Rows L2 PySem.W PySem.Calls
/-- data of one kind that can be sorted: all tuples, or none a tuple or None -/
def SortOk (ds : List PyData) : Prop := (∀ d ∈ ds, ∃ xs, d = .tuple xs) ∨ ∀ d ∈ ds, d ≠ .none ∧ ∀ xs, d ≠ .tuple xs
section
variable {prog : Program} {w : World} {A : Around} {E : Value → Shared → Prop} {s : Shared}
theorem oneLt_tup {xs ys : List PyData} {a b : Value} {as bs : List Addr} {Q : Bool → Shared → Prop} (ra : Reads s.heap a (.tuple xs) as) (rb : Reads s.heap b (.tuple ys) bs) (h : alike (.tuple xs) (.tuple ys) = true)
    (hu : A.units + min (PyData.tuple xs).depth (PyData.tuple ys).depth < cLine) (hq : Q (dataLt (.tuple xs) (.tuple ys)) s) : wpAny (model prog w) A (oneLt' true a b) Q E s := by
  have hal : alikeAll xs ys = true := by simpa [alike] using h
  cases ra with
  | @tuple l o vs n _ _ h1 h2 h3 h4 =>
    cases rb with
    | @tuple l' o' vs' n' _ _ k1 k2 k3 k4 =>
      have n1 : vs.size = xs.length := by simpa using SeqAt.ReadsAll.length _ _ _ h4
      have n2 : vs'.size = ys.length := by simpa using SeqAt.ReadsAll.length _ _ _ k4
      rw [dataLt_tuple, ← firstLt_toks xs ys hal, ← n1, ← n2] at hq
      obtain ⟨ocls, odd, odata, osl⟩ := o
      obtain ⟨pcls, pdd, pdata, psl⟩ := o'
      simp only at h2 h3 k2 k3
      subst h2 h3 k2 k3
      rw [oneLt'_eq]
      simp only [if_true]
      refine wpAny_bind (wpAny_cRoomFor (SeqAt.room_here hu) ?_)
      refine wpAny_bind (wpAny_callSpecialIfBound?_slot (T := "tuple") ⟨_, h1, rfl⟩ PySem.F.slot_tuple_lt
        (call_meets PySem.F.slot_tuple_lt ⟨_, h1, rfl⟩ PySem.F.entry_tuple_lt (PySem.F.args_tuple_lt_2 _ _) (PySem.SeqAt.tuple_ltAt l l' vs vs' n n' odd pdd osl psl (PySem.SeqAt.pairEq xs ys) fun j => dataLt (xs.getD j .none) (ys.getD j .none)) ⟨h1, k1, fun j j1 j2 => ?_, fun j j1 j2 hj => ?_, ?_⟩))
      · have z := eqAt_alikeAll xs ys A.in1 s vs.toList vs'.toList _ _ h4 k4 hal (SeqAt.room_in hu) j (by simpa using j1) (by simpa using j2)
        simpa using z
      · have z := rcLt_alikeAll xs ys A.in1 s vs.toList vs'.toList _ _ h4 k4 hal (SeqAt.room_in hu) j (by simpa using j1) (by simpa using j2) hj
        simpa using z
      · exact wpAny_truthy_bool hq
theorem firsts_of : ∀ (vs : List Value) (ds : List PyData) {Q : List (Option Value) → Shared → Prop}, EachIs (fun v d => ∃ as, Reads s.heap v d as) vs ds → (∀ d ∈ ds, ∃ xs, d = .tuple xs) →
    (∀ fs : List (Option Value), EachIs (fun f d => (f.isSome = true ↔ ∃ x r, d = PyData.tuple (x :: r))) fs ds → Q fs s) → wpAny (model prog w) A (vs.mapM firstOfTuple') Q E s
  | [], [], _, _, _, h => by rw [List.mapM_nil]; exact wpAny_pure (h [] .nil)
  | [], _ :: _, _, t, _, _ => nomatch t
  | _ :: _, [], _, t, _, _ => nomatch t
  | v :: vs, d :: ds, Q, .cons ⟨as, r⟩ t, ht, h => by
    obtain ⟨xs, rfl⟩ := ht d List.mem_cons_self
    rw [List.mapM_cons]
    refine wpAny_bind ?_
    cases r with
    | @tuple a o its n _ _ ho hc hd hr =>
      rw [kas_first_eq]
      refine wpAny_bind (Looks.here (show Looks (model prog w) s.heap (typeOf (.ref a)) o.cls from (Looks.ld ho).andThen .now) ?_)
      rw [hc, if_neg (by first | decide | simp)]
      refine wpAny_bind (listItems_at ho hd (wpAny_pure ?_))
      refine wpAny_bind (firsts_of vs ds (Q := fun bs s' => wpAny (model prog w) A (pure (its[0]? :: bs)) Q E s') t (fun d hd => ht d (List.mem_cons_of_mem _ hd)) fun fs hf => wpAny_pure (h _ (.cons ?_ hf)))
      rw [← Array.getElem?_toList]
      cases q : its.toList with
      | nil =>
        rw [q] at hr
        cases hr
        simp
      | cons f fr =>
        rw [q] at hr
        cases hr
        simp
theorem sortsAt_tups {vs : List Value} {ds : List PyData} (e : EachIs (fun v d => ∃ as, Reads s.heap v d as) vs ds) (hal : AllAlike ds) (hk : SortOk ds) (hu : ∀ d, d ∈ ds → A.units + d.depth < cLine) : SortsAt prog w A s (dataKind s.heap ds) vs := by
  rcases hk with ht | hn
  · by_cases full : ∀ d ∈ ds, ∃ x r, d = PyData.tuple (x :: r)
    · exact SortsAt.data e hal (.inl full) hu
    · refine ⟨fun v hv => ?_, ?_⟩
      · obtain ⟨d, hd, as, r⟩ := e.left v hv
        exact ⟨_, dataKind_some hal hd r⟩
      · have lt : ∀ (b : Bool), H.LtAt prog w A s (dataKind s.heap ds) (if b = true then oneType' else general') := by
          intro b E x y a c Q ha hb hq
          obtain ⟨d, as, hd, ra, rfl⟩ := dataKind_inv ha
          obtain ⟨d', as', hd', rb, rfl⟩ := dataKind_inv hb
          have room : A.units + min d.depth d'.depth < cLine := Nat.lt_of_le_of_lt (Nat.add_le_add_left (Nat.min_le_left _ _) _) (hu d hd)
          obtain ⟨xs, rfl⟩ := ht d hd
          obtain ⟨ys, rfl⟩ := ht d' hd'
          cases b with
          | true => exact oneLt_tup ra rb (hal _ hd _ hd') room hq
          | false => exact oneLt_alike (f := false) (fun z => nomatch z) ra rb (hal _ hd _ hd') (fun z => nomatch z) room hq
        have kinds : ∃ b : Bool, 2 ≤ vs.length → ∀ (E : Value → Shared → Prop) {Q : SortKind → Shared → Prop}, Q (if b = true then oneType' else general') s → wpAny (model prog w) A (keyKind' vs.toArray) Q E s := by
          cases ds with
          | nil => exact absurd (fun d hd => nomatch hd) full
          | cons d0 ds =>
            have types : ∀ v ∈ vs, Looks (model prog w) s.heap (typeOf v) (Value.type "tuple") := fun v hv => by
              obtain ⟨d, hd, as, r⟩ := e.left v hv
              obtain ⟨xs, rfl⟩ := ht d hd
              exact looks_reads r
            have go : ∀ (b : Bool), (b = false ↔ ∃ x r, d0 = PyData.tuple (x :: r)) → ∀ (E : Value → Shared → Prop) {Q : SortKind → Shared → Prop}, Q (if b = true then oneType' else general') s → wpAny (model prog w) A (keyKind' vs.toArray) Q E s := by
              intro b hb E Q hq
              rw [keyKind'_eq, List.mapM_toArray, map_eq_pure_bind]
              refine wpAny_bind (wpAny_bind (firsts_of vs _ e ht fun fs hf => wpAny_pure ?_))
              have nall : ¬ (fs.toArray.all fun x => x.isSome) = true := fun z => full fun d hd => by
                rw [List.all_toArray, List.all_eq_true] at z
                have key : ∀ {fs : List (Option Value)} {ds : List PyData}, EachIs (fun f d => (f.isSome = true ↔ ∃ x r, d = PyData.tuple (x :: r))) fs ds → (∀ f ∈ fs, f.isSome = true) → ∀ d ∈ ds, ∃ x r, d = PyData.tuple (x :: r) := by
                  intro fs ds h
                  induction h with
                  | nil => intro _ d hd; cases hd
                  | cons h1 _ ih =>
                    intro hf d hd
                    rcases List.mem_cons.mp hd with rfl | hd
                    · exact h1.mp (hf _ List.mem_cons_self)
                    · exact ih (fun f hf' => hf f (List.mem_cons_of_mem _ hf')) d hd
                exact key hf z d hd
              rw [if_neg nall]
              cases hf with
              | @cons f _ fs' _ h1 h2 =>
                cases b with
                | false =>
                  have z : ((((f :: fs').toArray)[0]?).bind id).isSome = true := by simpa using h1.mpr (hb.mp rfl)
                  rw [if_pos z]
                  exact wpAny_pure hq
                | true =>
                  have z : ¬ ((((f :: fs').toArray)[0]?).bind id).isSome = true := fun y => by
                    have y' : f.isSome = true := by simpa using y
                    exact nomatch hb.mpr (h1.mp y')
                  rw [if_neg z]
                  rw [oneTypeOnly'_eq, List.mapM_toArray, map_eq_pure_bind]
                  refine wpAny_bind (wpAny_bind (wpAny_bind (kas_mapM (r := Value.type "tuple") _ (fun v hv Q' q' => (types v hv).here q') (wpAny_pure ?_))))
                  have fin : ∀ l : List Value, l ≠ [] → wpAny (model prog w) A (match (l.map fun _ => Value.type "tuple").toArray[0]? with | some t => (pure (if ((l.map fun _ => Value.type "tuple").toArray.all fun x => x == t) = true then some t else none) : Sem (Option Value)) | none => pure none) (fun r s' => wpAny (model prog w) A (pure (if r.isSome = true then oneType' else general')) Q E s') E s := by
                    intro l hl
                    cases l with
                    | nil => exact absurd rfl hl
                    | cons v l =>
                      have a2 : (((v :: l).map fun _ => Value.type "tuple").toArray.all fun x => x == Value.type "tuple") = true := by
                        simp only [List.all_toArray, List.all_eq_true]
                        intro x hx
                        obtain ⟨_, _, rfl⟩ := List.mem_map.mp hx
                        exact beq_self_eq_true _
                      have a0 : ((v :: l).map fun _ => Value.type "tuple").toArray[0]? = some (Value.type "tuple") := rfl
                      rw [a0]
                      dsimp only
                      rw [a2]
                      exact wpAny_pure (wpAny_pure hq)
                  exact fin vs (by rintro rfl; cases e)
            by_cases c : ∃ x r, d0 = PyData.tuple (x :: r)
            · exact ⟨false, fun _ => go false ⟨fun _ => c, fun _ => rfl⟩⟩
            · exact ⟨true, fun _ => go true (Iff.intro (fun z => nomatch z) fun z => absurd z c)⟩
        obtain ⟨b, hb⟩ := kinds
        exact ⟨_, lt b, hb⟩
  · exact SortsAt.data e hal (.inr hn) hu
end
end My
/-! S8 -/
namespace My
open PySem PySem.Spec PyProof.Rows L2 PySem.W PySem.Calls
mutual
theorem reads_nil : ∀ (d : PyData) (h : Heap) (v : Value) (as : List Addr), tupD d = true → Reads h v d as → as = []
  | .none, _, _, _, _, r => by cases r; rfl
  | .bool _, _, _, _, _, r => by cases r; rfl
  | .int _, _, _, _, _, r => by cases r; rfl
  | .str _, _, _, _, _, r => by cases r; rfl
  | .list _, _, _, _, z, _ => by simp [tupD] at z
  | .dict _, _, _, _, z, _ => by simp [tupD] at z
  | .tuple xs, h, _, _, z, r => by
    simp only [tupD] at z
    cases r with
    | tuple h1 h2 h3 h4 => exact readsAll_nil xs h _ _ z h4
theorem readsAll_nil : ∀ (ds : List PyData) (h : Heap) (vs : List Value) (as : List Addr), tupDs ds = true → ReadsAll h vs ds as → as = []
  | [], _, _, _, _, r => by cases r; rfl
  | d :: ds, h, _, _, z, r => by
    simp only [tupDs, Bool.and_eq_true] at z
    cases r with
    | cons h1 h2 => rw [reads_nil d h _ _ z.1 h1, readsAll_nil ds h _ _ z.2 h2]; rfl
end
section
variable {prog : Program} {w : World} {A : Around} {E : Value → Shared → Prop} {s : Shared} {β : Type} {val : β → Value} {enc : β → PyData}
theorem each_of {R : Value → β → Prop} : ∀ {bs : List β}, (∀ b ∈ bs, R (val b) b) → EachIs R (bs.map val) bs
  | [], _ => .nil
  | b :: bs, h => .cons (h b List.mem_cons_self) (each_of fun c hc => h c (List.mem_cons_of_mem _ hc))
theorem each_eq : ∀ {us : List Value} {bs : List β}, EachIs (fun v b => v = val b) us bs → us = bs.map val
  | _, _, .nil => rfl
  | _, _, .cons h t => by rw [h, each_eq t]; rfl
theorem allAlike_perm {ds es : List PyData} (h : AllAlike ds) (p : ∀ d ∈ es, d ∈ ds) : AllAlike es := fun d hd d' hd' => h d (p d hd) d' (p d' hd')
/-- list.sort of a new list whose items read as data without lists -/
theorem sort_fresh {a : Addr} {n : Nat} {bs : List β} {P : PySem.Fin → Shared → Prop} (ho : s.heap.get? a = some (seqObj "list" (bs.map val).toArray n)) (hr : ∀ b ∈ bs, ∃ as, Reads s.heap (val b) (enc b) as) (ht : ∀ b ∈ bs, tupD (enc b) = true)
    (hal : AllAlike (bs.map enc)) (hk : SortOk (bs.map enc)) (hL : bs.length ≤ sizeLine) (hu : ∀ b ∈ bs, A.units + (enc b).depth < cLine)
    (q : P (.done (.ret .none)) { s with heap := sortedHeap s.heap a (bs.map val) ((bs.mergeSort (dataLe false enc)).map val).toArray }) : wpAny (model prog w) A (Builtin.«list.sort» ⟨[.ref a], []⟩) P E s := by
  have er : EachIs (fun v b => ∃ as, Reads s.heap v (enc b) as ∧ a ∉ as) (bs.map val) bs := each_of fun b hb => by
    obtain ⟨as, r⟩ := hr b hb
    exact ⟨as, r, by rw [reads_nil _ _ _ _ (ht b hb) r]; exact List.not_mem_nil⟩
  have er' : EachIs (fun v b => ∃ as, Reads (sortingHeap s.heap a (bs.map val)) v (enc b) as) (bs.map val) bs := each_keepBut (h' := sortingHeap s.heap a (bs.map val)) (fun _ _ hb z => sortingHeap_old hb z) (fun o z => by rw [ho] at z; rw [← Option.some.inj z]) hal er
  refine list_sort_vals (κ := dataKind (sortingHeap s.heap a (bs.map val)) (bs.map enc)) ho (sortsAt_tups (s := { s with heap := sortingHeap s.heap a (bs.map val) }) (each_map (R := fun v d => ∃ as, Reads (sortingHeap s.heap a (bs.map val)) v d as) enc er') hal hk (bound_map hu)) (by rw [List.length_map]; exact hL) ?_
  have out := sortVals_data (R := fun v b => v = val b) false (each_of (val := val) fun b _ => rfl) er' hal
  rw [each_eq out]
  exact q
/-- sorted(x): what x's items come to is collected, then sorted -/
theorem sorted_any {x : Value} {C : List β → Prop} (col : ∀ (E : Value → Shared → Prop) (Q : List Value → Shared → Prop), (∀ z bs, (∀ b o, s.heap.get? b = some o → z.heap.get? b = some o) → z.gens = s.gens → z.os = s.os → C bs → Q (bs.map val) z) → wpAny (model prog w) A.in1 (collect x) Q E s)
    (hr : ∀ bs, C bs → ∀ b ∈ bs, ∃ as, Reads s.heap (val b) (enc b) as) (ht : ∀ bs, C bs → ∀ b ∈ bs, tupD (enc b) = true) (hal : ∀ bs, C bs → AllAlike (bs.map enc)) (hk : ∀ bs, C bs → SortOk (bs.map enc)) (hL : ∀ bs, C bs → bs.length ≤ sizeLine) (hu : ∀ bs, C bs → ∀ b ∈ bs, A.units + 2 + (enc b).depth < cLine) {Q : Value → Shared → Prop}
    (q : ∀ (z : Shared) h' bs c, C bs → (∀ b o, s.heap.get? b = some o → z.heap.get? b = some o) → z.gens = s.gens → z.os = s.os → (∀ b o, z.heap.get? b = some o → h'.get? b = some o) → h'.get? z.heap.objs.size = some (seqObj "list" ((bs.mergeSort (dataLe false enc)).map val).toArray c) → Q (.ref z.heap.objs.size) { z with heap := h' }) :
    wpAny (model prog w) A (call (.builtin "sorted") [x]) Q E s := by
  refine Calls.call_function_entry kind_sorted plain_sorted entry_sorted (args_sorted1 _) ?_
  unfold Builtin.«sorted»
  refine wpAny_bind (m := checkCount "sorted" 1 1 _) (wpAny_pure ?_)
  refine wpAny_bind (col _ _ fun z bs k g o hC => ?_)
  refine wpAny_bind (wpAny_newList ?_ (by rw [List.length_map]; exact hL bs hC))
  have hoL : (z.heap.push (seqObj "list" (bs.map val).toArray 0)).get? z.heap.objs.size = some (seqObj "list" (bs.map val).toArray 0) := Heap.get?_push_size _ rfl
  have k2 : ∀ b o, s.heap.get? b = some o → (z.heap.push (seqObj "list" (bs.map val).toArray 0)).get? b = some o := fun b o e => Heap.get?_push_of_some _ (k b o e)
  refine wpAny_bind (wpAny_holding (wpAny_call_entry slot_list_sort ⟨_, hoL, rfl⟩ entry_list_sort (sort_fresh (s := { z with heap := z.heap.push (seqObj "list" (bs.map val).toArray 0) }) (enc := enc) hoL (fun b hb => ?_) (ht bs hC) (hal bs hC) (hk bs hC) (hL bs hC) (fun b hb => ?_) ⟨_, rfl, ?_⟩) (args_list_sort _)))
  · obtain ⟨as, r⟩ := hr bs hC b hb
    exact ⟨as, PyProof.Rows.Reads.keeps k2 r⟩
  · have := hu bs hC b hb
    simp only [Around.in1_units]
    omega
  · obtain ⟨c, hc⟩ := sortedHeap_at (vs := bs.map val) (out := ((bs.mergeSort (dataLe false enc)).map val).toArray) hoL
    refine wpAny_pure ⟨_, rfl, q z _ bs c hC k g o (fun b u e => ?_) hc⟩
    have lt := Heap.lt_size e
    show (sortedHeap (z.heap.push (seqObj "list" (bs.map val).toArray 0)) z.heap.objs.size (bs.map val) _).get? b = some u
    rw [sortedHeap_old (Nat.ne_of_lt lt) (by rw [size_push']; exact Nat.lt_succ_of_lt lt)]
    exact Heap.get?_push_of_some _ e
end
end My
/-! S6 -/
namespace My
open PySem PySem.Spec PyProof.Rows L2
section
variable {P : Program} {w : World} {A : Around} {E : Value → Shared → Prop} {s : Shared} {SR : Heap → List Rw → Prop} {okk : Rw → Prop} {N : Nat}
theorem call_set_list {l : Addr} {items : Array Value} (ks : List Rw) {Q : Value → Shared → Prop} (ad : Adder P w s.heap.objs.size SR okk N) (hh : A.handled = none) (hl : s.heap.IsList l items) (hit : items.toList = ks.map (·.1))
    (hk : ∀ p ∈ ks, IsK s.heap p) (hok : ∀ p ∈ ks, okk p) (hfew : Few ks N) (hu : A.units + 16 < cLine)
    (q : ∀ (h' : Heap) (tk : Nat) L, SR h' L → Has ks ks.length L → (∀ b o, s.heap.get? b = some o → h'.get? b = some o) → Q (.ref s.heap.objs.size) { s with heap := h', toks := tk }) :
    wpAny (model P w) A (call (.type "set") [.ref l]) Q E s := by
  have hisz : items.size = ks.length := by
    have z := congrArg List.length hit
    rwa [Array.length_toList, List.length_map] at z
  obtain ⟨c, tl, hmro⟩ := F.called_set.mro
  have hmade := F.called_set.made
  have hsub := F.called_set.sub
  refine wpAny_call (codeAny_of_tree ?_)
  show wpAny _ _ (callAny (.type "set") _) _ _ s
  refine wpAny_pure ⟨Code.quiet_builtin _ (by decide +kernel), codeAny_builtin F.entry_type_call ?_⟩
  rw [Around.under_plain (weight_type_call_type "set" [.ref l] []) rfl]
  have h1 := F.called_set.notType
  have h2 := F.called_set.canCreate
  have hct := F.typeCall_set_1 (.ref l)
  repeat (any_goals (first | assumption | wp_step))
  refine codeAny_mono (code_set_led1 (.ref l) (E := E) (Q₁ := fun u z => u = .ref s.heap.objs.size ∧ z = { s with heap := s.heap.push (freshSet w) }) ⟨rfl, rfl⟩) fun r z hr => ?_
  cases r with
  | error e => exact hr
  | ok fl =>
    cases fl with
    | ret u =>
      obtain ⟨rfl, rfl⟩ := hr
      have hS : (s.heap.push (freshSet w)).get? s.heap.objs.size = some (freshSet w) := Heap.get?_push_size _ rfl
      have hT : Shared.TypeIs { s with heap := s.heap.push (freshSet w) } (.ref s.heap.objs.size) "set" := ⟨_, hS, rfl⟩
      have hli := F.called_set.init.lookup
      have hbi := F.called_set.init.bind (.ref s.heap.objs.size)
      repeat (any_goals (first | assumption | wp_step))
      refine codeAny_mono (codeAny_call_builtin (R := wants (fun r z => r = .none ∧ ∃ h' tk L, z = { s with heap := h', toks := tk } ∧ SR h' L ∧ Has ks ks.length L ∧ (∀ b o, s.heap.get? b = some o → h'.get? b = some o)) E) F.called_set.init.plain F.entry_set_init (check_set_init_1 hT ?_)) fun r2 z2 hr2 => ?_
      · obtain ⟨⟨ocls, odict, odata, oslots⟩, hol, hcl, nl, hdl⟩ := hl
        simp only at hcl hdl
        subst hcl; subst hdl
        have hol' : (s.heap.push (freshSet w)).get? l = some { cls := .type "list", dict := odict, data := .seq items nl, slots := oslots } := Heap.get?_push_of_some _ hol
        have hsls := F.sub_list_set
        have hslf := F.sub_list_frozenset
        have hne : (Value.type "list" == Value.type "dict") = false := by decide
        have hl1 : (s.heap.push (freshSet w)).IsList l items := ⟨_, hol', rfl, nl, rfl⟩
        unfold Builtin.«set.__init__» noKeywords Builtin.Frozenset.updateFrom
        generalize hPI : pyIter = PI
        wp_walk
        subst hPI
        refine wpAny_pyIter_list hl1 (wpAny_bind (wpAny_runValue ?_))
        have hlS : l < s.heap.objs.size := Heap.lt_size hol
        have hh3 : A.in1.in1.in1.handled = none := by simp [hh]
        have hz : (s.heap.push (freshSet w)).objs.size = s.heap.objs.size + 1 := Heap.size_push ..
        have hneI : l ≠ (s.heap.push (freshSet w)).objs.size := by rw [hz]; exact Nat.ne_of_lt (Nat.lt_succ_of_lt hlS)
        have hSf : s.heap.objs.size ∉ [(s.heap.push (freshSet w)).objs.size, l] := by
          rw [hz]
          simp only [List.mem_cons, List.not_mem_nil, or_false, not_or]
          exact ⟨Nat.ne_of_lt (Nat.lt_succ_self _), Nat.ne_of_gt hlS⟩
        have hval : ∀ (i : Nat) (v : Value), items[i]? = some v → ∃ p, ks[i]? = some p ∧ v = p.1 := fun i v hv => by
          have z : items.toList[i]? = some v := by rw [Array.getElem?_toList]; exact hv
          rw [hit, List.getElem?_map] at z
          obtain ⟨p, hp, e⟩ := Option.map_eq_some_iff.mp z
          exact ⟨p, hp, e.symm⟩
        have non : ∀ b, s.heap.objs.size ≤ b → s.heap.get? b = none := fun b hb => by
          cases z : s.heap.get? b with
          | none => rfl
          | some o => exact absurd (Heap.lt_size z) (Nat.not_lt_of_le hb)
        refine upd_loop ad ((Walks.list hh3 _ l hneI items).toS) hSf ks hisz hfew hval s.heap hk hok (non _ (Nat.le_refl _)) (fun b hb => non b (by rw [List.mem_singleton.mp hb, hz]; exact Nat.le_succ _)) (by simp only [Around.in1_units]; omega) (items.size - 0) 0 _ (by omega) (Nat.zero_le _)
          ⟨⟨_, Heap.get?_push_size _ rfl, rfl, rfl⟩, hl1.push _⟩ (fun b o e => Heap.get?_push_of_some _ (Heap.get?_push_of_some _ e)) ⟨[], ad.new _ (Heap.get?_push_of_some _ hS), fun p h => (by cases h), fun p h => (by simp at h), List.nodup_nil⟩ ?_
        intro s' L hm hS' g' hkp
        obtain ⟨h', g2, d', tk', os'⟩ := s'
        have eg : g2 = s.gens := hm.gens
        have ed : d' = s.drawn := hm.drawn
        have eo : os' = s.os := hm.os
        subst eg; subst ed; subst eo
        show wpAny _ _ _ _ _ _
        refine wpAny_pure ?_
        show wpAny _ _ (ret Value.none) _ _ _
        rw [hisz] at g'
        exact wpAny_pure ⟨rfl, h', tk', L, rfl, hS', g', hkp⟩
      · cases r2 with
        | error e => exact hr2
        | ok fl2 =>
          cases fl2 with
          | ret r =>
            obtain ⟨rfl, h', tk, L, rfl, hS', g', hk'⟩ := hr2
            repeat (any_goals (first | assumption | wp_step))
            exact q _ _ _ hS' g' hk'
          | _ => exact hr2.elim
    | _ => exact hr.elim
theorem call_set_tuple {l : Addr} {items : Array Value} (ks : List Rw) {Q : Value → Shared → Prop} (ad : Adder P w s.heap.objs.size SR okk N) (hh : A.handled = none) (hl : s.heap.IsTuple l items) (hit : items.toList = ks.map (·.1))
    (hk : ∀ p ∈ ks, IsK s.heap p) (hok : ∀ p ∈ ks, okk p) (hfew : Few ks N) (hu : A.units + 16 < cLine)
    (q : ∀ (h' : Heap) (tk : Nat) L, SR h' L → Has ks ks.length L → (∀ b o, s.heap.get? b = some o → h'.get? b = some o) → Q (.ref s.heap.objs.size) { s with heap := h', toks := tk }) :
    wpAny (model P w) A (call (.type "set") [.ref l]) Q E s := by
  have hisz : items.size = ks.length := by
    have z := congrArg List.length hit
    rwa [Array.length_toList, List.length_map] at z
  obtain ⟨c, tl, hmro⟩ := F.called_set.mro
  have hmade := F.called_set.made
  have hsub := F.called_set.sub
  refine wpAny_call (codeAny_of_tree ?_)
  show wpAny _ _ (callAny (.type "set") _) _ _ s
  refine wpAny_pure ⟨Code.quiet_builtin _ (by decide +kernel), codeAny_builtin F.entry_type_call ?_⟩
  rw [Around.under_plain (weight_type_call_type "set" [.ref l] []) rfl]
  have h1 := F.called_set.notType
  have h2 := F.called_set.canCreate
  have hct := F.typeCall_set_1 (.ref l)
  repeat (any_goals (first | assumption | wp_step))
  refine codeAny_mono (code_set_led1 (.ref l) (E := E) (Q₁ := fun u z => u = .ref s.heap.objs.size ∧ z = { s with heap := s.heap.push (freshSet w) }) ⟨rfl, rfl⟩) fun r z hr => ?_
  cases r with
  | error e => exact hr
  | ok fl =>
    cases fl with
    | ret u =>
      obtain ⟨rfl, rfl⟩ := hr
      have hS : (s.heap.push (freshSet w)).get? s.heap.objs.size = some (freshSet w) := Heap.get?_push_size _ rfl
      have hT : Shared.TypeIs { s with heap := s.heap.push (freshSet w) } (.ref s.heap.objs.size) "set" := ⟨_, hS, rfl⟩
      have hli := F.called_set.init.lookup
      have hbi := F.called_set.init.bind (.ref s.heap.objs.size)
      repeat (any_goals (first | assumption | wp_step))
      refine codeAny_mono (codeAny_call_builtin (R := wants (fun r z => r = .none ∧ ∃ h' tk L, z = { s with heap := h', toks := tk } ∧ SR h' L ∧ Has ks ks.length L ∧ (∀ b o, s.heap.get? b = some o → h'.get? b = some o)) E) F.called_set.init.plain F.entry_set_init (check_set_init_1 hT ?_)) fun r2 z2 hr2 => ?_
      · obtain ⟨⟨ocls, odict, odata, oslots⟩, hol, hcl, nl, hdl⟩ := hl
        simp only at hcl hdl
        subst hcl; subst hdl
        have hol' : (s.heap.push (freshSet w)).get? l = some { cls := .type "tuple", dict := odict, data := .seq items nl, slots := oslots } := Heap.get?_push_of_some _ hol
        have hsls := F.sub_tuple_set
        have hslf := F.sub_tuple_frozenset
        have hne : (Value.type "tuple" == Value.type "dict") = false := by decide
        have hl1 : (s.heap.push (freshSet w)).IsTuple l items := ⟨_, hol', rfl, nl, rfl⟩
        unfold Builtin.«set.__init__» noKeywords Builtin.Frozenset.updateFrom
        generalize hPI : pyIter = PI
        wp_walk
        subst hPI
        refine wpAny_pyIter_tuple hl1 (wpAny_bind (wpAny_runValue ?_))
        have hlS : l < s.heap.objs.size := Heap.lt_size hol
        have hh3 : A.in1.in1.in1.handled = none := by simp [hh]
        have hz : (s.heap.push (freshSet w)).objs.size = s.heap.objs.size + 1 := Heap.size_push ..
        have hneI : l ≠ (s.heap.push (freshSet w)).objs.size := by rw [hz]; exact Nat.ne_of_lt (Nat.lt_succ_of_lt hlS)
        have hSf : s.heap.objs.size ∉ [(s.heap.push (freshSet w)).objs.size, l] := by
          rw [hz]
          simp only [List.mem_cons, List.not_mem_nil, or_false, not_or]
          exact ⟨Nat.ne_of_lt (Nat.lt_succ_self _), Nat.ne_of_gt hlS⟩
        have hval : ∀ (i : Nat) (v : Value), items[i]? = some v → ∃ p, ks[i]? = some p ∧ v = p.1 := fun i v hv => by
          have z : items.toList[i]? = some v := by rw [Array.getElem?_toList]; exact hv
          rw [hit, List.getElem?_map] at z
          obtain ⟨p, hp, e⟩ := Option.map_eq_some_iff.mp z
          exact ⟨p, hp, e.symm⟩
        have non : ∀ b, s.heap.objs.size ≤ b → s.heap.get? b = none := fun b hb => by
          cases z : s.heap.get? b with
          | none => rfl
          | some o => exact absurd (Heap.lt_size z) (Nat.not_lt_of_le hb)
        refine upd_loop ad ((Walks.tuple hh3 _ l hneI items).toS) hSf ks hisz hfew hval s.heap hk hok (non _ (Nat.le_refl _)) (fun b hb => non b (by rw [List.mem_singleton.mp hb, hz]; exact Nat.le_succ _)) (by simp only [Around.in1_units]; omega) (items.size - 0) 0 _ (by omega) (Nat.zero_le _)
          ⟨⟨_, Heap.get?_push_size _ rfl, rfl, rfl⟩, hl1.push _⟩ (fun b o e => Heap.get?_push_of_some _ (Heap.get?_push_of_some _ e)) ⟨[], ad.new _ (Heap.get?_push_of_some _ hS), fun p h => (by cases h), fun p h => (by simp at h), List.nodup_nil⟩ ?_
        intro s' L hm hS' g' hkp
        obtain ⟨h', g2, d', tk', os'⟩ := s'
        have eg : g2 = s.gens := hm.gens
        have ed : d' = s.drawn := hm.drawn
        have eo : os' = s.os := hm.os
        subst eg; subst ed; subst eo
        show wpAny _ _ _ _ _ _
        refine wpAny_pure ?_
        show wpAny _ _ (ret Value.none) _ _ _
        rw [hisz] at g'
        exact wpAny_pure ⟨rfl, h', tk', L, rfl, hS', g', hkp⟩
      · cases r2 with
        | error e => exact hr2
        | ok fl2 =>
          cases fl2 with
          | ret r =>
            obtain ⟨rfl, h', tk, L, rfl, hS', g', hk'⟩ := hr2
            repeat (any_goals (first | assumption | wp_step))
            exact q _ _ _ hS' g' hk'
          | _ => exact hr2.elim
    | _ => exact hr.elim
end
end My
/-! S9 -/
namespace My
open PySem PySem.Spec PyProof.Rows L2 PySem.W PySem.Calls
class Kn (α : Type) extends Kd α where
  nk : α → NK
  nkd : ∀ a, (nk a).data = enc a
  nki : ∀ a b, nk a = nk b → a = b
  nk8 : ∀ a, (nk a).depth ≤ 8
abbrev nN (xs : List Str) : NK := .tup (xs.map .text)
abbrev nP (p : Str × Str) : NK := .tup [.text p.1, .text p.2]
abbrev nM (m : List (Str × Str)) : NK := .tup (m.map nP)
theorem datas_map {α : Type} {f : α → NK} {g : α → PyData} (h : ∀ a, (f a).data = g a) : ∀ l : List α, NestedKey.datas (l.map f) = l.map g
  | [] => rfl
  | a :: l => by rw [List.map_cons, List.map_cons, NestedKey.datas, h a, datas_map h l]
theorem nkmap_inj {α : Type} {f : α → NK} (h : ∀ a b, f a = f b → a = b) : ∀ l m : List α, l.map f = m.map f → l = m
  | [], [], _ => rfl
  | [], _ :: _, z => by cases z
  | _ :: _, [], z => by cases z
  | a :: l, b :: m, z => by
    rw [List.map_cons, List.map_cons] at z
    injection z with z1 z2
    rw [h a b z1, nkmap_inj h l m z2]
theorem nkdep_map {α : Type} {f : α → NK} {n : Nat} (h : ∀ a, (f a).depth ≤ n) : ∀ l : List α, NestedKey.depthAll (l.map f) ≤ n
  | [] => by simp [NestedKey.depthAll]
  | a :: l => by
    rw [List.map_cons, NestedKey.depthAll]
    exact Nat.max_le.mpr ⟨h a, nkdep_map h l⟩
instance : Kn Str where
  nk := .text
  nkd a := rfl
  nki a b h := by injection h
  nk8 a := by simp [NestedKey.depth]
instance : Kn (List Str) where
  nk := nN
  nkd a := by
    show NestedKey.data (nN a) = eN a
    rw [NestedKey.data, datas_map (g := PyData.str) (fun a => rfl)]
  nki a b h := by
    injection h with h
    exact nkmap_inj (fun a b z => by injection z) a b h
  nk8 a := by
    have := nkdep_map (f := NestedKey.text) (n := 0) (fun a => by simp [NestedKey.depth]) a
    show NestedKey.depth (nN a) ≤ 8
    rw [NestedKey.depth]
    omega
theorem nPd (p : Str × Str) : (nP p).data = eP p := rfl
theorem nPi (a b : Str × Str) (h : nP a = nP b) : a = b := by
  injection h with h
  injection h with h1 h2
  injection h2 with h2 h3
  injection h1 with h1
  injection h2 with h2
  exact Prod.ext h1 h2
theorem nPdep (p : Str × Str) : (nP p).depth ≤ 1 := by simp [NestedKey.depth, NestedKey.depthAll]
instance : Kn (Str × Str) where
  nk := nP
  nkd := nPd
  nki := nPi
  nk8 a := Nat.le_trans (nPdep a) (by decide)
instance : Kn (List (Str × Str)) where
  nk := nM
  nkd a := by
    show NestedKey.data (nM a) = eM a
    rw [NestedKey.data, datas_map nPd]
  nki a b h := by
    injection h with h
    exact nkmap_inj nPi a b h
  nk8 a := by
    have := nkdep_map nPdep a
    show NestedKey.depth (nM a) ≤ 8
    rw [NestedKey.depth]
    omega
/-! what is tracked is a key -/
mutual
/-- no number within -/
def txtK : NK → Bool
  | .none => true
  | .num _ => false
  | .text _ => true
  | .tup ks => txtKs ks
def txtKs : List NK → Bool
  | [] => true
  | k :: ks => txtK k && txtKs ks
end
mutual
theorem key_at {X : Cx} {pins : List (Addr × Obj)} {σ : L2.St} {H : Hp} {s : Shared} (I : Inv X pins σ H s) : ∀ (k : NK) (v : V) (u : Value), txtK k = true → Rp H v k.data → RelV v u → NestedIs s.heap k u
  | .none, v, u, _, h, r => by cases h; cases r; exact .none
  | .num i, v, u, z, h, r => by simp [txtK] at z
  | .text x, v, u, _, h, r => by
    cases h
    obtain ⟨t, rfl⟩ := r
    exact .text x t
  | .tup ks, v, u, z, h, r => by
    simp only [txtK] at z
    cases h with
    | @tup a xs _ h1 h2 =>
      cases r
      obtain ⟨its, rv, ⟨o, ho, hc, n, hd⟩, _⟩ := I.tuple (SqT.of (K := X.K) h1)
      exact .tup ho hc hd (keys_at' I ks xs its z h2 rv)
theorem keys_at' {X : Cx} {pins : List (Addr × Obj)} {σ : L2.St} {H : Hp} {s : Shared} (I : Inv X pins σ H s) : ∀ (ks : List NK) (vs : List V) (us : List Value), txtKs ks = true → RpA H vs (NestedKey.datas ks) → Vals vs us → NestedAll s.heap ks us
  | [], vs, us, _, h, r => by cases h; cases r; exact .nil
  | k :: ks, vs, us, z, h, r => by
    simp only [txtKs, Bool.and_eq_true] at z
    cases h with
    | cons h1 h2 =>
      cases r with
      | cons r1 r2 => exact .cons (key_at I k _ _ z.1 h1 r1) (keys_at' I ks _ _ z.2 h2 r2)
end
theorem txtKs_map {α : Type} {f : α → NK} (h : ∀ a, txtK (f a) = true) : ∀ l : List α, txtKs (l.map f) = true
  | [] => by simp [txtKs]
  | a :: l => by
    rw [List.map_cons]
    simp only [txtKs, Bool.and_eq_true]
    exact ⟨h a, txtKs_map h l⟩
/-! ### sorted of a list or a tuple -/
/-- rows: the value, what is tracked, what it stands for -/
abbrev Rt (α : Type) := Value × V × α
theorem rows_of {α : Type} {H : Hp} {enc : α → PyData} : ∀ {xs : List V} {us : List Value} {as : List α}, RpA H xs (as.map enc) → Vals xs us → ∃ bs : List (Rt α), bs.map (·.1) = us ∧ bs.map (·.2.1) = xs ∧ bs.map (·.2.2) = as ∧ ∀ b ∈ bs, RelV b.2.1 b.1 ∧ Rp H b.2.1 (enc b.2.2)
  | [], _, [], _, .nil => ⟨[], rfl, rfl, rfl, fun _ h => (by cases h)⟩
  | x :: xs, u :: us, a :: as, h, .cons r t => by
    cases h with
    | cons h1 h2 =>
      obtain ⟨bs, e1, e2, e3, e4⟩ := rows_of h2 t
      refine ⟨(u, x, a) :: bs, by rw [List.map_cons, e1], by rw [List.map_cons, e2], by rw [List.map_cons, e3], fun b hb => ?_⟩
      rcases List.mem_cons.mp hb with rfl | hb
      · exact ⟨r, h1⟩
      · exact e4 b hb
  | [], _, _ :: _, h, .nil => nomatch h
  | _ :: _, _, [], h, _ => nomatch h
theorem rows_vals {α : Type} : ∀ {bs : List (Rt α)}, (∀ b ∈ bs, RelV b.2.1 b.1) → Vals (bs.map (·.2.1)) (bs.map (·.1))
  | [], _ => .nil
  | b :: bs, h => .cons (h b List.mem_cons_self) (rows_vals fun c hc => h c (List.mem_cons_of_mem _ hc))
theorem rows_rpA {α : Type} {H : Hp} {enc : α → PyData} : ∀ {bs : List (Rt α)}, (∀ b ∈ bs, Rp H b.2.1 (enc b.2.2)) → RpA H (bs.map (·.2.1)) ((bs.map (·.2.2)).map enc)
  | [], _ => .nil
  | b :: bs, h => .cons (h b List.mem_cons_self) (rows_rpA fun c hc => h c (List.mem_cons_of_mem _ hc))
theorem sorted_keys {α β : Type} [Kd α] (k : β → α) (bs : List β) : (bs.mergeSort (dataLe false fun b => Kd.enc (k b))).map k = sortL ltK (bs.map k) := by
  refine sortL_uniq ordK ((List.mergeSort_perm bs _).map k) ?_
  rw [Up, List.pairwise_map]
  refine (sort_pairwise (sortLe_total (listOrd itemOrd) false fun b => keyToks (Kd.enc (k b))) bs).imp fun {a b} h => ?_
  have h' : (!dataLt (Kd.enc (k b)) (Kd.enc (k a))) = true := h
  simpa [ltK] using h'
section
variable {X : Cx} {α : Type} [Kd α]
/-- what sorting a new list leaves, told of what is tracked -/
theorem sorted_fin {pins : List (Addr × Obj)} {σ : L2.St} {H : Hp} {s : Shared} {Q : VK} (I : Inv X pins σ H s) (rm : X.A.units + 65 < cLine) {x : Value} {C : List (Rt α) → Prop}
    (col : ∀ (E : Value → Shared → Prop) (Q : List Value → Shared → Prop), (∀ z bs, (∀ b o, s.heap.get? b = some o → z.heap.get? b = some o) → z.gens = s.gens → z.os = s.os → C bs → Q (bs.map (·.1)) z) → wpAny (model X.prog X.w) X.A.in1 (collect x) Q E s)
    (hC : ∀ bs, C bs → bs.length ≤ sizeLine ∧ ∀ b ∈ bs, RelV b.2.1 b.1 ∧ Rp H b.2.1 (Kd.enc b.2.2))
    (q : ∀ bs v H', C bs → Same H H' → Rp H' v (.list ((sortL ltK (bs.map (·.2.2))).map Kd.enc)) → Q v H') :
    wpAny (model X.prog X.w) X.A (call (.builtin "sorted") [x]) (fun u s' => ∃ v H', Inv X pins σ H' s' ∧ RelV v u ∧ Q v H') X.xe s := by
  refine sorted_any (val := fun b : Rt α => b.1) (enc := fun b : Rt α => Kd.enc b.2.2) col (fun bs h b hb => ?_) (fun bs h b hb => Kd.tup _) (fun bs h => ?_) (fun bs h => ?_) (fun bs h => (hC bs h).1) (fun bs h b hb => ?_) fun z h' bs c h k g o k2 hp => ?_
  · obtain ⟨r, hr⟩ := (hC bs h).2 b hb
    exact Dp.reads I _ _ _ (hr.dp _) r
  · intro d hd d' hd'
    obtain ⟨b, _, rfl⟩ := List.mem_map.mp hd
    obtain ⟨b', _, rfl⟩ := List.mem_map.mp hd'
    exact Kd.alk _ _
  · rcases Kd.kin (α := α) with t | t
    · refine .inl fun d hd => ?_
      obtain ⟨b, _, rfl⟩ := List.mem_map.mp hd
      exact t _
    · refine .inr fun d hd => ?_
      obtain ⟨b, _, rfl⟩ := List.mem_map.mp hd
      exact t _
  · have := Kd.dep b.2.2
    omega
  · have I1 : Inv X pins σ H z := I.call' (ch := []) o (Un.kept k) (I.hok.kept k) (by rw [g]; exact I.bare) (fun _ y => nomatch y)
    obtain ⟨L, hL⟩ : ∃ L, L = bs.mergeSort (dataLe false fun b : Rt α => Kd.enc b.2.2) := ⟨_, rfl⟩
    rw [← hL] at hp
    have pm : L.Perm bs := hL ▸ List.mergeSort_perm bs _
    have hr : ∀ b ∈ L, RelV b.2.1 b.1 ∧ Rp H b.2.1 (Kd.enc b.2.2) := fun b hb => (hC bs h).2 b (pm.mem_iff.mp hb)
    have hn : H z.heap.objs.size = none := I1.hok.fresh (Nat.le_refl _)
    refine ⟨.ref z.heap.objs.size, upd H z.heap.objs.size (.lst (L.map (·.2.1))), I1.laid (t' := z.toks) k2 (Nat.le_refl _) ⟨by rw [List.length_map, pm.length_eq]; exact (hC bs h).1, L.map (·.1), c, rows_vals fun b hb => (hr b hb).1, hp⟩, rfl, q bs _ _ h (same_new hn) (.lst (.inl upd_same) ?_)⟩
    have e : sortL ltK (bs.map (·.2.2)) = L.map (·.2.2) := by rw [hL, sorted_keys]
    rw [e]
    exact RpA.mono (sm_of (same_new hn)) _ _ (rows_rpA fun b hb => (hr b hb).2)
def rSortK (α : Type) [Kd α] : List V → Hp → VK → Prop := fun vs H Q => ∃ (v : V) (as : List α), vs = [v] ∧ Sq (as.map Kd.enc) v H ∧ ∀ u H', Same H H' → Rp H' u (.list ((sortL ltK as).map Kd.enc)) → Q u H'
theorem cr_sortK (rm : X.A.units + 65 < cLine) : CallR X (.builtin "sorted") (rSortK α) := by
  intro pins s σ H vs us Q I r h
  obtain ⟨v, as, rfl, hs, q⟩ := h
  rcases hs with hs | hs
  · cases hs with
    | @lst a xs _ ha hx =>
      rw [Vals.ref1 r]
      obtain ⟨its, rv, pl, hz⟩ := I.list (a := a) (xs := xs) (.inl ha)
      obtain ⟨o, ho, hc, n, hd⟩ := pl.isList
      obtain ⟨bs, e1, e2, e3, e4⟩ := rows_of hx rv
      refine sorted_fin I rm (C := fun b => b = bs) (fun E Q h => ?_) (fun b hb => ?_) fun b v H' hb hs hr => ?_
      · exact wpAny_collect_seq a (.inl rfl) ho hc hd (fun h' k => by
          have := h { s with heap := h' } bs k rfl rfl rfl
          rw [e1] at this
          exact this) (by rw [List.size_toArray, ← rv.length]; exact hz)
      · subst hb
        refine ⟨?_, e4⟩
        have := congrArg List.length e2
        rw [List.length_map] at this
        rw [this]
        exact hz
      · subst hb
        rw [e3] at hr
        exact q v H' hs hr
  · cases hs with
    | @tup a xs _ ha hx =>
      rw [Vals.ref1 r]
      obtain ⟨its, rv, ⟨o, ho, hc, n, hd⟩, hz⟩ := I.tuple (a := a) (xs := xs) (SqT.of ha)
      obtain ⟨bs, e1, e2, e3, e4⟩ := rows_of hx rv
      refine sorted_fin I rm (C := fun b => b = bs) (fun E Q h => ?_) (fun b hb => ?_) fun b v H' hb hs hr => ?_
      · exact wpAny_collect_seq a (.inr rfl) ho hc hd (fun h' k => by
          have := h { s with heap := h' } bs k rfl rfl rfl
          rw [e1] at this
          exact this) (by rw [List.size_toArray, ← rv.length]; exact hz)
      · subst hb
        refine ⟨?_, e4⟩
        have := congrArg List.length e2
        rw [List.length_map] at this
        rw [this]
        exact hz
      · subst hb
        rw [e3] at hr
        exact q v H' hs hr
end
end My
/-! SA -/
namespace My
open PySem PySem.Spec PyProof.Rows L2 PySem.W PySem.Calls
/-! ### set(..), and sorting it -/
def ZO (w : World) (a : Addr) (L : List Rw) : HO := .ext fun h => ∃ es ep t, ZR w h a L es ep t
/-- a set of the things ks -/
def RSet (w : World) {α : Type} [Kn α] (ks : List α) : Rel := fun v H => ∃ (a : Addr) (L : List (Rt α)), v = .ref a ∧ Rd H a (ZO w a (L.map fun b => (b.1, Kn.nk b.2.2))) ∧ (∀ b ∈ L, RelV b.2.1 b.1 ∧ Rp H b.2.1 (Kd.enc b.2.2)) ∧ (L.map (·.2.2)).Nodup ∧ ∀ z, z ∈ L.map (·.2.2) ↔ z ∈ ks
instance {w : World} {α : Type} [Kn α] {ks : List α} : Mono (RSet w ks) := ⟨fun e ⟨a, L, h1, h2, h3, h4, h5⟩ => ⟨a, L, h1, e.rd _ _ True.intro h2, fun b hb => ⟨(h3 b hb).1, Rp.mono e _ _ (h3 b hb).2⟩, h4, h5⟩⟩
theorem zo_new {P : Program} {w : World} {H : Hp} {h : Heap} {a : Addr} {L : List Rw} (R : ∃ es ep t, ZR w h a L es ep t) : ObjOk P w H h a (ZO w a L) := by
  obtain ⟨es, ep, t, z⟩ := id R
  obtain ⟨o, ho, _⟩ := z.ob
  exact ⟨R, ⟨o, ho⟩, fun h1 h2 ⟨es, ep, t, z⟩ k => ⟨es, ep, t, z.keep k⟩⟩
section
variable {X : Cx} {α : Type} [Kn α]
theorem cr_sortSet (hc : X.calm = true) (rm : X.A.units + 65 < cLine) : CallR X (.builtin "sorted") (fun vs H Q => ∃ (v : V) (ks : List α), vs = [v] ∧ RSet X.w ks v H ∧ ∀ u H', Same H H' → Rp H' u (.list ((setL ltK ks).map Kd.enc)) → Q u H') := by
  intro pins s σ H vs us Q I r h
  obtain ⟨v, ks, rfl, ⟨a, L, rfl, hd, hL, hn, hm⟩, q⟩ := h
  rw [Vals.ref1 r]
  obtain ⟨⟨es, ep, t, z⟩, _⟩ := hd.ok I.hok
  have few := z.few
  rw [List.length_map] at few
  have sz := rws_size z.rows
  rw [List.length_map] at sz
  obtain ⟨o, ho, hex, hdt⟩ := id z.ob
  refine sorted_fin (α := α) I rm (C := fun b => b.Perm L) (fun E Q h => ?_) (fun b hb => ⟨by rw [hb.length_eq, sizeLine_eq]; omega, fun c hc => hL c (hb.mem_iff.mp hc)⟩) fun b v H' hb hs hr => ?_
  · refine collect_set (A := X.A.in1) (I.ok.hd hc) ⟨o, ho, hex.1, hdt⟩ z.fit (by rw [sz]; unfold scanBound; omega) z.ris z.led fun z1 out k1 hz g1 o1 pm => ?_
    have e : es.toList.map (·.2) = L.map (·.1) := by
      rw [z.rows, rws, List.map_map, List.map_map]
      rfl
    rw [e] at pm
    have key : ∀ {l m : List Value}, l.Perm m → ∀ L : List (Rt α), m = L.map (·.1) → ∃ L1 : List (Rt α), l = L1.map (·.1) ∧ L1.Perm L := by
      intro l m hp
      induction hp with
      | nil => intro L e; exact ⟨L, e, .refl L⟩
      | @cons x l m _ ih =>
        intro L e
        match L, e with
        | p :: L, e =>
          have e' : x :: m = p.1 :: L.map (·.1) := e
          injection e' with e1 e2
          obtain ⟨L1, h1, h2⟩ := ih L e2
          exact ⟨p :: L1, by rw [h1, e1]; rfl, h2.cons p⟩
      | swap x y l =>
        intro L e
        match L, e with
        | p :: q :: L, e =>
          have e' : x :: y :: l = p.1 :: q.1 :: L.map (·.1) := e
          injection e' with e1 e2
          injection e2 with e2 e3
          exact ⟨q :: p :: L, by rw [e1, e2, e3]; rfl, .swap p q L⟩
      | trans _ _ ih1 ih2 =>
        intro L e
        obtain ⟨L1, h1, h2⟩ := ih2 L e
        obtain ⟨L2, h3, h4⟩ := ih1 L1 h1
        exact ⟨L2, h3, h4.trans h2⟩
    obtain ⟨L1, e1, e2⟩ := key pm L rfl
    rw [e1]
    exact h z1 L1 k1 g1 o1 e2
  · have e : sortL ltK (b.map (·.2.2)) = setL ltK ks := by
      have pm : (b.map (·.2.2)).Perm (L.map (·.2.2)) := hb.map _
      rw [sortL_set ordK (pm.nodup_iff.mpr hn)]
      exact setL_congr ordK fun z => pm.mem_iff.trans (hm z)
    rw [e] at hr
    exact q v H' hs hr
/-- few distinct things -/
def FewL {α : Type} (as : List α) (N : Nat) : Prop := ∀ l : List α, l.Nodup → (∀ a ∈ l, a ∈ as) → l.length ≤ N
theorem fewL_len {α : Type} (as : List α) : FewL as as.length := fun l hn hs => nd_len l as hn hs
theorem pre_map {α β : Type} {f : α → β} {as : List α} : ∀ {l : List β}, l.Nodup → (∀ k ∈ l, k ∈ as.map f) → ∃ m : List α, m.map f = l ∧ m.Nodup ∧ ∀ a ∈ m, a ∈ as
  | [], _, _ => ⟨[], rfl, List.nodup_nil, fun _ h => (by cases h)⟩
  | k :: l, hn, hs => by
    obtain ⟨n1, n2⟩ := List.nodup_cons.mp hn
    obtain ⟨m, e1, e2, e3⟩ := pre_map n2 fun k hk => hs k (List.mem_cons_of_mem _ hk)
    obtain ⟨a, ha, e⟩ := List.mem_map.mp (hs k List.mem_cons_self)
    refine ⟨a :: m, by rw [List.map_cons, e, e1], List.nodup_cons.mpr ⟨fun h => n1 ?_, e2⟩, fun b hb => ?_⟩
    · rw [← e1, ← e]
      exact List.mem_map.mpr ⟨a, h, rfl⟩
    · rcases List.mem_cons.mp hb with rfl | hb
      · exact ha
      · exact e3 b hb
theorem few_nk {as : List α} {ks : List Rw} {N : Nat} (h : FewL as N) (e : ks.map (·.2) = as.map Kn.nk) : Few ks N := fun l hn hs => by
  rw [e] at hs
  obtain ⟨m, e1, e2, e3⟩ := pre_map hn hs
  rw [← e1, List.length_map]
  exact h m e2 e3
/-- set(xs) -/
theorem cr_setK {SR : Addr → Heap → List Rw → Prop} {okk : Rw → Prop} {N : Nat} (ad : ∀ S, Adder X.prog X.w S (SR S) okk N) (hok : ∀ (h : Heap) (u : Value) (a : α), NestedIs h (Kn.nk a) u → okk (u, Kn.nk a)) (htx : ∀ a : α, txtK (Kn.nk a) = true) (hc : X.calm = true) (rm : X.A.units + 65 < cLine) :
    CallR X (.type "set") (fun vs H Q => ∃ (v : V) (as : List α), vs = [v] ∧ Sq (as.map Kd.enc) v H ∧ FewL as N ∧ ∀ u H', Same H H' → RSet X.w as u H' → Q u H') := by
  intro pins s σ H vs us Q I r h
  obtain ⟨v, as, rfl, hs, hf, q⟩ := h
  -- behind the call
  have fin : ∀ (bs : List (Rt α)), bs.map (·.2.2) = as → (∀ b ∈ bs, RelV b.2.1 b.1 ∧ Rp H b.2.1 (Kd.enc b.2.2)) → ∀ (h' : Heap) (tk : Nat) (L : List Rw), SR s.heap.objs.size h' L → Has (bs.map fun b => (b.1, Kn.nk b.2.2)) (bs.map fun b => (b.1, Kn.nk b.2.2)).length L → (∀ b o, s.heap.get? b = some o → h'.get? b = some o) →
      ∃ v H', Inv X pins σ H' { s with heap := h', toks := tk } ∧ RelV v (.ref s.heap.objs.size) ∧ Q v H' := by
    intro bs e3 e4 h' tk L hS g k
    have lift : ∀ M : List Rw, (∀ p ∈ M, p ∈ bs.map fun b => (b.1, Kn.nk b.2.2)) → ∃ M' : List (Rt α), M'.map (fun b => (b.1, Kn.nk b.2.2)) = M ∧ ∀ b ∈ M', b ∈ bs := by
      intro M
      induction M with
      | nil => intro _; exact ⟨[], rfl, fun _ h => (by cases h)⟩
      | cons p M ih =>
        intro hp
        obtain ⟨b, hb, e⟩ := List.mem_map.mp (hp p List.mem_cons_self)
        obtain ⟨M', h1, h2⟩ := ih fun p hp' => hp p (List.mem_cons_of_mem _ hp')
        refine ⟨b :: M', by rw [List.map_cons, e, h1], fun c hc => ?_⟩
        rcases List.mem_cons.mp hc with rfl | hc
        · exact hb
        · exact h2 c hc
    obtain ⟨L', eL, hL'⟩ := lift L fun p hp => List.mem_of_mem_take (g.sub p hp)
    have hn : H s.heap.objs.size = none := I.hok.fresh (Nat.le_refl _)
    have eK : L.map (·.2) = (L'.map (·.2.2)).map Kn.nk := by rw [← eL, List.map_map, List.map_map]; rfl
    refine ⟨.ref s.heap.objs.size, upd H s.heap.objs.size (ZO X.w s.heap.objs.size L), I.laid (t' := tk) k (Nat.le_refl _) (zo_new ((ad _).zr _ _ hS)), rfl, q _ _ (same_new hn) ⟨_, L', rfl, .inl (by rw [eL]; exact upd_same), fun b hb => ⟨(e4 b (hL' b hb)).1, Rp.mono (sm_of (same_new hn)) _ _ (e4 b (hL' b hb)).2⟩, ?_, fun z => ?_⟩⟩
    · have := g.nd
      rw [eK] at this
      exact List.Pairwise.of_map _ (fun _ _ hne e => hne (congrArg _ e)) this
    · constructor
      · intro hz
        obtain ⟨b, hb, e⟩ := List.mem_map.mp hz
        rw [← e3, ← e]
        exact List.mem_map.mpr ⟨b, hL' b hb, rfl⟩
      · intro hz
        rw [← e3] at hz
        obtain ⟨b, hb, e⟩ := List.mem_map.mp hz
        have m := g.all (b.1, Kn.nk b.2.2) (by rw [List.take_length]; exact List.mem_map.mpr ⟨b, hb, rfl⟩)
        rw [eK] at m
        obtain ⟨y, hy, ey⟩ := List.mem_map.mp m
        rw [← e, ← Kn.nki _ _ ey]
        exact hy
  have keys : ∀ (bs : List (Rt α)), (∀ b ∈ bs, RelV b.2.1 b.1 ∧ Rp H b.2.1 (Kd.enc b.2.2)) → (∀ p ∈ bs.map fun b => (b.1, Kn.nk b.2.2), IsK s.heap p) ∧ ∀ p ∈ bs.map fun b => (b.1, Kn.nk b.2.2), okk p := by
    intro bs e4
    have key : ∀ b ∈ bs, NestedIs s.heap (Kn.nk b.2.2) b.1 := fun b hb => key_at I _ _ _ (htx _) (by rw [Kn.nkd]; exact (e4 b hb).2) (e4 b hb).1
    refine ⟨fun p hp => ?_, fun p hp => ?_⟩
    · obtain ⟨b, hb, rfl⟩ := List.mem_map.mp hp
      exact ⟨key b hb, Kn.nk8 _⟩
    · obtain ⟨b, hb, rfl⟩ := List.mem_map.mp hp
      exact hok _ _ _ (key b hb)
  have eNk : ∀ bs : List (Rt α), bs.map (·.2.2) = as → (bs.map fun b => (b.1, Kn.nk b.2.2)).map (·.2) = as.map Kn.nk := fun bs e => by
    rw [← e, List.map_map, List.map_map]
    rfl
  have eVal : ∀ bs : List (Rt α), (bs.map fun b => (b.1, Kn.nk b.2.2)).map (·.1) = bs.map (·.1) := fun bs => by
    rw [List.map_map]
    rfl
  rcases hs with hs | hs
  · cases hs with
    | @lst a xs _ ha hx =>
      rw [Vals.ref1 r]
      obtain ⟨its, rv, pl, hz⟩ := I.list (a := a) (xs := xs) (.inl ha)
      obtain ⟨bs, e1, e2, e3, e4⟩ := rows_of hx rv
      exact call_set_list (SR := SR s.heap.objs.size) (bs.map fun b => (b.1, Kn.nk b.2.2)) (ad _) (I.ok.hd hc) pl.isList (by rw [eVal, e1]) (keys bs e4).1 (keys bs e4).2 (few_nk hf (eNk bs e3)) (by omega) (fin bs e3 e4)
  · cases hs with
    | @tup a xs _ ha hx =>
      rw [Vals.ref1 r]
      obtain ⟨its, rv, tp, hz⟩ := I.tuple (a := a) (xs := xs) (SqT.of ha)
      obtain ⟨bs, e1, e2, e3, e4⟩ := rows_of hx rv
      exact call_set_tuple (SR := SR s.heap.objs.size) (bs.map fun b => (b.1, Kn.nk b.2.2)) (ad _) (I.ok.hd hc) tp (by rw [eVal, e1]) (keys bs e4).1 (keys bs e4).2 (few_nk hf (eNk bs e3)) (by omega) (fin bs e3 e4)
/-- the two kinds of sets -/
class Ks (α : Type) extends Kn α where
  bound : Nat
  cr : ∀ X : Cx, X.calm = true → X.A.units + 65 < cLine → CallR X (.type "set") (fun vs H Q => ∃ (v : V) (as : List α), vs = [v] ∧ Sq (as.map Kd.enc) v H ∧ FewL as bound ∧ ∀ u H', Same H H' → RSet X.w as u H' → Q u H')
theorem tup_ok {h : Heap} {u : Value} {ks : List NK} (x : NestedIs h (.tup ks) u) : TupR (u, .tup ks) := by
  cases x with
  | @tup a => exact ⟨a, ks, rfl⟩
instance : Ks Str where
  bound := 4000
  cr X hc rm := cr_setK txtAdder (fun h u a x => by cases x; exact ⟨_, _, rfl⟩) (fun a => by simp [Kn.nk, txtK]) hc rm
instance : Ks (List Str) where
  bound := 70
  cr X hc rm := cr_setK tupAdder (fun h u a x => tup_ok x) (fun a => by
    show txtK (nN a) = true
    rw [txtK]
    exact txtKs_map (fun a => by simp [txtK]) a) hc rm
instance : Ks (List (Str × Str)) where
  bound := 70
  cr X hc rm := cr_setK tupAdder (fun h u a x => tup_ok x) (fun a => by
    show txtK (nM a) = true
    rw [txtK]
    exact txtKs_map (fun a => by simp [txtK, txtKs]) a) hc rm
end
/-! ### as expressions -/
section
variable {X : Cx} {σ : L2.St} {H : Hp} {a : Expr} {p pos : Pos} {α : Type}
theorem ev_sorted [Kd α] {k : Nat} {as : List α} (hr : Room k X.A) (hm : X.mg "sorted" = none) (h : Ev X a σ H (Sq (as.map Kd.enc))) (hg : Gl X "sorted" := by rfl) (he : starEach [a] X.env = (false, eval a X.env) :: starEach [] X.env := by rfl) (hpl : (backTo pos (starEach [] X.env)).any (·.1) = false := by rfl) :
    Ev X (.Call (.Name "sorted" p) [a] [] pos) σ H (Is (.list ((sortL ltK as).map Kd.enc))) :=
  ev_callB (cr_sortK (α := α) (room_u65 hr)) b_sorted hm (ea_cons h ea_nil he) (fun vs H1 _ t Q z => by
    obtain ⟨v, rfl, r1⟩ := one_of t
    exact ⟨v, as, rfl, r1, fun u H' s r => z u H' s r⟩) hg (by decide) (by decide) he hpl
theorem ev_set [Ks α] {k : Nat} {as : List α} (hr : Room k X.A) (hc : X.calm = true) (hm : X.mg "set" = none) (hf : FewL as (Ks.bound α)) (h : Ev X a σ H (Sq (as.map Kd.enc))) (hg : Gl X "set" := by rfl) (he : starEach [a] X.env = (false, eval a X.env) :: starEach [] X.env := by rfl) (hpl : (backTo pos (starEach [] X.env)).any (·.1) = false := by rfl) :
    Ev X (.Call (.Name "set" p) [a] [] pos) σ H (RSet X.w as) :=
  ev_callTy (Ks.cr X hc (room_u65 hr)) b_set hm (ea_cons h ea_nil he) (fun vs H1 _ t Q z => by
    obtain ⟨v, rfl, r1⟩ := one_of t
    exact ⟨v, as, rfl, r1, hf, fun u H' s r => z u H' s r⟩) hg (by decide) (by decide) he hpl
theorem ev_sortSet [Ks α] {k : Nat} {as : List α} (hr : Room k X.A) (hc : X.calm = true) (hm : X.mg "sorted" = none) (h : Ev X a σ H (RSet X.w as)) (hg : Gl X "sorted" := by rfl) (he : starEach [a] X.env = (false, eval a X.env) :: starEach [] X.env := by rfl) (hpl : (backTo pos (starEach [] X.env)).any (·.1) = false := by rfl) :
    Ev X (.Call (.Name "sorted" p) [a] [] pos) σ H (Is (.list ((setL ltK as).map Kd.enc))) :=
  ev_callB (cr_sortSet (α := α) hc (room_u65 hr)) b_sorted hm (ea_cons h ea_nil he) (fun vs H1 _ t Q z => by
    obtain ⟨v, rfl, r1⟩ := one_of t
    exact ⟨v, as, rfl, r1, fun u H' s r => z u H' s r⟩) hg (by decide) (by decide) he hpl
end
end My
/-! C0 -/
namespace My
open PySem L2
theorem ixN_nat {n j : Nat} (h : j < n) : ixN n (j : Int) = some j := by
  unfold ixN
  rw [if_pos (by omega), if_pos (by omega)]
  simp

theorem seq_nat {α : Type} {xs : List α} {i : Nat} {y : α} (h : xs[i]? = some y) : seqIndex? (i : Int) xs.length = some i := (ixN_seq (ixN_nat (List.getElem?_eq_some_iff.mp h).1)).1

/-! ### what changes, and what stands beside it -/
def cut (ps : List Addr) (H : Hp) : Hp := fun b => if b ∈ ps then none else H b
theorem cut_in {ps : List Addr} {H : Hp} {p : Addr} (h : p ∈ ps) : cut ps H p = none := if_pos h
theorem cut_out {ps : List Addr} {H : Hp} {p : Addr} (h : p ∉ ps) : cut ps H p = H p := if_neg h
theorem cut_same (ps : List Addr) (H : Hp) : Same (cut ps H) H := fun b o e => by
  by_cases h : b ∈ ps
  · rw [cut_in h] at e; cases e
  · rwa [cut_out h] at e
/-- F stands, and so do the objects ms, which F does not tell of -/
structure Mu (F : Hp) (ms : List (Addr × HO)) (H : Hp) : Prop where
  sam : Same F H
  at_ : ∀ q ∈ ms, F q.1 = none ∧ H q.1 = some q.2 ∧ ∀ xs, q.2 ≠ .tup xs
  nd : (ms.map (·.1)).Nodup
section
variable {F H H' : Hp} {ms : List (Addr × HO)} {p : Addr} {o o' : HO}
theorem Mu.nil (H : Hp) : Mu H [] H := ⟨Same.refl H, fun _ h => (by cases h), List.nodup_nil⟩
theorem Mu.eval (m : Mu F ms H) (s : Same H H') : Mu F ms H' := ⟨m.sam.trans s, fun q hq => ⟨(m.at_ q hq).1, s _ _ (m.at_ q hq).2.1, (m.at_ q hq).2.2⟩, m.nd⟩
theorem Mu.one (m : Mu F ((p, o) :: ms) H) : H p = some o := (m.at_ _ List.mem_cons_self).2.1
theorem Mu.two {q : Addr × HO} (m : Mu F (q :: (p, o) :: ms) H) : H p = some o := (m.at_ _ (List.mem_cons_of_mem _ List.mem_cons_self)).2.1
theorem Mu.non (m : Mu F ((p, o) :: ms) H) : F p = none := (m.at_ _ List.mem_cons_self).1
theorem Mu.sm (m : Mu F ms H) : Sm F H := sm_of m.sam
theorem Mu.put (m : Mu F ((p, o) :: ms) H) (nt : ∀ xs, o' ≠ .tup xs) : Mu F ((p, o') :: ms) (upd H p o') := by
  have hn := m.nd
  rw [List.map_cons, List.nodup_cons] at hn
  refine ⟨same_mut m.sam m.non, fun q hq => ?_, m.nd⟩
  rcases List.mem_cons.mp hq with rfl | hq
  · exact ⟨m.non, upd_same, nt⟩
  · have := m.at_ q (List.mem_cons_of_mem _ hq)
    have ne : q.1 ≠ p := fun e => hn.1 (e ▸ List.mem_map.mpr ⟨q, hq, rfl⟩)
    exact ⟨this.1, by rw [upd_ne ne]; exact this.2.1, this.2.2⟩
theorem Mu.swap {q r : Addr × HO} (m : Mu F (q :: r :: ms) H) : Mu F (r :: q :: ms) H := ⟨m.sam, fun x hx => m.at_ x (by
  rcases List.mem_cons.mp hx with rfl | hx
  · exact List.mem_cons_of_mem _ List.mem_cons_self
  · rcases List.mem_cons.mp hx with rfl | hx
    · exact List.mem_cons_self
    · exact List.mem_cons_of_mem _ (List.mem_cons_of_mem _ hx)), by
  have h := m.nd
  simp only [List.map_cons, List.nodup_cons, List.mem_cons, not_or] at h ⊢
  exact ⟨⟨fun e => h.1.1 e.symm, h.2.1⟩, h.1.2, h.2.2⟩⟩
theorem Mu.rot {q r t : Addr × HO} (m : Mu F (q :: r :: t :: ms) H) : Mu F (t :: q :: r :: ms) H := ⟨m.sam, fun x hx => m.at_ x (by
  simp only [List.mem_cons] at hx ⊢
  rcases hx with h | h | h | h <;> simp [h]), by
  have h := m.nd
  simp only [List.map_cons, List.nodup_cons, List.mem_cons, not_or] at h ⊢
  exact ⟨⟨fun e => h.1.2.1 e.symm, fun e => h.2.1.1 e.symm, h.2.2.1⟩, ⟨h.1.1, h.1.2.2⟩, h.2.1.2, h.2.2.2⟩⟩
theorem Mu.new (m : Mu F ms H) (hp : H p = none) (nt : ∀ xs, o ≠ .tup xs) : Mu F ((p, o) :: ms) (upd H p o) := by
  have fp : F p = none := by
    cases e : F p with
    | none => rfl
    | some u => rw [m.sam _ _ e] at hp; cases hp
  refine ⟨same_mut m.sam fp, fun q hq => ?_, ?_⟩
  · rcases List.mem_cons.mp hq with rfl | hq
    · exact ⟨fp, upd_same, nt⟩
    · have := m.at_ q hq
      have ne : q.1 ≠ p := fun e => by rw [← e, this.2.1] at hp; cases hp
      exact ⟨this.1, by rw [upd_ne ne]; exact this.2.1, this.2.2⟩
  · rw [List.map_cons, List.nodup_cons]
    refine ⟨fun h => ?_, m.nd⟩
    obtain ⟨q, hq, e⟩ := List.mem_map.mp h
    have := (m.at_ q hq).2.1
    rw [show q.1 = p from e, hp] at this
    cases this
/-- a new object laid by an evaluation -/
theorem Mu.add (m : Mu F ms H) (s : Same H H') (hp : H p = none) (h' : H' p = some o) (nt : ∀ xs, o ≠ .tup xs) : Mu F ((p, o) :: ms) H' := by
  have m' := m.eval s
  have fp : F p = none := by
    cases e : F p with
    | none => rfl
    | some u => rw [m.sam _ _ e] at hp; cases hp
  refine ⟨m'.sam, fun q hq => ?_, ?_⟩
  · rcases List.mem_cons.mp hq with rfl | hq
    · exact ⟨fp, h', nt⟩
    · exact m'.at_ q hq
  · rw [List.map_cons, List.nodup_cons]
    refine ⟨fun h => ?_, m.nd⟩
    obtain ⟨q, hq, e⟩ := List.mem_map.mp h
    have := (m.at_ q hq).2.1
    rw [show q.1 = p from e, hp] at this
    cases this
/-- all but the changing things -/
def Mu.rest (ms : List (Addr × HO)) (H : Hp) : Hp := cut (ms.map (·.1)) H
theorem Mu.wide (m : Mu F ms H) : Same F (Mu.rest ms H) ∧ Mu (Mu.rest ms H) ms H ∧ Tp H (Mu.rest ms H) := by
  have cn : ∀ q ∈ ms, q.1 ∈ ms.map (·.1) := fun q hq => List.mem_map.mpr ⟨q, hq, rfl⟩
  refine ⟨fun b u e => ?_, ⟨cut_same _ _, fun q hq => ⟨cut_in (cn q hq), (m.at_ q hq).2⟩, m.nd⟩, fun b xs e => ?_⟩
  · have h : b ∉ ms.map (·.1) := fun hb => by
      obtain ⟨q, hq, e1⟩ := List.mem_map.mp hb
      rw [← e1, (m.at_ q hq).1] at e
      cases e
    show cut _ _ b = _
    rw [cut_out h]
    exact m.sam _ _ e
  · have h : b ∉ ms.map (·.1) := fun hb => by
      obtain ⟨q, hq, e1⟩ := List.mem_map.mp hb
      rw [← e1, (m.at_ q hq).2.1] at e
      injection e with e
      exact (m.at_ q hq).2.2 xs e
    show cut _ _ b = _
    rw [cut_out h]
    exact e
/-- a thing is finished: it changes no more -/
theorem Mu.done (m : Mu F ((p, o) :: ms) H) : ∃ F', Same F F' ∧ Mu F' ms H ∧ Tp H F' ∧ F' p = some o := by
  have m2 : Mu F ms H := ⟨m.sam, fun q hq => m.at_ q (List.mem_cons_of_mem _ hq), (List.nodup_cons.mp m.nd).2⟩
  obtain ⟨h1, h2, h3⟩ := m2.wide
  refine ⟨_, h1, h2, h3, ?_⟩
  have h : p ∉ ms.map (·.1) := (List.nodup_cons.mp m.nd).1
  show cut _ _ p = _
  rw [cut_out h]
  exact m.one
theorem Mu.forget {q : Addr × HO} (m : Mu F (q :: ms) H) : Mu F ms H := ⟨m.sam, fun x hx => m.at_ x (List.mem_cons_of_mem _ hx), (List.nodup_cons.mp m.nd).2⟩
theorem Mu.shift {F' : Hp} (m : Mu F ms H) (s : Same F F') (m' : Mu F' ms H) : Mu F' ms H := m'
end

/-! ### what a loop walks -/
abbrev Cond (ps : List Addr) (F H : Hp) : Prop := ∀ p ∈ ps, F p = none ∧ ∃ o, H p = some o ∧ ∀ xs, o ≠ .tup xs
/-- e's value reads off what is not of ps -/
def EvF (X : Cx) (e : Expr) (σ : L2.St) (F : Hp) (ps : List Addr) (R : Rel) : Prop := ∀ H1, Same F H1 → Cond ps F H1 → ∀ Q : VK, (∀ v G H2, Same H1 H2 → Same F G → Same G H2 → Tp H2 G → (∀ p ∈ ps, G p = none) → R v G → Q v H2) → wE X e σ H1 Q
def SrcF (X : Cx) (tg iter : Expr) (σ : L2.St) (F : Hp) (ps : List Addr) (ds : List PyData) : Prop := ∀ H1, Same F H1 → Cond ps F H1 → ∀ R : It → Hp → Prop, (∀ J G H2, Same H1 H2 → Same F G → Same G H2 → Tp H2 G → (∀ p ∈ ps, G p = none) → Wk J ds G → R J H2) → wI X tg iter σ H1 R
theorem cond_cut {ps : List Addr} {F H1 H2 : Hp} (c : Cond ps F H1) (s : Same H1 H2) (f : Same F H1) : Same F (cut ps H2) ∧ Tp H2 (cut ps H2) := by
  refine ⟨fun b o e => ?_, fun b xs e => ?_⟩
  · rw [cut_out (fun h => by rw [(c b h).1] at e; cases e)]
    exact s _ _ (f _ _ e)
  · rw [cut_out (fun h => by
      obtain ⟨_, o, ho, nt⟩ := c b h
      rw [s _ _ ho] at e
      injection e with e
      exact nt xs e)]
    exact e
section
variable {X : Cx} {σ : L2.St} {F : Hp} {ps : List Addr} {e iter tg : Expr} {pos : Pos} {R : Rel} {ds : List PyData}
theorem evF_name (i : Nat) {x : Str} {v : V} [Mono R] (hs : σ[i]? = some (some v)) (r : R v F) (hN : X.N[i]? = some x := by rfl)
    (hv : Vis X.env.scope x := by first | exact Or.inl rfl | exact Or.inr (Or.inl rfl) | exact Or.inr (Or.inr rfl)) (hd : (x == ("__debug__" : Str)) = false := by decide) (hcd : (x == ("__classdict__" : Str)) = false := by decide) : EvF X (.Name x pos) σ F ps R :=
  fun H1 m c Q k => we (pe_var hN hv hd hcd) ⟨v, hs, by
    obtain ⟨a, b⟩ := cond_cut c (Same.refl H1) m
    exact k v _ H1 (Same.refl H1) a (cut_same _ _) b (fun p hp => cut_in hp) (Mono.up (sm_of a) r)⟩
/-- a value without lists -/
theorem evF_tup {d : PyData} (h : Ev X e σ F (Is d)) (t : tupD d = true) : EvF X e σ F ps (Is d) := fun H1 m c Q k => h H1 (sm_of m) Q fun v H2 s r => by
  obtain ⟨a, b⟩ := cond_cut c s m
  exact k v _ H2 s a (cut_same _ _) b (fun p hp => cut_in hp) (Rp.tps b _ _ t r)
/-- a new list -/
theorem evF_new (h : EvN X e σ F ds) (t : tupDs ds = true) : EvF X e σ F ps (Is (.list ds)) := fun H1 m c Q k => h H1 (sm_of m) Q fun p xs H2 s fr hp hx => by
  obtain ⟨a, b⟩ := cond_cut c s m
  refine k _ _ H2 s a (cut_same _ _) b (fun p hp => cut_in hp) (.lst (.inl ?_) (RpA.tps b _ _ t hx))
  rw [cut_out (fun h => by
    obtain ⟨_, o, ho, _⟩ := c p h
    rw [ho] at fr
    cases fr)]
  exact hp
theorem srcF_list (h : EvF X iter σ F ps (Is (.list ds))) : SrcF X tg iter σ F ps ds := fun H1 m c R k => by
  refine wi (pi_list (pe_w iter)) ?_
  refine we_inv (h H1 m c _ fun v G H2 s2 f g tp np r2 pins s I => ?_)
  cases r2 with
  | @lst a xs _ ha hx =>
    have sm : Sm G H2 := sm_of g
    obtain ⟨_, _, _, hz⟩ := I.list (a := a) (xs := xs) (.inl (sm.rd _ _ True.intro ha))
    have up : ∀ {H'}, Same G H' → SqL X.K H' a xs := fun s => .inl ((sm_of s).rd _ _ True.intro ha)
    refine ⟨a, rfl, ⟨xs, up g⟩, k _ G H2 s2 f g tp np ⟨by rw [← hx.length]; exact hz, fun i H' s hi => ⟨xs, xs[i]'(by rw [hx.length]; exact hi), up s, by simp⟩, fun H' s => ⟨xs, up s, by rw [hx.length]; exact Nat.le_refl _⟩, fun i H' x H'' s y hi => ?_⟩⟩
    obtain ⟨e, q⟩ := y
    subst e
    obtain ⟨d, hd, hr⟩ := hx.get (q xs (up s))
    exact ⟨Same.refl _, d, hd, Rp.mono (sm_of s) _ _ hr⟩
theorem srcF_tup (h : EvF X iter σ F ps (Is (.tuple ds))) : SrcF X tg iter σ F ps ds := fun H1 m c R k => by
  refine wi (pi_tup (pe_w iter)) ?_
  refine we_inv (h H1 m c _ fun v G H2 s2 f g tp np r2 pins s I => ?_)
  cases r2 with
  | @tup a xs _ ha hx =>
    obtain ⟨_, _, _, hz⟩ := I.tuple (a := a) (xs := xs) (SqT.of (g _ _ ha))
    have up : ∀ {H'}, Same G H' → SqT X.K H' a xs := fun s => SqT.of (s _ _ ha)
    refine ⟨a, rfl, ⟨xs, up g⟩, k _ G H2 s2 f g tp np ⟨by rw [← hx.length]; exact hz, fun i H' s hi => ⟨xs, xs[i]'(by rw [hx.length]; exact hi), up s, by simp⟩, fun H' s => ⟨xs, up s, by rw [hx.length]; exact Nat.le_refl _⟩, fun i H' x H'' s y hi => ?_⟩⟩
    obtain ⟨e, q⟩ := y
    subst e
    obtain ⟨d, hd, hr⟩ := hx.get (q xs (up s))
    exact ⟨Same.refl _, d, hd, Rp.mono (sm_of s) _ _ hr⟩
theorem srcF_range {n : Nat} {p : Pos} (h : Ev X iter σ F (Is (.int (n : Int)))) (hn : n ≤ 100000) (hm : X.mg "range" = none) (hg : Gl X "range" := by rfl) (hs : starEach [iter] X.env = [(false, eval iter X.env)] := by rfl) :
    SrcF X tg (.Call (.Name "range" p) [iter] [] pos) σ F ps ((List.range n).map fun i => .int (i : Nat)) := fun H1 m c R k => by
  refine wi (pi_range1 hg hm (pa_cons (pe_w iter) pa_nil (by rw [hs]; rfl)) hs) ?_
  refine h H1 (sm_of m) _ fun v H2 s2 r2 => ⟨n, by rw [is_int r2], by omega, by omega, ?_⟩
  obtain ⟨a, b⟩ := cond_cut c s2 m
  refine k _ _ H2 s2 a (cut_same _ _) b (fun p hp => cut_in hp) ⟨by rw [List.length_map, List.length_range]; exact Nat.le_trans hn (by decide), fun i H' s hi => ?_, fun H' s => ?_, fun i H' x H'' s y hi => ?_⟩
  · rw [List.length_map, List.length_range] at hi
    show i < (n : Int).toNat
    omega
  · rw [List.length_map, List.length_range]
    show (n : Int).toNat ≤ n
    omega
  · obtain ⟨e, q⟩ := y
    subst e q
    rw [List.length_map, List.length_range] at hi
    refine ⟨Same.refl _, .int (i : Nat), by rw [List.getElem?_map, List.getElem?_range hi]; rfl, ?_⟩
    rw [Int.zero_add]
    exact .int _
theorem srcF_enum {p tpos : Pos} {elts : List Expr} {kk : Nat} (h : EvF X iter σ F ps (Is (.list ds))) (hm : X.mg "enumerate" = none) (hg : Gl X "enumerate" := by rfl) (hs : starEach [iter] X.env = [(false, eval iter X.env)] := by rfl) :
    SrcF X (.Tuple elts kk tpos) (.Call (.Name "enumerate" p) [iter] [] pos) σ F ps (numbered ds) := fun H1 m c R k => by
  refine wi (pi_enum hg hm (pa_cons (pe_w iter) pa_nil (by rw [hs]; rfl)) hs) ?_
  refine we_inv (h H1 m c _ fun v G H2 s2 f g tp np r2 pins s I => ?_)
  cases r2 with
  | @lst a xs _ ha hx =>
    have up : ∀ {H'}, Same G H' → SqL X.K H' a xs := fun s => .inl ((sm_of s).rd _ _ True.intro ha)
    obtain ⟨_, _, _, hz⟩ := I.list (up g)
    refine ⟨a, xs, rfl, up g, k _ G H2 s2 f g tp np ⟨by rw [numbered_length, ← hx.length]; exact hz, fun i H' s hi => ⟨xs, xs[i]'(by rw [hx.length, ← numbered_length]; exact hi), up s, by simp⟩, fun H' s => ⟨xs, up s, by rw [hx.length, numbered_length]; exact Nat.le_refl _⟩, fun i H' x H'' s y hi => ?_⟩⟩
    obtain ⟨T, z, e1, hT, e2, q⟩ := y
    subst e1 e2
    obtain ⟨d, hd, hr⟩ := hx.get (q xs (up s))
    refine ⟨same_new hT, _, numbered_get hd, .tup upd_same (.cons (.int _) (.cons (Rp.mono ((sm_of s).trans (sm_of (same_new hT))) _ _ hr) .nil))⟩
end

/-! ### for, while -/
section
variable {X : Cx} {σ : L2.St} {F H : Hp} {ps : List Addr} {D : Ends} {iter tg c : Expr} {body : List Stmt} {pos : Pos} {α : Type} {l : List α} {enc : α → PyData}
theorem s_for (src : SrcF X tg iter σ F ps (l.map enc)) (m : Same F H) (hc : Cond ps F H)
    (go : ∀ G H2, Same F G → Tp H2 G → (∀ p ∈ ps, G p = none) → Same H H2 → Same G H2 → ∃ I : Nat → L2.St → Hp → Prop, I 0 σ H2 ∧ (∀ i σ H, I i σ H → Same G H) ∧
      (∀ i x σ H H' v, l[i]? = some x → I i σ H → Same H H' → Rp H' v (enc x) → wG X tg v σ H' fun σ2 H2 => wB X body { D with nx := I (i + 1), ct := I (i + 1), bk := D.nx } σ2 H2) ∧ ∀ σ H, I l.length σ H → D.nx σ H)
    (hp : PassesOwn (model X.prog X.w) X.A X.env X.xe := by exact PassesOwn.never) (hcl : X.calm = true := by rfl) (hs : ∀ x, foldedSetIterable iter X.env x = pure x := by intro _; rfl) : wS X (.For tg iter body [] pos) D σ H := by
  refine ws (ps_for hp hcl (pi_w tg iter) (pg_w tg) (pb_w body) hs) ?_
  refine src H m hc _ fun J G H2 s2 f g tp np W => ?_
  obtain ⟨I, h0, hG, turn, fin⟩ := go G H2 f tp np s2 g
  have hl : (l.map enc).length = l.length := List.length_map ..
  refine ⟨fun i m σ H => m = l.length - i ∧ i ≤ l.length ∧ I i σ H, ⟨l.length, rfl, Nat.zero_le _, h0⟩, ?_⟩
  rintro i mm σ' H' ⟨rfl, hi, hI⟩
  by_cases hlt : i < l.length
  · refine .inr ⟨W.go i H' (hG _ _ _ hI) (by rw [hl]; exact hlt), I (i + 1), fun σ'' H'' p => ⟨l.length - (i + 1), by omega, rfl, hlt, p⟩, fun v H3 y => ?_⟩
    obtain ⟨s3, d, hd, rd⟩ := W.yld i H' v H3 (hG _ _ _ hI) y (by rw [hl]; exact hlt)
    obtain ⟨x, hx, ex⟩ : ∃ x, l[i]? = some x ∧ enc x = d := by
      rw [List.getElem?_map] at hd
      cases q : l[i]? with
      | none => rw [q] at hd; cases hd
      | some x => rw [q] at hd; exact ⟨x, rfl, Option.some.inj hd⟩
    subst ex
    exact turn i x σ' H' H3 v hx hI s3 rd
  · have e : i = l.length := by omega
    subst e
    exact .inl ⟨by have := W.stop H' (hG _ _ _ hI); rwa [hl] at this, fin _ _ hI⟩
/-- a loop's target, a name -/
theorem g_name {P : L2.St → Hp → Prop} (i : Nat) {x : Str} {v : V} (nd : X.N.Nodup) (h : P (σ.set i (some v)) H) (hi : X.N[i]? = some x := by rfl) (hx : Loc X.env.scope x := by first | exact Or.inl rfl | exact Or.inr rfl)
    (hf : X.fn x = true ∨ X.env.scope.names.lookup x = some .local := by first | exact .inl rfl | exact .inr rfl) : wG X (.Name x pos) v σ H P := eg_name i nd hi hx hf P h
theorem s_while {W : Nat → L2.St → Hp → Prop} (m0 : Nat) (h0 : W m0 σ H)
    (turn : ∀ m σ H, W m σ H → ∃ b, EvT X c σ H b ∧ (b = true → ∀ H1, Same H H1 → wB X body { D with nx := fun σ' H' => ∃ m', m' < m ∧ W m' σ' H', ct := fun σ' H' => ∃ m', m' < m ∧ W m' σ' H', bk := D.nx } σ H1) ∧ (b = false → ∀ H1, Same H H1 → D.nx σ H1))
    (hp : PassesOwn (model X.prog X.w) X.A X.env X.xe := by exact PassesOwn.never) : wS X (.While c body [] pos) D σ H := by
  refine ws (ps_while hp (pt_w c) (pb_w body)) ⟨W, ⟨m0, h0⟩, fun m σ H w => ?_⟩
  obtain ⟨b, hb, h1, h2⟩ := turn m σ H w
  refine hb.go fun H1 s1 => ?_
  cases b with
  | true => exact iteT ⟨fun σ' H' => ∃ m', m' < m ∧ W m' σ' H', fun _ _ h => h, h1 rfl H1 s1⟩
  | false => exact iteF (h2 rfl H1 s1)
end

/-! ### lists that change -/
section
variable {X : Cx} {σ : L2.St} {H : Hp} {D : Ends} {o e : Expr} {es : List Expr} {pos apos : Pos} {p : Addr} {xs : List V}
theorem ty_list {K : PySem.W.Frag} (h : H p = some (.lst xs)) : tyV K "list" (.ref p) H := by
  exact .inl ⟨rfl, xs, .inl (.inl h)⟩
/-- o is the very list at p -/
def At (X : Cx) (o : Expr) (σ : L2.St) (H : Hp) (p : Addr) : Prop := ∀ Q : VK, Q (.ref p) H → wE X o σ H Q
theorem at_name (i : Nat) {x : Str} (hs : σ[i]? = some (some (.ref p))) (hN : X.N[i]? = some x := by rfl)
    (hv : Vis X.env.scope x := by first | exact Or.inl rfl | exact Or.inr (Or.inl rfl) | exact Or.inr (Or.inr rfl)) (hd : (x == ("__debug__" : Str)) = false := by decide) (hcd : (x == ("__classdict__" : Str)) = false := by decide) : At X (.Name x pos) σ H p :=
  fun Q q => we (pe_var hN hv hd hcd) ⟨_, hs, q⟩
theorem wa_one {Q : List V → Hp → Prop} (h : wE X e σ H fun v H1 => Q [v] H1) (hs : starEach [e] X.env = (false, eval e X.env) :: starEach [] X.env := by rfl) : wA X [e] σ H Q := wa (pa_cons (pe_w e) pa_nil hs) h
/-- xs.append(e) -/
theorem e_append {R : Rel} {Q : VK} (ho : At X o σ H p) (hp : H p = some (.lst xs)) (he : Ev X e σ H R) (hz : xs.length < 100000) (k : ∀ v H1, Same H H1 → R v H1 → Q .non (upd H1 p (.lst (xs ++ [v]))))
    (hbase : attributeBase o "append" X.env (eval o X.env) = eval o X.env := by rfl)
    (hfew : ((backTo pos (starEach [e] X.env)).all (fun x => !x.1) && (backToKw pos (keywordEach [] X.env)).all (fun x => x.1.isSome) && decide ([e].length + ([] : List Keyword).length + (if ([] : List Keyword).isEmpty then 0 else 1) < 30)) = true := by rfl)
    (hline : (apos.endLine == pos.line) = true := by rfl) (hs : starEach [e] X.env = (false, eval e X.env) :: starEach [] X.env := by rfl) (hpl : (backTo pos (starEach [] X.env)).any (·.1) = false := by rfl) :
    wE X (.Call (.Attribute o "append" apos) [e] [] pos) σ H Q :=
  we (pe_bm PySem.F.plainAttrs_list PySem.F.slot_list_append PySem.F.type_list_append mt_append (pe_w o) (pa_w [e]) hbase hfew hline hs hpl) (ho _ ⟨ty_list hp, wa_one (he.go fun v H1 s1 rv => ⟨p, xs, v, rfl, rfl, s1 _ _ hp, Nat.lt_of_lt_of_le hz (by decide), k v H1 s1 rv⟩) hs⟩)
/-- xs.pop() -/
theorem e_pop {Q : VK} {y : V} (ho : At X o σ H p) (hp : H p = some (.lst (xs ++ [y]))) (k : Q y (upd H p (.lst xs))) (hbase : attributeBase o "pop" X.env (eval o X.env) = eval o X.env := by rfl) (hline : (apos.endLine == pos.line) = true := by rfl) :
    wE X (.Call (.Attribute o "pop" apos) [] [] pos) σ H Q :=
  we (pe_bm0 PySem.F.plainAttrs_list PySem.F.slot_list_pop PySem.F.type_list_pop mt_pop (pe_w o) hbase hline) (ho _ ⟨ty_list hp, p, xs ++ [y], y, rfl, rfl, hp, by simp, by simpa using k⟩)
/-- xs.pop(i) -/
theorem e_popAt {Q : VK} {y : V} {i : Nat} (ho : At X o σ H p) (hp : H p = some (.lst xs)) (he : wE X e σ H fun v H1 => v = .int (i : Nat) ∧ H1 p = some (.lst xs) ∧ xs[i]? = some y ∧ i < 100000 ∧ Q y (upd H1 p (.lst (xs.eraseIdx i))))
    (hbase : attributeBase o "pop" X.env (eval o X.env) = eval o X.env := by rfl)
    (hfew : ((backTo pos (starEach [e] X.env)).all (fun x => !x.1) && (backToKw pos (keywordEach [] X.env)).all (fun x => x.1.isSome) && decide ([e].length + ([] : List Keyword).length + (if ([] : List Keyword).isEmpty then 0 else 1) < 30)) = true := by rfl)
    (hline : (apos.endLine == pos.line) = true := by rfl) (hs : starEach [e] X.env = (false, eval e X.env) :: starEach [] X.env := by rfl) (hpl : (backTo pos (starEach [] X.env)).any (·.1) = false := by rfl) :
    wE X (.Call (.Attribute o "pop" apos) [e] [] pos) σ H Q :=
  we (pe_bm PySem.F.plainAttrs_list PySem.F.slot_list_pop PySem.F.type_list_pop mt_popAt (pe_w o) (pa_w [e]) hbase hfew hline hs hpl) (ho _ ⟨ty_list hp, wa_one (fun pins s I => thn (he pins s I) fun u s' ⟨v, H', I', r, e1, h1, h2, h3, q⟩ => ⟨v, H', I', r, p, xs, (i : Nat), i, y, rfl, by rw [e1], h1, by omega, by omega, seq_nat h2, h2, q⟩) hs⟩)
open AutoSeq1 in
theorem ext_tup (l : Addr) (its : Array Value) (n : Nat) (b : Addr) (its2 : Array Value) (n2 : Nat) (dd : Option Addr) (sl : Array (Option Value)) (h0 : ¬(!its.isEmpty && Builtin.List.listTooLong (its.size + its2.size)) = true) (h1 : its.size ≤ sizeLine) (h2 : its.size + its2.size ≤ sizeLine + 1) :
    Meets (Builtin.«list.extend» ⟨[.ref l, .ref b], []⟩) (fun _ R s => s.heap.get? l = some { cls := .type "list", dict := none, data := .seq its n, slots := #[] } ∧ s.heap.get? b = some { cls := .type "tuple", dict := dd, data := .seq its2 n2, slots := sl } ∧ R (.ok (.ret Value.none)) { s with heap := s.heap.update l (Obj.mapSeq fun x => x ++ its2), toks := s.toks }) :=
  .of_wp fun prog w A R s h => by
    obtain ⟨hp, g, d, tk, os⟩ := s
    obtain ⟨hl, hb, h⟩ := h
    have f1 := idx_int
    have f2 := sub_tuple_tuple
    have f3 := sub_list_list
    have f4 := sub_tuple_list
    have f5 := sub_list_tuple
    have hz' : (its ++ its2).size ≤ sizeLine + 1 := by rw [Array.size_append]; exact h2
    wp_walk using (wpAny_updateSeq hl rfl (hz := h1) (_hz' := hz')), wpAny_loadPart' hl, wpAny_loadPart' hb
    exact ⟨_, rfl, h⟩
/-- xs.extend(e), e a list or a tuple -/
theorem mt_extendS : MtM X "list.extend" (fun x vs H Q => ∃ l b xs zs, x = .ref l ∧ vs = [.ref b] ∧ H l = some (.lst xs) ∧ (H b = some (.lst zs) ∨ H b = some (.tup zs)) ∧ xs.length + zs.length ≤ 100000 ∧ Q .non (upd H l (.lst (xs ++ zs)))) := by
  intro pins s σ H x vs v us Q I rx rv h
  obtain ⟨l, b, xs, zs, rfl, rfl, hH, hB, hz, q⟩ := h
  have hz' : xs.length + zs.length ≤ sizeLine := Nat.le_trans hz (by decide)
  rcases hB with hB | hB
  · exact mt_extend pins s σ H _ _ v us Q I rx rv ⟨l, b, xs, zs, rfl, rfl, hH, hB, hz', q⟩
  · cases rx
    obtain ⟨u, rfl, ru⟩ := rv.one
    cases ru
    obtain ⟨z, its, n, r, hl, e⟩ := I.lstM hH
    obtain ⟨its2, r2, ⟨⟨cls, dd, data, sl⟩, e2, hc2, n2, hd2⟩, _⟩ := I.tuple (SqT.of (K := X.K) hB)
    simp only at hc2 hd2
    subst hc2 hd2
    have sz : its.toArray.size + its2.toArray.size ≤ sizeLine := by
      rw [List.size_toArray, List.size_toArray, ← hl, ← r2.length]
      exact hz'
    have nl : ¬ (!its.toArray.isEmpty && Builtin.List.listTooLong (its.toArray.size + its2.toArray.size)) = true := by
      rw [notLongL sz, Bool.and_false]
      exact Bool.false_ne_true
    refine call_meets PySem.F.slot_list_extend ⟨_, e, rfl⟩ PySem.F.entry_list_extend (PySem.F.args_list_extend_2 _ _) (ext_tup l its.toArray n b its2.toArray n2 dd sl nl (by rw [List.size_toArray, ← hl]; omega) (Nat.le_succ_of_le sz)) ⟨e, e2, ?_⟩
    refine ⟨.non, _, I.lset (its' := its ++ its2) hH e (by simp) (r.append r2) ?_, rfl, q⟩
    rw [List.length_append]
    omega
theorem e_extend {ds : List PyData} {Q : VK} (ho : At X o σ H p) (hp : H p = some (.lst xs)) (he : Ev X e σ H (Is (.tuple ds))) (hz : xs.length + ds.length ≤ 100000) (k : ∀ ys H1, Same H H1 → RpA H1 ys ds → Q .non (upd H1 p (.lst (xs ++ ys))))
    (hbase : attributeBase o "extend" X.env (eval o X.env) = eval o X.env := by rfl)
    (hfew : ((backTo pos (starEach [e] X.env)).all (fun x => !x.1) && (backToKw pos (keywordEach [] X.env)).all (fun x => x.1.isSome) && decide ([e].length + ([] : List Keyword).length + (if ([] : List Keyword).isEmpty then 0 else 1) < 30)) = true := by rfl)
    (hline : (apos.endLine == pos.line) = true := by rfl) (hs : starEach [e] X.env = (false, eval e X.env) :: starEach [] X.env := by rfl) (hpl : (backTo pos (starEach [] X.env)).any (·.1) = false := by rfl) :
    wE X (.Call (.Attribute o "extend" apos) [e] [] pos) σ H Q :=
  we (pe_bm PySem.F.plainAttrs_list PySem.F.slot_list_extend PySem.F.type_list_extend mt_extendS (pe_w o) (pa_w [e]) hbase hfew hline hs hpl) (ho _ ⟨ty_list hp, wa_one (he.go fun v H1 s1 rv => by
    cases rv with
    | @tup a ys _ h1 h2 => exact ⟨p, a, xs, ys, rfl, rfl, s1 _ _ hp, .inr h1, by rw [h2.length]; exact hz, k ys H1 s1 h2⟩) hs⟩)
end
end My
/-! C1 -/
namespace My
open PySem L2
section
variable {X : Cx} {σ : L2.St} {H : Hp} {R : Rel} {a b c e o : Expr} {es : List Expr} {p pos apos p2 : Pos}
/-! ### displays with starred parts -/
theorem ea_star {ds es' : List PyData} (h : Ev X e σ H (Sq ds)) (ht : EvA X es σ H (IsA es')) (hs : starEach (.Starred e p :: es) X.env = (true, eval e X.env) :: starEach es X.env := by rfl) : EvA X (.Starred e p :: es) σ H (IsA (ds ++ es')) :=
  fun H1 m Q z => wa (StX.pa_star (pe_w e) (pa_w es) hs) (h H1 m _ fun v H2 s2 r2 => by
    have fin : ∀ xs, RpA H2 xs ds → wA X es σ H2 fun ys H3 => Q (xs ++ ys) H3 := fun xs hx => ht H2 (m.trans (sm_of s2)) _ fun ys H3 s3 r3 => z _ H3 (s2.trans s3) (RpA.append (RpA.mono (sm_of s3) _ _ hx) r3)
    rcases r2 with r2 | r2
    · cases r2 with
      | @lst q xs _ h1 h2 => exact ⟨q, xs, rfl, .inr (.inl h1), fin xs h2⟩
    · cases r2 with
      | @tup q xs _ h1 h2 => exact ⟨q, xs, rfl, .inl (SqT.of h1), fin xs h2⟩)
theorem sq_l {ds : List PyData} (h : Ev X e σ H (Is (.list ds))) : Ev X e σ H (Sq ds) := h.weak fun _ _ r => .inl r
theorem sq_t {ds : List PyData} (h : Ev X e σ H (Is (.tuple ds))) : Ev X e σ H (Sq ds) := h.weak fun _ _ r => .inr r

/-! ### globals -/
theorem ev_glob {x : Str} {v : V} {u : Value} [Mono R] (hm : X.mg x = some u) (r : RelV v u) (h : R v H) (hg : Gl X x := by rfl) (hd : (x == ("__debug__" : Str)) = false := by decide) : Ev X (.Name x pos) σ H R :=
  fun H1 m Q k => we (pe_glob hg hm r hd) (k v H1 (Same.refl H1) (Mono.up m h))

/-! ### two comparisons -/
theorem ev_leLe {i j k : Int} (ha : Ev X a σ H (Is (.int i))) (hb : Ev X b σ H (Is (.int j))) (hc : Ev X c σ H (Is (.int k))) (hm : lastMarks [.LtE, .LtE] [b, c] = false := by with_unfolding_all rfl) :
    Ev X (.Compare a [.LtE, .LtE] [b, c] pos) σ H (Is (.bool (decide (i ≤ j) && decide (j ≤ k)))) := fun H1 m Q z =>
  we (pe_chain op_le op_le (pe_w a) (pe_w b) (pe_w c) hm) (ha H1 m _ fun x H2 s2 r2 => hb H2 (m.trans (sm_of s2)) _ fun y H3 s3 r3 => ⟨i, j, is_int r2, is_int r3, _, rfl, by
    by_cases h : i ≤ j
    · rw [decide_eq_true h]
      refine iteT (hc H3 (m.trans (sm_of (s2.trans s3))) _ fun w H4 s4 r4 => ⟨j, k, is_int r3, is_int r4, z _ _ ((s2.trans s3).trans s4) ?_⟩)
      rw [decide_eq_true h]
      exact .bl _
    · rw [decide_eq_false h]
      refine iteF (z _ _ (s2.trans s3) ?_)
      rw [decide_eq_false h]
      exact .bl _⟩)
theorem ev_leLt {i j k : Int} (ha : Ev X a σ H (Is (.int i))) (hb : Ev X b σ H (Is (.int j))) (hc : Ev X c σ H (Is (.int k))) (hm : lastMarks [.LtE, .Lt] [b, c] = false := by with_unfolding_all rfl) :
    Ev X (.Compare a [.LtE, .Lt] [b, c] pos) σ H (Is (.bool (decide (i ≤ j) && decide (j < k)))) := fun H1 m Q z =>
  we (pe_chain op_le op_lt (pe_w a) (pe_w b) (pe_w c) hm) (ha H1 m _ fun x H2 s2 r2 => hb H2 (m.trans (sm_of s2)) _ fun y H3 s3 r3 => ⟨i, j, is_int r2, is_int r3, _, rfl, by
    by_cases h : i ≤ j
    · rw [decide_eq_true h]
      refine iteT (hc H3 (m.trans (sm_of (s2.trans s3))) _ fun w H4 s4 r4 => ⟨j, k, is_int r3, is_int r4, z _ _ ((s2.trans s3).trans s4) ?_⟩)
      rw [decide_eq_true h]
      exact .bl _
    · rw [decide_eq_false h]
      refine iteF (z _ _ (s2.trans s3) ?_)
      rw [decide_eq_false h]
      exact .bl _⟩)

/-! ### slices -/
def wO (X : Cx) (e : Option Expr) : TO := fun σ H Q => ∀ (pins : List (Addr × Obj)) (s : Shared), Inv X pins σ H s → wpAny (model X.prog X.w) X.A (evalPart e X.env) (fun u s' => ∃ o H', Inv X pins σ H' s' ∧ IsPart u o ∧ Q o H') X.xe s
def EvO (X : Cx) (e : Option Expr) (σ : L2.St) (H : Hp) (i : Option Int) : Prop := ∀ H1, Sm H H1 → ∀ Q : Option Int → Hp → Prop, (∀ H2, Same H1 H2 → Q i H2) → wO X e σ H1 Q
theorem po_w (e : Option Expr) : PO X e (wO X e) := ⟨fun pins s σ H Q I h => h pins s I⟩
theorem eo_none : EvO X none σ H none := fun H1 _ Q k pins s I => po_none.run pins s σ H1 Q I (k H1 (Same.refl H1))
theorem eo_some {i : Int} (h : Ev X e σ H (Is (.int i))) : EvO X (some e) σ H (some i) := fun H1 m Q k pins s I => (po_some (pe_w e)).run pins s σ H1 Q I (h H1 m _ fun v H2 s2 r2 => ⟨i, is_int r2, k H2 s2⟩)
def cutD {α : Type} (xs : List α) (lo hi : Option Int) : List α := (xs.drop (HT.sIx xs.length 0 lo)).take (HT.sIx xs.length xs.length hi - HT.sIx xs.length 0 lo)
theorem cutD_drop {α : Type} (xs : List α) (n : Nat) : cutD xs (some (n : Int)) none = xs.drop n := by
  unfold cutD
  rw [HT.sIx_nat, HT.sIx_none]
  rw [List.take_of_length_le (by rw [List.length_drop]; omega)]
  rcases Nat.le_total n xs.length with h | h
  · rw [Nat.min_eq_left h]
  · rw [Nat.min_eq_right h, List.drop_length, List.drop_eq_nil_of_le h]
theorem cutD_take {α : Type} (xs : List α) (n : Nat) : cutD xs none (some (n : Int)) = xs.take n := by
  unfold cutD
  rw [HT.sIx_nat, HT.sIx_none, List.drop_zero, Nat.sub_zero]
  rcases Nat.le_total n xs.length with h | h
  · rw [Nat.min_eq_left h]
  · rw [Nat.min_eq_right h, List.take_length, List.take_of_length_le h]
theorem cutD_map {α β : Type} (f : α → β) (xs : List α) (lo hi : Option Int) : cutD (xs.map f) lo hi = (cutD xs lo hi).map f := by
  unfold cutD
  rw [List.length_map, List.map_take, List.map_drop]
theorem RpA.cut {xs : List V} {ds : List PyData} (h : RpA H xs ds) (lo hi : Option Int) : RpA H (cutV xs lo hi) (cutD ds lo hi) := by
  unfold cutV cutD
  rw [h.length]
  exact (h.drop _).take _
/-- a list's slice is a new list -/
theorem evN_slice {ds : List PyData} {lo hi : Option Expr} {i j : Option Int} (h : Ev X e σ H (Is (.list ds))) (hl : EvO X lo σ H i) (hh : EvO X hi σ H j) : EvN X (.Subscript e (.Slice lo hi none p2) pos) σ H (cutD ds i j) := fun H1 m Q k =>
  we (pe_slice sl_list (pe_w e) (po_w lo) (po_w hi)) (h H1 m _ fun v H2 s2 r2 => hl H2 (m.trans (sm_of s2)) _ fun H3 s3 => hh H3 (m.trans (sm_of (s2.trans s3))) _ fun H4 s4 => by
    cases r2 with
    | @lst q xs _ h1 h2 =>
      refine ⟨q, xs, rfl, .inl ((sm_of (s3.trans s4)).rd _ _ True.intro h1), fun l hl => k l _ _ (((s2.trans s3).trans s4).trans (same_new hl)) ?_ upd_same ?_⟩
      · exact ((s2.trans s3).trans s4).free hl
      · exact RpA.mono (sm_of (same_new hl)) _ _ (RpA.cut (RpA.mono (sm_of (s3.trans s4)) _ _ h2) _ _))
/-- .. a tuple's, not the whole -/
theorem ev_sliceT {ds : List PyData} {lo hi : Option Expr} {i j : Option Int} (h : Ev X e σ H (Is (.tuple ds))) (hl : EvO X lo σ H i) (hh : EvO X hi σ H j) (hw : ¬ (HT.sIx ds.length 0 i = 0 ∧ HT.sIx ds.length ds.length j = ds.length)) : Ev X (.Subscript e (.Slice lo hi none p2) pos) σ H (Is (.tuple (cutD ds i j))) := fun H1 m Q k =>
  we (pe_slice sl_tup (pe_w e) (po_w lo) (po_w hi)) (h H1 m _ fun v H2 s2 r2 => hl H2 (m.trans (sm_of s2)) _ fun H3 s3 => hh H3 (m.trans (sm_of (s2.trans s3))) _ fun H4 s4 => by
    cases r2 with
    | @tup q xs _ h1 h2 =>
      refine ⟨q, xs, rfl, SqT.of ((s3.trans s4) _ _ h1), by rw [h2.length]; exact hw, fun l hl => k _ _ (((s2.trans s3).trans s4).trans (same_new hl)) (.tup upd_same ?_)⟩
      exact RpA.mono (sm_of (same_new hl)) _ _ (RpA.cut (RpA.mono (sm_of (s3.trans s4)) _ _ h2) _ _))
/-! ### t + u -/
theorem op_tupAdd : OpR X (binaryOp .Add) (fun x y H Q => ∃ a b xs ys, x = .ref a ∧ y = .ref b ∧ SqT X.K H a xs ∧ SqT X.K H b ys ∧ xs.length + ys.length ≤ sizeLine ∧ (xs = [] → Q (.ref b) H) ∧ (ys = [] → Q (.ref a) H) ∧ ∀ p, H p = none → Q (.ref p) (upd H p (.tup (xs ++ ys)))) := by
  intro pins s σ H x y v u Q I rx ry h
  obtain ⟨a, b, xs, ys, rfl, rfl, ha, hb, hz, q0, q1, q2⟩ := h
  by_cases hx : xs = []
  · cases rx
    cases ry
    obtain ⟨its, r1, ⟨⟨cls, dd, data, sl⟩, ho, hc, n, hd⟩, _⟩ := I.tuple ha
    obtain ⟨its2, r2, ⟨⟨cls2, dd2, data2, sl2⟩, ho2, hc2, n2, hd2⟩, _⟩ := I.tuple hb
    simp only at hc hd hc2 hd2
    subst hc hd hc2 hd2
    have e : its = [] := r1.nil_iff.mpr hx
    exact PySem.concat_meets ⟨_, ho, rfl⟩ ⟨_, ho2, rfl⟩ noFill_tuple_add seq_tuple_add PySem.F.slot_tuple_add PySem.F.entry_tuple_add (PySem.F.args_tuple_add_2 _ _)
      (PyProof.Rows.tuple_addW0 a b its.toArray its2.toArray n n2 dd dd2 sl sl2 (by simp [e])) ⟨ho, ho2, ⟨.ref b, H, I, rfl, q0 hx⟩⟩
  · exact op_catT pins s σ H _ _ v u Q I rx ry ⟨a, b, xs, ys, rfl, rfl, ha, hb, hx, hz, q1, fun _ => q2⟩
theorem ev_addT {ds es' : List PyData} (ha : Ev X a σ H (Is (.tuple ds))) (hb : Ev X b σ H (Is (.tuple es'))) (hz : ds.length + es'.length ≤ 100000) : Ev X (.BinOp a .Add b pos) σ H (Is (.tuple (ds ++ es'))) :=
  ev_op op_tupAdd ha hb fun x y H1 _ h1 h2 Q k => by
    cases h1 with
    | @tup a xs _ ha hx =>
      cases h2 with
      | @tup b ys _ hb hy =>
        refine ⟨a, b, xs, ys, rfl, rfl, SqT.of ha, SqT.of hb, by rw [hx.length, hy.length]; exact Nat.le_trans hz (by decide), fun e => ?_, fun e => ?_, fun p hp => ?_⟩
        · subst e
          cases hx
          exact k _ _ (Same.refl _) (.tup hb hy)
        · subst e
          cases hy
          rw [List.append_nil] at k
          exact k _ _ (Same.refl _) (.tup ha hx)
        · exact k _ _ (same_new hp) (.tup upd_same (RpA.mono (sm_of (same_new hp)) _ _ (hx.append hy)))
/-! ### d.get(k, x), a text key -/
theorem ev_dget2 {k : Nat} {m : List (Str × PyData)} {x : Str} {d : PyData} (hr : Room k X.A) (ha : Ev X o σ H (DK m)) (hb : Ev X a σ H (Is (.str x))) (hc : Ev X b σ H (Is d)) (M : M2 X o "get" apos a b pos) : Ev X (.Call (.Attribute o "get" apos) [a, b] [] pos) σ H (Is ((look m x).getD d)) := fun H1 mm Q z =>
  we (pe_dget2 (hu_of hr) (pe_w o) (pe_w a) (pe_w b) M) (ha H1 mm _ fun v H2 s2 r2 => by
    obtain ⟨p, kvs, e, h1, h2⟩ := id r2
    refine ⟨p, e, ?_, hb H2 (mm.trans (sm_of s2)) _ fun y H3 s3 r3 => hc H3 (mm.trans (sm_of (s2.trans s3))) _ fun w H4 s4 r4 => ?_⟩
    · first
        | exact .inl ⟨kvs, h1⟩
        | exact .inl (.inl ⟨kvs, h1⟩)
        | exact ⟨kvs, .inl h1⟩
    · have q := (h2.mono (sm_of (s3.trans s4))).look (x := x)
      have h1' : Rd H4 p (.dK kvs) := (sm_of (s3.trans s4)).rd _ _ True.intro h1
      refine ⟨valV kvs (.inr x), .inl ⟨kvs, .inr x, h1', is_str r3, rfl⟩, ?_⟩
      cases hl : look m x with
      | some d' =>
        rw [hl] at q
        obtain ⟨u, hu, ru⟩ := q
        rw [hu]
        exact z _ _ ((s2.trans s3).trans s4) (by rw [hl]; exact ru)
      | none =>
        rw [hl] at q
        rw [q]
        exact z _ _ ((s2.trans s3).trans s4) (by rw [hl]; exact r4))
end
end My
namespace My
open PySem L2
section
variable {X : Cx} {σ : L2.St} {H : Hp} {a : Expr} {p pos : Pos}
theorem ev_lenS {x : Str} (hm : X.mg "len" = none) (h : Ev X a σ H (Is (.str x))) (hz : x.length ≤ 1000) (hg : Gl X "len" := by rfl) (he : starEach [a] X.env = (false, eval a X.env) :: starEach [] X.env := by rfl) (hpl : (backTo pos (starEach [] X.env)).any (·.1) = false := by rfl) :
    Ev X (.Call (.Name "len" p) [a] [] pos) σ H (Is (.int (x.length : Int))) :=
  ev_callB call_len_str b_len hm (ea_cons h ea_nil he) (fun vs H1 _ t Q z => by
    obtain ⟨v, rfl, r1⟩ := one_of t
    exact ⟨x, by rw [is_str r1], Nat.le_trans hz (by decide), z _ _ (Same.refl _) (.int _)⟩) hg (by decide) (by decide) he hpl
theorem cr_lenD : CallR X (.builtin "len") (fun xs H Q => ∃ a kvs, xs = [V.ref a] ∧ Rd H a (.dK kvs) ∧ Q (.int (kvs.length : Nat)) H) := by
  intro pins s σ H xs us Q I r h
  obtain ⟨a, kvs, rfl, hd, q⟩ := h
  obtain ⟨u, rfl, ru⟩ := vals1 r
  cases ru
  exact d_len I hd fun t s' I' => ⟨.int kvs.length, H, I', ⟨t, rfl⟩, q⟩
theorem ev_lenD {m : List (Str × PyData)} (hm : X.mg "len" = none) (h : Ev X a σ H (DK m)) (hg : Gl X "len" := by rfl) (he : starEach [a] X.env = (false, eval a X.env) :: starEach [] X.env := by rfl) (hpl : (backTo pos (starEach [] X.env)).any (·.1) = false := by rfl) :
    Ev X (.Call (.Name "len" p) [a] [] pos) σ H (Is (.int (m.length : Int))) :=
  ev_callB cr_lenD b_len hm (ea_cons h ea_nil he) (fun vs H1 _ t Q z => by
    obtain ⟨v, rfl, q, kvs, rfl, h1, h2⟩ := one_of t
    exact ⟨q, kvs, rfl, h1, by rw [h2.length]; exact z _ _ (Same.refl _) (.int _)⟩) hg (by decide) (by decide) he hpl
end
end My
namespace My
open PySem L2
/-! ### comparisons as tests -/
section
variable {X : Cx} {σ : L2.St} {H : Hp} {a b c : Expr} {p pos : Pos}
theorem et_leLe {i j k : Int} (ha : Ev X a σ H (Is (.int i))) (hb : Ev X b σ H (Is (.int j))) (hc : Ev X c σ H (Is (.int k))) (hm : lastMarks [.LtE, .LtE] [b, c] = false := by with_unfolding_all rfl) : EvT X (.Compare a [.LtE, .LtE] [b, c] pos) σ H (decide (i ≤ j) && decide (j ≤ k)) := fun H1 m Q z =>
  wt (pt_chain op_le op_le (pe_w a) (pe_w b) (pe_w c) hm) (ha H1 m _ fun x H2 s2 r2 => hb H2 (m.trans (sm_of s2)) _ fun y H3 s3 r3 => ⟨i, j, is_int r2, is_int r3, _, rfl, by
    by_cases h : i ≤ j
    · rw [decide_eq_true h]
      refine iteT (hc H3 (m.trans (sm_of (s2.trans s3))) _ fun w H4 s4 r4 => ⟨j, k, is_int r3, is_int r4, _, rfl, ?_⟩)
      rw [decide_eq_true h] at z
      exact z _ ((s2.trans s3).trans s4)
    · rw [decide_eq_false h]
      refine iteF ⟨_, rfl, ?_⟩
      rw [decide_eq_false h] at z
      exact z _ (s2.trans s3)⟩)
theorem et_leLt {i j k : Int} (ha : Ev X a σ H (Is (.int i))) (hb : Ev X b σ H (Is (.int j))) (hc : Ev X c σ H (Is (.int k))) (hm : lastMarks [.LtE, .Lt] [b, c] = false := by with_unfolding_all rfl) : EvT X (.Compare a [.LtE, .Lt] [b, c] pos) σ H (decide (i ≤ j) && decide (j < k)) := fun H1 m Q z =>
  wt (pt_chain op_le op_lt (pe_w a) (pe_w b) (pe_w c) hm) (ha H1 m _ fun x H2 s2 r2 => hb H2 (m.trans (sm_of s2)) _ fun y H3 s3 r3 => ⟨i, j, is_int r2, is_int r3, _, rfl, by
    by_cases h : i ≤ j
    · rw [decide_eq_true h]
      refine iteT (hc H3 (m.trans (sm_of (s2.trans s3))) _ fun w H4 s4 r4 => ⟨j, k, is_int r3, is_int r4, _, rfl, ?_⟩)
      rw [decide_eq_true h] at z
      exact z _ ((s2.trans s3).trans s4)
    · rw [decide_eq_false h]
      refine iteF ⟨_, rfl, ?_⟩
      rw [decide_eq_false h] at z
      exact z _ (s2.trans s3)⟩)
theorem et_lt {i j : Int} (ha : Ev X a σ H (Is (.int i))) (hb : Ev X b σ H (Is (.int j))) : EvT X (.Compare a [.Lt] [b] pos) σ H (decide (i < j)) :=
  et_cmp op_lt (nomark _) ha hb fun x y H1 _ h1 h2 Q k => ⟨i, j, is_int h1, is_int h2, k _ (Same.refl _)⟩
theorem et_gt {i j : Int} (ha : Ev X a σ H (Is (.int i))) (hb : Ev X b σ H (Is (.int j))) : EvT X (.Compare a [.Gt] [b] pos) σ H (decide (j < i)) :=
  et_cmp op_gt (nomark _) ha hb fun x y H1 _ h1 h2 Q k => ⟨i, j, is_int h1, is_int h2, k _ (Same.refl _)⟩
theorem et_le {i j : Int} (ha : Ev X a σ H (Is (.int i))) (hb : Ev X b σ H (Is (.int j))) : EvT X (.Compare a [.LtE] [b] pos) σ H (decide (i ≤ j)) :=
  et_cmp op_le (nomark _) ha hb fun x y H1 _ h1 h2 Q k => ⟨i, j, is_int h1, is_int h2, k _ (Same.refl _)⟩
theorem et_ge {i j : Int} (ha : Ev X a σ H (Is (.int i))) (hb : Ev X b σ H (Is (.int j))) : EvT X (.Compare a [.GtE] [b] pos) σ H (decide (j ≤ i)) :=
  et_cmp op_ge (nomark _) ha hb fun x y H1 _ h1 h2 Q k => ⟨i, j, is_int h1, is_int h2, k _ (Same.refl _)⟩
theorem et_eqD {k n : Nat} {d d' : PyData} (hr : Room k X.A) (ha : Ev X a σ H (Is d)) (hb : Ev X b σ H (Is d')) (h1 : Shp n d) (h2 : Shp n d') (hn : n ≤ 64 := by decide) : EvT X (.Compare a [.Eq] [b] pos) σ H (PyData.eqv d d') :=
  et_cmp (op_eqP hn (room_u65 hr)) (nomark _) ha hb fun x y H1 _ r1 r2 Q k => ⟨d, d', r1, r2, h1, h2, k _ (Same.refl _)⟩
theorem et_neD {k n : Nat} {d d' : PyData} (hr : Room k X.A) (ha : Ev X a σ H (Is d)) (hb : Ev X b σ H (Is d')) (h1 : Shp n d) (h2 : Shp n d') (hn : n ≤ 64 := by decide) : EvT X (.Compare a [.NotEq] [b] pos) σ H (!PyData.eqv d d') :=
  et_cmp (op_neP hn (room_u65 hr)) (nomark _) ha hb fun x y H1 _ r1 r2 Q k => ⟨d, d', r1, r2, h1, h2, k _ (Same.refl _)⟩
theorem et_inD {k n : Nat} {ds : List PyData} {d : PyData} (hr : Room k X.A) (ha : Ev X a σ H (Is d)) (hb : Ev X b σ H (Sq ds)) (h1 : Shp n d) (h2 : PyData.plainAll ds = true) (hn : n ≤ 64 := by decide) (hm : behindInMarks .In b = false := by rfl) : EvT X (.Compare a [.In] [b] pos) σ H (ds.any fun z => PyData.eqv z d) :=
  et_cmp (op_inS hn (room_u65 hr)) hm ha hb fun x y H1 _ r1 r2 Q k => ⟨d, ds, r1, r2, h1, h2, k _ (Same.refl _)⟩
theorem et_notInD {k n : Nat} {ds : List PyData} {d : PyData} (hr : Room k X.A) (ha : Ev X a σ H (Is d)) (hb : Ev X b σ H (Sq ds)) (h1 : Shp n d) (h2 : PyData.plainAll ds = true) (hn : n ≤ 64 := by decide) (hm : behindInMarks .NotIn b = false := by rfl) : EvT X (.Compare a [.NotIn] [b] pos) σ H (!ds.any fun z => PyData.eqv z d) :=
  et_cmp (op_notInS hn (room_u65 hr)) hm ha hb fun x y H1 _ r1 r2 Q k => ⟨d, ds, r1, r2, h1, h2, k _ (Same.refl _)⟩
theorem et_inN {k : Nat} {xs : List Str} {x : Str} (hr : Room k X.A) (ha : Ev X a σ H (Is (.str x))) (hb : Ev X b σ H (Sq (xs.map .str))) (hm : behindInMarks .In b = false := by rfl) : EvT X (.Compare a [.In] [b] pos) σ H (decide (x ∈ xs)) :=
  (et_inD (n := 0) hr ha hb shp_str (shpA_strs (n := 0) xs).1 (by decide) hm).is (by rw [any_strs])
theorem et_notInN {k : Nat} {xs : List Str} {x : Str} (hr : Room k X.A) (ha : Ev X a σ H (Is (.str x))) (hb : Ev X b σ H (Sq (xs.map .str))) (hm : behindInMarks .NotIn b = false := by rfl) : EvT X (.Compare a [.NotIn] [b] pos) σ H (!decide (x ∈ xs)) :=
  (et_notInD (n := 0) hr ha hb shp_str (shpA_strs (n := 0) xs).1 (by decide) hm).is (by rw [any_strs])
def isNone : PyData → Bool
  | .none => true
  | _ => false
theorem et_isN {d : PyData} {j p'} (ha : Ev X a σ H (Is d)) : EvT X (.Compare a [.Is] [.Constant .none j p'] pos) σ H (isNone d) :=
  et_cmp op_isN (nomark _) ha ev_non fun x y H1 _ r1 r2 Q k => ⟨is_non r2, by cases r1 <;> exact k _ (Same.refl _)⟩
theorem et_notN {d : PyData} {j p'} (ha : Ev X a σ H (Is d)) : EvT X (.Compare a [.IsNot] [.Constant .none j p'] pos) σ H (!isNone d) :=
  et_cmp op_notN (nomark _) ha ev_non fun x y H1 _ r1 r2 Q k => ⟨is_non r2, by cases r1 <;> exact k _ (Same.refl _)⟩
end
end My
/-! D1 -/
namespace My
open PySem L2
section
variable {P : Program} {w : World} {K : PySem.W.Frag} {mg : Str → Option Value} {base : Heap}
/-! ### tupled -/
abbrev sTupled : Stmt := top 9
theorem sc_tupled : FnScope ["value", "part"] ["value"] (defScope sTupled) := ⟨rfl, rfl, rfl, by decide +kernel, rfl, by decide +kernel, by decide +kernel⟩
theorem kt_none : kitsB "NoneType" ["list", "tuple"] = some false := by decide +kernel
theorem kt_bool : kitsB "bool" ["list", "tuple"] = some false := by decide +kernel
theorem kt_int : kitsB "int" ["list", "tuple"] = some false := by decide +kernel
theorem kt_str : kitsB "str" ["list", "tuple"] = some false := by decide +kernel
theorem kt_tuple : kitsB "tuple" ["list", "tuple"] = some true := by decide +kernel
theorem kt_list : kitsB "list" ["list", "tuple"] = some true := by decide +kernel
def seqD : PyData → Bool
  | .list _ => true
  | .tuple _ => true
  | _ => false
theorem kt_seq {d : PyData} {v : V} {H : Hp} (h : Rp H v d) : kitsB (tyD d) ["list", "tuple"] = some (seqD d) := by
  cases h with
  | non => exact kt_none
  | bl b => exact kt_bool
  | int i => exact kt_int
  | str x => exact kt_str
  | lst => exact kt_list
  | tup => exact kt_tuple
theorem mem_depth {d : PyData} {n : Nat} : ∀ {ds : List PyData}, PyData.depthAll ds ≤ n → d ∈ ds → d.depth ≤ n
  | e :: ds, h, m => by
    simp only [PyData.depthAll] at h
    rcases List.mem_cons.mp m with rfl | m
    · omega
    · exact mem_depth (by omega) m
theorem mem_tupD {d : PyData} : ∀ {ds : List PyData}, tupDs ds = true → d ∈ ds → tupD d = true
  | e :: ds, h, m => by
    simp only [tupDs, Bool.and_eq_true] at h
    rcases List.mem_cons.mp m with rfl | m
    · exact h.1
    · exact mem_tupD h.2 m
def ATup (n : Nat) : PyData → RelA := fun d vs H => RpA H vs [d] ∧ tupD d = true ∧ d.depth ≤ n
theorem bl1 {A : PyData} {vs : List V} {H : Hp} (h : RpA H vs [A]) : ∃ v, vs = [v] ∧ Rp H v A := by
  cases h with
  | cons h1 h2 => cases h2; exact ⟨_, rfl, h1⟩
theorem cal_tupled (F : Df K mg "tupled" sTupled) (zt : mg "tuple" = none) (zl : mg "list" = none) (zi : mg "isinstance" = none) : ∀ n : Nat, C8.Cal P w K mg base (n + 1) "tupled" (PF (ATup n) Is) []
  | 0 => by
    refine cal_pf F sc_tupled (fun _ _ _ _ _ _ us hl => match us, hl with | [_], _ => rfl) (fun d vs H h => by obtain ⟨v, rfl, _⟩ := bl1 h.1; rfl) ?_
    intro f cdv Ar outer s H vs Q E d hr h q
    obtain ⟨h1, h2, h3⟩ := h
    obtain ⟨v, rfl, hv⟩ := bl1 h1
    refine b_one (s_ret (R := Is d) (ev_if (k := seqD d) (et_val (ev_isiT zi (ev_name 0 (R := Is d) rfl hv) (ev_tyTup (ev_ty zl b_list) (ev_ty zt b_tuple)) (kt_seq hv))) (fun z => ?_) fun _ => ev_name 0 (R := Is d) rfl hv) q)
    cases hv with
    | lst => simp [tupD] at h2
    | tup => simp [PyData.depth] at h3
    | _ => cases z
  | n + 1 => by
    have ih := cal_tupled F zt zl zi n
    refine cal_pf F sc_tupled (fun _ _ _ _ _ _ us hl => match us, hl with | [_], _ => rfl) (fun d vs H h => by obtain ⟨v, rfl, _⟩ := bl1 h.1; rfl) ?_
    intro f cdv Ar outer s H vs Q E d hr h q
    obtain ⟨h1, h2, h3⟩ := h
    obtain ⟨v, rfl, hv⟩ := bl1 h1
    refine b_one (s_ret (R := Is d) (ev_if (k := seqD d) (et_val (ev_isiT zi (ev_name 0 (R := Is d) rfl hv) (ev_tyTup (ev_ty zl b_list) (ev_ty zt b_tuple)) (kt_seq hv))) (fun z => ?_) fun _ => ev_name 0 (R := Is d) rfl hv) q)
    cases hv with
    | lst => simp [tupD] at h2
    | @tup a xs ds ha hx =>
      have hv : Rp H (.ref a) (.tuple ds) := .tup ha hx
      have t2 : tupDs ds = true := by simpa [tupD] using h2
      have t3 : PyData.depthAll ds ≤ n := by simp only [PyData.depth] at h3; omega
      refine ev_tuple zt (ev_lst_sq ?_)
      refine Ev.is (ev_lcA (i := 1) (l := ds) (enc := fun d => d) (g := fun d => d) (defScope sTupled) sc_tupled.nd (src_tup ?_) (fun x hx => mem_tupD t2 hx) fun x hx v H1 m r j => ?_) ?_
      · rw [List.map_id']
        exact ev_name 0 rfl hv
      · exact ev_pf x ih hr (ea_is (ev_name 1 rfl r) ea_isNil) (fun vs H1 _ t => ⟨t, mem_tupD t2 hx, mem_depth t3 hx⟩) (hk := Nat.le_refl _)
      · rw [List.map_id']
    | _ => cases z
end
end My
/-! D2 -/
namespace My
open PySem L2
/-- the builtins are what they are -/
structure Blt (mg : Str → Option Value) : Prop where
  tuple : mg "tuple" = none
  list : mg "list" = none
  set : mg "set" = none
  dict : mg "dict" = none
  str : mg "str" = none
  int : mg "int" = none
  bool : mg "bool" = none
  len : mg "len" = none
  sorted : mg "sorted" = none
  all : mg "all" = none
  any : mg "any" = none
  min : mg "min" = none
  max : mg "max" = none
  sum : mg "sum" = none
  abs : mg "abs" = none
  isi : mg "isinstance" = none
  range : mg "range" = none
  enum : mg "enumerate" = none
  zip : mg "zip" = none
section
variable {P : Program} {w : World} {K : PySem.W.Frag} {mg : Str → Option Value} {base : Heap}

/-! ### set_of -/
abbrev sSetOf : Stmt := top 8
theorem sc_setOf : FnScope ["some"] ["some"] (defScope sSetOf) := ⟨rfl, rfl, rfl, by decide +kernel, rfl, by decide +kernel, by decide +kernel⟩
theorem cal_setOf {α : Type} [Ks α] (F : Df K mg "set_of" sSetOf) (B : Blt mg) : C8.Cal P w K mg base 1 "set_of" (PF (fun (as : List α) vs H => ∃ v, vs = [v] ∧ Sq (as.map Kd.enc) v H ∧ FewL as (Ks.bound α)) fun as => Is (.tuple ((setL ltK as).map Kd.enc))) [] := by
  refine cal_pf (A := fun (as : List α) vs H => ∃ v, vs = [v] ∧ Sq (as.map Kd.enc) v H ∧ FewL as (Ks.bound α)) F sc_setOf (fun _ _ _ _ _ _ us hl => match us, hl with | [_], _ => rfl) (fun d vs H ⟨v, e, _⟩ => by rw [e]; rfl) ?_
  intro f cdv Ar outer s H vs Q E as hr ⟨v, e, hv, hf⟩ q
  subst e
  exact b_one (s_ret (ev_tuple B.tuple (sq_l (ev_sortSet (α := α) hr rfl B.sorted (ev_set hr rfl B.set hf (ev_name 0 (R := Sq (as.map Kd.enc)) rfl hv))))) q)

/-! ### is_name -/
abbrev sIsName : Stmt := top 7
theorem sc_isName : FnScope ["value", "letter"] ["value"] (defScope sIsName) := ⟨rfl, rfl, rfl, by decide +kernel, rfl, by decide +kernel, by decide +kernel⟩
def LETT : Str := "abcdefghijklmnopqrstuvwxyz"
theorem lett_cps : LETT.cps.toList = letters := by decide +kernel
theorem kt_str1 : kitB "str" "str" = some true := by decide +kernel
theorem b_str : bt "str" "str" := by decide +kernel
theorem b_bool : bt "bool" "bool" := by decide +kernel
theorem ev_inLett {X : Cx} {σ : L2.St} {H : Hp} {a b : Expr} {pos : Pos} {c : Nat} (ha : Ev X a σ H (Is (.str ⟨#[c]⟩))) (hb : Ev X b σ H (Is (.str LETT))) (hm : behindInMarks .In b = false := by rfl) : Ev X (.Compare a [.In] [b] pos) σ H (Is (.bool (decide (c ∈ letters)))) :=
  ev_cmp op_in_sign hm ha hb fun x y H1 _ r1 r2 Q k => ⟨c, LETT, is_str r1, is_str r2, by rw [lett_cps]; exact k _ _ (Same.refl _) (.bl _)⟩
theorem cal_isName (F : Df K mg "is_name" sIsName) (B : Blt mg) {t u : Tok} (hL : mg "LETTERS" = some (.str LETT t)) (hM : mg "LONGEST" = some (.int 8 u)) : C8.Cal P w K mg base 1 "is_name" (PF (fun (x : Str) vs H => RpA H vs [.str x] ∧ nmOk x = true) fun _ => Is (.bool true)) [] := by
  refine cal_pf F sc_isName (fun _ _ _ _ _ _ us hl => match us, hl with | [_], _ => rfl) (fun d vs H h => by obtain ⟨v, rfl, _⟩ := bl1 h.1; rfl) ?_
  intro f cdv Ar outer s H vs Q E x hr ⟨h1, hn⟩ q
  obtain ⟨v, rfl, hv⟩ := bl1 h1
  have hn' := hn
  unfold nmOk at hn
  simp only [Bool.and_eq_true, decide_eq_true_eq] at hn
  obtain ⟨⟨n1, n2⟩, n3⟩ := hn
  refine b_cons (s_if (k := false) (ew_t ((ew_or (k := false) (et_not (k := true) (et_val (ev_isi B.isi (ev_name 0 (R := Is (.str x)) rfl hv) (ev_ty B.str b_str) kt_str1))) fun _ => ew_or1 (k := false) (et_not (k := true) (EvT.is (et_leLe ev_int (ev_lenS B.len (ev_name 0 (R := Is (.str x)) rfl hv) ?_) (ev_glob (v := .int 8) (R := Is (.int 8)) hM ⟨u, rfl⟩ (.int 8))) ?_))))) (fun z => nomatch z) fun _ H1 s1 => b_nil ?_)
  · show x.cps.size ≤ 1000
    omega
  · have e1 : (1 : Int) ≤ (x.length : Int) := by show (1 : Int) ≤ (x.cps.size : Int); omega
    have e2 : (x.length : Int) ≤ 8 := by show (x.cps.size : Int) ≤ 8; omega
    rw [decide_eq_true e1, decide_eq_true e2]
    rfl
  · have hv1 : Rp H1 v (.str x) := Rp.mono (sm_of s1) _ _ hv
    refine b_one (s_ret (R := Is (.bool true)) (Ev.is (ev_all (bs := x.cps.toList.map fun c => decide (c ∈ letters)) B.all (Ev.is (ev_lcA (i := 1) (l := x.cps.toList) (enc := fun c => .str ⟨#[c]⟩) (g := fun c => .bool (decide (c ∈ letters))) (defScope sIsName) sc_isName.nd (src_str (ev_name 0 (R := Is (.str x)) rfl hv1) (by omega)) (fun c _ => by simp [tupD]) fun c hc v H2 m2 r2 j => ?_) (by rw [List.map_map]; rfl))) ?_) fun v H2 s2 r2 => q v H2 (s1.trans s2) r2)
    · exact ev_inLett (ev_name 1 rfl r2) (ev_glob (v := .str LETT) (R := Is (.str LETT)) hL ⟨t, rfl⟩ (.str _))
    · rw [List.all_map]
      congr 1
end
end My
/-! D3 -/
namespace My
open PySem L2
/-! ### blocks as data -/
theorem tupD_names (xs : List Str) : tupD (eN xs) = true := Kd.tup xs
theorem tupD_row (r : Row) : tupD (eR r) = true := Kd.tup r
theorem tupD_B (b : Blk) : tupD (eB b) = true := by
  show tupD (.tuple [.tuple (b.rows.map eR), eN b.live]) = true
  rw [tupD]
  simp only [tupDs, Bool.and_true, Bool.and_eq_true]
  exact ⟨by rw [tupD]; exact tup_map tupD_row _, tupD_names _⟩
theorem depth_N (xs : List Str) : (eN xs).depth ≤ 1 := by
  have := dep_map (f := PyData.str) (n := 0) (fun a => by simp [PyData.depth]) xs
  simp only [PyData.depth]
  omega
theorem depth_R (r : Row) : (eR r).depth ≤ 2 := by
  have := depth_N r.reads
  simp only [PyData.depth, PyData.depthAll] at this ⊢
  omega
theorem depth_B (b : Blk) : (eB b).depth ≤ 4 := by
  have h1 := dep_map (f := eR) depth_R b.rows
  have h2 := depth_N b.live
  simp only [PyData.depth, PyData.depthAll] at h1 h2 ⊢
  omega
theorem tup2 {H : Hp} {v : V} {d1 d2 : PyData} (h : Rp H v (.tuple [d1, d2])) : ∃ a v1 v2, v = .ref a ∧ H a = some (.tup [v1, v2]) ∧ Rp H v1 d1 ∧ Rp H v2 d2 := by
  cases h with
  | @tup a xs _ h1 h2 =>
    cases h2 with
    | cons r1 t => cases t with
      | cons r2 t => cases t; exact ⟨a, _, _, rfl, h1, r1, r2⟩
theorem tup3 {H : Hp} {v : V} {d1 d2 d3 : PyData} (h : Rp H v (.tuple [d1, d2, d3])) : ∃ a v1 v2 v3, v = .ref a ∧ H a = some (.tup [v1, v2, v3]) ∧ Rp H v1 d1 ∧ Rp H v2 d2 ∧ Rp H v3 d3 := by
  cases h with
  | @tup a xs _ h1 h2 =>
    cases h2 with
    | cons r1 t => cases t with
      | cons r2 t => cases t with
        | cons r3 t => cases t; exact ⟨a, _, _, _, rfl, h1, r1, r2, r3⟩
theorem bl2 {A B : PyData} {vs : List V} {H : Hp} (h : RpA H vs [A, B]) : ∃ v w, vs = [v, w] ∧ Rp H v A ∧ Rp H w B := by
  cases h with
  | cons h1 h2 =>
    obtain ⟨w, rfl, h3⟩ := bl1 h2
    exact ⟨_, w, rfl, h1, h3⟩
theorem bl3 {A B C : PyData} {vs : List V} {H : Hp} (h : RpA H vs [A, B, C]) : ∃ v w u, vs = [v, w, u] ∧ Rp H v A ∧ Rp H w B ∧ Rp H u C := by
  cases h with
  | cons h1 h2 =>
    obtain ⟨w, u, rfl, h3, h4⟩ := bl2 h2
    exact ⟨_, w, u, rfl, h1, h3, h4⟩
section
variable {P : Program} {w : World} {K : PySem.W.Frag} {mg : Str → Option Value} {base : Heap}
abbrev CTup (P : Program) (w : World) (K : PySem.W.Frag) (mg : Str → Option Value) (base : Heap) : Prop := C8.Cal P w K mg base 5 "tupled" (PF (ATup 4) Is) []
/-- tupled(block) -/
theorem ev_tupB {X : Cx} {σ : L2.St} {H : Hp} {e : Expr} {p pos : Pos} {j : Nat} {d : PyData} (c : CTup X.prog X.w X.K X.mg X.base) (hr : Room j X.A) (h : Ev X e σ H (Is d)) (ht : tupD d = true) (hd : d.depth ≤ 4) (hk : 5 ≤ j := by decide) (hg : Gl X "tupled" := by rfl)
    (he : starEach [e] X.env = (false, eval e X.env) :: starEach [] X.env := by rfl) (hpl : (backTo pos (starEach [] X.env)).any (·.1) = false := by rfl) : Ev X (.Call (.Name "tupled" p) [e] [] pos) σ H (Is d) :=
  ev_pf d c hr (ea_is h ea_isNil he) (fun vs H1 _ t => ⟨t, ht, hd⟩) hk hg (by decide) he hpl
/-- tupled(block)[0], [1] -/
theorem ev_tup0 {X : Cx} {σ : L2.St} {H : Hp} {e : Expr} {b : Blk} {k1 p1 pos : Pos} {j} (h : Ev X e σ H (Is (eB b))) : Ev X (.Subscript e (.Constant (.int 0) j p1) pos) σ H (Is (.tuple (b.rows.map eR))) := ev_ixT (i := 0) h ev_int rfl
theorem ev_tup1 {X : Cx} {σ : L2.St} {H : Hp} {e : Expr} {b : Blk} {p1 pos : Pos} {j} (h : Ev X e σ H (Is (eB b))) : Ev X (.Subscript e (.Constant (.int 1) j p1) pos) σ H (Is (eN b.live)) := ev_ixT (i := 1) h ev_int rfl

/-! ### table_of -/
abbrev sTable : Stmt := top 11
theorem sc_table : FnScope ["block", "name", "reads", "slow"] ["block"] (defScope sTable) := ⟨rfl, rfl, rfl, by decide +kernel, rfl, by decide +kernel, by decide +kernel⟩
abbrev CTab (P : Program) (w : World) (K : PySem.W.Frag) (mg : Str → Option Value) (base : Heap) : Prop := C8.Cal P w K mg base 6 "table_of" (PF (fun (b : Blk) vs H => RpA H vs [eB b] ∧ WF b) fun b => DK (tabD b)) []
theorem cal_table (F : Df K mg "table_of" sTable) (c : CTup P w K mg base) : CTab P w K mg base := by
  refine cal_pf F sc_table (fun _ _ _ _ _ _ us hl => match us, hl with | [_], _ => rfl) (fun d vs H h => by obtain ⟨v, rfl, _⟩ := bl1 h.1; rfl) ?_
  intro f cdv Ar outer s H vs Q E b hr ⟨h1, wf⟩ q
  obtain ⟨v, rfl, hv⟩ := bl1 h1
  refine b_one (s_ret (R := DK (tabD b)) (ev_dc (l := b.rows) (enc := eR) (ky := fun r => r.name) (g := fun r => .tuple [eN r.reads, .bool r.slow]) (own := [("name", 1), ("reads", 2), ("slow", 3)]) (defScope sTable) sc_table.nd (src_tup (ev_tup0 (k1 := ⟨0, 0, 0, 0⟩) (ev_tupB c hr (ev_name 0 (R := Is (eB b)) rfl hv) (tupD_B b) (depth_B b)))) wf.nd (fun r _ => ?_) fun r hr' v H1 m rv => ?_) q)
  · rw [tupD]
    simp only [tupDs, Bool.and_true, Bool.and_eq_true]
    exact ⟨tupD_names _, by simp [tupD]⟩
  · obtain ⟨a, v1, v2, v3, rfl, ha, r1, r2, r3⟩ := tup3 rv
    refine ⟨_, ?_, fun j => eg_tup (egs_cons (eg_name 1 sc_table.nd) (egs_cons (eg_name 2 sc_table.nd) (egs_cons (eg_name 3 sc_table.nd) egs_nil))) ha, fun j => ev_name 1 rfl r1, fun j => ev_tup (ea_is (ev_name 2 rfl r2) (ea_is (ev_name 3 rfl r3) ea_isNil)) (by simp)⟩
    rfl

/-! ### names_in, slow_in -/
abbrev sNamesIn : Stmt := top 13
theorem sc_namesIn : FnScope ["block", "row"] ["block"] (defScope sNamesIn) := ⟨rfl, rfl, rfl, by decide +kernel, rfl, by decide +kernel, by decide +kernel⟩
abbrev CNames (P : Program) (w : World) (K : PySem.W.Frag) (mg : Str → Option Value) (base : Heap) : Prop := C8.Cal P w K mg base 6 "names_in" (PF (fun (b : Blk) vs H => RpA H vs [eB b]) fun b => Is (eN (names b))) []
theorem row_name {r : Row} : atI [PyData.str r.name, eN r.reads, .bool r.slow] 0 = some (.str r.name) := rfl
theorem cal_namesIn (F : Df K mg "names_in" sNamesIn) (B : Blt mg) (c : CTup P w K mg base) : CNames P w K mg base := by
  refine cal_pf F sc_namesIn (fun _ _ _ _ _ _ us hl => match us, hl with | [_], _ => rfl) (fun d vs H h => by obtain ⟨v, rfl, _⟩ := bl1 h; rfl) ?_
  intro f cdv Ar outer s H vs Q E b hr h1 q
  obtain ⟨v, rfl, hv⟩ := bl1 h1
  refine b_one (s_ret (R := Is (eN (names b))) (ev_tuple B.tuple (sq_l (Ev.is (ev_lcA (i := 1) (l := b.rows) (enc := eR) (g := fun r => .str r.name) (defScope sNamesIn) sc_namesIn.nd (src_tup (ev_tup0 (k1 := ⟨0, 0, 0, 0⟩) (ev_tupB c hr (ev_name 0 (R := Is (eB b)) rfl hv) (tupD_B b) (depth_B b)))) (fun r _ => by simp [tupD]) fun r _ v H1 m rv j => ?_) ?_))) q)
  · exact ev_ixT (i := 0) (ev_name 1 rfl rv) ev_int row_name
  · rw [List.map_map]
    rfl
abbrev sSlowIn : Stmt := top 18
theorem sc_slowIn : FnScope ["block", "row"] ["block"] (defScope sSlowIn) := ⟨rfl, rfl, rfl, by decide +kernel, rfl, by decide +kernel, by decide +kernel⟩
abbrev CSlow (P : Program) (w : World) (K : PySem.W.Frag) (mg : Str → Option Value) (base : Heap) : Prop := C8.Cal P w K mg base 6 "slow_in" (PF (fun (b : Blk) vs H => RpA H vs [eB b]) fun b => Is (eN (slows b))) []
theorem cal_slowIn (F : Df K mg "slow_in" sSlowIn) (B : Blt mg) (c : CTup P w K mg base) : CSlow P w K mg base := by
  refine cal_pf F sc_slowIn (fun _ _ _ _ _ _ us hl => match us, hl with | [_], _ => rfl) (fun d vs H h => by obtain ⟨v, rfl, _⟩ := bl1 h; rfl) ?_
  intro f cdv Ar outer s H vs Q E b hr h1 q
  obtain ⟨v, rfl, hv⟩ := bl1 h1
  refine b_one (s_ret (R := Is (eN (slows b))) (ev_tuple B.tuple (sq_l (Ev.is (ev_lcN (i := 1) (l := b.rows) (enc := eR) (f := fun r => r.slow) (g := fun r => .str r.name) (defScope sSlowIn) sc_slowIn.nd (src_tup (ev_tup0 (k1 := ⟨0, 0, 0, 0⟩) (ev_tupB c hr (ev_name 0 (R := Is (eB b)) rfl hv) (tupD_B b) (depth_B b)))) (fun r _ _ => by simp [tupD]) fun r _ v H1 m rv => ⟨fun j => ?_, fun _ j => ?_⟩) ?_))) q)
  · exact ets_one (et_val (ev_ixT (i := 2) (ev_name 1 rfl rv) ev_int rfl))
  · exact ev_ixT (i := 0) (ev_name 1 rfl rv) ev_int row_name
  · rw [slows, List.map_map]
    rfl
end
end My
/-! D4 -/
namespace My
open PySem L2
theorem fewL_str (as : List Str) (h : as.length ≤ 4000) : FewL as (Ks.bound Str) := fun l hn hs => Nat.le_trans (fewL_len as l hn hs) h
section
variable {P : Program} {w : World} {K : PySem.W.Frag} {mg : Str → Option Value} {base : Heap}
/-! ### check_names -/
abbrev sCheckN : Stmt := top 14
theorem sc_checkN : FnScope ["block", "some", "known", "name"] ["block", "some"] (defScope sCheckN) := ⟨rfl, rfl, rfl, by decide +kernel, rfl, by decide +kernel, by decide +kernel⟩
abbrev CCheckN (P : Program) (w : World) (K : PySem.W.Frag) (mg : Str → Option Value) (base : Heap) : Prop := C8.Cal P w K mg base 7 "check_names" (PF (fun (p : Blk × List Str) vs H => RpA H vs [eB p.1, eN p.2] ∧ ∀ x ∈ p.2, x ∈ names p.1) fun _ => Is .none) []
theorem cal_checkN (F : Df K mg "check_names" sCheckN) (c : CNames P w K mg base) : CCheckN P w K mg base := by
  refine cal_pf F sc_checkN (fun _ _ _ _ _ _ us hl => match us, hl with | [_, _], _ => rfl) (fun d vs H h => by obtain ⟨v, w, rfl, _⟩ := bl2 h.1; rfl) ?_
  intro f cdv Ar outer s H vs Q E ⟨b, xs⟩ hr ⟨h1, hx⟩ q
  obtain ⟨v, u, rfl, hv, hu⟩ := bl2 h1
  refine b_cons (s_set 2 sc_checkN.nd (ev_pf b c hr (ea_is (ev_name 0 (R := Is (eB b)) rfl hv) ea_isNil) fun vs H1 _ t => t) fun kn H1 s1 rk => ?_)
  have rk' : Rp H1 kn (eN (names b)) := rk
  refine b_one (s_for (F := H1) (ps := []) (l := xs) (enc := PyData.str) (srcF_tup (evF_name 1 (R := Is (eN xs)) rfl (Rp.mono (sm_of s1) _ _ hu))) (Same.refl _) (fun p hp => nomatch hp) fun G H2 g _ _ s2 _ => ?_)
  refine ⟨fun i σ H => Same G H ∧ σ[0]? = some (some v) ∧ σ[2]? = some (some kn) ∧ σ.length = 4, ⟨?_, rfl, rfl, rfl⟩, fun i σ H h => h.1, ?_, fun σ H3 h => q .non H3 (s1.trans (g.trans h.1)) .non⟩
  · exact ‹Same G H2›
  · intro i x σ H3 H4 y hi ⟨hG, h0, h2, hl⟩ s4 ry
    refine g_name 3 sc_checkN.nd ?_
    have kn4 : Rp H4 kn (eN (names b)) := Rp.mono (sm_of ((g.trans hG).trans s4)) _ _ rk'
    have nm : x ∈ names b := hx x (List.mem_of_getElem? hi)
    refine b_one (s_if (k := false) (EvT.is (et_notInN hr (ev_name 3 (by rw [List.getElem?_set_self (by omega)]) ry) (sq_t (ev_name 2 (R := Is (eN (names b))) (by rw [List.getElem?_set_ne (by decide)]; exact h2) kn4))) (by simp [nm])) (fun z => nomatch z) fun _ H5 s5 => b_nil ?_)
    exact ⟨(hG.trans s4).trans s5, by rw [List.getElem?_set_ne (by decide)]; exact h0, by rw [List.getElem?_set_ne (by decide)]; exact h2, by rw [List.length_set]; exact hl⟩
/-- check_names(block, (x,)) as a statement -/
theorem s_checkN {X : Cx} {σ : L2.St} {H : Hp} {D : Ends} {e : Expr} {es : List Expr} {j k1 : Nat} {p pos pos2 p3 : Pos} {b : Blk} {xs : List Str} (c : CCheckN X.prog X.w X.K X.mg X.base) (hr : Room j X.A) (h : Ev X e σ H (Is (eB b))) (ht : EvA X es σ H (IsA (xs.map .str))) (hz : xs.length ≤ 10) (hx : ∀ x ∈ xs, x ∈ names b) (k : ∀ H1, Same H H1 → D.nx σ H1) (hk : 7 ≤ j := by decide)
    (hg : Gl X "check_names" := by rfl) (he : starEach [e, .Tuple es k1 p3] X.env = (false, eval e X.env) :: starEach [.Tuple es k1 p3] X.env := by rfl) (he2 : starEach [.Tuple es k1 p3] X.env = (false, eval (.Tuple es k1 p3) X.env) :: starEach [] X.env := by rfl) (hpl : (backTo pos (starEach [.Tuple es k1 p3] X.env)).any (·.1) = false := by rfl)
    (hs : swapsWith (.Call (.Name "check_names" p) [e, .Tuple es k1 p3] [] pos) none pos2.line X.env = pure false := by rfl) : wS X (.Expr (.Call (.Name "check_names" p) [e, .Tuple es k1 p3] [] pos) pos2) D σ H :=
  s_expr ((ev_pf (b, xs) c hr (ea_is h (ea_is (ev_tup ht (by rw [List.length_map]; omega)) ea_isNil he2) he) (fun vs H1 _ t => ⟨t, hx⟩) hk hg (by decide) he hpl).go fun v H1 s1 _ => k H1 s1) hs

/-! ### readers_of, awaited_in -/
abbrev sReaders : Stmt := top 15
theorem sc_readers : FnScope ["block", "name", "row"] ["block", "name"] (defScope sReaders) := ⟨rfl, rfl, rfl, by decide +kernel, rfl, by decide +kernel, by decide +kernel⟩
abbrev CReaders (P : Program) (w : World) (K : PySem.W.Frag) (mg : Str → Option Value) (base : Heap) : Prop := C8.Cal P w K mg base 8 "readers_of" (PF (fun (p : Blk × Str) vs H => RpA H vs [eB p.1, .str p.2] ∧ p.2 ∈ names p.1) fun p => Is (eN (readers p.1 p.2))) []
theorem cal_readers (F : Df K mg "readers_of" sReaders) (B : Blt mg) (c : CTup P w K mg base) (c2 : CCheckN P w K mg base) : CReaders P w K mg base := by
  refine cal_pf F sc_readers (fun _ _ _ _ _ _ us hl => match us, hl with | [_, _], _ => rfl) (fun d vs H h => by obtain ⟨v, w, rfl, _⟩ := bl2 h.1; rfl) ?_
  intro f cdv Ar outer s H vs Q E ⟨b, x⟩ hr ⟨h1, hx⟩ q
  obtain ⟨v, u, rfl, hv, hu⟩ := bl2 h1
  refine b_cons (s_checkN (b := b) (xs := [x]) c2 hr (ev_name 0 (R := Is (eB b)) rfl hv) (ea_is (ev_name 1 (R := Is (.str x)) rfl hu) ea_isNil) (by simp) (fun y hy => by rw [List.mem_singleton.mp hy]; exact hx) fun H1 s1 => ?_)
  have hv1 : Rp H1 v (eB b) := Rp.mono (sm_of s1) _ _ hv
  have hu1 : Rp H1 u (.str x) := Rp.mono (sm_of s1) _ _ hu
  refine b_one (s_ret (R := Is (eN (readers b x))) (ev_tuple B.tuple (sq_l (Ev.is (ev_lcN (i := 2) (l := b.rows) (enc := eR) (f := fun r => decide (x ∈ r.reads)) (g := fun r => .str r.name) (defScope sReaders) sc_readers.nd (src_tup (ev_tup0 (k1 := ⟨0, 0, 0, 0⟩) (ev_tupB c hr (ev_name 0 (R := Is (eB b)) rfl hv1) (tupD_B b) (depth_B b)))) (fun r _ _ => by simp [tupD]) fun r _ v H2 m rv => ⟨fun j => ?_, fun _ j => ?_⟩) ?_))) fun z H2 s2 r2 => q z H2 (s1.trans s2) r2)
  · exact ets_one (et_inN hr (ev_name 1 rfl (Rp.mono m _ _ hu1)) (sq_t (ev_ixT (i := 1) (ev_name 2 rfl rv) ev_int rfl)))
  · exact ev_ixT (i := 0) (ev_name 2 rfl rv) ev_int row_name
  · rw [readers, List.map_map]
    rfl
theorem ev_readers {X : Cx} {σ : L2.St} {H : Hp} {e e2 : Expr} {p pos : Pos} {j : Nat} {b : Blk} {x : Str} (c : CReaders X.prog X.w X.K X.mg X.base) (hr : Room j X.A) (h : Ev X e σ H (Is (eB b))) (h2 : Ev X e2 σ H (Is (.str x))) (hx : x ∈ names b) (hk : 8 ≤ j := by decide) (hg : Gl X "readers_of" := by rfl)
    (he : starEach [e, e2] X.env = (false, eval e X.env) :: starEach [e2] X.env := by rfl) (he2 : starEach [e2] X.env = (false, eval e2 X.env) :: starEach [] X.env := by rfl) (hpl : (backTo pos (starEach [e2] X.env)).any (·.1) = false := by rfl) : Ev X (.Call (.Name "readers_of" p) [e, e2] [] pos) σ H (Is (eN (readers b x))) :=
  ev_pf (b, x) c hr (ea_is h (ea_is h2 ea_isNil he2) he) (fun vs H1 _ t => ⟨t, hx⟩) hk hg (by decide) he hpl
abbrev sAwaited : Stmt := top 19
theorem sc_awaited : FnScope ["block", "live", "name"] ["block"] (defScope sAwaited) := ⟨rfl, rfl, rfl, by decide +kernel, rfl, by decide +kernel, by decide +kernel⟩
abbrev CAwaited (P : Program) (w : World) (K : PySem.W.Frag) (mg : Str → Option Value) (base : Heap) : Prop := C8.Cal P w K mg base 9 "awaited_in" (PF (fun (b : Blk) vs H => RpA H vs [eB b]) fun b => Is (eN (awaited b))) []
theorem slows_sub {b : Blk} {x : Str} (h : x ∈ slows b) : x ∈ names b := by
  obtain ⟨r, hr, e⟩ := List.mem_map.mp h
  exact List.mem_map.mpr ⟨r, (List.mem_filter.mp hr).1, e⟩
theorem cal_awaited (F : Df K mg "awaited_in" sAwaited) (B : Blt mg) (c : CTup P w K mg base) (c2 : CReaders P w K mg base) (c3 : CSlow P w K mg base) : CAwaited P w K mg base := by
  refine cal_pf F sc_awaited (fun _ _ _ _ _ _ us hl => match us, hl with | [_], _ => rfl) (fun d vs H h => by obtain ⟨v, rfl, _⟩ := bl1 h; rfl) ?_
  intro f cdv Ar outer s H vs Q E b hr h1 q
  obtain ⟨v, rfl, hv⟩ := bl1 h1
  refine b_cons (s_set 1 sc_awaited.nd (ev_tup1 (ev_tupB c hr (ev_name 0 (R := Is (eB b)) rfl hv) (tupD_B b) (depth_B b))) fun lv H1 s1 rl => ?_)
  have hv1 : Rp H1 v (eB b) := Rp.mono (sm_of s1) _ _ hv
  have rl' : Rp H1 lv (eN b.live) := rl
  refine b_one (s_ret (R := Is (eN (awaited b))) (ev_tuple B.tuple (sq_l (Ev.is (ev_lcN (i := 2) (l := slows b) (enc := PyData.str) (f := fun x => decide (x ∈ b.live) || decide (0 < (readers b x).length)) (g := PyData.str) (defScope sAwaited) sc_awaited.nd (src_tup (ev_pf b c3 hr (ea_is (ev_name 0 (R := Is (eB b)) rfl hv1) ea_isNil) fun vs H2 _ t => t)) (fun r _ _ => by simp [tupD]) fun x hx u H2 m rv => ⟨fun j => ?_, fun _ j => ev_name 2 rfl rv⟩) rfl))) fun z H2 s2 r2 => q z H2 (s1.trans s2) r2)
  refine ets_one (ew_t (ew_or (et_inN hr (ev_name 2 rfl rv) (sq_t (ev_name 1 (R := Is (eN b.live)) rfl (Rp.mono m _ _ rl')))) fun _ => ew_or1 (EvT.is (et_gt (ev_len B.len (sq_t (ev_readers (b := b) (x := x) c2 hr (ev_name 0 (R := Is (eB b)) rfl (Rp.mono m _ _ hv1)) (ev_name 2 rfl rv) (slows_sub hx)))) ev_int) ?_)))
  rw [List.length_map]
  by_cases h : 0 < (readers b x).length
  · simp [h]
  · simp [h]
end
end My
/-! B6 -/
namespace My
open PySem L2
/-! ### comprehensions give new lists -/
def EvAtN (X : Cx) (e : Expr) (σ : L2.St) (H : Hp) (ds : List PyData) : Prop := ∀ Q : VK, (∀ p xs H2, Same H H2 → H p = none → H2 p = some (.lst xs) → RpA H2 xs ds → Q (.ref p) H2) → wE X e σ H Q
section
variable {X : Cx} {σ : L2.St} {H : Hp} {tg iter elt e : Expr} {ifs : List Expr} {scope : Scope} {pos : Pos} {α : Type} {l : List α} {enc : α → PyData} {f : α → Bool} {g : α → PyData} {vs : List Nat}
theorem lc_atN (src : SrcAt X tg iter σ H (l.map enc)) (ht : ∀ x ∈ l, f x = true → tupD (g x) = true)
    (turn : ∀ x ∈ l, ∀ v H1, Same H H1 → Rp H1 v (enc x) → LcTurn X scope tg ifs elt vs σ H1 v (f x) (Is (g x))) (Q : VK) (k : ∀ p xs H2, Same H H2 → H p = none → H2 p = some (.lst xs) → RpA H2 xs ((l.filter f).map g) → Q (.ref p) H2) :
    tLc (wI X tg iter) (jG X scope tg) (jTs X scope ifs) (jE X scope elt) vs σ H Q := by
  refine src _ fun J H2 s2 W D hD => ?_
  have hl : (l.map enc).length = l.length := List.length_map ..
  let P : Nat → Hp → Prop := fun i H' => Same H2 H' ∧ ∃ ys, H' D = some (.lst ys) ∧ RpA H' ys (((l.take i).filter f).map g) ∧ ys.length ≤ i
  refine ⟨fun i mm H' => mm = l.length - i ∧ i ≤ l.length ∧ P i H', ⟨l.length, rfl, Nat.zero_le _, same_new hD, [], upd_same, .nil, Nat.le_refl _⟩, ?_⟩
  rintro i mm H' ⟨rfl, hi, s', ys, hy, ry, ly⟩
  by_cases hlt : i < l.length
  · refine .inr ⟨W.go i H' s' (by rw [hl]; exact hlt), P (i + 1), fun H'' p => ⟨l.length - (i + 1), by omega, rfl, hlt, p⟩, fun v H3 y => ?_⟩
    obtain ⟨s3, d, hd, rd⟩ := W.yld i H' v H3 s' y (by rw [hl]; exact hlt)
    obtain ⟨x, hx, ex⟩ : ∃ x, l[i]? = some x ∧ enc x = d := by
      rw [List.getElem?_map] at hd
      obtain ⟨x, hx, e⟩ := Option.map_eq_some_iff.mp hd
      exact ⟨x, hx, e⟩
    subst ex
    have hm : x ∈ l := List.mem_of_getElem? hx
    obtain ⟨σ', hw, hg, hts, hel⟩ := (turn x hm v H3 ((s2.trans s').trans s3) rd).go
    have hy3 : H3 D = some (.lst ys) := s3 _ _ hy
    have td : tupDs (((l.take i).filter f).map g) = true := tupDs_map fun z hz => ht z (List.mem_of_mem_take (List.mem_filter.mp hz).1) (List.mem_filter.mp hz).2
    refine fun j => hg j _ ⟨hw, fun j => hts j H3 (Sm.refl _) _ fun H4 s4 => ?_⟩
    cases hf : f x with
    | false =>
      refine iteF ⟨(s'.trans s3).trans s4, ys, s4 _ _ hy3, ?_, Nat.le_succ_of_le ly⟩
      rw [take_snoc hx, List.filter_append, List.filter_cons_of_neg (by rw [hf]; decide), List.filter_nil, List.append_nil]
      exact RpA.mono (sm_of (s3.trans s4)) _ _ ry
    | true =>
      refine iteT fun j => hel hf j H4 (sm_of s4) _ fun u H5 s5 r5 => ?_
      have hy5 : H5 D = some (.lst ys) := s5 _ _ (s4 _ _ hy3)
      have tpu : Tp H5 (upd H5 D (.lst (ys ++ [u]))) := tp_upd hy5 fun _ z => nomatch z
      refine ⟨ys, hy5, ?_, same_mut (((s'.trans s3).trans s4).trans s5) hD, ys ++ [u], upd_same, ?_, ?_⟩
      · have := W.len
        rw [hl] at this
        omega
      · rw [take_snoc hx, List.filter_append, List.filter_cons_of_pos hf, List.filter_nil, List.map_append]
        exact RpA.snoc (RpA.tps tpu _ _ td (RpA.mono (sm_of ((s3.trans s4).trans s5)) _ _ ry)) (Rp.tps tpu _ _ (ht x hm hf) r5)
      · rw [List.length_append]
        show ys.length + 1 ≤ i + 1
        omega
  · have e : i = l.length := by omega
    subst e
    rw [List.take_length] at ry
    refine .inl ⟨by have := W.stop H' s'; rwa [hl] at this, k D ys _ (s2.trans s') ?_ hy ry⟩
    cases q : H D with
    | none => rfl
    | some o => rw [s2 _ _ q] at hD; cases hD
theorem evAtN_lc {N : List Str} {i : Nat} {x : Str} {px : Pos} (sc : Scope) (nd : N.Nodup) (src : SrcAt X (.Name x px) iter σ H (l.map enc)) (ht : ∀ y ∈ l, f y = true → tupD (g y) = true)
    (turn : ∀ y ∈ l, ∀ v H1, Same H H1 → Rp H1 v (enc y) → (∀ j, EvTs (BX X scope j) ifs (σ.set i (some v)) H1 (f y)) ∧ (f y = true → ∀ j, Ev (BX X scope j) elt (σ.set i (some v)) H1 (Is (g y))))
    (hN : X.N = N := by rfl) (hsc : X.env.scope = sc := by rfl) (ok : blkC N sc scope [(x, i)] = true := by decide +kernel) (hi : N[i]? = some x := by rfl)
    (hx : (relS scope sc).names.lookup x = some .local ∨ ((relS scope sc).names.lookup x = some .cell ∧ (scope.names.lookup x == some .cell) = true) := by first | exact .inl (by rfl) | exact .inr ⟨by rfl, by rfl⟩)
    (hc : X.calm = true := by rfl) (hs : ∀ x, foldedSetIterable iter X.env x = pure x := by intro _; rfl) : EvAtN X (.ListComp elt [⟨.Name x px, iter, ifs, 0⟩] scope pos) σ H ((l.filter f).map g) := fun Q k =>
  we (pe_lc (own := [(x, i)]) hc (by rw [hN]; exact nd) (pi_w _ iter) (blkOk_by (by rw [hN, hsc]; exact ok)) (fun s H C cl fp => ⟨fun pins s' σ H v u Q I r h => h (s, _, C, cl, fp) pins s' u I r⟩) (fun s H C cl fp => ⟨fun pins s' σ H Q I h => h (s, _, C, cl, fp) pins s' I⟩)
    (fun s H C cl fp => ⟨fun pins s' σ H Q I h => h (s, _, C, cl, fp) pins s' I⟩) hs) (lc_atN src ht (fun y hy v H1 s r => lt_name nd hN hi hsc hx (turn y hy v H1 s r).1 (turn y hy v H1 s r).2) Q k)
theorem evN_lc {N : List Str} {i : Nat} {x : Str} {px : Pos} (sc : Scope) (nd : N.Nodup) (src : Src X (.Name x px) iter σ H (l.map enc)) (ht : ∀ y ∈ l, f y = true → tupD (g y) = true)
    (turn : ∀ y ∈ l, ∀ v H1, Sm H H1 → Rp H1 v (enc y) → (∀ j, EvTs (BX X scope j) ifs (σ.set i (some v)) H1 (f y)) ∧ (f y = true → ∀ j, Ev (BX X scope j) elt (σ.set i (some v)) H1 (Is (g y))))
    (hN : X.N = N := by rfl) (hsc : X.env.scope = sc := by rfl) (ok : blkC N sc scope [(x, i)] = true := by decide +kernel) (hi : N[i]? = some x := by rfl)
    (hx : (relS scope sc).names.lookup x = some .local ∨ ((relS scope sc).names.lookup x = some .cell ∧ (scope.names.lookup x == some .cell) = true) := by first | exact .inl (by rfl) | exact .inr ⟨by rfl, by rfl⟩)
    (hc : X.calm = true := by rfl) (hs : ∀ x, foldedSetIterable iter X.env x = pure x := by intro _; rfl) : EvN X (.ListComp elt [⟨.Name x px, iter, ifs, 0⟩] scope pos) σ H ((l.filter f).map g) := fun H1 m Q k =>
  evAtN_lc sc nd (fun R k => src H1 m R k) ht (fun y hy v H2 s r => turn y hy v H2 (m.trans (sm_of s)) r) hN hsc ok hi hx hc hs Q k
theorem evN_lock {d : Addr} {m : List (Str × PyData)} {ds : List PyData} (hd : DK m (.ref d) H) (h : ∀ Hl o kvs, Sm H Hl → Hl d = some (.frz o (.dK kvs)) → KvA Hl kvs m → EvAtN X e σ Hl ds) : EvN X e σ H ds := fun H1 q Q k => by
  obtain ⟨p, kvs, e1, h1, h2⟩ := Mono.up (R := DK m) q hd
  cases e1
  rcases h1 with h1 | ⟨o, h1⟩
  · refine we (pe_lock (pe_w e)) ⟨d, .dK kvs, h1, trivial, fun od => ?_⟩
    have sl : Sm H1 (upd H1 d (.frz od (.dK kvs))) := Sm.lock h1 trivial
    refine h _ od kvs (q.trans sl) upd_same (h2.mono sl) _ fun p xs H2 s2 fr hp hx => ?_
    have hf : H2 d = some (.frz od (.dK kvs)) := s2 _ _ upd_same
    have ne : p ≠ d := by
      rintro rfl
      rw [upd_same] at fr
      cases fr
    refine ⟨hf, k p xs _ (same_unlock h1 s2) (by rw [upd_ne ne] at fr; exact fr) (by rw [upd_ne ne]; exact hp) (RpA.mono (Sm.unlock hf) _ _ hx)⟩
  · exact h H1 o kvs q h1 h2 Q k
end
end My
/-! D5 -/
namespace My
open PySem L2
/-! ### comprehensions within comprehensions -/
section
variable {X : Cx} {scope0 : Scope} {j : BI} {σ : L2.St} {H : Hp} {iter elt : Expr} {ifs : List Expr} {scope : Scope} {pos : Pos} {α : Type} {l : List α} {enc : α → PyData} {f : α → Bool} {g : α → PyData}
theorem ev_lcN' {N : List Str} {i : Nat} {x : Str} {px : Pos} (sc0 : Scope) (nd : N.Nodup) (src : Src (BX X scope0 j) (.Name x px) iter σ H (l.map enc)) (ht : ∀ y ∈ l, f y = true → tupD (g y) = true)
    (turn : ∀ y ∈ l, ∀ v H1, Sm H H1 → Rp H1 v (enc y) → (∀ k, EvTs (BX (BX X scope0 j) scope k) ifs (σ.set i (some v)) H1 (f y)) ∧ (f y = true → ∀ k, Ev (BX (BX X scope0 j) scope k) elt (σ.set i (some v)) H1 (Is (g y))))
    (hN : X.N = N := by rfl) (hsc : X.env.scope = sc0 := by rfl) (ok : blkC N (relS scope0 sc0) scope [(x, i)] = true := by decide +kernel) (hi : N[i]? = some x := by rfl)
    (hx : (relS scope (relS scope0 sc0)).names.lookup x = some .local ∨ ((relS scope (relS scope0 sc0)).names.lookup x = some .cell ∧ (scope.names.lookup x == some .cell) = true) := by first | exact .inl (by rfl) | exact .inr ⟨by rfl, by rfl⟩)
    (hc : X.calm = true := by rfl) (hs : ∀ x, foldedSetIterable iter (BX X scope0 j).env x = pure x := by intro _; rfl) : Ev (BX X scope0 j) (.ListComp elt [⟨.Name x px, iter, ifs, 0⟩] scope pos) σ H (Is (.list ((l.filter f).map g))) :=
  ev_lcN (X := BX X scope0 j) (relS scope0 sc0) nd src ht turn hN (by rw [← hsc]; rfl) ok hi hx hc hs
theorem ev_lcA' {N : List Str} {i : Nat} {x : Str} {px : Pos} (sc0 : Scope) (nd : N.Nodup) (src : Src (BX X scope0 j) (.Name x px) iter σ H (l.map enc)) (ht : ∀ y ∈ l, tupD (g y) = true)
    (turn : ∀ y ∈ l, ∀ v H1, Sm H H1 → Rp H1 v (enc y) → ∀ k, Ev (BX (BX X scope0 j) scope k) elt (σ.set i (some v)) H1 (Is (g y)))
    (hN : X.N = N := by rfl) (hsc : X.env.scope = sc0 := by rfl) (ok : blkC N (relS scope0 sc0) scope [(x, i)] = true := by decide +kernel) (hi : N[i]? = some x := by rfl)
    (hx : (relS scope (relS scope0 sc0)).names.lookup x = some .local ∨ ((relS scope (relS scope0 sc0)).names.lookup x = some .cell ∧ (scope.names.lookup x == some .cell) = true) := by first | exact .inl (by rfl) | exact .inr ⟨by rfl, by rfl⟩)
    (hc : X.calm = true := by rfl) (hs : ∀ x, foldedSetIterable iter (BX X scope0 j).env x = pure x := by intro _; rfl) : Ev (BX X scope0 j) (.ListComp elt [⟨.Name x px, iter, [], 0⟩] scope pos) σ H (Is (.list (l.map g))) :=
  ev_lcA (X := BX X scope0 j) (relS scope0 sc0) nd src ht turn hN (by rw [← hsc]; rfl) ok hi hx hc hs
end
theorem look_tab {b : Blk} (wf : WF b) {x : Str} (hx : x ∈ names b) : look (tabD b) x = some (.tuple [eN (readsOf b x), .bool (slowOf b x)]) := by
  obtain ⟨r, hr, rfl⟩ := mem_names hx
  rw [readsOf_name wf hr, slowOf_name wf hr]
  have key : ∀ l : List Row, (l.map (·.name)).Nodup → ∀ r ∈ l, look (l.map fun r => (r.name, PyData.tuple [eN r.reads, .bool r.slow])) r.name = some (.tuple [eN r.reads, .bool r.slow]) := by
    intro l
    induction l with
    | nil => intro _ r h; cases h
    | cons q l ih =>
      intro hn r hr
      rw [List.map_cons, List.nodup_cons] at hn
      rw [List.map_cons, look]
      rcases List.mem_cons.mp hr with rfl | hr
      · rw [if_pos rfl]
      · rw [if_neg (fun e => hn.1 (by rw [show q.name = r.name from e]; exact List.mem_map.mpr ⟨r, hr, rfl⟩))]
        exact ih hn.2 r hr
  exact key b.rows wf.nd r hr
theorem src_keysN {X : Cx} {σ : L2.St} {H : Hp} {tg iter : Expr} {d : Addr} {m : List (Str × PyData)} {o : Obj} {kvs : List (Key × V)} {ds : List PyData} (e : m.map (fun q => PyData.str q.1) = ds) (h : EvAt X iter σ H (Eqv (.ref d))) (hd : H d = some (.frz o (.dK kvs))) (hk : KvA H kvs m) : SrcAt X tg iter σ H ds := e ▸ src_keys h hd hk
theorem tab_keys (b : Blk) : (tabD b).map (fun q => PyData.str q.1) = (names b).map PyData.str := by
  rw [tabD, names, List.map_map, List.map_map]
  rfl
section
variable {P : Program} {w : World} {K : PySem.W.Frag} {mg : Str → Option Value} {base : Heap}
theorem ev_tabReads {X : Cx} {σ : L2.St} {H : Hp} {a e : Expr} {k k1 : Nat} {p1 pos pos2 : Pos} {b : Blk} {x : Str} {j} (wf : WF b) (hr : Room k X.A) (hx : x ∈ names b) (h : Ev X a σ H (DK (tabD b))) (h2 : Ev X e σ H (Is (.str x))) (hs : NoSl e := by intro _ _; rfl) : Ev X (.Subscript (.Subscript a e pos) (.Constant (.int 0) j p1) pos2) σ H (Is (eN (readsOf b x))) :=
  ev_ixT (i := 0) (ev_dk hr h h2 (look_tab wf hx) hs) ev_int rfl
/-! ### free_in -/
abbrev sFree : Stmt := top 22
theorem sc_free : FnScope ["table", "done", "name", "own"] ["table", "done"] (defScope sFree) := ⟨rfl, rfl, rfl, by decide +kernel, rfl, by decide +kernel, by decide +kernel⟩
abbrev AFree : Blk × List Str → RelA := fun p vs H => ∃ v u, vs = [v, u] ∧ DK (tabD p.1) v H ∧ Sq (p.2.map .str) u H ∧ WF p.1
abbrev CFree (P : Program) (w : World) (K : PySem.W.Frag) (mg : Str → Option Value) (base : Heap) : Prop := C8.Cal P w K mg base 1 "free_in" (PL AFree fun p => (freeL p.1 p.2).map .str) []
theorem cal_free (F : Df K mg "free_in" sFree) (B : Blt mg) : CFree P w K mg base := by
  refine cal_pl (A := AFree) F sc_free (fun _ _ _ _ _ _ us hl => match us, hl with | [_, _], _ => rfl) (fun d vs H ⟨v, u, e, _⟩ => by rw [e]; rfl) ?_
  intro f cdv Ar outer s H vs Q E ⟨b, done⟩ hr ⟨v, u, e, hv, hu, wf⟩ q
  subst e
  obtain ⟨d, kvs0, e, _, _⟩ := id hv
  subst e
  refine b_one (s_retN (ds := (freeL b done).map .str) (evN_lock hv fun Hl o kvs sm hf hk => evAtN_lc (i := 2) (l := names b) (enc := PyData.str) (f := fun x => !decide (x ∈ done) && (readsOf b x).all fun y => decide (y ∈ done)) (g := PyData.str) (defScope sFree) sc_free.nd
    (src_keysN (tab_keys b) (evAt_of (ev_name 0 (R := Eqv (.ref d)) rfl rfl)) hf hk) (fun r _ _ => by simp [tupD]) fun x hx y H2 s2 ry => ⟨fun j => ?_, fun _ j => ev_name 2 rfl ry⟩) q)
  have sm2 : Sm H H2 := sm.trans (sm_of s2)
  refine ets_one (ew_t (ew_and (et_notInN hr (ev_name 2 rfl ry) (ev_name 1 (R := Sq (done.map .str)) rfl (Mono.up sm2 hu))) fun _ => ew_and1 (et_val (Ev.is (ev_all (bs := (readsOf b x).map fun y => decide (y ∈ done)) B.all (Ev.is (ev_lcA' (defScope sFree) (i := 3) (l := readsOf b x) (enc := PyData.str) (g := fun y => .bool (decide (y ∈ done))) sc_free.nd
    (src_tup (ev_tabReads (k1 := 0) wf hr hx (ev_name 0 (R := DK (tabD b)) rfl (Mono.up sm2 hv)) (ev_name 2 rfl ry))) (fun r _ => by simp [tupD]) fun z hz t H3 m3 rt k => ?_) (by rw [List.map_map]; rfl))) ?_))))
  · exact ev_inN hr (ev_name 3 rfl rt) (ev_name 1 (R := Sq (done.map .str)) rfl (Mono.up (sm2.trans m3) hu))
  · rw [List.all_map]
    congr 1
end
end My
/-! E1 -/
/-! enumerate of a tuple -/
namespace My
open PySem PySem.Spec L2
open AutoSeq1 (wpAny_loadPart')
theorem enum_newT (l : Addr) (items : Array Value) (n : Nat) (dct : Option Addr) (sl : Array (Option Value)) :
    Meets (Builtin.«enumerate.__new__» ⟨[.type "enumerate", .ref l], []⟩) (fun _ R s => s.heap.get? l = some { cls := .type "tuple", dict := dct, data := .seq items n, slots := sl } ∧
      R (.ok (.ret (.ref (s.heap.push { cls := .type "tuple_iterator", data := .fields #[.ref l, .int 0 0] }).objs.size)))
        { s with heap := (s.heap.push { cls := .type "tuple_iterator", data := .fields #[.ref l, .int 0 0] }).push { cls := .type "enumerate", data := .fields #[.none, .bool false, .ref s.heap.objs.size, rawInt 0, .none, .none] } }) :=
  .of_wp fun prog w A R s h => by
    obtain ⟨hp, g, d, tk, os⟩ := s
    obtain ⟨hl, h⟩ := h
    have hsub := sub_enumerate
    have hL : Heap.IsTuple (Shared.heap ⟨hp, g, d, tk, os⟩) l items := ⟨_, hl, rfl, n, rfl⟩
    wp_walk using wpAny_loadPart' hl
    refine wpAny_stack_any fun st => wpAny_pure ?_
    split
    · rename_i c _ _ _ _ _
      cases (c == Value.type "enumerate")
      · wp_walk using wpAny_loadPart' hl, wpAny_pyIter_tuple hL
        exact ⟨_, rfl, h⟩
      · wp_walk using wpAny_loadPart' hl, wpAny_pyIter_tuple hL
        exact ⟨_, rfl, h⟩
    · wp_walk using wpAny_loadPart' hl, wpAny_pyIter_tuple hL
      exact ⟨_, rfl, h⟩
abbrev tItO (l : Addr) : Obj := { cls := .type "tuple_iterator", data := .fields #[.ref l, .int 0 0] }
abbrev enO (i : Addr) : Obj := { cls := .type "enumerate", data := .fields #[.none, .bool false, .ref i, rawInt 0, .none, .none] }
theorem call_enumT {prog : Program} {w : World} {A : Around} {E : Value → Shared → Prop} {s : Shared} {l : Addr} {items : Array Value} {Q : Value → Shared → Prop} (hL : s.heap.IsTuple l items)
    (h : ∀ h', IsEnum h' (s.heap.objs.size + 1) s.heap.objs.size 0 .none → h'.IsTupleIter s.heap.objs.size l 0 → (∀ b o, s.heap.get? b = some o → h'.get? b = some o) → Q (.ref (s.heap.objs.size + 1)) { s with heap := h' }) :
    wpAny (model prog w) A (call (.type "enumerate") [.ref l]) Q E s := by
  obtain ⟨⟨c, dct, dt, sl⟩, hl, hc, n, hd⟩ := hL
  replace hc : c = .type "tuple" := hc
  replace hd : dt = .seq items n := hd
  subst hc hd
  refine callType_new F.called_enumerate (by decide) (F.typeCall_enumerate_1 _) (F.newCall_enumerate_1 _) (fun obj => F.args_object_init_2 obj _) F.entry_enumerate_new (enum_newT l items n dct sl) ⟨hl, ?_⟩
  have hz : (s.heap.push (tItO l)).objs.size = s.heap.objs.size + 1 := Heap.size_push ..
  show _ ∧ _
  rw [hz]
  have he : IsEnum ((s.heap.push (tItO l)).push (enO s.heap.objs.size)) (s.heap.objs.size + 1) s.heap.objs.size 0 .none := by
    have z := Heap.get?_push_size (s.heap.push (tItO l)) (o := enO s.heap.objs.size) rfl
    rw [hz] at z
    exact z
  exact ⟨⟨_, he, rfl⟩, h _ he ⟨_, Heap.get?_push_of_some _ (Heap.get?_push_size _ rfl), rfl, rfl⟩ fun b o x => Heap.get?_push_of_some _ (Heap.get?_push_of_some _ x)⟩
theorem next_enumT_end {prog : Program} {w : World} {A : Around} {E : Value → Shared → Prop} {s : Shared} {e it l : Addr} {i : Nat} {items : Array Value} {old : Value} {Q : Option Value → Shared → Prop} (hh : A.handled = none)
    (he : IsEnum s.heap e it i old) (hit : s.heap.IsTupleIter it l i) (hl : s.heap.IsTuple l items) (hx : items[i]? = none) (hQ : ∀ h', Heap.ExtBut it s.heap h' → Q none { s with heap := h' }) : wpAny (model prog w) A (pyNext (.ref e)) Q E s := by
  have hT : s.TypeIs (.ref e) "enumerate" := ⟨_, he, rfl⟩
  unfold pyNext
  refine wpAny_bind (wpAny_attempt (wpAny_callSpecial?_slot (name := Str.ofString "__next__") hT F.slot_enumerate_next (wpAny_call_entry F.slot_enumerate_next hT F.entry_enumerate_next ?_ (F.args_enumerate_next_1 _))))
  show wpAny _ _ (field (.ref e) 2 >>= _) _ _ s
  refine wpAny_bind (wpAny_field he rfl (x := .ref it) rfl (wpAny_bind (wpAny_nextOf_tuple_end hh hit hl hx fun h' x he' hx' => ?_)))
  obtain ⟨o, ho, hc⟩ := hx'
  exact wpAny_bind (wpAny_isInstance (T := "StopIteration") (b := true) ⟨o, ho, hc⟩ isSubtype_stop (wpAny_pure (hQ _ he')))
/-- the tuple at a, each item in a new pair -/
def ItT (K : PySem.W.Frag) (a : Addr) : It :=
  ⟨fun i H => ∃ (xs : List V) (x : V), SqT K H a xs ∧ xs[i]? = some x, fun i H v H' => ∃ T x, v = .ref T ∧ H T = none ∧ H' = upd H T (.tup [.int (i : Nat), x]) ∧ ∀ xs, SqT K H a xs → xs[i]? = some x, fun i H => ∃ xs : List V, SqT K H a xs ∧ xs.length ≤ i⟩
theorem turn_enumT {P : Program} {w : World} {K : PySem.W.Frag} {elts : List Expr} {kk : Nat} {tpos : Pos} (a e it : Addr) :
    Turn P w K (.Tuple elts kk tpos) (ItT K a) [e, it] e (fun i h => (∃ old, IsEnum h e it ((i : Nat) : Int) old) ∧ h.IsTupleIter it a i ∧ e ≠ it ∧ a ≠ it ∧ a ≠ e) where
  mem := by simp
  obj := fun i h st b hb => by
    obtain ⟨⟨old, he⟩, ⟨o, ho, hc, hd⟩, _⟩ := st
    have e' : b = e ∨ b = it := by simpa using hb
    rcases e' with z | z
    · rw [z]; exact ⟨_, he, fun v q => nomatch q⟩
    · rw [z]; exact ⟨o, ho, fun v q => by rw [hd] at q; cases q⟩
  keep := fun i h h' st k => by
    obtain ⟨⟨old, he⟩, ⟨o, ho, hc, hd⟩, hne⟩ := st
    exact ⟨⟨old, k e (by simp) _ he⟩, ⟨o, k it (by simp) _ ho, hc, hd⟩, hne⟩
  item := by
    intro X hP hw hK hc i pins s σ H E I hf st hg
    subst hP hw hK
    obtain ⟨⟨old, he⟩, hit, hne, hai, hae⟩ := st
    obtain ⟨xs, x, hq, hx⟩ := hg
    obtain ⟨its, rv, p, hz⟩ := I.tuple hq
    obtain ⟨u, hu, ru⟩ := rv.get hx
    have hilt : i < its.toArray.size := by
      rw [List.size_toArray]
      exact (List.getElem?_eq_some_iff.mp hu).1
    have hel : e < s.heap.objs.size := Heap.lt_size he
    have hil : it < s.heap.objs.size := by obtain ⟨_, q, _⟩ := hit; exact Heap.lt_size q
    refine wpAny_pyNext_enum_itemD (Draws.tuple (A := X.A.in1) (by have := I.ok.hd hc; simpa using this) it a hai its.toArray) he ⟨hit, p⟩ hilt hne (by simp only [List.mem_cons, List.not_mem_nil, or_false, not_or]; exact ⟨hne, fun z => hae z.symm⟩) fun y h' tk hy ho hst hT hsz hk => ?_
    have hyu : y = u := by
      have z : its.toArray[i]? = some y := hy
      rw [← Array.getElem?_toList] at z
      rw [show its.toArray.toList = its from by simp, hu] at z
      exact (Option.some.inj z).symm
    subst hyu
    obtain ⟨hit', _⟩ := hst
    refine ⟨_, rfl, wpAny_letOwnedTupleGo_enum (s := { s with heap := h', toks := tk + 1 }) ho fun h'' he' sb => ?_⟩
    have hT2 : h''.get? s.heap.objs.size = some { cls := .type "tuple", data := .seq #[.int i tk, y] } := (sb.2 _ (Nat.ne_of_gt hel)).trans hT
    have new : ObjOk X.prog X.w (upd H s.heap.objs.size (.tup [.int (i : Nat), x])) h'' s.heap.objs.size (.tup [.int (i : Nat), x]) :=
      ⟨by show 2 ≤ sizeLine; decide, [.int i tk, y], .cons ⟨_, rfl⟩ (.cons ru .nil), ⟨_, hT2, rfl, _, rfl⟩⟩
    have I1 : Inv X pins σ (upd H s.heap.objs.size (.tup [.int (i : Nat), x])) { s with heap := h'', toks := tk + 1 } :=
      I.turnedNew (ch := [e, it]) (fun b ob hb q => (sb.2 b (fun z => hb (by simp [z]))).trans (hk b ob (fun z => hb (by simp [z])) (fun z => hb (by simp [z])) q)) hf (Nat.le_refl _) new
    refine ⟨.ref s.heap.objs.size, _, I1, rfl, ⟨_, x, rfl, I.hok.fresh (Nat.le_refl _), rfl, fun ys hy' => ?_⟩, ⟨⟨y, ?_⟩, ?_, hne, hai, hae⟩, fun b hb => ?_⟩
    · rw [I.tuple_inj hy' hq]
      exact hx
    · have e1 : ((i + 1 : Nat) : Int) = (i : Int) + 1 := by omega
      rw [e1]
      exact he'
    · obtain ⟨o, h1, h2, h3⟩ := hit'
      exact ⟨o, (sb.2 it (Ne.symm hne)).trans h1, h2, h3⟩
    · have hb' : b < s.heap.objs.size := by
        have e' : b = e ∨ b = it := by simpa using hb
        rcases e' with z | z
        · rw [z]; exact hel
        · rw [z]; exact hil
      rw [upd_ne (Nat.ne_of_lt hb')]
      exact (hf b hb).1
  done := by
    intro X hP hw hK hc i pins s σ H E I hf st hg
    subst hP hw hK
    obtain ⟨⟨old, he⟩, hit, hne, hai, hae⟩ := st
    obtain ⟨xs, hq, hx⟩ := hg
    obtain ⟨its, rv, p, hz⟩ := I.tuple hq
    obtain ⟨f0, f1, f2, f3, f4, f5⟩ := hf it (by simp)
    have hl := rv.length
    exact next_enumT_end (I.ok.hd hc) he hit p (by simp; omega) fun h' eb => ⟨rfl, I.turned (t' := s.toks) (fun b o hb q => eb b o hb q) f0 f1 f3 f4 f5⟩
  self := fun A i s Q E st h => let ⟨⟨_, he⟩, _⟩ := st; wpAny_pyIter_enum he h
theorem pi_enumT {X : Cx} {e : Expr} {ta : TA} {p pos tpos : Pos} {elts : List Expr} {kk : Nat} (hg : Gl X "enumerate") (hm : X.mg "enumerate" = none) (ha : PA X [e] ta) (hs : starEach [e] X.env = [(false, eval e X.env)] := by rfl) :
    PI X (.Tuple elts kk tpos) (.Call (.Name "enumerate" p) [e] [] pos) (fun σ H R => ta σ H fun vs H1 => ∃ a xs, vs = [.ref a] ∧ SqT X.K H1 a xs ∧ R (ItT X.K a) H1) := by
  refine ⟨fun pins s σ H R I h => ?_⟩
  refine PyProof.Rows.Call_ (ld_blt I hg hm PyProof.Rows.boot_enumerate (PyProof.Rows.callWith_type1 (thn (ha.run pos pins s σ H _ I h) fun us s1 ⟨vs, H1, I1, r1, a, xs, ex, hq, q⟩ => ?_) hs rfl))
  subst ex
  rw [Vals.ref1 r1]
  obtain ⟨its, rv, p', hz⟩ := I1.tuple hq
  have hal : a < s1.heap.objs.size := by obtain ⟨o, ho, _⟩ := p'; exact Heap.lt_size ho
  refine call_enumT p' fun h' he hit hk => wpAny_pyIter_enum he ?_
  have I2 : Inv X pins σ H1 { s1 with heap := h' } := I1.kept (t' := s1.toks) hk
  refine ⟨s1.heap.objs.size + 1, [s1.heap.objs.size + 1, s1.heap.objs.size], _, _, H1, rfl, I2, turn_enumT a (s1.heap.objs.size + 1) s1.heap.objs.size, ⟨⟨.none, he⟩, hit, Nat.succ_ne_self _, Nat.ne_of_lt hal, Nat.ne_of_lt (Nat.lt_succ_of_lt hal)⟩, fun b hb => ?_, q⟩
  have e' : b = s1.heap.objs.size + 1 ∨ b = s1.heap.objs.size := by simpa using hb
  have hle : s1.heap.objs.size ≤ b := by
    rcases e' with z | z <;> rw [z]
    · exact Nat.le_succ _
    · exact Nat.le_refl _
  exact I1.fpOk hle (I1.hok.fresh hle)
theorem src_enumT {X : Cx} {σ : St} {H : Hp} {iter : Expr} {ds : List PyData} {p pos tpos : Pos} {elts : List Expr} {kk : Nat} (h : Ev X iter σ H (Is (.tuple ds))) (hm : X.mg "enumerate" = none) (hg : Gl X "enumerate" := by rfl) (hs : starEach [iter] X.env = [(false, eval iter X.env)] := by rfl) :
    Src X (.Tuple elts kk tpos) (.Call (.Name "enumerate" p) [iter] [] pos) σ H (numbered ds) := fun H1 m R k => by
  refine wi (pi_enumT hg hm (pa_cons (pe_w iter) pa_nil (by rw [hs]; rfl)) hs) ?_
  refine we_inv (h H1 m _ fun v H2 s2 r2 pins s I => ?_)
  cases r2 with
  | @tup a xs _ ha hx =>
    obtain ⟨_, _, _, hz⟩ := I.tuple (a := a) (xs := xs) (SqT.of ha)
    have up : ∀ {H'}, Same H2 H' → SqT X.K H' a xs := fun s => SqT.of (s _ _ ha)
    refine ⟨a, xs, rfl, SqT.of ha, k _ H2 s2 ⟨by rw [numbered_length, ← hx.length]; exact hz, fun i H' s hi => ⟨xs, xs[i]'(by rw [hx.length, ← numbered_length]; exact hi), up s, by simp⟩, fun H' s => ⟨xs, up s, by rw [hx.length, numbered_length]; exact Nat.le_refl _⟩, fun i H' x H'' s y hi => ?_⟩⟩
    obtain ⟨T, z, e1, hT, e2, q⟩ := y
    subst e1 e2
    obtain ⟨d, hd, hr⟩ := hx.get (q xs (up s))
    exact ⟨same_new hT, _, numbered_get hd, .tup upd_same (.cons (.int _) (.cons (Rp.mono ((sm_of s).trans (sm_of (same_new hT))) _ _ hr) .nil))⟩
end My
/-! D6 -/
namespace My
open PySem L2
mutual
theorem eqv_rfl : ∀ d : PyData, tupD d = true → PyData.eqv d d = true
  | .none, _ => by simp [PyData.eqv]
  | .bool _, _ => by simp [PyData.eqv]
  | .int _, _ => by simp [PyData.eqv]
  | .str _, _ => by simp [PyData.eqv]
  | .list _, h => by simp [tupD] at h
  | .dict _, h => by simp [tupD] at h
  | .tuple ds, h => by
    simp only [tupD] at h
    rw [PyData.eqv]
    exact eqvAll_rfl ds h
theorem eqvAll_rfl : ∀ ds : List PyData, tupDs ds = true → PyData.eqvAll ds ds = true
  | [], _ => by simp [PyData.eqvAll]
  | d :: ds, h => by
    simp only [tupDs, Bool.and_eq_true] at h
    rw [PyData.eqvAll, eqv_rfl d h.1, eqvAll_rfl ds h.2]
    rfl
end
theorem eqv_enc {α : Type} [Kd α] [DecidableEq α] (a b : α) : PyData.eqv (Kd.enc a) (Kd.enc b) = decide (a = b) := by
  by_cases h : a = b
  · subst h
    rw [eqv_rfl _ (Kd.tup a)]
    simp
  · cases q : PyData.eqv (Kd.enc a) (Kd.enc b) with
    | true => exact absurd (Kd.inj a b q) h
    | false => simp [h]
theorem any_enc {α : Type} [Kd α] [DecidableEq α] (as : List α) (a : α) : ((as.map Kd.enc).any fun z => PyData.eqv z (Kd.enc a)) = decide (a ∈ as) := by
  induction as with
  | nil => simp
  | cons x as ih =>
    rw [List.map_cons, List.any_cons, ih, eqv_enc]
    by_cases h : x = a
    · subst h; simp
    · have h' : ¬ a = x := fun e => h e.symm
      simp [h, h']
theorem IsOrd.sorted {b : Blk} {o : List Str} (w : WF b) (h : IsOrd b o) : sortL ltK o = names b := (sortL_uniq ordK h.perm.symm (w.asc.imp fun h => ordK.asym h)).symm
theorem IsOrd.mem {b : Blk} {o : List Str} (h : IsOrd b o) {x : Str} : x ∈ o ↔ x ∈ names b := h.perm.mem_iff
theorem IsOrd.len {b : Blk} {o : List Str} (w : WF b) (h : IsOrd b o) : o.length ≤ 6 := by rw [h.perm.length_eq, List.length_map]; exact w.few
theorem flat_len {α β : Type} {f : α → List β} {n : Nat} (hf : ∀ x, (f x).length ≤ n) : ∀ l : List α, (l.flatMap f).length ≤ n * l.length
  | [] => by simp
  | x :: l => by
    have := hf x
    have := flat_len hf l
    rw [List.flatMap_cons, List.length_append, List.length_cons, Nat.mul_succ]
    omega
section
variable {P : Program} {w : World} {K : PySem.W.Frag} {mg : Str → Option Value} {base : Heap}
/-! ### calls told at their result -/
section
variable {X : Cx} {σ : L2.St} {H : Hp} {e e2 e3 : Expr} {p pos : Pos} {j : Nat} {b : Blk}
theorem ev_namesIn (c : CNames X.prog X.w X.K X.mg X.base) (hr : Room j X.A) (h : Ev X e σ H (Is (eB b))) (hk : 6 ≤ j := by decide) (hg : Gl X "names_in" := by rfl) (he : starEach [e] X.env = (false, eval e X.env) :: starEach [] X.env := by rfl) (hpl : (backTo pos (starEach [] X.env)).any (·.1) = false := by rfl) :
    Ev X (.Call (.Name "names_in" p) [e] [] pos) σ H (Is (eN (names b))) := ev_pf b c hr (ea_is h ea_isNil he) (fun vs H1 _ t => t) hk hg (by decide) he hpl
theorem ev_slowIn (c : CSlow X.prog X.w X.K X.mg X.base) (hr : Room j X.A) (h : Ev X e σ H (Is (eB b))) (hk : 6 ≤ j := by decide) (hg : Gl X "slow_in" := by rfl) (he : starEach [e] X.env = (false, eval e X.env) :: starEach [] X.env := by rfl) (hpl : (backTo pos (starEach [] X.env)).any (·.1) = false := by rfl) :
    Ev X (.Call (.Name "slow_in" p) [e] [] pos) σ H (Is (eN (slows b))) := ev_pf b c hr (ea_is h ea_isNil he) (fun vs H1 _ t => t) hk hg (by decide) he hpl
theorem ev_awaited (c : CAwaited X.prog X.w X.K X.mg X.base) (hr : Room j X.A) (h : Ev X e σ H (Is (eB b))) (hk : 9 ≤ j := by decide) (hg : Gl X "awaited_in" := by rfl) (he : starEach [e] X.env = (false, eval e X.env) :: starEach [] X.env := by rfl) (hpl : (backTo pos (starEach [] X.env)).any (·.1) = false := by rfl) :
    Ev X (.Call (.Name "awaited_in" p) [e] [] pos) σ H (Is (eN (awaited b))) := ev_pf b c hr (ea_is h ea_isNil he) (fun vs H1 _ t => t) hk hg (by decide) he hpl
theorem ev_table (c : CTab X.prog X.w X.K X.mg X.base) (hr : Room j X.A) (h : Ev X e σ H (Is (eB b))) (wf : WF b) (hk : 6 ≤ j := by decide) (hg : Gl X "table_of" := by rfl) (he : starEach [e] X.env = (false, eval e X.env) :: starEach [] X.env := by rfl) (hpl : (backTo pos (starEach [] X.env)).any (·.1) = false := by rfl) :
    Ev X (.Call (.Name "table_of" p) [e] [] pos) σ H (DK (tabD b)) := ev_pf b c hr (ea_is h ea_isNil he) (fun vs H1 _ t => ⟨t, wf⟩) hk hg (by decide) he hpl
end
/-! ### is_order, check_order -/
abbrev sIsOrder : Stmt := top 20
theorem sc_isOrder : FnScope ["block", "thing", "table", "own", "place", "name"] ["block", "thing"] (defScope sIsOrder) := ⟨rfl, rfl, rfl, by decide +kernel, rfl, by decide +kernel, by decide +kernel⟩
abbrev CIsName (P : Program) (w : World) (K : PySem.W.Frag) (mg : Str → Option Value) (base : Heap) : Prop := C8.Cal P w K mg base 1 "is_name" (PF (fun (x : Str) vs H => RpA H vs [.str x] ∧ nmOk x = true) fun _ => Is (.bool true)) []
theorem ev_isName {X : Cx} {σ : L2.St} {H : Hp} {e : Expr} {p pos : Pos} {j : Nat} {x : Str} (c : CIsName X.prog X.w X.K X.mg X.base) (hr : Room j X.A) (h : Ev X e σ H (Is (.str x))) (hx : nmOk x = true) (hk : 1 ≤ j := by decide) (hg : Gl X "is_name" := by rfl) (he : starEach [e] X.env = (false, eval e X.env) :: starEach [] X.env := by rfl) (hpl : (backTo pos (starEach [] X.env)).any (·.1) = false := by rfl) :
    Ev X (.Call (.Name "is_name" p) [e] [] pos) σ H (Is (.bool true)) := ev_pf x c hr (ea_is h ea_isNil he) (fun vs H1 _ t => ⟨t, hx⟩) hk hg (by decide) he hpl
theorem ev_takeT {X : Cx} {σ : L2.St} {H : Hp} {e e2 : Expr} {p2 pos : Pos} {o : List Str} {n : Nat} (h : Ev X e σ H (Is (eN o))) (h2 : Ev X e2 σ H (Is (.int (n : Nat)))) (lt : n < o.length) : Ev X (.Subscript e (.Slice none (some e2) none p2) pos) σ H (Is (eN (o.take n))) := by
  have sl := ev_sliceT (p2 := p2) (pos := pos) (i := none) (j := some (n : Int)) h eo_none (eo_some h2) (by
    rw [HT.sIx_none, HT.sIx_nat, List.length_map]
    omega)
  rw [cutD_map, cutD_take] at sl
  exact sl
abbrev AOrd : Blk × List Str → RelA := fun p vs H => RpA H vs [eB p.1, eN p.2] ∧ WF p.1 ∧ IsOrd p.1 p.2
abbrev CIsOrder (P : Program) (w : World) (K : PySem.W.Frag) (mg : Str → Option Value) (base : Heap) : Prop := C8.Cal P w K mg base 7 "is_order" (PF AOrd fun _ => Is (.bool true)) []
theorem kt_tuptup : kitB "tuple" "tuple" = some true := by decide +kernel
theorem num_zip (o : List Str) : numbered (o.map PyData.str) = o.zipIdx.map fun p => .tuple [.int (p.2 : Nat), .str p.1] := by
  unfold numbered
  rw [List.zipIdx_map, List.map_map]
  rfl
theorem all_true {α : Type} {f : α → Bool} {l : List α} (h : ∀ x ∈ l, f x = true) : (l.map f).all (fun k => k) = true := by
  rw [List.all_map]
  exact List.all_eq_true.mpr h
theorem cal_isOrder (F : Df K mg "is_order" sIsOrder) (B : Blt mg) (c1 : CIsName P w K mg base) (c2 : CNames P w K mg base) (c3 : CTab P w K mg base) : CIsOrder P w K mg base := by
  refine cal_pf (A := AOrd) F sc_isOrder (fun _ _ _ _ _ _ us hl => match us, hl with | [_, _], _ => rfl) (fun d vs H h => by obtain ⟨v, w, rfl, _⟩ := bl2 h.1; rfl) ?_
  intro f cdv Ar outer s H vs Q E ⟨b, o⟩ hr ⟨h1, wf, ho⟩ q
  obtain ⟨v, u, rfl, hv, hu⟩ := bl2 h1
  refine b_cons (s_if (k := false) (ew_t ((ew_or (k := false) (et_not (k := true) (et_val (ev_isi B.isi (ev_name 1 (R := Is (eN o)) rfl hu) (ev_ty B.tuple b_tuple) kt_tuptup))) fun _ => ew_or1 (k := false) (et_not (k := true) (et_val (Ev.is (ev_all (bs := o.map fun _ => true) B.all (Ev.is (ev_lcA (i := 5) (l := o) (enc := PyData.str) (g := fun _ => .bool true) (defScope sIsOrder) sc_isOrder.nd (src_tup (ev_name 1 (R := Is (eN o)) rfl hu)) (fun r _ => by simp [tupD]) fun x hx y H2 m2 ry j => ?_) (by rw [List.map_map]; rfl))) ?_)))))) (fun z => nomatch z) fun _ H1 s1 => b_nil ?_)
  · exact ev_isName c1 hr (ev_name 5 rfl ry) (wf.nm x (ho.mem.mp hx))
  · rw [all_true fun _ _ => rfl]
  have hv1 : Rp H1 v (eB b) := Rp.mono (sm_of s1) _ _ hv
  have hu1 : Rp H1 u (eN o) := Rp.mono (sm_of s1) _ _ hu
  refine b_cons (s_if (k := false) (EvT.is (et_neD (n := 1) hr (ev_tuple B.tuple (sq_l (ev_sorted (α := Str) (as := o) hr B.sorted (sq_t (ev_name 1 (R := Is (eN o)) rfl hu1))))) (ev_namesIn c2 hr (ev_name 0 (R := Is (eB b)) rfl hv1)) (shp_names _) (shp_names _)) ?_) (fun z => nomatch z) fun _ H2 s2 => b_nil ?_)
  · rw [IsOrd.sorted wf ho]
    have e := eqv_rfl (eN (names b)) (tupD_names _)
    show (!PyData.eqv (eN (names b)) (eN (names b))) = false
    rw [e]
    rfl
  have hv2 : Rp H2 v (eB b) := Rp.mono (sm_of s2) _ _ hv1
  have hu2 : Rp H2 u (eN o) := Rp.mono (sm_of s2) _ _ hu1
  refine b_cons (s_set 2 sc_isOrder.nd (ev_table c3 hr (ev_name 0 (R := Is (eB b)) rfl hv2) wf) fun tb H3 s3 r3 => ?_)
  have hu3 : Rp H3 u (eN o) := Rp.mono (sm_of s3) _ _ hu2
  have fl : (o.zipIdx.flatMap fun q => (readsOf b q.1).map fun y => PyData.bool (decide (y ∈ o.take q.2))).length < sizeLine := by
    have z := flat_len (f := fun q : Str × Nat => (readsOf b q.1).map fun y => PyData.bool (decide (y ∈ o.take q.2))) (n := 6) (fun q => by rw [List.length_map]; exact readsOf_len wf _) o.zipIdx
    rw [List.length_zipIdx] at z
    have hl : o.length ≤ 6 := ho.len wf
    rw [sizeLine_eq]
    omega
  refine b_one (s_ret (R := Is (.bool true)) (Ev.is (ev_all (bs := o.zipIdx.flatMap fun q => (readsOf b q.1).map fun y => decide (y ∈ o.take q.2)) B.all (Ev.is (ev_lc2 (own := [("place", 4), ("name", 5), ("own", 3)]) (l := o.zipIdx) (enc := fun q => .tuple [.int (q.2 : Nat), .str q.1]) (l1 := fun q => readsOf b q.1) (enc1 := fun _ y => PyData.str y) (g := fun q y => .bool (decide (y ∈ o.take q.2))) 3 (defScope sIsOrder) sc_isOrder.nd
    (by rw [← num_zip]; exact src_enumT (ev_name 1 (R := Is (eN o)) rfl hu3) B.enum) fl (fun q _ => by simp [tupD, tupDs]) (fun q _ y _ => by simp [tupD]) fun q hq y H4 m4 ry => ?_) ?_)) ?_) fun z H4 s4 r4 => q z H4 ((s1.trans s2).trans (s3.trans s4)) r4)
  · obtain ⟨a, v1, v2, rfl, ha, e1, e2⟩ := tup2 ry
    have qo : o[q.2]? = some q.1 := by
      have z := List.mem_zipIdx_iff_getElem?.mp hq
      exact z
    have qn : q.1 ∈ names b := ho.mem.mp (List.mem_of_getElem? qo)
    have r4 : DK (tabD b) tb H4 := Mono.up m4 r3
    have hu4 : Rp H4 u (eN o) := Rp.mono m4 _ _ hu3
    refine ⟨_, ?_, fun j H5 m5 => eg_tup (egs_cons (eg_name 4 sc_isOrder.nd) (egs_cons (eg_name 5 sc_isOrder.nd) egs_nil)) (m5.tp _ _ ha), fun j => srcN_tup (ev_tabReads (k1 := 0) wf hr qn (ev_name 2 (R := DK (tabD b)) rfl r4) (ev_name 5 rfl e2)) (tup_map (fun a => by simp [tupD]) _), fun z hz t H5 m5 rt => ⟨fun j => eg_name 3 sc_isOrder.nd, fun j => ?_⟩⟩
    · rfl
    · have lt : q.2 < o.length := (List.getElem?_eq_some_iff.mp qo).1
      exact ev_inN hr (ev_name 3 rfl rt) (sq_t (ev_takeT (ev_name 1 (R := Is (eN o)) rfl (Rp.mono m5 _ _ hu4)) (ev_name 4 rfl (Rp.mono m5 _ _ e1)) lt))
  · rw [List.map_flatMap]
    refine congrArg _ (congrArg (fun z => List.flatMap z o.zipIdx) (funext fun q => ?_))
    rw [List.map_map]
    rfl
  · have z : (o.zipIdx.flatMap fun q => (readsOf b q.1).map fun y => decide (y ∈ o.take q.2)).all (fun k => k) = true := by
      rw [List.all_eq_true]
      intro k hk
      obtain ⟨q, hq, hk⟩ := List.mem_flatMap.mp hk
      obtain ⟨y, hy, e⟩ := List.mem_map.mp hk
      rw [← e]
      exact decide_eq_true (ho.ahead q.2 q.1 (List.mem_zipIdx_iff_getElem?.mp hq) y hy)
    rw [z]
abbrev sCheckOrder : Stmt := top 21
theorem sc_checkOrder : FnScope ["block", "order"] ["block", "order"] (defScope sCheckOrder) := ⟨rfl, rfl, rfl, by decide +kernel, rfl, by decide +kernel, by decide +kernel⟩
abbrev CCheckO (P : Program) (w : World) (K : PySem.W.Frag) (mg : Str → Option Value) (base : Heap) : Prop := C8.Cal P w K mg base 8 "check_order" (PF AOrd fun _ => Is .none) []
theorem dep4N (xs : List Str) : (eN xs).depth ≤ 4 := Nat.le_trans (depth_N xs) (by decide)
theorem cal_checkO (F : Df K mg "check_order" sCheckOrder) (c1 : CTup P w K mg base) (c2 : CIsOrder P w K mg base) : CCheckO P w K mg base := by
  refine cal_pf (A := AOrd) F sc_checkOrder (fun _ _ _ _ _ _ us hl => match us, hl with | [_, _], _ => rfl) (fun d vs H h => by obtain ⟨v, w, rfl, _⟩ := bl2 h.1; rfl) ?_
  intro f cdv Ar outer s H vs Q E ⟨b, o⟩ hr ⟨h1, wf, ho⟩ q
  obtain ⟨v, u, rfl, hv, hu⟩ := bl2 h1
  refine b_one (s_if (k := false) (et_not (k := true) (et_val (ev_pf (b, o) c2 hr (ea_is (ev_name 0 (R := Is (eB b)) rfl hv) (ea_is (ev_tupB c1 hr (ev_name 1 (R := Is (eN o)) rfl hu) (tupD_names o) (dep4N o)) ea_isNil)) fun vs H1 _ t => ⟨t, wf, ho⟩))) (fun z => nomatch z) fun _ H1 s1 => b_nil (q .non H1 s1 .non))
end
end My
/-! C2 -/
namespace My
open PySem L2
/-! ### x, y = a, b -/
section
variable {X : Cx} {σ : L2.St} {H : Hp} {D : Ends} {a b c : Expr} {es : List Expr} {px py pz pt pt2 pos : Pos} {kt k2 : Nat} {x y z : Str}
/-- the two values, in order -/
def two (X : Cx) (a b : Expr) (σ : L2.St) (H : Hp) (Q : V → V → Hp → Prop) : Prop := wA X [a, b] σ H fun vs H1 => ∃ v u, vs = [v, u] ∧ Q v u H1
theorem two_go {R1 R2 : Rel} {Q : V → V → Hp → Prop} [Mono R1] (ha : Ev X a σ H R1) (hb : ∀ H1, Same H H1 → ∀ Q2 : VK, (∀ v H2, Same H1 H2 → R2 v H2 → Q2 v H2) → wE X b σ H1 Q2) (k : ∀ v u H1, Same H H1 → R1 v H1 → R2 u H1 → Q v u H1)
    (h1 : starEach [a, b] X.env = (false, eval a X.env) :: starEach [b] X.env := by rfl) (h2 : starEach [b] X.env = (false, eval b X.env) :: starEach [] X.env := by rfl) : two X a b σ H Q :=
  wa (pa_cons (pe_w a) (pa_cons (pe_w b) pa_nil h2) h1) (ha.go fun v H1 s1 r1 => hb H1 s1 _ fun u H2 s2 r2 => ⟨v, u, rfl, k v u H2 (s1.trans s2) (Mono.up (sm_of s2) r1) r2⟩)
theorem s_par (i j : Nat) (nd : X.N.Nodup) (h : two X a b σ H fun v u H1 => D.nx ((σ.set i (some v)).set j (some u)) H1) (hi : X.N[i]? = some x := by rfl) (hj : X.N[j]? = some y := by rfl) (hij : i ≠ j := by decide) (hx : X.env.scope.names.lookup x = some .local := by rfl) (hy : X.env.scope.names.lookup y = some .local := by rfl)
    (hw : swappedStores [.Tuple [.Name x px, .Name y py] kt pt] (.Tuple [a, b] k2 pt2) X.env = pure (some [x, y]) := by rfl) (hs : swapsWithSole [.Tuple [.Name x px, .Name y py] kt pt] (.Tuple [a, b] k2 pt2) pos.line X.env = pure false := by rfl) (hc : X.calm = true := by rfl) :
    wS X (.Assign [.Tuple [.Name x px, .Name y py] kt pt] (.Tuple [a, b] k2 pt2) pos) D σ H :=
  ws (ps_par hc nd hi hj hij hx hy (pa_w [a, b]) hw hs) h
/-- .. by a tuple in between -/
theorem s_parT {ts : List Expr} {σ' : V → V → L2.St} (h : two X a b σ H fun v u H1 => ∀ p, H1 p = none → EvGs X ts σ (upd H1 p (.tup [v, u])) [v, u] (σ' v u) ∧ D.nx (σ' v u) (upd H1 p (.tup [v, u]))) (hc : X.calm = true := by rfl) (hn : (assignEach ts X.env).length = 2 := by rfl) (hst : (assignEach ts X.env).findIdx? (·.1) = none := by rfl)
    (hs : swapsWithSole [.Tuple ts kt pt] (.Tuple [a, b] k2 pt2) pos.line X.env = pure false := by rfl) (hw : swappedStores [.Tuple ts kt pt] (.Tuple [a, b] k2 pt2) X.env = pure none := by rfl) (h1 : (assignEach [.Tuple ts kt pt] X.env).map (·.2) = [assign (.Tuple ts kt pt) X.env] := by rfl) : wS X (.Assign [.Tuple ts kt pt] (.Tuple [a, b] k2 pt2) pos) D σ H :=
  ws (ps_asg (pe_w _) (pg_w _) hs hw h1) (we (pe_tup (pa_w [a, b])) (fun pos pins s I => thn (h pos pins s I) fun us s' ⟨vs, H1, I1, r1, v, u, e, q⟩ => ⟨vs, H1, I1, r1, by
    subst e
    exact ⟨by show 2 ≤ sizeLine; decide, fun p hp => eg_tup (q p hp).1 upd_same hc hn hst _ (q p hp).2⟩⟩))
theorem s_par3 (i j l : Nat) (nd : X.N.Nodup) (h : wA X [a, b, c] σ H fun vs H1 => ∃ u v w, vs = [u, v, w] ∧ D.nx (((σ.set i (some u)).set j (some v)).set l (some w)) H1) (hi : X.N[i]? = some x := by rfl) (hj : X.N[j]? = some y := by rfl) (hl : X.N[l]? = some z := by rfl) (hij : i ≠ j := by decide) (hil : i ≠ l := by decide) (hjl : j ≠ l := by decide)
    (hx : X.env.scope.names.lookup x = some .local := by rfl) (hy : X.env.scope.names.lookup y = some .local := by rfl) (hz : X.env.scope.names.lookup z = some .local := by rfl)
    (hw : swappedStores [.Tuple [.Name x px, .Name y py, .Name z pz] kt pt] (.Tuple [a, b, c] k2 pt2) X.env = pure (some [x, y, z]) := by rfl) (hs : swapsWithSole [.Tuple [.Name x px, .Name y py, .Name z pz] kt pt] (.Tuple [a, b, c] k2 pt2) pos.line X.env = pure false := by rfl) (hc : X.calm = true := by rfl) :
    wS X (.Assign [.Tuple [.Name x px, .Name y py, .Name z pz] kt pt] (.Tuple [a, b, c] k2 pt2) pos) D σ H :=
  ws (ps_par3 hc nd hi hj hl hij hil hjl hx hy hz (pa_w [a, b, c]) hw hs) h
/-- a display is a new list -/
theorem evN_lst {ds : List PyData} (h : EvA X es σ H (IsA ds)) (hz : ds.length ≤ 100000) : EvN X (.List es pos) σ H ds := fun H1 m Q k =>
  we (pe_lst (pa_w es)) (h H1 m _ fun vs H2 s2 r2 => ⟨by rw [r2.length]; exact Nat.le_trans hz (by decide), fun p hp => k p vs _ (s2.trans (same_new hp)) (s2.free hp) upd_same (RpA.mono (sm_of (same_new hp)) _ _ r2)⟩)
/-- list(..) is a new list -/
theorem evN_list {ds : List PyData} {p : Pos} (hm : X.mg "list" = none) (h : Ev X a σ H (Sq ds)) (hg : Gl X "list" := by rfl) (he : starEach [a] X.env = (false, eval a X.env) :: starEach [] X.env := by rfl) (hpl : (backTo pos (starEach [] X.env)).any (·.1) = false := by rfl) : EvN X (.Call (.Name "list" p) [a] [] pos) σ H ds := fun H1 m Q k =>
  we (pe_callTy call_list_of hg hm b_list (pa_w [a]) (by decide) (by decide) he hpl) (wa_one (h H1 m _ fun v H2 s2 r2 => by
    obtain ⟨q, xs, rfl, hs, hx⟩ := Sq.seq (K := X.K) r2
    exact ⟨q, xs, rfl, hs, fun l hl => k l xs _ (s2.trans (same_new hl)) (s2.free hl) upd_same (RpA.mono (sm_of (same_new hl)) _ _ hx)⟩) he)
end
end My
/-! C3 -/
namespace My
open PySem L2
section
variable {X : Cx} {σ : L2.St} {F H : Hp} {ps : List Addr} {D : Ends} {iter tg : Expr} {body : List Stmt} {pos : Pos} {d : Addr} {m : List (Str × PyData)} {ms : List (Addr × HO)}
theorem srcF_keys {o : Obj} {kvs : List (Key × V)} (h : ∀ H, At X iter σ H d) (hd : F d = some (.frz o (.dK kvs))) (hk : KvA F kvs m) : SrcF X tg iter σ F ps (m.map fun q => .str q.1) := fun H1 mm c R k => by
  refine wi (pi_keys (pe_w iter)) ?_
  refine we_inv (h H1 _ fun pins s I => ?_)
  have hd2 : H1 d = some (.frz o (.dK kvs)) := mm _ _ hd
  have hz : kvs.length ≤ sizeLine := (Rd.ok (u := .dK kvs) (.inr ⟨o, hd2⟩) I.hok).1
  have hl : (m.map fun q => PyData.str q.1).length = kvs.length := by rw [List.length_map, hk.length]
  obtain ⟨a, b⟩ := cond_cut c (Same.refl H1) mm
  refine ⟨d, o, rfl, .inl ⟨kvs, hd2, k _ (cut ps H1) H1 (Same.refl _) a (cut_same _ _) b (fun p hp => cut_in hp) ⟨by rw [hl]; exact hz, fun i H' s hi => ⟨s _ _ (a _ _ hd), by rw [← hl]; exact hi⟩, fun H' s => ⟨s _ _ (a _ _ hd), by rw [hl]; exact Nat.le_refl _⟩, fun i H' x H'' s y hi => ?_⟩⟩⟩
  obtain ⟨e, kk, vv, hkv, ex⟩ := y
  subst e ex
  obtain ⟨x, dd, h1, h2, _⟩ := hk.key hkv
  subst h2
  exact ⟨Same.refl _, .str x, by rw [List.getElem?_map, h1]; rfl, .str x⟩
theorem Mu.cond (mu : Mu F ms H) : Cond (ms.map (·.1)) F H := fun p hp => by
  obtain ⟨q, hq, e⟩ := List.mem_map.mp hp
  subst e
  exact ⟨(mu.at_ q hq).1, _, (mu.at_ q hq).2.1, (mu.at_ q hq).2.2⟩
/-- for x in d, d a dict with text keys -/
theorem s_forK (hd : DK m (.ref d) F) (mu : Mu F ms H) (hi : ∀ H, At X iter σ H d)
    (go : ∀ F' H', Sm F F' → Tp F F' → (∀ p, F p = none → F' p = none) → Mu F' ms H' → ∃ I : Nat → L2.St → Hp → Prop, I 0 σ H' ∧ (∀ i σ H, I i σ H → Same F' H) ∧
      (∀ (D0 : Ends) i x σ H1, (m.map (·.1))[i]? = some x → I i σ H1 → wG X tg (.str x) σ H1 fun σ2 H2 => wB X body { D0 with nx := I (i + 1), ct := I (i + 1) } σ2 H2) ∧
      ∀ σ H1 H2, I m.length σ H1 → Same F H2 → Sm H1 H2 → (∀ p, F p = none → H2 p = H1 p) → D.nx σ H2)
    (hp : PassesOwn (model X.prog X.w) X.A X.env X.xe := by exact PassesOwn.never) (hcl : X.calm = true := by rfl) (hs : ∀ x, foldedSetIterable iter X.env x = pure x := by intro _; rfl) : wS X (.For tg iter body [] pos) D σ H := by
  have main : ∀ (D' : Ends) (F' H' : Hp) (o : Obj) (kvs : List (Key × V)), Sm F F' → Tp F F' → (∀ p, F p = none → F' p = none) → Mu F' ms H' → F' d = some (.frz o (.dK kvs)) → KvA F' kvs m →
      (∀ (I : Nat → L2.St → Hp → Prop), (∀ σ H1 H2, I m.length σ H1 → Same F H2 → Sm H1 H2 → (∀ p, F p = none → H2 p = H1 p) → D.nx σ H2) → ∀ σ H1, I m.length σ H1 → Same F' H1 → D'.nx σ H1) → wS X (.For tg iter body [] pos) D' σ H' := by
    intro D' F' H' o kvs sm tp fr mu' hf hk fin
    obtain ⟨I, i0, iG, turn, last⟩ := go F' H' sm tp fr mu'
    refine ws (ps_for hp hcl (pi_w tg iter) (pg_w tg) (pb_w body) hs) (wi (pi_keys (pe_w iter)) (we_inv (hi H' _ fun pins s I => ?_)))
    have hd2 : H' d = some (.frz o (.dK kvs)) := mu'.sam _ _ hf
    have hz : kvs.length ≤ sizeLine := (Rd.ok (u := .dK kvs) (.inr ⟨o, hd2⟩) I.hok).1
    obtain ⟨I, i0, iG, turn, last⟩ := go F' H' sm tp fr mu'
    have hl : m.length = kvs.length := hk.length.symm
    refine ⟨d, o, rfl, .inl ⟨kvs, hd2, fun i n σ H => n = m.length - i ∧ i ≤ m.length ∧ I i σ H, ⟨m.length, rfl, Nat.zero_le _, i0⟩, ?_⟩⟩
    rintro i n σ1 H1 ⟨rfl, hle, hI⟩
    have hd3 : H1 d = some (.frz o (.dK kvs)) := iG _ _ _ hI _ _ hf
    by_cases hlt : i < m.length
    · refine .inr ⟨⟨hd3, by rw [← hl]; exact hlt⟩, I (i + 1), fun σ2 H2 p => ⟨m.length - (i + 1), by omega, rfl, hlt, p⟩, fun v H3 y => ?_⟩
      obtain ⟨e, kk, vv, hkv, ex⟩ := y
      subst e ex
      obtain ⟨x, dd, h1, h2, _⟩ := hk.key hkv
      subst h2
      exact turn { D' with bk := D'.nx } i x σ1 H3 (by rw [List.getElem?_map, h1]; rfl) hI
    · have e : i = m.length := by omega
      subst e
      exact .inl ⟨⟨hd3, by rw [hl]; exact Nat.le_refl _⟩, fin I last σ1 H1 hI (iG _ _ _ hI)⟩
  obtain ⟨q, kvs, e, hr, hk⟩ := id hd
  cases e
  rcases hr with hr | ⟨o, hr⟩
  · have hH : H d = some (.dK kvs) := mu.sam _ _ hr
    refine ws (ps_lock (ps_w _)) ⟨d, .dK kvs, hH, trivial, fun od => ?_⟩
    have sl : Sm F (upd F d (.frz od (.dK kvs))) := Sm.lock hr trivial
    have nd : ∀ p, F p = none → p ≠ d := fun p hp e => by rw [e, hr] at hp; cases hp
    refine main _ (upd F d (.frz od (.dK kvs))) (upd H d (.frz od (.dK kvs))) od kvs sl (tp_upd hr fun _ z => nomatch z) (fun p hp => by rw [upd_ne (nd p hp)]; exact hp) ⟨fun b o e => ?_, fun q hq => ?_, mu.nd⟩ upd_same (hk.mono sl) fun I last σ1 H1 hI g => ⟨g _ _ upd_same, last σ1 H1 _ hI (fun b o e => ?_) (Sm.unlock (g _ _ upd_same)) fun p hp => by rw [upd_ne (nd p hp)]⟩
    · by_cases q : b = d
      · subst q
        rw [upd_same] at e ⊢
        exact e
      · rw [upd_ne q] at e ⊢
        exact mu.sam _ _ e
    · have z := mu.at_ q hq
      exact ⟨by rw [upd_ne (nd _ z.1)]; exact z.1, by rw [upd_ne (nd _ z.1)]; exact z.2.1, z.2.2⟩
    · by_cases q : b = d
      · subst q
        rw [hr] at e
        rw [upd_same]
        exact e
      · rw [upd_ne q]
        exact g _ _ (by rw [upd_ne q]; exact e)
  · exact main D F H o kvs (Sm.refl F) (fun _ _ h => h) (fun _ h => h) mu hr hk fun I last σ1 H1 hI g => last σ1 H1 H1 hI g (Sm.refl H1) fun _ _ => rfl
end
end My
/-! D7 -/
namespace My
open PySem L2
section
variable {P : Program} {w : World} {K : PySem.W.Frag} {mg : Str → Option Value} {base : Heap}
/-! ### all_orders -/
abbrev sAllO : Stmt := top 26
theorem sc_allO : FnScope ["block", "name", "table", "found", "row", "own"] ["block"] (defScope sAllO) := ⟨rfl, rfl, rfl, by decide +kernel, rfl, by decide +kernel, by decide +kernel⟩
abbrev ABlk : Blk → RelA := fun b vs H => RpA H vs [eB b] ∧ WF b
abbrev CAllO (P : Program) (w : World) (K : PySem.W.Frag) (mg : Str → Option Value) (base : Heap) : Prop := C8.Cal P w K mg base 7 "all_orders" (PF ABlk fun b => Is (.list ((ords b).map eN))) []
/-- a list of orders' beginnings is not too long -/
theorem freeL_len {b : Blk} (w : WF b) (d : List Str) : (freeL b d).length ≤ 6 := Nat.le_trans (List.length_filter_le _ _) (by rw [List.length_map]; exact w.few)
theorem ordsN_len {b : Blk} (w : WF b) : ∀ n, (ordsN b n).length ≤ 6 ^ n
  | 0 => Nat.le_refl _
  | n + 1 => by
    have z := flat_len (f := fun row => (freeL b row).map fun x => row ++ [x]) (n := 6) (fun row => by rw [List.length_map]; exact freeL_len w row) (ordsN b n)
    have := ordsN_len w n
    show (ordStep b (ordsN b n)).length ≤ 6 ^ (n + 1)
    unfold ordStep
    rw [Nat.pow_succ]
    omega
theorem ordsN_rowlen {b : Blk} : ∀ n, ∀ r ∈ ordsN b n, r.length = n
  | 0, r, h => by rw [List.mem_singleton.mp h]; rfl
  | n + 1, r, h => by
    obtain ⟨q, hq, h⟩ := List.mem_flatMap.mp h
    obtain ⟨x, _, rfl⟩ := List.mem_map.mp h
    rw [List.length_append, ordsN_rowlen n q hq]
    rfl
theorem evN_free {X : Cx} {σ : L2.St} {H : Hp} {e e2 : Expr} {p pos : Pos} {j : Nat} {b : Blk} {done : List Str} (c : CFree X.prog X.w X.K X.mg X.base) (hr : Room j X.A) (wf : WF b) (h : Ev X e σ H (DK (tabD b))) (h2 : Ev X e2 σ H (Sq (done.map .str))) (hk : 1 ≤ j := by decide) (hg : Gl X "free_in" := by rfl)
    (he : starEach [e, e2] X.env = (false, eval e X.env) :: starEach [e2] X.env := by rfl) (he2 : starEach [e2] X.env = (false, eval e2 X.env) :: starEach [] X.env := by rfl) (hpl : (backTo pos (starEach [e2] X.env)).any (·.1) = false := by rfl) : EvN X (.Call (.Name "free_in" p) [e, e2] [] pos) σ H ((freeL b done).map .str) :=
  ev_pl (b, done) c hr (ea_cons h (ea_cons h2 ea_nil he2) he) (fun vs H1 _ t => by
    obtain ⟨v, u, rfl, r1, r2⟩ := two_of t
    exact ⟨v, u, rfl, r1, r2, wf⟩) hk hg (by decide) he hpl
theorem cal_allO (F : Df K mg "all_orders" sAllO) (c1 : CTab P w K mg base) (c2 : CFree P w K mg base) : CAllO P w K mg base := by
  refine cal_pf (A := ABlk) F sc_allO (fun _ _ _ _ _ _ us hl => match us, hl with | [_], _ => rfl) (fun d vs H h => by obtain ⟨v, rfl, _⟩ := bl1 h.1; rfl) ?_
  intro f cdv Ar outer s H vs Q E b hr ⟨h1, wf⟩ q
  obtain ⟨v, rfl, hv⟩ := bl1 h1
  refine b_cons (s_parT (σ' := fun v u => (((start ["block", "name", "table", "found", "row", "own"] [_]).set 2 (some v)).set 3 (some u))) (two_go (R2 := Is (.list [eN []])) (ev_table c1 hr (ev_name 0 (R := Is (eB b)) rfl hv) wf) (fun H1 s1 Q2 k => (ev_lst (ea_is (ev_tup ea_isNil (by decide)) ea_isNil) (by decide)).go k) fun tb fd H1 s1 rt rf p hp => ⟨egs_cons (eg_name 2 sc_allO.nd) (egs_cons (eg_name 3 sc_allO.nd) egs_nil), ?_⟩))
  have rt' : DK (tabD b) tb (upd H1 p (.tup [tb, fd])) := Mono.up (sm_of (same_new hp)) rt
  have rf' : Rp (upd H1 p (.tup [tb, fd])) fd (.list ((ordsN b 0).map eN)) := Rp.mono (sm_of (same_new hp)) _ _ rf
  have s1' : Same H (upd H1 p (.tup [tb, fd])) := s1.trans (same_new hp)
  generalize upd H1 p (.tup [tb, fd]) = H2 at rt' rf' s1'
  obtain ⟨d, kvs0, e, _, _⟩ := id rt'
  subst e
  have keys : (tabD b).map (·.1) = names b := by rw [tabD, List.map_map]; rfl
  refine b_cons (s_forK (F := H2) (ms := []) rt' (Mu.nil H2) (fun H => at_name 2 rfl) fun F' H' sm tp fr mu => ?_)
  refine ⟨fun i σ H => Same F' H ∧ ∃ fd nm, σ = [some v, nm, some (.ref d), some fd, none, none] ∧ Rp H fd (.list ((ordsN b i).map eN)), ⟨mu.sam, fd, none, rfl, Rp.mono (sm.trans mu.sm) _ _ rf'⟩, fun i σ H h => h.1, ?_, ?_⟩
  · rintro D0 i x σ H3 hx ⟨g, fd, nm, rfl, rfd⟩
    refine g_name 1 sc_allO.nd ?_
    have hi : i < b.rows.length := by
      have := (List.getElem?_eq_some_iff.mp hx).1
      rw [keys, List.length_map] at this
      exact this
    have rt3 : DK (tabD b) (.ref d) H3 := Mono.up (sm.trans (sm_of g)) rt'
    have len : ((ordsN b i).flatMap fun row => (freeL b row).map fun x => eN (row ++ [x])).length < sizeLine := by
      have z := flat_len (f := fun row => (freeL b row).map fun x => eN (row ++ [x])) (n := 6) (fun row => by rw [List.length_map]; exact freeL_len wf row) (ordsN b i)
      have z2 := ordsN_len wf i
      have z3 : 6 ^ i ≤ 6 ^ 6 := Nat.pow_le_pow_right (by decide) (by have := wf.few; omega)
      have z4 : (6 : Nat) ^ 6 = 46656 := by decide
      rw [sizeLine_eq]
      omega
    refine b_one (s_setLc2 (own := [("row", 4), ("own", 5)]) (l := ordsN b i) (enc := eN) (l1 := fun row => freeL b row) (enc1 := fun _ y => PyData.str y) (g := fun row y => eN (row ++ [y])) 3 5 (defScope sAllO) sc_allO.nd (src_list (ev_name 3 rfl rfd)) len (fun row _ => tupD_names row) (fun row _ y _ => tupD_names _) (fun row hrow y H4 m4 ry => ?_) (fun z H4 s4 r4 => ⟨g.trans s4, z, _, rfl, ?_⟩) (hsw := by rfl))
    · have rt4 : DK (tabD b) (.ref d) H4 := Mono.up m4 rt3
      refine ⟨[some v, some (.str x), some (.ref d), some fd, some y, none], rfl, fun j H5 m5 => eg_name 4 sc_allO.nd, fun j => srcN_new (evN_free (b := b) (done := row) c2 hr wf (ev_name 2 (R := DK (tabD b)) rfl rt4) (sq_t (ev_name 4 (R := Is (eN row)) rfl ry))) (tup_map (fun a => by simp [tupD]) _), fun z hz t H5 m5 rt => ⟨fun j => eg_name 5 sc_allO.nd, fun j => Ev.is (ev_tup (ea_star (sq_t (ev_name 4 (R := Is (eN row)) rfl (Rp.mono m5 _ _ ry))) (ea_is (ev_name 5 rfl rt) ea_isNil)) ?_) ?_⟩⟩
      · rw [List.length_append, List.length_map, ordsN_rowlen i row hrow]
        have := wf.few
        simp only [List.length_cons, List.length_nil]
        omega
      · rw [eN, List.map_append]
        rfl
    · have e : (ordsN b (i + 1)).map eN = (ordsN b i).flatMap fun row => (freeL b row).map fun y => eN (row ++ [y]) := by
        show (ordStep b (ordsN b i)).map eN = _
        unfold ordStep
        rw [List.map_flatMap]
        refine congrArg (fun z => List.flatMap z (ordsN b i)) (funext fun row => ?_)
        rw [List.map_map]
        rfl
      rw [e]
      exact r4
  · rintro σ H3 H4 ⟨g, fd, nm, rfl, rfd⟩ g2 sm4 np
    have e : (tabD b).length = b.rows.length := by rw [tabD, List.length_map]
    rw [e] at rfd
    exact b_one (s_ret (ev_name 3 (R := Is (.list ((ords b).map eN))) rfl (Rp.mono sm4 _ _ rfd)) fun z H5 s5 r5 => q z H5 ((s1'.trans g2).trans s5) r5)
end
end My
/-! C4 -/
namespace My
open PySem PySem.Spec PyProof.Rows L2 PySem.W PySem.Calls
/-! ### sorted(d), d with text keys -/
theorem keys_strs : ∀ {us : List Value} {ks : List Str}, us.length = ks.length → (∀ (j : Nat) (v : Value), us[j]? = some v → ∃ (x : Str) (t : Tok), ks[j]? = some x ∧ v = Value.str x t) → ∃ bs : List (Rt Str), bs.map (·.1) = us ∧ bs.map (·.2.2) = ks ∧ ∀ b ∈ bs, RelV b.2.1 b.1 ∧ b.2.1 = .str b.2.2
  | [], [], _, _ => ⟨[], rfl, rfl, fun _ h => (by cases h)⟩
  | u :: us, k :: ks, hl, h => by
    obtain ⟨x, t, e1, e2⟩ := h 0 u rfl
    cases e1
    subst e2
    obtain ⟨bs, h1, h2, h3⟩ := keys_strs (us := us) (ks := ks) (by simpa using hl) fun j v e => by
      obtain ⟨x, t, a, b⟩ := h (j + 1) v (by simpa using e)
      exact ⟨x, t, by simpa using a, b⟩
    refine ⟨(.str k t, .str k, k) :: bs, by rw [List.map_cons, h1], by rw [List.map_cons, h2], fun b hb => ?_⟩
    rcases List.mem_cons.mp hb with rfl | hb
    · exact ⟨⟨t, rfl⟩, rfl⟩
    · exact h3 b hb
  | [], _ :: _, hl, _ => by simp at hl
  | _ :: _, [], hl, _ => by simp at hl
theorem KvA.keys {H : Hp} {kvs : List (Key × V)} {m : List (Str × PyData)} (h : KvA H kvs m) : kvs.map (·.1) = (m.map (·.1)).map Sum.inr := by
  induction h with
  | nil => rfl
  | cons _ _ ih => rw [List.map_cons, List.map_cons, List.map_cons, ih]
section
variable {X : Cx}
theorem cr_sortedK (hc : X.calm = true) (rm : X.A.units + 65 < cLine) : CallR X (.builtin "sorted") (fun vs H Q => ∃ (v : V) (m : List (Str × PyData)), vs = [v] ∧ DK m v H ∧ ∀ u H', Same H H' → Rp H' u (.list ((sortL ltK (m.map (·.1))).map .str)) → Q u H') := by
  intro pins s σ H vs us Q I r h
  obtain ⟨v, m, rfl, ⟨a, kvs, rfl, hd, hk⟩, q⟩ := h
  rw [Vals.ref1 r]
  obtain ⟨z, lo, vs, rel, dd⟩ := dk_rd I.hok hd
  obtain ⟨ep, hat⟩ := dd.dictAt
  have hkeys : vs.map (·.1) = (m.map (·.1)).map Sum.inr := rel.keys.symm.trans hk.keys
  have hl : vs.length = m.length := by
    have e := congrArg List.length hkeys
    simpa using e
  have hz : vs.length ≤ sizeLine := by rw [hl, ← hk.length]; exact z
  refine sorted_fin (α := Str) I rm (C := fun b => b.map (·.2.2) = m.map (·.1) ∧ ∀ c ∈ b, RelV c.2.1 c.1 ∧ c.2.1 = .str c.2.2) (fun E Q h => ?_) (fun b hb => ⟨?_, fun c hc => ⟨(hb.2 c hc).1, by rw [(hb.2 c hc).2]; exact .str _⟩⟩) fun b v H' hb hs hr => by rw [hb.1] at hr; exact q v H' hs hr
  · refine kdu_collect (A := X.A.in1) (kdl_dict (knd := mixKind X.prog X.w) (kvs := vs) (ep := ep) lo) (I.ok.hd hc) hat hz fun h' tk acc hk' hacc => ?_
    have hal : acc.toList.length = (m.map (·.1)).length := by rw [Array.length_toList, hacc.1, hl, List.length_map]
    obtain ⟨bs, e1, e2, e3⟩ := keys_strs hal fun j v e => by
      obtain ⟨k, x, e1, e2⟩ := hacc.2 j v (by rw [← Array.getElem?_toList]; exact e)
      have e3 : (vs.map (·.1))[j]? = some k := by rw [List.getElem?_map, e1]; rfl
      rw [hkeys, List.getElem?_map] at e3
      obtain ⟨y, ey, e5⟩ := Option.map_eq_some_iff.mp e3
      subst e5
      obtain ⟨t, ev⟩ := Value.isStrOf_shape (x := y) (v := v) e2
      exact ⟨y, t, ey, ev⟩
    have := h { s with heap := h', toks := tk } bs hk' rfl rfl ⟨e2, e3⟩
    rw [e1] at this
    exact this
  · have e := congrArg List.length hb.1
    rw [List.length_map, List.length_map] at e
    rw [e, ← hl]
    exact hz
end
section
variable {X : Cx} {σ : L2.St} {H : Hp} {a : Expr} {p pos : Pos}
theorem ev_sortedK {m : List (Str × PyData)} {k : Nat} (hr : Room k X.A) (hc : X.calm = true) (hm : X.mg "sorted" = none) (h : Ev X a σ H (DK m)) (hg : Gl X "sorted" := by rfl) (he : starEach [a] X.env = (false, eval a X.env) :: starEach [] X.env := by rfl) (hpl : (backTo pos (starEach [] X.env)).any (·.1) = false := by rfl) :
    Ev X (.Call (.Name "sorted" p) [a] [] pos) σ H (Is (.list ((sortL ltK (m.map (·.1))).map .str))) :=
  ev_callB (cr_sortedK hc (room_u65 hr)) b_sorted hm (ea_cons h ea_nil he) (fun vs H1 _ t Q z => by
    obtain ⟨v, rfl, r1⟩ := one_of t
    exact ⟨v, m, rfl, r1, fun u H' s r => z u H' s r⟩) hg (by decide) (by decide) he hpl
end
end My
/-! C5 -/
namespace My
open PySem L2
section
variable {X : Cx} {σ σ' : L2.St} {H : Hp} {D : Ends} {o i e : Expr} {es ts : List Expr} {pos pos' pt pt2 : Pos} {kt k2 : Nat} {p : Addr} {kvs : List (Key × V)} {x : Str} {R : Rel}
/-- t1, .., tn = e1, .., en, by a tuple -/
theorem s_parN {sg : List V → L2.St} (h : wA X es σ H fun vs H1 => vs.length ≤ 100 ∧ (assignEach ts X.env).length = vs.length ∧ ∀ p, H1 p = none → EvGs X ts σ (upd H1 p (.tup vs)) vs (sg vs) ∧ D.nx (sg vs) (upd H1 p (.tup vs))) (hc : X.calm = true := by rfl) (hst : (assignEach ts X.env).findIdx? (·.1) = none := by rfl)
    (hs : swapsWithSole [.Tuple ts kt pt] (.Tuple es k2 pt2) pos.line X.env = pure false := by rfl) (hw : swappedStores [.Tuple ts kt pt] (.Tuple es k2 pt2) X.env = pure none := by rfl) (h1 : (assignEach [.Tuple ts kt pt] X.env).map (·.2) = [assign (.Tuple ts kt pt) X.env] := by rfl) : wS X (.Assign [.Tuple ts kt pt] (.Tuple es k2 pt2) pos) D σ H :=
  ws (ps_asg (pe_w _) (pg_w _) hs hw h1) (we (pe_tup (pa_w es)) (fun pos pins s I => thn (h pos pins s I) fun us s' ⟨vs, H1, I1, r1, hz, hn, q⟩ => ⟨vs, H1, I1, r1, Nat.le_trans hz (by decide), fun p hp => eg_tup (q p hp).1 upd_same hc hn hst _ (q p hp).2⟩))
/-- t1, .., tn = e, e a tuple -/
theorem s_unpack {ds : List PyData} (h : Ev X e σ H (Is (.tuple ds))) (k : ∀ vs H1, Same H H1 → RpA H1 vs ds → ∃ σ', EvGs X ts σ H1 vs σ' ∧ D.nx σ' H1) (hn : (assignEach ts X.env).length = ds.length := by rfl) (hc : X.calm = true := by rfl) (hst : (assignEach ts X.env).findIdx? (·.1) = none := by rfl)
    (hs : swapsWithSole [.Tuple ts kt pt] e pos.line X.env = pure false := by rfl) (hw : swappedStores [.Tuple ts kt pt] e X.env = pure none := by rfl) (h1 : (assignEach [.Tuple ts kt pt] X.env).map (·.2) = [assign (.Tuple ts kt pt) X.env] := by rfl) : wS X (.Assign [.Tuple ts kt pt] e pos) D σ H :=
  ws (ps_asg (pe_w e) (pg_w _) hs hw h1) (h.go fun v H1 s1 r1 => by
    cases r1 with
    | @tup a vs _ ha hx =>
      obtain ⟨σ', g, q⟩ := k vs H1 s1 hx
      exact eg_tup g ha hc (by rw [hn, hx.length]) hst _ q)
/-- {} of text keys, of tuple keys -/
theorem e_dict0 {Q : VK} (k : ∀ p, H p = none → Q (.ref p) (upd H p (.dK []))) : wE X (.Dict [] [] pos) σ H Q := we pe_dnewK k
theorem e_dict0T {Q : VK} (k : ∀ p, H p = none → Q (.ref p) (upd H p (.dT []))) : wE X (.Dict [] [] pos) σ H Q := we pe_dnewT k
theorem room_u1 {k : Nat} {A : Around} (r : Room k A) : A.units + 1 < cLine := by have := r.un; omega
/-- d[x] = e, a text key -/
theorem s_dput {k : Nat} (hr : Room k X.A) [Mono R] (ho : ∀ H, At X o σ H p) (hp : H p = some (.dK kvs)) (hv : Ev X e σ H R) (hi : ∀ H1, Same H H1 → Ev X i σ H1 (Is (.str x))) (hz : kvs.length < 100000) (k : ∀ v H1, Same H H1 → R v H1 → D.nx σ (upd H1 p (.dK (putK kvs (.inr x) v))))
    (hs : swapsWith e (some (.Subscript o i pos')) pos.line X.env = pure false := by rfl) : wS X (.Assign [.Subscript o i pos'] e pos) D σ H :=
  ws (ps_dput (room_u1 hr) (pe_w o) (pe_w i) (pe_w e) hs) (hv.go fun v H1 s1 r1 => ho H1 _ ((hi H1 s1).go fun y H2 s2 r2 => ⟨p, _, rfl, by rw [is_str r2]; exact DPut.k (k := .inr x) ((s1.trans s2) _ _ hp) (Nat.lt_of_lt_of_le hz (by decide)), k v H2 (s1.trans s2) (Mono.up (sm_of s2) r1)⟩))
theorem ev_neg {n : Int} (h : Ev X e σ H (Is (.int n))) : Ev X (.UnaryOp .USub e pos) σ H (Is (.int (-n))) :=
  fun H1 m Q z => we (pe_un un_neg (pe_w e)) (h H1 m _ fun v H2 s2 r2 => ⟨n, is_int r2, z _ H2 s2 (.int _)⟩)
end
end My
/-! D12 -/
namespace My
open PySem L2
theorem vstrs_snoc (xs : List Str) (x : Str) : xs.map V.str ++ [.str x] = (xs ++ [x]).map V.str := by rw [List.map_append]; rfl
section
variable {P : Program} {w : World} {K : PySem.W.Frag} {mg : Str → Option Value} {base : Heap}
abbrev sNeedsBy : Stmt := top 12
theorem sc_needsBy : FnScope ["table", "found", "name", "rest", "some", "own"] ["table"] (defScope sNeedsBy) := ⟨rfl, rfl, rfl, by decide +kernel, rfl, by decide +kernel, by decide +kernel⟩
abbrev mL (m : List (Str × List Str)) : List (Str × PyData) := m.map fun p => (p.1, .list (p.2.map .str))
def NeedsOk (b : Blk) (m : List (Str × List Str)) : Prop := ∀ p ∈ m, ∀ y, y ∈ p.2 ↔ y ∈ needs b p.1
def DNeeds (b : Blk) : Rel := fun v H => ∃ m : List (Str × List Str), DK (mL m) v H ∧ m.map (·.1) = names b ∧ NeedsOk b m ∧ ∀ p ∈ m, p.2.length ≤ 6
instance {b : Blk} : Mono (DNeeds b) := ⟨fun e ⟨m, h1, h2⟩ => ⟨m, Mono.up e h1, h2⟩⟩
abbrev ATab : Blk → RelA := fun b vs H => ∃ v, vs = [v] ∧ DK (tabD b) v H ∧ WF b
abbrev CNeedsBy (P : Program) (w : World) (K : PySem.W.Frag) (mg : Str → Option Value) (base : Heap) : Prop := C8.Cal P w K mg base 1 "needs_by" (PF ATab DNeeds) []
theorem cal_needsBy (F : Df K mg "needs_by" sNeedsBy) (B : Blt mg) : CNeedsBy P w K mg base := by
  refine cal_pf (A := ATab) F sc_needsBy (fun _ _ _ _ _ _ us hl => match us, hl with | [_], _ => rfl) (fun d vs H ⟨v, e, _⟩ => by rw [e]; rfl) ?_
  intro f cdv Ar outer s H vs Q E b hr ⟨v, e, hv, wf⟩ q
  subst e
  obtain ⟨d, kvs0, e, _, _⟩ := id hv
  subst e
  refine b_cons (s_setW 1 sc_needsBy.nd (e_dict0 fun p hp => ?_))
  have mu0 : Mu H [(p, .dK [])] (upd H p (.dK [])) := Mu.new (Mu.nil H) hp (by intro _ z; cases z)
  have keys : (tabD b).map (·.1) = names b := by rw [tabD, List.map_map]; rfl
  refine b_cons (s_forK (F := H) (ms := [(p, .dK [])]) hv mu0 (fun H => at_name 0 rfl) fun F' H1 sm tp fr mu1 => ?_)
  refine ⟨fun i σ H2 => ∃ Fi kvs m nm rs so ow, σ = [some (.ref d), some (.ref p), nm, rs, so, ow] ∧ Same F' Fi ∧ Mu Fi [(p, .dK kvs)] H2 ∧ KvA Fi kvs (mL m) ∧ m.map (·.1) = (names b).take i ∧ NeedsOk b m ∧ ∀ q ∈ m, q.2.length ≤ 6,
    ⟨F', [], [], none, none, none, none, rfl, Same.refl _, mu1, .nil, rfl, fun _ h => (by cases h), fun _ h => (by cases h)⟩, fun i σ H2 ⟨Fi, _, _, _, _, _, _, _, g, m, _⟩ => g.trans m.sam, ?_, ?_⟩
  · rintro D0 i x σ H2 hx ⟨Fi, kvs, m, nm, rs, so, ow, rfl, g, mu2, hk, hm, hn, hl⟩
    rw [keys] at hx
    have xn : x ∈ names b := List.mem_of_getElem? hx
    refine g_name 2 sc_needsBy.nd ?_
    have tb : ∀ {H}, Sm F' H → DK (tabD b) (.ref d) H := fun s => Mono.up (sm.trans s) hv
    refine b_cons (s_par 3 4 sc_needsBy.nd (wa (pa_cons (pe_w _) (pa_cons (pe_w _) pa_nil)) ?_))
    refine (evN_list B.list (sq_t (ev_tabReads (k1 := 0) wf hr xn (ev_name 0 (R := DK (tabD b)) rfl (tb (sm_of (g.trans mu2.sam)))) (ev_name 2 (R := Is (.str x)) rfl (.str x))))) H2 (Sm.refl _) _ fun r xs H3 s3 rf3 hr3 hx3 => ?_
    have ex := hx3.strs
    subst ex
    refine (evN_lst (ds := []) ea_isNil (by simp)) H3 (Sm.refl _) _ fun so1 ys H4 s4 rf4 hr4 hx4 => ?_
    cases hx4
    refine ⟨_, _, rfl, ?_⟩
    have mu3 : Mu Fi [(r, .lst ((readsOf b x).map V.str)), (p, .dK kvs)] H3 := mu2.add s3 rf3 hr3 (by intro _ z; cases z)
    have mu4 : Mu Fi [(so1, .lst (([] : List Str).map V.str)), (r, .lst ((readsOf b x).map V.str)), (p, .dK kvs)] H4 := mu3.add s4 rf4 hr4 (by intro _ z; cases z)
    have nF : ∀ {H}, Mu Fi [(so1, .lst (([] : List Str).map V.str)), (r, .lst ((readsOf b x).map V.str)), (p, .dK kvs)] H → True := fun _ => trivial
    -- the search
    let W : Nat → L2.St → Hp → Prop := fun n σ H5 => ∃ (rest so : List Str) (ow : Option V), σ = [some (.ref d), some (.ref p), some (.str x), some (.ref r), some (.ref so1), ow] ∧ Mu Fi [(so1, .lst (so.map V.str)), (r, .lst (rest.map V.str)), (p, .dK kvs)] H5 ∧ n = (7 - so.length) * 8 + rest.length ∧
      (∀ y ∈ rest, Need b x y) ∧ (∀ y ∈ so, Need b x y) ∧ (∀ y ∈ readsOf b x, y ∈ rest ∨ y ∈ so) ∧ (∀ z ∈ so, ∀ y ∈ readsOf b z, y ∈ rest ∨ y ∈ so) ∧ so.Nodup ∧ rest.length ≤ 6 * (so.length + 1)
    have soLen : ∀ so : List Str, so.Nodup → (∀ y ∈ so, Need b x y) → so.length ≤ 6 := fun so hn h => Nat.le_trans (nd_len so (names b) hn fun y hy => (h y hy).sub wf) (by rw [List.length_map]; exact wf.few)
    refine b_cons (s_while (W := W) ((7 - 0) * 8 + (readsOf b x).length) ⟨readsOf b x, [], ow, rfl, mu4, rfl, fun y hy => .one hy, fun _ h => (by cases h), fun y hy => .inl hy, fun _ h => (by cases h), List.nodup_nil, readsOf_len wf x⟩ ?_)
    rintro n σ H5 ⟨rest, so, ow, rfl, mu5, rfl, w1, w2, w3, w4, w5, w6⟩
    have hrd : Rp H5 (.ref r) (.list (rest.map .str)) := .lst (.inl mu5.two) (rpA_strs rest)
    refine ⟨decide ((0 : Int) < ((rest.map PyData.str).length : Int)), et_gt (ev_len B.len (sq_l (ev_name 3 (R := Is (.list (rest.map .str))) rfl hrd))) ev_int, fun hb H6 s6 => ?_, fun hb H6 s6 => ?_⟩
    · have ne : rest ≠ [] := by
        rintro rfl
        simp at hb
      obtain ⟨rest', y, rfl⟩ : ∃ rest' y, rest = rest' ++ [y] := ⟨rest.dropLast, rest.getLast ne, (List.dropLast_concat_getLast ne).symm⟩
      have mu6 := mu5.eval s6
      refine b_cons (s_setW 5 sc_needsBy.nd (e_pop (xs := rest'.map V.str) (y := .str y) (at_name 3 rfl) (by rw [vstrs_snoc]; exact mu6.two) ?_))
      have mu7 : Mu Fi [(so1, .lst (so.map V.str)), (r, .lst (rest'.map V.str)), (p, .dK kvs)] (upd H6 r (.lst (rest'.map V.str))) := (mu6.swap.put (by intro _ z; cases z)).swap
      generalize upd H6 r (.lst (rest'.map V.str)) = H7 at mu7
      have hso : Rp H7 (.ref so1) (.list (so.map .str)) := .lst (.inl mu7.one) (rpA_strs so)
      have yN : Need b x y := w1 y (by simp)
      refine b_one (s_if (k := !decide (y ∈ so)) (et_notInN hr (ev_name 5 (R := Is (.str y)) rfl (.str y)) (sq_l (ev_name 4 (R := Is (.list (so.map .str))) rfl hso))) (fun hk H8 s8 => ?_) fun hk H8 s8 => b_nil ?_)
      · have hy : y ∉ so := by simpa using hk
        have mu8 := mu7.eval s8
        have l1 := soLen so w5 w2
        refine b_cons (s_expr (e_append (R := Eqv (.str y)) (at_name 4 rfl) mu8.one (ev_name 5 rfl rfl) (by rw [List.length_map]; omega) fun v H9 s9 rv => ?_))
        cases rv
        have mu9 : Mu Fi [(so1, .lst ((so ++ [y]).map V.str)), (r, .lst (rest'.map V.str)), (p, .dK kvs)] (upd H9 so1 (.lst (so.map V.str ++ [.str y]))) := by
          rw [← vstrs_snoc]
          exact (mu8.eval s9).put (by intro _ z; cases z)
        generalize upd H9 so1 (.lst (so.map V.str ++ [.str y])) = H10 at mu9
        have l2 := readsOf_len wf y
        have l3 : rest'.length + 1 ≤ 6 * (so.length + 1) := by simpa using w6
        have l4 : (so ++ [y]).length ≤ 6 := soLen _ (by
          rw [List.nodup_append]
          exact ⟨w5, by simp, fun a ha c hc => by rw [List.mem_singleton.mp hc]; exact fun e => hy (e ▸ ha)⟩) fun z hz => by
            rcases List.mem_append.mp hz with hz | hz
            · exact w2 z hz
            · rw [List.mem_singleton.mp hz]; exact yN
        refine b_one (s_expr (e_extend (ds := (readsOf b y).map .str) (at_name 3 rfl) mu9.two (ev_tabReads (k1 := 0) wf hr (yN.sub wf) (ev_name 0 (R := DK (tabD b)) rfl (tb (sm_of (g.trans mu9.sam)))) (ev_name 5 (R := Is (.str y)) rfl (.str y))) (by rw [List.length_map, List.length_map]; omega) fun zs H11 s11 hz => ?_))
        have ez := hz.strs
        subst ez
        have mu11 : Mu Fi [(so1, .lst ((so ++ [y]).map V.str)), (r, .lst ((rest' ++ readsOf b y).map V.str)), (p, .dK kvs)] (upd H11 r (.lst (rest'.map V.str ++ (readsOf b y).map V.str))) := by
          rw [List.map_append (f := V.str) (l₁ := rest')]
          exact ((mu9.eval s11).swap.put (by intro _ z; cases z)).swap
        have l5 : so.length ≤ 5 := by simpa using l4
        refine ⟨(7 - (so ++ [y]).length) * 8 + (rest' ++ readsOf b y).length, ?_, rest' ++ readsOf b y, so ++ [y], _, rfl, mu11, rfl, fun z hz => ?_, fun z hz => ?_, fun z hz => ?_, fun z hz u hu => ?_, ?_, ?_⟩
        · rw [List.length_append, List.length_append, List.length_append, List.length_cons, List.length_nil]
          omega
        · rcases List.mem_append.mp hz with hz | hz
          · exact w1 z (List.mem_append_left _ hz)
          · exact yN.trans (.one hz)
        · rcases List.mem_append.mp hz with hz | hz
          · exact w2 z hz
          · rw [List.mem_singleton.mp hz]; exact yN
        · rcases w3 z hz with h | h
          · rcases List.mem_append.mp h with h | h
            · exact .inl (List.mem_append_left _ h)
            · exact .inr (List.mem_append_right _ h)
          · exact .inr (List.mem_append_left _ h)
        · rcases List.mem_append.mp hz with hz | hz
          · rcases w4 z hz u hu with h | h
            · rcases List.mem_append.mp h with h | h
              · exact .inl (List.mem_append_left _ h)
              · exact .inr (List.mem_append_right _ h)
            · exact .inr (List.mem_append_left _ h)
          · rw [List.mem_singleton.mp hz] at hu
            exact .inl (List.mem_append_right _ hu)
        · rw [List.nodup_append]
          exact ⟨w5, by simp, fun a ha c hc => by rw [List.mem_singleton.mp hc]; exact fun e => hy (e ▸ ha)⟩
        · rw [List.length_append, List.length_append, List.length_cons, List.length_nil]
          omega
      · have hy : y ∈ so := by simpa using hk
        refine ⟨(7 - so.length) * 8 + rest'.length, by rw [List.length_append]; simp, rest', so, _, rfl, mu7.eval s8, rfl, fun z hz => w1 z (List.mem_append_left _ hz), w2, fun z hz => ?_, fun z hz u hu => ?_, w5, by rw [List.length_append] at w6; omega⟩
        · rcases w3 z hz with h | h
          · rcases List.mem_append.mp h with h | h
            · exact .inl h
            · rw [List.mem_singleton.mp h]; exact .inr hy
          · exact .inr h
        · rcases w4 z hz u hu with h | h
          · rcases List.mem_append.mp h with h | h
            · exact .inl h
            · rw [List.mem_singleton.mp h]; exact .inr hy
          · exact .inr h
    · have e0 : rest = [] := by
        cases rest with
        | nil => rfl
        | cons a l => simp at hb
      subst e0
      have mu6 := mu5.eval s6
      have full : ∀ z y, Need b z y → (z = x ∨ z ∈ so) → y ∈ so := by
        intro z y h
        induction h with
        | @one x' y' h =>
          rintro (e | h')
          · rw [e] at h
            rcases w3 _ h with c | c
            · cases c
            · exact c
          · rcases w4 _ h' _ h with c | c
            · cases c
            · exact c
        | @step x' z' y' h _ ih =>
          intro hz
          refine ih (.inr ?_)
          rcases hz with e | h'
          · rw [e] at h
            rcases w3 _ h with c | c
            · cases c
            · exact c
          · rcases w4 _ h' _ h with c | c
            · cases c
            · exact c
      have spec : ∀ y, y ∈ so ↔ y ∈ needs b x := fun y => by
        rw [mem_needs wf]
        exact ⟨w2 y, fun h => full x y h (.inl rfl)⟩
      have lk : kvs.length < 100000 := by
        have e1 := hk.length
        rw [mL, List.length_map] at e1
        have e2 := congrArg List.length hm
        rw [List.length_map, List.length_take, List.length_map] at e2
        have := wf.few
        omega
      refine b_one (s_dput (kvs := kvs) (x := x) hr (R := Eqv (.ref so1)) (fun H => at_name 1 rfl) (mu6.at_ (p, .dK kvs) (by simp)).2.1 (ev_name 4 rfl rfl) (fun H7 s7 => ev_name 2 (R := Is (.str x)) rfl (.str x)) lk fun z H7 s7 rz => ?_)
      cases rz
      obtain ⟨F2, g2, mu7, _, hF2⟩ := (mu6.eval s7).done
      have mu8 : Mu F2 [(p, .dK kvs)] H7 := mu7.forget
      have fresh : x ∉ (mL m).map (·.1) := by
        have e : (mL m).map (·.1) = (names b).take i := by rw [mL, List.map_map]; exact hm
        rw [e]
        intro hmem
        obtain ⟨j, hj, e2⟩ := List.getElem_of_mem hmem
        rw [List.length_take] at hj
        have h1 : (names b)[j]? = some x := by
          rw [List.getElem_take] at e2
          rw [List.getElem?_eq_getElem (by omega), e2]
        have := (List.getElem?_inj (by omega) wf.nd).mp (h1.trans hx.symm)
        omega
      have put : putK kvs (Sum.inr x) (.ref so1) = kvs ++ [(Sum.inr x, .ref so1)] := putK_new _ (hk.fresh fresh)
      refine ⟨F2, putK kvs (.inr x) (.ref so1), m ++ [(x, so)], _, _, _, _, rfl, g.trans g2, mu8.put (by intro _ z; cases z), ?_, ?_, ?_, ?_⟩
      · rw [put, mL, List.map_append]
        exact (hk.mono (sm_of g2)).snoc (.lst (.inl hF2) (rpA_strs so))
      · rw [List.map_append, hm, take_snoc hx]
        rfl
      · intro q hq
        rcases List.mem_append.mp hq with hq | hq
        · exact hn q hq
        · rw [List.mem_singleton.mp hq]
          exact spec
      · intro q hq
        rcases List.mem_append.mp hq with hq | hq
        · exact hl q hq
        · rw [List.mem_singleton.mp hq]
          exact soLen so w5 w2
  · rintro σ H2 H3 ⟨Fi, kvs, m, nm, rs, so, ow, rfl, g, mu2, hk, hm, hn, hl⟩ s3 sm3 np
    have e : (tabD b).length = (names b).length := by rw [tabD, List.length_map, List.length_map]
    rw [e, List.take_length] at hm
    have hp3 : H3 p = some (.dK kvs) := by rw [np p hp]; exact mu2.one
    refine b_one (s_ret (R := DNeeds b) (ev_name 1 (R := DNeeds b) rfl ⟨m, ⟨p, kvs, rfl, .inl hp3, hk.mono ((sm_of mu2.sam).trans sm3)⟩, hm, hn, hl⟩) fun z H4 s4 r4 => q z H4 (s3.trans s4) r4)
end
end My
/-! E2 -/
/-! tuples that are plain through and through; t.index; min with a default -/
namespace My
open PySem L2 PySem.W
def PTx (xs : List Str) : Rel := fun v H => ∃ a o, v = .ref a ∧ H a = some (.frz o (.tup (xs.map V.str))) ∧ o.dict = none
instance {xs : List Str} : Mono (PTx xs) := ⟨fun e ⟨a, o, h1, h2, h3⟩ => ⟨a, o, h1, e.fz _ _ _ h2, h3⟩⟩
section
variable {X : Cx} {σ : L2.St} {H : Hp} {a e o : Expr} {p pos apos kpos : Pos}
theorem cr_tupPl : CallR X (.type "tuple") (fun vs H Q => ∃ p ys, vs = [.ref p] ∧ SqL X.K H p ys ∧ ∀ l o, H l = none → o.dict = none → Q (.ref l) (upd H l (.frz o (.tup ys)))) := by
  intro pins s σ H xs us Q I r h
  obtain ⟨p, ys, rfl, hq, q⟩ := h
  rw [Vals.ref1 r]
  obtain ⟨its, r', pl, hz⟩ := I.list hq
  have hlen := r'.length
  refine call_tuple_list pl.isList (fun h' kp => ?_) (by simp only [List.size_toArray]; omega)
  have I1 : Inv X pins σ H { s with heap := h' } := I.kept (t' := s.toks) kp
  have at1 : (h'.push { cls := .type "tuple", data := .seq its.toArray }).get? h'.objs.size = some { cls := .type "tuple", data := .seq its.toArray } := Heap.get?_push_size _ rfl
  have I2 : Inv X pins σ (upd H h'.objs.size (.frz { cls := .type "tuple", data := .seq its.toArray } (.tup ys))) { s with heap := h'.push { cls := .type "tuple", data := .seq its.toArray } } :=
    I1.laid (t' := s.toks) (fun b o e => Heap.get?_push_of_some _ e) (Nat.le_refl _) ⟨at1, hz, its, r', PyProof.Rows.IsTup.new _ _⟩
  exact ⟨.ref h'.objs.size, _, I2, rfl, q _ _ (I1.hok.fresh (Nat.le_refl _)) rfl⟩
theorem ev_tuplePl {xs : List Str} (hm : X.mg "tuple" = none) (h : Ev X a σ H (Is (.list (xs.map .str)))) (hg : Gl X "tuple" := by rfl) (he : starEach [a] X.env = (false, eval a X.env) :: starEach [] X.env := by rfl) (hpl : (backTo pos (starEach [] X.env)).any (·.1) = false := by rfl) :
    Ev X (.Call (.Name "tuple" p) [a] [] pos) σ H (PTx xs) := fun H1 m Q z =>
  we (pe_callTy cr_tupPl hg hm b_tuple (pa_w [a]) (by decide) (by decide) he hpl) (wa_one (h H1 m _ fun v H2 s2 r2 => by
    cases r2 with
    | @lst q ys _ ha hx =>
      have := hx.strs
      subst this
      exact ⟨q, _, rfl, .inl ha, fun l o hl ho => z _ _ (s2.trans (same_new hl)) ⟨l, o, rfl, upd_same, ho⟩⟩) he)
/-- t.index(x) -/
theorem ev_index {ys : List Str} {z : Str} {j : Nat} (ho : Ev X o σ H (PTx ys)) (h : Ev X e σ H (Is (.str z))) (hy : ys[j]? = some z) (hno : ∀ m, m < j → ys[m]? ≠ some z) (hbase : attributeBase o "index" X.env (eval o X.env) = eval o X.env := by rfl)
    (hfew : ((backTo pos (starEach [e] X.env)).all (fun x => !x.1) && (backToKw pos (keywordEach [] X.env)).all (fun x => x.1.isSome) && decide ([e].length + ([] : List Keyword).length + (if ([] : List Keyword).isEmpty then 0 else 1) < 30)) = true := by rfl)
    (hline : (apos.endLine == pos.line) = true := by rfl) (hs : starEach [e] X.env = (false, eval e X.env) :: starEach [] X.env := by rfl) (hpl : (backTo pos (starEach [] X.env)).any (·.1) = false := by rfl) : Ev X (.Call (.Attribute o "index" apos) [e] [] pos) σ H (Is (.int (j : Nat))) := by
  intro H1 m Q k pins s I
  refine wpAny_Call_method_late hbase hfew hline rfl (thn (ho H1 m (fun v H2 => Same H1 H2 ∧ PTx ys v H2) (fun v H2 s2 r2 => ⟨s2, r2⟩) pins s I) fun u s1 ⟨x, H2, I2, rx, s2, a, ob, ex, ha, hd⟩ => ?_)
  subst ex
  obtain rfl : u = Value.ref a := rx
  have hok := I2.hok a _ ha
  have hob : s1.heap.get? a = some ob := hok.1
  have hcls : ob.cls = .type "tuple" := by
    obtain ⟨_, its, _, o', ho', hc', _⟩ := hok.2
    rw [hob] at ho'
    cases ho'
    exact hc'
  refine ⟨"tuple", "tuple.index", PySem.F.plainAttrs_tuple, PySem.F.slot_tuple_index, PySem.F.type_tuple_index, ⟨ob, hob, hcls⟩, fun b eb => by cases eb; exact ⟨ob, hob, hd⟩, ?_⟩
  have hA := h H2 (m.trans (sm_of s2)) (fun v H3 => Same H2 H3 ∧ Is (.str z) v H3) (fun v H3 s3 r3 => ⟨s3, r3⟩) pins s1 I2
  rw [hs]
  refine Calls.callWith_builtin rfl (Calls.evalArgs_plain (Calls.spliced_cons (thn hA fun w s2' ⟨y, H3, I3, ry, s3, r3⟩ => Calls.spliced_nil ?_)))
  have e3 := is_str r3
  subst e3
  exact mt_tup_index pins s2' σ H3 (.ref a) [.str z] (.ref a) [w] Q I3 rfl (.cons ry .nil) ⟨a, ys, z, j, rfl, rfl, .inl (.inr ⟨ob, s3 _ _ ha⟩), hy, hno, k _ _ (s2.trans s3) (.int _)⟩
theorem ev_lenPl {ys : List Str} (hm : X.mg "len" = none) (h : Ev X a σ H (PTx ys)) (hg : Gl X "len" := by rfl) (he : starEach [a] X.env = (false, eval a X.env) :: starEach [] X.env := by rfl) (hpl : (backTo pos (starEach [] X.env)).any (·.1) = false := by rfl) :
    Ev X (.Call (.Name "len" p) [a] [] pos) σ H (Is (.int (ys.length : Int))) :=
  ev_callB call_len_seq b_len hm (ea_cons h ea_nil he) (fun vs H1 _ t Q z => by
    obtain ⟨v, rfl, q, ob, rfl, hq, _⟩ := one_of t
    exact ⟨q, ys.map V.str, rfl, .inr (.inl (.inr ⟨ob, hq⟩)), by rw [List.length_map]; exact z _ _ (Same.refl _) (.int _)⟩) hg (by decide) (by decide) he hpl
/-! ### min(list, default=..) of ints -/
def minI (d : Int) : List Int → Int
  | [] => d
  | x :: xs => minOf x xs
theorem ltI (y a : Int) : DatumOrd.lt y a = decide (y < a) := by
  first
    | rfl
    | simp [DatumOrd.lt]
theorem cr_minD (hc : X.calm = true) (rm : X.A.units + 65 < cLine) : CallRK X (.builtin "min") [Str.ofString "default"] (fun vs zs H Q => ∃ (v : V) (ns : List Int) (d : Int), vs = [v] ∧ Rp H v (.list (ns.map .int)) ∧ zs = [.int d] ∧ Q (.int (minI d ns)) H) := by
  intro pins s σ H xs zs us ws Q I r rz h
  obtain ⟨v, ns, d, rfl, hv, rfl, q⟩ := h
  cases hv with
  | @lst b ys _ hb hx =>
    rw [Vals.ref1 r]
    obtain ⟨u, rfl, t, rfl⟩ := vals1 rz
    obtain ⟨its, rv, pl, hz⟩ := I.list (a := b) (xs := ys) (.inl hb)
    obtain ⟨as, ra⟩ := Dp.readsAll I (ns.map .int) ys its (hx.dp _) rv
    refine min_list_datum_default (α := Int) (xs := ns) (I.ok.hd hc) pl.isList ⟨as, by rw [show its.toArray.toList = its from by simp]; exact ra⟩ (by show _ + 1 + 0 < _; omega) (fun e h' tk k => ?_) fun y ys' i w h' tk e hi hh k => ?_
    · subst e
      exact ⟨.int d, H, I.kept (t' := tk) k, ⟨t, rfl⟩, q⟩
    · subst e
      obtain ⟨bs, rb⟩ := hh
      have rb' : Reads h' w (.int (minOf y ys')) bs := rb
      cases rb' with
      | int _ t' => exact ⟨.int _, H, I.kept (t' := tk) k, ⟨t', rfl⟩, q⟩
theorem ev_minD {b : Expr} {ns : List Int} {d : Int} {k : Nat} {nm : Option Str} (hr : Room k X.A) (hc : X.calm = true) (hm : X.mg "min" = none) (h : Ev X a σ H (Is (.list (ns.map .int)))) (h2 : Ev X b σ H (Is (.int d))) (hg : Gl X "min" := by rfl)
    (he : backTo pos (starEach [a] X.env) = (false, eval a X.env) :: backTo pos (starEach [] X.env) := by rfl) (hpl : (backTo pos (starEach [a] X.env)).any (·.1) = false := by rfl)
    (hall : (backToKw pos (keywordEach [⟨nm, b, kpos⟩] X.env)).all (·.1.isSome) = true := by rfl) (hnone : (backToKw pos (keywordEach [⟨nm, b, kpos⟩] X.env)).any (·.1.isNone) = false := by rfl) (hks : (backToKw pos (keywordEach [⟨nm, b, kpos⟩] X.env)).filterMap (·.1) = [Str.ofString "default"] := by rfl)
    (hs : starEach [a] X.env = (false, eval a X.env) :: starEach [] X.env := by rfl) : Ev X (.Call (.Name "min" p) [a] [⟨nm, b, kpos⟩] pos) σ H (Is (.int (minI d ns))) := fun H1 m Q z =>
  we (pe_callBK (cr_minD hc (room_u65 hr)) hg hm b_min (pa_w [a]) (pk_cons (pe_w b) pk_nil) (by decide) (by decide) he hpl hall hnone hks) (wa_one (h H1 m _ fun v H2 s2 r2 => h2 H2 (m.trans (sm_of s2)) _ fun w H3 s3 r3 => ⟨v, ns, d, rfl, Rp.mono (sm_of s3) _ _ r2, by rw [is_int r3], z _ _ (s2.trans s3) (.int _)⟩) hs)
end
section
variable {P : Program} {w : World} {K : PySem.W.Frag} {mg : Str → Option Value} {base : Heap}
/-- tupled of a tuple of texts: a plain tuple -/
abbrev CTupX (P : Program) (w : World) (K : PySem.W.Frag) (mg : Str → Option Value) (base : Heap) : Prop := C8.Cal P w K mg base 2 "tupled" (PF (fun (xs : List Str) vs H => RpA H vs [.tuple (xs.map .str)]) PTx) []
theorem cal_tupledX (F : Df K mg "tupled" sTupled) (zt : mg "tuple" = none) (zl : mg "list" = none) (zi : mg "isinstance" = none) : CTupX P w K mg base := by
  refine cal_pf F sc_tupled (fun _ _ _ _ _ _ us hl => match us, hl with | [_], _ => rfl) (fun d vs H h => by obtain ⟨v, rfl, _⟩ := bl1 h; rfl) ?_
  intro f cdv Ar outer s H vs Q E xs hr h1 q
  obtain ⟨v, rfl, hv⟩ := bl1 h1
  refine b_one (s_ret (R := PTx xs) (ev_if (k := true) (et_val (ev_isiT zi (ev_name 0 (R := Is (.tuple (xs.map .str))) rfl hv) (ev_tyTup (ev_ty zl b_list) (ev_ty zt b_tuple)) (kt_seq hv))) (fun _ => ?_) fun z => nomatch z) q)
  refine ev_tuplePl zt (ev_lcA (i := 1) (l := xs) (enc := PyData.str) (g := PyData.str) (defScope sTupled) sc_tupled.nd (src_tup (ev_name 0 (R := Is (.tuple (xs.map .str))) rfl hv)) (fun x _ => by simp [tupD]) fun x hx v H1 m r j => ?_)
  exact ev_pf (B := Is) (PyData.str x) (cal_tupled F zt zl zi 0) hr (ea_is (ev_name 1 rfl r) ea_isNil) (fun vs H1 _ t => ⟨t, by simp [tupD], by simp [PyData.depth]⟩)
end
end My
/-! D8 -/
namespace My
open PySem L2
theorem plc_spec {o : List Str} {x : Str} (h : x ∈ o) : o[plc o x]? = some x ∧ ∀ m, m < plc o x → o[m]? ≠ some x := by
  have key : ∀ l : List Str, x ∈ l → l[l.findIdx fun y => decide (y = x)]? = some x ∧ ∀ m, m < (l.findIdx fun y => decide (y = x)) → l[m]? ≠ some x := by
    intro l
    induction l with
    | nil => intro h; cases h
    | cons y l ih =>
      intro h
      rw [List.findIdx_cons]
      by_cases e : y = x
      · subst e
        simp
      · rw [decide_eq_false e]
        have hx : x ∈ l := by
          rcases List.mem_cons.mp h with z | z
          · exact absurd z.symm e
          · exact z
        obtain ⟨h1, h2⟩ := ih hx
        refine ⟨by simpa using h1, fun m hm => ?_⟩
        cases m with
        | zero => simpa using e
        | succ m => simpa using h2 m (by simpa using hm)
  exact key o h
theorem plc_lt {o : List Str} {x : Str} (h : x ∈ o) : plc o x < o.length := (List.getElem?_eq_some_iff.mp (plc_spec h).1).1
theorem minI_nat (n : Nat) : ∀ ps : List Nat, minI (n : Int) (ps.map fun p => ((p : Nat) : Int)) = ((minPl n ps : Nat) : Int)
  | [] => rfl
  | p :: ps => by
    show (ps.map fun p => ((p : Nat) : Int)).foldl (fun a y => if PySem.W.DatumOrd.lt y a = true then y else a) (p : Int) = ((ps.foldl min p : Nat) : Int)
    induction ps generalizing p with
    | nil => rfl
    | cons q ps ih =>
      rw [List.map_cons, List.foldl_cons, List.foldl_cons, ltI]
      have e : (if decide ((q : Int) < (p : Int)) = true then (q : Int) else (p : Int)) = ((min p q : Nat) : Int) := by
        by_cases h : (q : Int) < (p : Int)
        · rw [decide_eq_true h, if_pos rfl]
          omega
        · rw [decide_eq_false h, if_neg Bool.false_ne_true]
          omega
      rw [e]
      exact ih (min p q)
theorem readers_sub {b : Blk} {x y : Str} (h : y ∈ readers b x) : y ∈ names b := by
  obtain ⟨r, hr, e⟩ := List.mem_map.mp h
  exact List.mem_map.mpr ⟨r, (List.mem_filter.mp hr).1, e⟩
theorem awaited_sub {b : Blk} {x : Str} (h : x ∈ awaited b) : x ∈ names b := slows_sub (List.mem_filter.mp h).1
theorem awaited_asc {b : Blk} (w : WF b) : Asc ltK (awaited b) := by
  refine List.Pairwise.filter _ ?_
  have : (slows b).Sublist (names b) := List.Sublist.map _ (List.filter_sublist)
  exact w.asc.sublist this
section
variable {P : Program} {w : World} {K : PySem.W.Frag} {mg : Str → Option Value} {base : Heap}
/-! ### reader_place, all_waits -/
abbrev sRPlace : Stmt := top 28
theorem sc_rplace : FnScope ["block", "order", "name", "own"] ["block", "order", "name"] (defScope sRPlace) := ⟨rfl, rfl, rfl, by decide +kernel, rfl, by decide +kernel, by decide +kernel⟩
abbrev ARPl : Blk × List Str × Str → RelA := fun p vs H => ∃ v u t, vs = [v, u, t] ∧ Rp H v (eB p.1) ∧ PTx p.2.1 u H ∧ Rp H t (.str p.2.2) ∧ WF p.1 ∧ IsOrd p.1 p.2.1 ∧ p.2.2 ∈ names p.1
abbrev CRPl (P : Program) (w : World) (K : PySem.W.Frag) (mg : Str → Option Value) (base : Heap) : Prop := C8.Cal P w K mg base 9 "reader_place" (PF ARPl fun p => Is (.int (rplace p.1 p.2.1 p.2.2 : Nat))) []
theorem cal_rplace (F : Df K mg "reader_place" sRPlace) (B : Blt mg) (c : CReaders P w K mg base) : CRPl P w K mg base := by
  refine cal_pf (A := ARPl) F sc_rplace (fun _ _ _ _ _ _ us hl => match us, hl with | [_, _, _], _ => rfl) (fun d vs H ⟨v, u, t, e, _⟩ => by rw [e]; rfl) ?_
  intro f cdv Ar outer s H vs Q E ⟨b, o, x⟩ hr ⟨v, u, t, e, hv, hu, ht, wf, ho, hx⟩ q
  subst e
  refine b_one (s_ret (R := Is (.int (rplace b o x : Nat))) (Ev.is (ev_minD (ns := (readers b x).map fun y => ((plc o y : Nat) : Int)) (d := (o.length : Nat)) hr rfl B.min (Ev.is (ev_lcA (i := 3) (l := readers b x) (enc := PyData.str) (g := fun y => .int (plc o y : Nat)) (defScope sRPlace) sc_rplace.nd (src_tup (ev_readers c hr (ev_name 0 (R := Is (eB b)) rfl hv) (ev_name 2 (R := Is (.str x)) rfl ht) hx)) (fun r _ => by simp [tupD]) fun y hy z H1 m rz j => ?_) (by rw [List.map_map]; rfl)) (ev_lenPl B.len (ev_name 1 (R := PTx o) rfl hu))) ?_) q)
  · have hm : y ∈ o := ho.mem.mpr (readers_sub hy)
    exact ev_index (ev_name 1 (R := PTx o) rfl (Mono.up m hu)) (ev_name 3 rfl rz) (plc_spec hm).1 (plc_spec hm).2
  · have z := minI_nat o.length ((readers b x).map (plc o))
    rw [List.map_map] at z
    exact congrArg PyData.int z
theorem ev_rplace {X : Cx} {σ : L2.St} {H : Hp} {e e2 e3 : Expr} {p pos : Pos} {j : Nat} {b : Blk} {o : List Str} {x : Str} (c : CRPl X.prog X.w X.K X.mg X.base) (hr : Room j X.A) (wf : WF b) (ho : IsOrd b o) (hx : x ∈ names b) (h : Ev X e σ H (Is (eB b))) (h2 : Ev X e2 σ H (PTx o)) (h3 : Ev X e3 σ H (Is (.str x))) (hk : 9 ≤ j := by decide) (hg : Gl X "reader_place" := by rfl)
    (he : starEach [e, e2, e3] X.env = (false, eval e X.env) :: starEach [e2, e3] X.env := by rfl) (he2 : starEach [e2, e3] X.env = (false, eval e2 X.env) :: starEach [e3] X.env := by rfl) (he3 : starEach [e3] X.env = (false, eval e3 X.env) :: starEach [] X.env := by rfl) (hpl : (backTo pos (starEach [e2, e3] X.env)).any (·.1) = false := by rfl) :
    Ev X (.Call (.Name "reader_place" p) [e, e2, e3] [] pos) σ H (Is (.int (rplace b o x : Nat))) :=
  ev_pf (b, o, x) c hr (ea_cons h (ea_cons h2 (ea_cons h3 ea_nil he3) he2) he) (fun vs H1 _ t => by
    obtain ⟨v, r, e1, r1, t⟩ := t
    obtain ⟨u, w, rfl, r2, r3⟩ := two_of t
    exact ⟨v, u, w, e1, r1, r2, r3, wf, ho, hx⟩) hk hg (by decide) he hpl
abbrev sAllW : Stmt := top 29
theorem sc_allW : FnScope ["block", "order", "own", "name"] ["block", "order"] (defScope sAllW) := ⟨rfl, rfl, rfl, by decide +kernel, rfl, by decide +kernel, by decide +kernel⟩
def waits (b : Blk) (o : List Str) : List (Str × PyData) := (awaited b).map fun x => (x, .tuple [.int (plc o x : Nat), .int (rplace b o x : Nat)])
abbrev CAllW (P : Program) (w : World) (K : PySem.W.Frag) (mg : Str → Option Value) (base : Heap) : Prop := C8.Cal P w K mg base 10 "all_waits" (PF AOrd fun p => DK (waits p.1 p.2)) []
theorem cal_allW (F : Df K mg "all_waits" sAllW) (c1 : CCheckO P w K mg base) (c2 : CTupX P w K mg base) (c3 : CAwaited P w K mg base) (c4 : CRPl P w K mg base) : CAllW P w K mg base := by
  refine cal_pf (A := AOrd) F sc_allW (fun _ _ _ _ _ _ us hl => match us, hl with | [_, _], _ => rfl) (fun d vs H h => by obtain ⟨v, w, rfl, _⟩ := bl2 h.1; rfl) ?_
  intro f cdv Ar outer s H vs Q E ⟨b, o⟩ hr ⟨h1, wf, ho⟩ q
  obtain ⟨v, u, rfl, hv, hu⟩ := bl2 h1
  refine b_cons (s_expr ((ev_pf (b, o) c1 hr (ea_is (ev_name 0 (R := Is (eB b)) rfl hv) (ea_is (ev_name 1 (R := Is (eN o)) rfl hu) ea_isNil)) fun vs H1 _ t => ⟨t, wf, ho⟩).go fun _ H1 s1 _ => ?_))
  have hv1 : Rp H1 v (eB b) := Rp.mono (sm_of s1) _ _ hv
  have hu1 : Rp H1 u (eN o) := Rp.mono (sm_of s1) _ _ hu
  refine b_cons (s_set 2 sc_allW.nd (ev_pf o c2 hr (ea_is (ev_name 1 (R := Is (eN o)) rfl hu1) ea_isNil) fun vs H1 _ t => t) fun ow H2 s2 r2 => ?_)
  have r2' : PTx o ow H2 := r2
  have hv2 : Rp H2 v (eB b) := Rp.mono (sm_of s2) _ _ hv1
  refine b_one (s_ret (R := DK (waits b o)) (ev_dc (l := awaited b) (enc := PyData.str) (ky := fun x => x) (g := fun x => .tuple [.int (plc o x : Nat), .int (rplace b o x : Nat)]) (own := [("name", 3)]) (defScope sAllW) sc_allW.nd (src_tup (ev_awaited c3 hr (ev_name 0 (R := Is (eB b)) rfl hv2))) (by rw [List.map_id']; exact asc_nodup ordK (awaited_asc wf)) (fun x _ => by simp [tupD, tupDs]) fun x hx z H3 m rz => ?_) fun z H3 s3 r3 => q z H3 ((s1.trans s2).trans s3) r3)
  have hn : x ∈ names b := awaited_sub hx
  have hm : x ∈ o := ho.mem.mpr hn
  refine ⟨[some v, some u, some ow, some z], rfl, fun j => eg_name 3 sc_allW.nd, fun j => ev_name 3 rfl rz, fun j => ev_tup (ea_is (ev_index (ev_name 2 (R := PTx o) rfl (Mono.up m r2')) (ev_name 3 rfl rz) (plc_spec hm).1 (plc_spec hm).2) (ea_is (ev_rplace c4 hr wf ho hn (ev_name 0 (R := Is (eB b)) rfl (Rp.mono m _ _ hv2)) (ev_name 2 (R := PTx o) rfl (Mono.up m r2')) (ev_name 3 rfl rz)) ea_isNil)) (by simp)⟩
end
end My
/-! D9 -/
namespace My
open PySem L2
theorem flat_congr {α β : Type} {f g : α → List β} : ∀ {l : List α}, (∀ x ∈ l, f x = g x) → l.flatMap f = l.flatMap g
  | [], _ => rfl
  | x :: l, h => by rw [List.flatMap_cons, List.flatMap_cons, h x List.mem_cons_self, flat_congr fun y hy => h y (List.mem_cons_of_mem _ hy)]
theorem twos_zip {α : Type} : ∀ (l : List α) (k : Nat), (l.zipIdx k).flatMap (fun p => (l.drop (p.2 + 1 - k)).map fun y => (p.1, y)) = twos l
  | [], _ => rfl
  | x :: l, k => by
    rw [List.zipIdx_cons, List.flatMap_cons, twos]
    have e : k + 1 - k = 1 := by omega
    rw [e]
    refine congrArg (l.map (fun y => (x, y)) ++ ·) ?_
    rw [← twos_zip l (k + 1)]
    refine flat_congr fun p hp => ?_
    have := List.mem_zipIdx hp
    have e2 : p.2 + 1 - k = (p.2 + 1 - (k + 1)) + 1 := by omega
    rw [e2, List.drop_succ_cons]
theorem twos_len {α : Type} : ∀ l : List α, (twos l).length ≤ l.length * l.length
  | [] => Nat.le_refl _
  | x :: l => by
    have := twos_len l
    rw [twos, List.length_append, List.length_map, List.length_cons, Nat.succ_mul, Nat.mul_succ]
    omega
theorem twos_mem {α : Type} : ∀ {l : List α} {p : α × α}, p ∈ twos l → p.1 ∈ l ∧ p.2 ∈ l
  | x :: l, p, h => by
    rw [twos] at h
    rcases List.mem_append.mp h with h | h
    · obtain ⟨y, hy, rfl⟩ := List.mem_map.mp h
      exact ⟨List.mem_cons_self, List.mem_cons_of_mem _ hy⟩
    · have := twos_mem h
      exact ⟨List.mem_cons_of_mem _ this.1, List.mem_cons_of_mem _ this.2⟩
theorem look_map {β : Type} {f : Str → β} : ∀ {l : List Str} {x : Str}, x ∈ l → look (l.map fun y => (y, f y)) x = some (f x)
  | y :: l, x, h => by
    rw [List.map_cons, look]
    by_cases e : y = x
    · rw [if_pos e, e]
    · rw [if_neg e]
      rcases List.mem_cons.mp h with z | z
      · exact absurd z.symm e
      · exact look_map z
theorem awaited_len {b : Blk} (w : WF b) : (awaited b).length ≤ 6 := by
  refine Nat.le_trans (List.length_filter_le _ _) ?_
  rw [slows, List.length_map]
  exact Nat.le_trans (List.length_filter_le _ _) w.few
section
variable {P : Program} {w : World} {K : PySem.W.Frag} {mg : Str → Option Value} {base : Heap}
/-! ### are_meeting, meeting -/
abbrev sAreM : Stmt := top 30
theorem sc_areM : FnScope ["one", "other"] ["one", "other"] (defScope sAreM) := ⟨rfl, rfl, rfl, by decide +kernel, rfl, by decide +kernel, by decide +kernel⟩
abbrev dW (p : Nat × Nat) : PyData := .tuple [.int (p.1 : Nat), .int (p.2 : Nat)]
def wMeet (p q : Nat × Nat) : Bool := decide (p.1 < q.2) && decide (q.1 < p.2)
abbrev CAreM (P : Program) (w : World) (K : PySem.W.Frag) (mg : Str → Option Value) (base : Heap) : Prop := C8.Cal P w K mg base 1 "are_meeting" (PF (fun (p : (Nat × Nat) × (Nat × Nat)) vs H => RpA H vs [dW p.1, dW p.2]) fun p => Is (.bool (wMeet p.1 p.2))) []
theorem cal_areM (F : Df K mg "are_meeting" sAreM) : CAreM P w K mg base := by
  refine cal_pf F sc_areM (fun _ _ _ _ _ _ us hl => match us, hl with | [_, _], _ => rfl) (fun d vs H h => by obtain ⟨v, w, rfl, _⟩ := bl2 h; rfl) ?_
  intro f cdv Ar outer s H vs Q E ⟨p, r⟩ hr h1 q
  obtain ⟨v, u, rfl, hv, hu⟩ := bl2 h1
  refine b_one (s_ret (R := Is (.bool (wMeet p r))) (Ev.is (ev_and (ev_lt (ev_ixT (i := 0) (d := .int (p.1 : Nat)) (ev_name 0 (R := Is (dW p)) rfl hv) ev_int rfl) (ev_ixT (i := 1) (d := .int (r.2 : Nat)) (ev_name 1 (R := Is (dW r)) rfl hu) ev_int rfl)) fun _ => ev_one (ev_lt (ev_ixT (i := 0) (d := .int (r.1 : Nat)) (ev_name 1 (R := Is (dW r)) rfl hu) ev_int rfl) (ev_ixT (i := 1) (d := .int (p.2 : Nat)) (ev_name 0 (R := Is (dW p)) rfl hv) ev_int rfl))) ?_) q)
  unfold wMeet
  have e : ∀ i j : Nat, decide ((i : Int) < (j : Int)) = decide (i < j) := fun i j => by simp
  rw [e, e]
theorem ev_areM {X : Cx} {σ : L2.St} {H : Hp} {e e2 : Expr} {pp pos : Pos} {j : Nat} {p r : Nat × Nat} (c : CAreM X.prog X.w X.K X.mg X.base) (hr : Room j X.A) (h : Ev X e σ H (Is (dW p))) (h2 : Ev X e2 σ H (Is (dW r))) (hk : 1 ≤ j := by decide) (hg : Gl X "are_meeting" := by rfl)
    (he : starEach [e, e2] X.env = (false, eval e X.env) :: starEach [e2] X.env := by rfl) (he2 : starEach [e2] X.env = (false, eval e2 X.env) :: starEach [] X.env := by rfl) (hpl : (backTo pos (starEach [e2] X.env)).any (·.1) = false := by rfl) : Ev X (.Call (.Name "are_meeting" pp) [e, e2] [] pos) σ H (Is (.bool (wMeet p r))) :=
  ev_pf (p, r) c hr (ea_is h (ea_is h2 ea_isNil he2) he) (fun vs H1 _ t => t) hk hg (by decide) he hpl
abbrev sMeeting : Stmt := top 31
theorem sc_meeting : FnScope ["block", "order", "known", "names", "pairs", "other", "place", "one", "pair"] ["block", "order"] (defScope sMeeting) := ⟨rfl, rfl, rfl, by decide +kernel, rfl, by decide +kernel, by decide +kernel⟩
abbrev CMeeting (P : Program) (w : World) (K : PySem.W.Frag) (mg : Str → Option Value) (base : Heap) : Prop := C8.Cal P w K mg base 11 "meeting" (PF AOrd fun p => Is (eM (meeting p.1 p.2))) []
theorem waits_keys (b : Blk) (o : List Str) : (waits b o).map (·.1) = awaited b := by rw [waits, List.map_map]; exact List.map_id' _
theorem look_waits {b : Blk} {o : List Str} {x : Str} (h : x ∈ awaited b) : look (waits b o) x = some (dW (plc o x, rplace b o x)) := look_map (f := fun x => dW (plc o x, rplace b o x)) h
theorem evN_dropL {X : Cx} {σ : L2.St} {H : Hp} {e e2 : Expr} {p2 pos : Pos} {xs : List Str} {n : Nat} (h : Ev X e σ H (Is (.list (xs.map .str)))) (h2 : Ev X e2 σ H (Is (.int (n : Nat)))) : EvN X (.Subscript e (.Slice (some e2) none none p2) pos) σ H ((xs.drop n).map .str) := by
  have sl := evN_slice (p2 := p2) (pos := pos) h (eo_some h2) eo_none
  rw [cutD_map, cutD_drop] at sl
  exact sl
theorem cal_meeting (F : Df K mg "meeting" sMeeting) (B : Blt mg) (c1 : CAllW P w K mg base) (c2 : CAreM P w K mg base) : CMeeting P w K mg base := by
  refine cal_pf (A := AOrd) F sc_meeting (fun _ _ _ _ _ _ us hl => match us, hl with | [_, _], _ => rfl) (fun d vs H h => by obtain ⟨v, w, rfl, _⟩ := bl2 h.1; rfl) ?_
  intro f cdv Ar outer s H vs Q E ⟨b, o⟩ hr ⟨h1, wf, ho⟩ q
  have wf : WF b := wf
  have ho : IsOrd b o := ho
  obtain ⟨v, u, rfl, hv, hu⟩ := bl2 h1
  refine b_cons (s_set 2 sc_meeting.nd (ev_pf (b, o) c1 hr (ea_is (ev_name 0 (R := Is (eB b)) rfl hv) (ea_is (ev_name 1 (R := Is (eN o)) rfl hu) ea_isNil)) fun vs H1 _ t => ⟨t, wf, ho⟩) fun kn H1 s1 rk => ?_)
  have rk1 : DK (waits b o) kn H1 := rk
  refine b_cons (s_set 3 sc_meeting.nd (ev_sortedK hr rfl B.sorted (ev_name 2 (R := DK (waits b o)) rfl rk1)) fun nm H2 s2 rn => ?_)
  have rn2 : Rp H2 nm (.list ((awaited b).map .str)) := by
    have z : Rp H2 nm (.list ((sortL ltK ((waits b o).map (·.1))).map .str)) := rn
    rw [waits_keys, sortL_self ordK (awaited_asc wf)] at z
    exact z
  have rk2 : DK (waits b o) kn H2 := Mono.up (sm_of s2) rk1
  have len : ((awaited b).zipIdx.flatMap fun p => ((awaited b).drop (p.2 + 1)).map fun y => eP (p.1, y)).length < sizeLine := by
    have z := flat_len (f := fun p : Str × Nat => ((awaited b).drop (p.2 + 1)).map fun y => eP (p.1, y)) (n := 6) (fun p => by rw [List.length_map, List.length_drop]; have := awaited_len wf; omega) (awaited b).zipIdx
    rw [List.length_zipIdx] at z
    have := awaited_len wf
    rw [sizeLine_eq]
    omega
  refine b_cons (s_setLc2 (own := [("place", 6), ("one", 7), ("other", 5)]) (l := (awaited b).zipIdx) (enc := fun p => .tuple [.int (p.2 : Nat), .str p.1]) (l1 := fun p => (awaited b).drop (p.2 + 1)) (enc1 := fun _ y => PyData.str y) (g := fun p y => eP (p.1, y)) 4 5 (defScope sMeeting) sc_meeting.nd (by rw [← num_zip]; exact src_enum (ev_name 3 (R := Is (.list ((awaited b).map .str))) rfl rn2) B.enum) len (fun p _ => by simp [tupD, tupDs]) (fun p _ y _ => by simp [tupD, tupDs]) (fun p hp y H3 m3 ry => ?_) (fun pr H3 s3 rp => ?_) (hsw := by rfl))
  · obtain ⟨a, v1, v2, rfl, ha, e1, e2⟩ := tup2 ry
    refine ⟨_, ?_, fun j H4 m4 => eg_tup (egs_cons (eg_name 6 sc_meeting.nd) (egs_cons (eg_name 7 sc_meeting.nd) egs_nil)) (m4.tp _ _ ha), fun j => srcN_new (evN_dropL (ev_name 3 (R := Is (.list ((awaited b).map .str))) rfl (Rp.mono m3 _ _ rn2)) (Ev.is (ev_add (ev_name 6 rfl e1) ev_int) ?_)) (tup_map (fun a => by simp [tupD]) _), fun z hz t H4 m4 rt => ⟨fun j => eg_name 5 sc_meeting.nd, fun j => ev_tup (ea_is (ev_name 7 rfl (Rp.mono m4 _ _ e2)) (ea_is (ev_name 5 rfl rt) ea_isNil)) (by simp)⟩⟩
    · rfl
    · simp
  have rp3 : Rp H3 pr (.list ((twos (awaited b)).map eP)) := by
    have z : Rp H3 pr (.list ((awaited b).zipIdx.flatMap fun p => ((awaited b).drop (p.2 + 1)).map fun y => eP (p.1, y))) := rp
    have e : ((awaited b).zipIdx.flatMap fun p => ((awaited b).drop (p.2 + 1)).map fun y => eP (p.1, y)) = (twos (awaited b)).map eP := by
      rw [← twos_zip (awaited b) 0, List.map_flatMap]
      refine flat_congr fun p _ => ?_
      rw [List.map_map]
      rfl
    rw [e] at z
    exact z
  have rk3 : DK (waits b o) kn H3 := Mono.up (sm_of s3) rk2
  refine b_one (s_ret (R := Is (eM (meeting b o))) (ev_tuple B.tuple (sq_l (Ev.is (ev_lcN (i := 8) (l := twos (awaited b)) (enc := eP) (f := fun p => meets b o p.1 p.2) (g := eP) (defScope sMeeting) sc_meeting.nd (src_list (ev_name 4 (R := Is (.list ((twos (awaited b)).map eP))) rfl rp3)) (fun p _ _ => by simp [tupD, tupDs]) fun p hp z H4 m4 rz => ⟨fun j => ?_, fun _ j => ev_name 8 rfl rz⟩) rfl))) fun z H4 s4 r4 => q z H4 ((s1.trans s2).trans (s3.trans s4)) r4)
  have rk4 : DK (waits b o) kn H4 := Mono.up m4 rk3
  have hp2 := twos_mem hp
  exact ets_one (et_val (ev_areM (p := (plc o p.1, rplace b o p.1)) (r := (plc o p.2, rplace b o p.2)) c2 hr (ev_dk hr (ev_name 2 (R := DK (waits b o)) rfl rk4) (ev_ixT (i := 0) (d := .str p.1) (ev_name 8 rfl rz) ev_int rfl) (look_waits hp2.1)) (ev_dk hr (ev_name 2 (R := DK (waits b o)) rfl rk4) (ev_ixT (i := 1) (d := .str p.2) (ev_name 8 rfl rz) ev_int rfl) (look_waits hp2.2))))
end
end My
/-! B7 -/
namespace My
open PySem L2
section
variable {X : Cx} {σ : L2.St} {H : Hp} {tg iter elt : Expr} {ifs : List Expr} {scope : Scope} {apos pos : Pos} {α : Type} {l : List α} {enc : α → PyData} {g : α → PyData} {d : Addr} {m : List (Str × PyData)} {o : Obj} {kvs : List (Key × V)} {ds : List PyData}
theorem evAt_lcA' {N : List Str} {i : Nat} {x : Str} {px : Pos} (sc : Scope) (nd : N.Nodup) (src : SrcAt X (.Name x px) iter σ H (l.map enc)) (ht : ∀ y ∈ l, tupD (g y) = true)
    (turn : ∀ y ∈ l, ∀ v H1, Same H H1 → Rp H1 v (enc y) → ∀ j, Ev (BX X scope j) elt (σ.set i (some v)) H1 (Is (g y)))
    (hN : X.N = N := by rfl) (hsc : X.env.scope = sc := by rfl) (ok : blkC N sc scope [(x, i)] = true := by decide +kernel) (hi : N[i]? = some x := by rfl)
    (hx : (relS scope sc).names.lookup x = some .local ∨ ((relS scope sc).names.lookup x = some .cell ∧ (scope.names.lookup x == some .cell) = true) := by first | exact .inl (by rfl) | exact .inr ⟨by rfl, by rfl⟩)
    (hc : X.calm = true := by rfl) (hs : ∀ x, foldedSetIterable iter X.env x = pure x := by intro _; rfl) : EvAt X (.ListComp elt [⟨.Name x px, iter, [], 0⟩] scope pos) σ H (Is (.list (l.map g))) := by
  have h := evAt_lcN (X := X) (pos := pos) (elt := elt) (ifs := []) (f := fun _ => true) (g := g) sc nd src (fun y hy _ => ht y hy) (fun y hy v H1 m r => ⟨fun j => ets_nil, fun _ => turn y hy v H1 m r⟩) hN hsc ok hi hx hc hs
  rw [List.filter_eq_self.mpr (fun _ _ => rfl)] at h
  exact h
theorem src_valsN (e : m.map (fun q => q.2) = ds) (h : EvAt X iter σ H (Eqv (.ref d))) (hd : H d = some (.frz o (.dK kvs))) (hk : KvA H kvs m) (hbase : attributeBase iter "values" X.env (eval iter X.env) = eval iter X.env := by rfl) (hline : (apos.endLine == pos.line) = true := by rfl) : SrcAt X tg (.Call (.Attribute iter "values" apos) [] [] pos) σ H ds := e ▸ src_vals h hd hk hbase hline
end
end My
/-! D13 -/
namespace My
open PySem L2
theorem needs_asc {b : Blk} {x : Str} : Asc ltK (needs b x) := setL_asc ordK
theorem neededBy_asc {b : Blk} (w : WF b) {x : Str} : Asc ltK (neededBy b x) := w.asc.filter _
theorem needs_set {b : Blk} {x : Str} {xs : List Str} (h : ∀ y, y ∈ xs ↔ y ∈ needs b x) : setL ltK xs = needs b x := (setL_of_asc ordK needs_asc fun y => (h y).symm).symm
/-- some list of what x needs -/
def LNeeds (b : Blk) (x : Str) : Rel := fun v H => ∃ xs : List Str, Rp H v (.list (xs.map .str)) ∧ (∀ y, y ∈ xs ↔ y ∈ needs b x) ∧ xs.length ≤ 6
instance {b : Blk} {x : Str} : Mono (LNeeds b x) := ⟨fun e ⟨xs, h1, h2⟩ => ⟨xs, Rp.mono e _ _ h1, h2⟩⟩
theorem look_mL {m : List (Str × List Str)} {x : Str} (h : x ∈ m.map (·.1)) : ∃ xs, (x, xs) ∈ m ∧ look (mL m) x = some (.list (xs.map .str)) := by
  induction m with
  | nil => cases h
  | cons p m ih =>
    obtain ⟨k, ys⟩ := p
    show ∃ xs, _ ∧ (if k = x then some (PyData.list (ys.map .str)) else look (mL m) x) = _
    by_cases e : k = x
    · subst e
      exact ⟨ys, List.mem_cons_self, if_pos rfl⟩
    · rw [List.map_cons] at h
      rcases List.mem_cons.mp h with z | z
      · exact absurd z.symm e
      · obtain ⟨xs, h1, h2⟩ := ih z
        exact ⟨xs, List.mem_cons_of_mem _ h1, by rw [if_neg e]; exact h2⟩
section
variable {P : Program} {w : World} {K : PySem.W.Frag} {mg : Str → Option Value} {base : Heap}
section
variable {X : Cx} {σ : L2.St} {H : Hp} {a e e2 : Expr} {p pos : Pos} {j : Nat} {b : Blk} {x : Str}
theorem ev_needsAt {k : Nat} (hr : Room k X.A) (hx : x ∈ names b) (ha : Ev X a σ H (DNeeds b)) (hb : Ev X e σ H (Is (.str x))) (hs : NoSl e := by intro _ _; rfl) : Ev X (.Subscript a e pos) σ H (LNeeds b x) :=
  fun H1 m Q k => we (pe_dget (hu_of hr) (pe_w a) (pe_w e) hs) (ha H1 m _ fun u H2 s2 r2 => hb H2 (m.trans (sm_of s2)) _ fun y H3 s3 r3 => by
    obtain ⟨mm, d, hm, hn, hl⟩ := Mono.up (R := DNeeds b) (sm_of s3) r2
    obtain ⟨xs, h1, h2⟩ := look_mL (m := mm) (x := x) (by rw [hm]; exact hx)
    obtain ⟨p, w, e, g, rw'⟩ := dget_k d h2
    rw [is_str r3]
    exact ⟨p, w, e, g, k _ _ (s2.trans s3) ⟨xs, rw', hn _ h1, hl _ h1⟩⟩)
abbrev CSetS (P : Program) (w : World) (K : PySem.W.Frag) (mg : Str → Option Value) (base : Heap) : Prop := C8.Cal P w K mg base 1 "set_of" (PF (fun (as : List Str) vs H => ∃ v, vs = [v] ∧ Sq (as.map Kd.enc) v H ∧ FewL as (Ks.bound Str)) fun as => Is (.tuple ((setL ltK as).map Kd.enc))) []
theorem ev_setNeeds (c : CSetS X.prog X.w X.K X.mg X.base) (hr : Room j X.A) (h : Ev X e σ H (LNeeds b x)) (hk : 1 ≤ j := by decide) (hg : Gl X "set_of" := by rfl) (he : starEach [e] X.env = (false, eval e X.env) :: starEach [] X.env := by rfl) (hpl : (backTo pos (starEach [] X.env)).any (·.1) = false := by rfl) :
    Ev X (.Call (.Name "set_of" p) [e] [] pos) σ H (Is (eN (needs b x))) :=
  ev_call c hr (ea_cons h ea_nil he) (fun vs H1 _ t Q z => by
    obtain ⟨v, rfl, xs, h1, h2, h3⟩ := one_of t
    exact ⟨xs, ⟨v, rfl, .inl h1, fewL_str xs (by omega)⟩, fun u H2 s2 r2 => z u H2 s2 (by have r3 : Is (eN (setL ltK xs)) u H2 := r2; rw [needs_set h2] at r3; exact r3)⟩) hk hg (by decide) he hpl
theorem ev_setS {xs : List Str} (c : CSetS X.prog X.w X.K X.mg X.base) (hr : Room j X.A) (h : Ev X e σ H (Sq (xs.map .str))) (hz : xs.length ≤ 4000) (hk : 1 ≤ j := by decide) (hg : Gl X "set_of" := by rfl) (he : starEach [e] X.env = (false, eval e X.env) :: starEach [] X.env := by rfl) (hpl : (backTo pos (starEach [] X.env)).any (·.1) = false := by rfl) :
    Ev X (.Call (.Name "set_of" p) [e] [] pos) σ H (Is (eN (setL ltK xs))) :=
  ev_call c hr (ea_cons h ea_nil he) (fun vs H1 _ t Q z => by
    obtain ⟨v, rfl, r1⟩ := one_of t
    exact ⟨xs, ⟨v, rfl, r1, fewL_str xs hz⟩, fun u H2 s2 r2 => z u H2 s2 r2⟩) hk hg (by decide) he hpl
theorem ev_needsBy (c : CNeedsBy X.prog X.w X.K X.mg X.base) (hr : Room j X.A) (wf : WF b) (h : Ev X e σ H (DK (tabD b))) (hk : 1 ≤ j := by decide) (hg : Gl X "needs_by" := by rfl) (he : starEach [e] X.env = (false, eval e X.env) :: starEach [] X.env := by rfl) (hpl : (backTo pos (starEach [] X.env)).any (·.1) = false := by rfl) :
    Ev X (.Call (.Name "needs_by" p) [e] [] pos) σ H (DNeeds b) :=
  ev_pf b c hr (ea_cons h ea_nil he) (fun vs H1 _ t => by
    obtain ⟨v, rfl, r1⟩ := one_of t
    exact ⟨v, rfl, r1, wf⟩) hk hg (by decide) he hpl
end
abbrev ANm : Blk × Str → RelA := fun p vs H => RpA H vs [eB p.1, .str p.2] ∧ WF p.1 ∧ p.2 ∈ names p.1
/-! ### needs_of, needed_by -/
abbrev sNeedsOf : Stmt := top 16
theorem sc_needsOf : FnScope ["block", "name"] ["block", "name"] (defScope sNeedsOf) := ⟨rfl, rfl, rfl, by decide +kernel, rfl, by decide +kernel, by decide +kernel⟩
abbrev CNeedsOf (P : Program) (w : World) (K : PySem.W.Frag) (mg : Str → Option Value) (base : Heap) : Prop := C8.Cal P w K mg base 8 "needs_of" (PF ANm fun p => Is (eN (needs p.1 p.2))) []
theorem cal_needsOf (F : Df K mg "needs_of" sNeedsOf) (c1 : CCheckN P w K mg base) (c2 : CTab P w K mg base) (c3 : CNeedsBy P w K mg base) (c4 : CSetS P w K mg base) : CNeedsOf P w K mg base := by
  refine cal_pf (A := ANm) F sc_needsOf (fun _ _ _ _ _ _ us hl => match us, hl with | [_, _], _ => rfl) (fun d vs H h => by obtain ⟨v, w, rfl, _⟩ := bl2 h.1; rfl) ?_
  intro f cdv Ar outer s H vs Q E ⟨b, x⟩ hr ⟨h1, wf, hx⟩ q
  obtain ⟨v, u, rfl, hv, hu⟩ := bl2 h1
  refine b_cons (s_checkN (b := b) (xs := [x]) c1 hr (ev_name 0 (R := Is (eB b)) rfl hv) (ea_is (ev_name 1 (R := Is (.str x)) rfl hu) ea_isNil) (by simp) (fun y hy => by rw [List.mem_singleton.mp hy]; exact hx) fun H1 s1 => ?_)
  exact b_one (s_ret (ev_setNeeds c4 hr (ev_needsAt hr hx (ev_needsBy c3 hr wf (ev_table c2 hr (ev_name 0 (R := Is (eB b)) rfl (Rp.mono (sm_of s1) _ _ hv)) wf)) (ev_name 1 (R := Is (.str x)) rfl (Rp.mono (sm_of s1) _ _ hu)))) fun z H2 s2 r2 => q z H2 (s1.trans s2) r2)
theorem ev_needsOf {X : Cx} {σ : L2.St} {H : Hp} {e e2 : Expr} {p pos : Pos} {j : Nat} {b : Blk} {x : Str} (c : CNeedsOf X.prog X.w X.K X.mg X.base) (hr : Room j X.A) (wf : WF b) (hx : x ∈ names b) (h : Ev X e σ H (Is (eB b))) (h2 : Ev X e2 σ H (Is (.str x))) (hk : 8 ≤ j := by decide) (hg : Gl X "needs_of" := by rfl)
    (he : starEach [e, e2] X.env = (false, eval e X.env) :: starEach [e2] X.env := by rfl) (he2 : starEach [e2] X.env = (false, eval e2 X.env) :: starEach [] X.env := by rfl) (hpl : (backTo pos (starEach [e2] X.env)).any (·.1) = false := by rfl) : Ev X (.Call (.Name "needs_of" p) [e, e2] [] pos) σ H (Is (eN (needs b x))) :=
  ev_pf (b, x) c hr (ea_is h (ea_is h2 ea_isNil he2) he) (fun vs H1 _ t => ⟨t, wf, hx⟩) hk hg (by decide) he hpl
abbrev sNeededBy : Stmt := top 17
theorem sc_neededBy : FnScope ["block", "name", "found", "own"] ["block", "name"] (defScope sNeededBy) := ⟨rfl, rfl, rfl, by decide +kernel, rfl, by decide +kernel, by decide +kernel⟩
abbrev CNeededBy (P : Program) (w : World) (K : PySem.W.Frag) (mg : Str → Option Value) (base : Heap) : Prop := C8.Cal P w K mg base 8 "needed_by" (PF ANm fun p => Is (eN (neededBy p.1 p.2))) []
theorem cal_neededBy (F : Df K mg "needed_by" sNeededBy) (c1 : CCheckN P w K mg base) (c2 : CTab P w K mg base) (c3 : CNeedsBy P w K mg base) (c4 : CSetS P w K mg base) : CNeededBy P w K mg base := by
  refine cal_pf (A := ANm) F sc_neededBy (fun _ _ _ _ _ _ us hl => match us, hl with | [_, _], _ => rfl) (fun d vs H h => by obtain ⟨v, w, rfl, _⟩ := bl2 h.1; rfl) ?_
  intro f cdv Ar outer s H vs Q E ⟨b, x⟩ hr ⟨h1, wf, hx⟩ q
  have wf : WF b := wf
  obtain ⟨v, u, rfl, hv, hu⟩ := bl2 h1
  refine b_cons (s_checkN (b := b) (xs := [x]) c1 hr (ev_name 0 (R := Is (eB b)) rfl hv) (ea_is (ev_name 1 (R := Is (.str x)) rfl hu) ea_isNil) (by simp) (fun y hy => by rw [List.mem_singleton.mp hy]; exact hx) fun H1 s1 => ?_)
  refine b_cons (s_set 2 sc_neededBy.nd (ev_needsBy c3 hr wf (ev_table c2 hr (ev_name 0 (R := Is (eB b)) rfl (Rp.mono (sm_of s1) _ _ hv)) wf)) fun fd H2 s2 rf => ?_)
  obtain ⟨m, dk, hm, hn, hl⟩ := id rf
  obtain ⟨d, kvs0, e, _, _⟩ := id dk
  subst e
  have hu2 : Rp H2 u (.str x) := Rp.mono (sm_of (s1.trans s2)) _ _ hu
  refine b_one (s_ret (Ev.is (ev_setS (xs := neededBy b x) c4 hr (sq_l (Ev.is (evAt_lock dk fun Hl o kvs sm hf hk => evAt_lcN (i := 3) (l := names b) (enc := PyData.str) (f := fun y => decide (x ∈ needs b y)) (g := PyData.str) (defScope sNeededBy) sc_neededBy.nd (src_keysN (by rw [mL, List.map_map, ← hm, List.map_map]; rfl) (evAt_of (ev_name 2 (R := Eqv (.ref d)) rfl rfl)) hf hk) (fun r _ _ => by simp [tupD]) fun y hy z H3 s3 rz => ⟨fun j => ?_, fun _ j => ev_name 3 rfl rz⟩) rfl)) ?_) ?_) fun z H3 s3 r3 => q z H3 ((s1.trans s2).trans s3) r3)
  · have sm3 : Sm H2 H3 := sm.trans (sm_of s3)
    obtain ⟨xs, g1, g2⟩ := look_mL (m := m) (x := y) (by rw [hm]; exact hy)
    refine ets_one (EvT.is (et_inN hr (ev_name 1 (R := Is (.str x)) rfl (Rp.mono sm3 _ _ hu2)) (sq_l (ev_dk (m := mL m) hr (ev_name 2 (R := DK (mL m)) rfl (Mono.up sm3 dk)) (ev_name 3 rfl rz) g2))) ?_)
    by_cases h : x ∈ xs
    · rw [decide_eq_true h, decide_eq_true ((hn _ g1 x).mp h)]
    · rw [decide_eq_false h, decide_eq_false fun h' => h ((hn _ g1 x).mpr h')]
  · exact Nat.le_trans (List.length_filter_le _ _) (by rw [List.length_map]; have := wf.few; omega)
  · rw [setL_self ordK (neededBy_asc wf)]
theorem ev_neededBy {X : Cx} {σ : L2.St} {H : Hp} {e e2 : Expr} {p pos : Pos} {j : Nat} {b : Blk} {x : Str} (c : CNeededBy X.prog X.w X.K X.mg X.base) (hr : Room j X.A) (wf : WF b) (hx : x ∈ names b) (h : Ev X e σ H (Is (eB b))) (h2 : Ev X e2 σ H (Is (.str x))) (hk : 8 ≤ j := by decide) (hg : Gl X "needed_by" := by rfl)
    (he : starEach [e, e2] X.env = (false, eval e X.env) :: starEach [e2] X.env := by rfl) (he2 : starEach [e2] X.env = (false, eval e2 X.env) :: starEach [] X.env := by rfl) (hpl : (backTo pos (starEach [e2] X.env)).any (·.1) = false := by rfl) : Ev X (.Call (.Name "needed_by" p) [e, e2] [] pos) σ H (Is (eN (neededBy b x))) :=
  ev_pf (b, x) c hr (ea_is h (ea_is h2 ea_isNil he2) he) (fun vs H1 _ t => ⟨t, wf, hx⟩) hk hg (by decide) he hpl
/-! ### greatest_gap, are_awaited, can_meet -/
abbrev sGap : Stmt := top 33
theorem sc_gap : FnScope ["block", "name"] ["block", "name"] (defScope sGap) := ⟨rfl, rfl, rfl, by decide +kernel, rfl, by decide +kernel, by decide +kernel⟩
def gapI (b : Blk) (x : Str) : Int := (b.rows.length : Int) - 1 - (needs b x).length - (neededBy b x).length
def gapD (b : Blk) (x : Str) : PyData := if x ∈ awaited b then .int (gapI b x) else .none
abbrev CGap (P : Program) (w : World) (K : PySem.W.Frag) (mg : Str → Option Value) (base : Heap) : Prop := C8.Cal P w K mg base 10 "greatest_gap" (PF ANm fun p => Is (gapD p.1 p.2)) []
theorem cal_gap (F : Df K mg "greatest_gap" sGap) (B : Blt mg) (c1 : CCheckN P w K mg base) (c2 : CAwaited P w K mg base) (c3 : CNames P w K mg base) (c4 : CNeedsOf P w K mg base) (c5 : CNeededBy P w K mg base) : CGap P w K mg base := by
  refine cal_pf (A := ANm) F sc_gap (fun _ _ _ _ _ _ us hl => match us, hl with | [_, _], _ => rfl) (fun d vs H h => by obtain ⟨v, w, rfl, _⟩ := bl2 h.1; rfl) ?_
  intro f cdv Ar outer s H vs Q E ⟨b, x⟩ hr ⟨h1, wf, hx⟩ q
  have wf : WF b := wf
  have hx : x ∈ names b := hx
  have q : ∀ (v : V) (H' : Hp), Same H H' → Is (gapD b x) v H' → Q v H' := q
  obtain ⟨v, u, rfl, hv, hu⟩ := bl2 h1
  refine b_cons (s_checkN (b := b) (xs := [x]) c1 hr (ev_name 0 (R := Is (eB b)) rfl hv) (ea_is (ev_name 1 (R := Is (.str x)) rfl hu) ea_isNil) (by simp) (fun y hy => by rw [List.mem_singleton.mp hy]; exact hx) fun H1 s1 => ?_)
  have hv1 : Rp H1 v (eB b) := Rp.mono (sm_of s1) _ _ hv
  have hu1 : Rp H1 u (.str x) := Rp.mono (sm_of s1) _ _ hu
  refine b_cons (s_if (k := !decide (x ∈ awaited b)) (et_notInN hr (ev_name 1 (R := Is (.str x)) rfl hu1) (sq_t (ev_awaited c2 hr (ev_name 0 (R := Is (eB b)) rfl hv1)))) (fun hk H2 s2 => b_one (s_ret ev_non fun z H3 s3 r3 => q z H3 ((s1.trans s2).trans s3) ?_)) fun hk H2 s2 => b_nil (b_one (s_ret (R := Is (.int (gapI b x))) (Ev.is (ev_sub (ev_sub (ev_sub (ev_len B.len (sq_t (ev_namesIn c3 hr (ev_name 0 (R := Is (eB b)) rfl (Rp.mono (sm_of s2) _ _ hv1))))) ev_int) (ev_len B.len (sq_t (ev_needsOf c4 hr wf hx (ev_name 0 (R := Is (eB b)) rfl (Rp.mono (sm_of s2) _ _ hv1)) (ev_name 1 (R := Is (.str x)) rfl (Rp.mono (sm_of s2) _ _ hu1)))))) (ev_len B.len (sq_t (ev_neededBy c5 hr wf hx (ev_name 0 (R := Is (eB b)) rfl (Rp.mono (sm_of s2) _ _ hv1)) (ev_name 1 (R := Is (.str x)) rfl (Rp.mono (sm_of s2) _ _ hu1)))))) ?_) fun z H3 s3 r3 => q z H3 ((s1.trans s2).trans s3) ?_)))
  · have h : x ∉ awaited b := by simpa using hk
    unfold gapD
    rw [if_neg h]
    exact r3
  · unfold gapI
    rw [List.length_map, List.length_map, List.length_map, List.length_map]
  · have h : x ∈ awaited b := by simpa using hk
    unfold gapD
    rw [if_pos h]
    exact r3
abbrev sAreA : Stmt := top 35
theorem sc_areA : FnScope ["block", "one", "other", "awaited"] ["block", "one", "other"] (defScope sAreA) := ⟨rfl, rfl, rfl, by decide +kernel, rfl, by decide +kernel, by decide +kernel⟩
abbrev ANm2 : Blk × Str × Str → RelA := fun p vs H => RpA H vs [eB p.1, .str p.2.1, .str p.2.2] ∧ WF p.1 ∧ p.2.1 ∈ names p.1 ∧ p.2.2 ∈ names p.1
def areA (b : Blk) (x y : Str) : Bool := !decide (x = y) && (decide (x ∈ awaited b) && decide (y ∈ awaited b))
abbrev CAreA (P : Program) (w : World) (K : PySem.W.Frag) (mg : Str → Option Value) (base : Heap) : Prop := C8.Cal P w K mg base 10 "are_awaited" (PF ANm2 fun p => Is (.bool (areA p.1 p.2.1 p.2.2))) []
theorem eqv_str (x y : Str) : PyData.eqv (.str x) (.str y) = decide (x = y) := eqv_enc (α := Str) x y
theorem cal_areA (F : Df K mg "are_awaited" sAreA) (c1 : CCheckN P w K mg base) (c2 : CAwaited P w K mg base) : CAreA P w K mg base := by
  refine cal_pf (A := ANm2) F sc_areA (fun _ _ _ _ _ _ us hl => match us, hl with | [_, _, _], _ => rfl) (fun d vs H h => by obtain ⟨v, w, u, rfl, _⟩ := bl3 h.1; rfl) ?_
  intro f cdv Ar outer s H vs Q E ⟨b, x, y⟩ hr ⟨h1, wf, hx, hy⟩ q
  obtain ⟨v, u, t, rfl, hv, hu, ht⟩ := bl3 h1
  refine b_cons (s_checkN (b := b) (xs := [x, y]) c1 hr (ev_name 0 (R := Is (eB b)) rfl hv) (ea_is (ev_name 1 (R := Is (.str x)) rfl hu) (ea_is (ev_name 2 (R := Is (.str y)) rfl ht) ea_isNil)) (by simp) (fun z hz => ?_) fun H1 s1 => ?_)
  · rcases List.mem_cons.mp hz with e | hz
    · rw [e]; exact hx
    · rw [List.mem_singleton.mp hz]; exact hy
  refine b_cons (s_set 3 sc_areA.nd (ev_awaited c2 hr (ev_name 0 (R := Is (eB b)) rfl (Rp.mono (sm_of s1) _ _ hv))) fun aw H2 s2 ra => ?_)
  have ra2 : Rp H2 aw (eN (awaited b)) := ra
  have hu2 : Rp H2 u (.str x) := Rp.mono (sm_of (s1.trans s2)) _ _ hu
  have ht2 : Rp H2 t (.str y) := Rp.mono (sm_of (s1.trans s2)) _ _ ht
  exact b_one (s_ret (R := Is (.bool (areA b x y))) (ev_and (Ev.is (ev_ne (n := 0) hr (ev_name 1 (R := Is (.str x)) rfl hu2) (ev_name 2 (R := Is (.str y)) rfl ht2) shp_str shp_str) (by rw [eqv_str])) fun _ => ev_and (ev_inN hr (ev_name 1 (R := Is (.str x)) rfl hu2) (sq_t (ev_name 3 (R := Is (eN (awaited b))) rfl ra2))) fun _ => ev_one (ev_inN hr (ev_name 2 (R := Is (.str y)) rfl ht2) (sq_t (ev_name 3 (R := Is (eN (awaited b))) rfl ra2)))) fun z H3 s3 r3 => q z H3 ((s1.trans s2).trans s3) r3)
theorem ev_areA {X : Cx} {σ : L2.St} {H : Hp} {e e2 e3 : Expr} {p pos : Pos} {j : Nat} {b : Blk} {x y : Str} (c : CAreA X.prog X.w X.K X.mg X.base) (hr : Room j X.A) (wf : WF b) (hx : x ∈ names b) (hy : y ∈ names b) (h : Ev X e σ H (Is (eB b))) (h2 : Ev X e2 σ H (Is (.str x))) (h3 : Ev X e3 σ H (Is (.str y))) (hk : 10 ≤ j := by decide) (hg : Gl X "are_awaited" := by rfl)
    (he : starEach [e, e2, e3] X.env = (false, eval e X.env) :: starEach [e2, e3] X.env := by rfl) (he2 : starEach [e2, e3] X.env = (false, eval e2 X.env) :: starEach [e3] X.env := by rfl) (he3 : starEach [e3] X.env = (false, eval e3 X.env) :: starEach [] X.env := by rfl) (hpl : (backTo pos (starEach [e2, e3] X.env)).any (·.1) = false := by rfl) :
    Ev X (.Call (.Name "are_awaited" p) [e, e2, e3] [] pos) σ H (Is (.bool (areA b x y))) :=
  ev_pf (b, x, y) c hr (ea_is h (ea_is h2 (ea_is h3 ea_isNil he3) he2) he) (fun vs H1 _ t => ⟨t, wf, hx, hy⟩) hk hg (by decide) he hpl
abbrev sCanM : Stmt := top 36
theorem sc_canM : FnScope ["block", "one", "other"] ["block", "one", "other"] (defScope sCanM) := ⟨rfl, rfl, rfl, by decide +kernel, rfl, by decide +kernel, by decide +kernel⟩
def canM (b : Blk) (x y : Str) : Bool := areA b x y && (!decide (x ∈ needs b y) && !decide (y ∈ needs b x))
abbrev CCanM (P : Program) (w : World) (K : PySem.W.Frag) (mg : Str → Option Value) (base : Heap) : Prop := C8.Cal P w K mg base 11 "can_meet" (PF ANm2 fun p => Is (.bool (canM p.1 p.2.1 p.2.2))) []
theorem cal_canM (F : Df K mg "can_meet" sCanM) (c1 : CAreA P w K mg base) (c2 : CNeedsOf P w K mg base) : CCanM P w K mg base := by
  refine cal_pf (A := ANm2) F sc_canM (fun _ _ _ _ _ _ us hl => match us, hl with | [_, _, _], _ => rfl) (fun d vs H h => by obtain ⟨v, w, u, rfl, _⟩ := bl3 h.1; rfl) ?_
  intro f cdv Ar outer s H vs Q E ⟨b, x, y⟩ hr ⟨h1, wf, hx, hy⟩ q
  obtain ⟨v, u, t, rfl, hv, hu, ht⟩ := bl3 h1
  have eb : ∀ {H'}, Sm H H' → Rp H' v (eB b) := fun m => Rp.mono m _ _ hv
  exact b_one (s_ret (R := Is (.bool (canM b x y))) (ev_and (ev_areA c1 hr wf hx hy (ev_name 0 (R := Is (eB b)) rfl hv) (ev_name 1 (R := Is (.str x)) rfl hu) (ev_name 2 (R := Is (.str y)) rfl ht)) fun _ => ev_and (ev_notInN hr (ev_name 1 (R := Is (.str x)) rfl hu) (sq_t (ev_needsOf c2 hr wf hy (ev_name 0 (R := Is (eB b)) rfl hv) (ev_name 2 (R := Is (.str y)) rfl ht)))) fun _ => ev_one (ev_notInN hr (ev_name 2 (R := Is (.str y)) rfl ht) (sq_t (ev_needsOf c2 hr wf hx (ev_name 0 (R := Is (eB b)) rfl hv) (ev_name 1 (R := Is (.str x)) rfl hu))))) q)
end
end My
/-! C6 -/
namespace My
open PySem L2
section
variable {F H : Hp} {ms ns : List (Addr × HO)}
theorem Mu.perm (m : Mu F ms H) (p : ms.Perm ns) : Mu F ns H := ⟨m.sam, fun q hq => m.at_ q (p.mem_iff.mpr hq), (p.map (·.1)).nodup_iff.mp m.nd⟩
def setAt (r : Addr) (o : HO) (ms : List (Addr × HO)) : List (Addr × HO) := ms.map fun q => if q.1 = r then (r, o) else q
theorem setAt_keys (r : Addr) (o : HO) (ms : List (Addr × HO)) : (setAt r o ms).map (·.1) = ms.map (·.1) := by
  unfold setAt
  rw [List.map_map]
  refine List.map_congr_left fun q _ => ?_
  show (if q.1 = r then (r, o) else q).1 = q.1
  by_cases e : q.1 = r
  · rw [if_pos e]; exact e.symm
  · rw [if_neg e]
theorem Mu.set {r : Addr} {o : HO} (m : Mu F ms H) (hr : r ∈ ms.map (·.1)) (nt : ∀ xs, o ≠ .tup xs) : Mu F (setAt r o ms) (upd H r o) := by
  obtain ⟨q0, h0, e0⟩ := List.mem_map.mp hr
  have fr : F r = none := e0 ▸ (m.at_ q0 h0).1
  refine ⟨same_mut m.sam fr, fun q hq => ?_, by rw [setAt_keys]; exact m.nd⟩
  obtain ⟨q', hq', e⟩ := List.mem_map.mp hq
  by_cases c : q'.1 = r
  · rw [if_pos c] at e
    subst e
    exact ⟨fr, upd_same, nt⟩
  · rw [if_neg c] at e
    subst e
    have := m.at_ q' hq'
    exact ⟨this.1, by rw [upd_ne c]; exact this.2.1, this.2.2⟩
end
section
variable {X : Cx} {σ : L2.St} {H : Hp} {o i e : Expr} {pos : Pos} {d r : Addr} {kvs : List (Key × V)} {x : Str}
/-- i is the very text x, and nothing else happens -/
def AtS (X : Cx) (i : Expr) (σ : L2.St) (H : Hp) (x : Str) : Prop := ∀ Q : VK, Q (.str x) H → wE X i σ H Q
theorem atS_name (n : Nat) {y : Str} (hs : σ[n]? = some (some (.str x))) (hN : X.N[n]? = some y := by rfl)
    (hv : Vis X.env.scope y := by first | exact Or.inl rfl | exact Or.inr (Or.inl rfl) | exact Or.inr (Or.inr rfl)) (hd : (y == ("__debug__" : Str)) = false := by decide) (hcd : (y == ("__classdict__" : Str)) = false := by decide) : AtS X (.Name y pos) σ H x :=
  fun Q q => we (pe_var hN hv hd hcd) ⟨_, hs, q⟩
theorem at_dk {k : Nat} (hr : Room k X.A) (ho : At X o σ H d) (hi : AtS X i σ H x) (hd : H d = some (.dK kvs)) (hv : valV kvs (.inr x) = some (.ref r)) (hs : NoSl i := by intro _ _; rfl) : At X (.Subscript o i pos) σ H r :=
  fun Q q => we (pe_dget (hu_of hr) (pe_w o) (pe_w i) hs) (ho _ (hi _ ⟨d, .ref r, rfl, .inl ⟨kvs, .inr x, .inl hd, rfl, hv.symm⟩, q⟩))
end
/-! ### a dict whose values are new lists -/
section
variable {α : Type}
def kvOf (ky : α → Str) (l : List α) (rs : List Addr) : List (Key × V) := (l.zip rs).map fun q => (Sum.inr (ky q.1), V.ref q.2)
def lsOf (c : α → List Str) (l : List α) (rs : List Addr) : List (Addr × HO) := (l.zip rs).map fun q => (q.2, HO.lst ((c q.1).map V.str))
theorem zip_snoc {β : Type} {l : List α} {rs : List β} {x : α} {r : β} (h : l.length = rs.length) : (l ++ [x]).zip (rs ++ [r]) = l.zip rs ++ [(x, r)] := by
  rw [List.zip_append h]
  rfl
theorem kvOf_keys {ky : α → Str} {l : List α} {rs : List Addr} (h : rs.length = l.length) : (kvOf ky l rs).map (·.1) = (l.map ky).map Sum.inr := by
  unfold kvOf
  rw [List.map_map, List.map_map]
  have : l.zip rs = l.zip rs := rfl
  have e : ((l.zip rs).map (·.1)) = l := List.map_fst_zip (by omega)
  calc (l.zip rs).map ((·.1) ∘ fun q => ((Sum.inr (ky q.1) : Key), V.ref q.2)) = ((l.zip rs).map (·.1)).map (Sum.inr ∘ ky) := by rw [List.map_map]; rfl
    _ = _ := by rw [e]
theorem lsOf_keys {c : α → List Str} {l : List α} {rs : List Addr} (h : rs.length = l.length) : (lsOf c l rs).map (·.1) = rs := by
  unfold lsOf
  rw [List.map_map]
  exact List.map_snd_zip (by omega)
variable {X : Cx} {σ : L2.St} {H : Hp} {tg iter kx vx : Expr} {scope : Scope} {pos : Pos} {l : List α} {enc : α → PyData} {ky : α → Str} {gs : α → List Str}
structure DlTurn (X : Cx) (scope : Scope) (tg : Expr) (kx vx : Expr) (vs : List Nat) (σ : L2.St) (H : Hp) (v : V) (x : Str) (ds : List Str) : Prop where
  go : ∃ σ', wipe σ' vs = wipe σ vs ∧ (∀ j, EvG (BX X scope j) tg (wipe σ vs) H v σ') ∧ (∀ j, Ev (BX X scope j) kx σ' H (Is (.str x))) ∧ (∀ j, EvN (BX X scope j) vx σ' H (ds.map .str))
theorem e_dcL {own : List (Str × Nat)} {N : List Str} (sc : Scope) (nd : N.Nodup) (src : Src X tg iter σ H (l.map enc)) (hn : (l.map ky).Nodup)
    (turn : ∀ x ∈ l, ∀ v H1, Sm H H1 → Rp H1 v (enc x) → DlTurn X scope tg kx vx (own.map (·.2)) σ H1 v (ky x) (gs x)) {Q : VK}
    (k : ∀ D rs H2 H3, Same H H2 → rs.length = l.length → Mu H2 ((D, .dK (kvOf ky l rs)) :: lsOf gs l rs) H3 → Q (.ref D) H3) (hN : X.N = N := by rfl) (hsc : X.env.scope = sc := by rfl) (ok : blkC N sc scope own = true := by decide +kernel) (hc : X.calm = true := by rfl) (hs : ∀ x, foldedSetIterable iter X.env x = pure x := by intro _; rfl) :
    wE X (.DictComp kx vx [⟨tg, iter, [], 0⟩] scope pos) σ H Q := by
  refine we (pe_dc (tk := jE X scope kx) (tv := jE X scope vx) (tt := tYes) (g := jG X scope tg) hc (by rw [hN]; exact nd) (pi_w tg iter) (blkOk_by (by rw [hN, hsc]; exact ok)) (fun s H C cl fp => ⟨fun pins s' σ H v u Q I r h => h (s, _, C, cl, fp) pins s' u I r⟩) (fun s H C cl fp => pts_nil)
    (fun s H C cl fp => ⟨fun pins s' σ H Q I h => h (s, _, C, cl, fp) pins s' I⟩) (fun s H C cl fp => ⟨fun pins s' σ H Q I h => h (s, _, C, cl, fp) pins s' I⟩) hs) ?_
  refine src H (Sm.refl H) _ fun J H2 s2 W D hD => ?_
  have hl : (l.map enc).length = l.length := List.length_map ..
  let P : Nat → Hp → Prop := fun i H' => ∃ rs, rs.length = i ∧ Mu H2 ((D, .dK (kvOf ky (l.take i) rs)) :: lsOf gs (l.take i) rs) H'
  refine ⟨fun i mm H' => mm = l.length - i ∧ i ≤ l.length ∧ P i H', ⟨l.length, rfl, Nat.zero_le _, [], rfl, Mu.new (o := .dK []) (Mu.nil H2) hD (by intro _ z; cases z)⟩, ?_⟩
  rintro i mm H' ⟨rfl, hi, rs, lr, mu⟩
  by_cases hlt : i < l.length
  · refine .inr ⟨W.go i H' mu.sam (by rw [hl]; exact hlt), P (i + 1), fun H'' p => ⟨l.length - (i + 1), by omega, rfl, hlt, p⟩, fun v H3 y => ?_⟩
    obtain ⟨s3, d, hd, rd⟩ := W.yld i H' v H3 mu.sam y (by rw [hl]; exact hlt)
    obtain ⟨x, hx, ex⟩ : ∃ x, l[i]? = some x ∧ enc x = d := by
      rw [List.getElem?_map] at hd
      obtain ⟨x, hx, e⟩ := Option.map_eq_some_iff.mp hd
      exact ⟨x, hx, e⟩
    subst ex
    have hm : x ∈ l := List.mem_of_getElem? hx
    have mu3 := mu.eval s3
    obtain ⟨σ', hw, hg, hk, hv⟩ := (turn x hm v H3 (sm_of (s2.trans mu3.sam)) rd).go
    refine fun j => hg j _ ⟨hw, iteT (B := P (i + 1) H3) fun j => hk j H3 (Sm.refl _) _ fun u H4 s4 r4 => ?_⟩
    have mu4 := mu3.eval s4
    refine fun j => hv j H4 (sm_of s4) _ fun r ys H5 s5 rf5 h5 hx5 => ?_
    have ey := hx5.strs
    subst ey
    have mu5 := (mu4.add s5 rf5 h5 (by intro _ z; cases z)).swap
    have lt : (l.take i).length = rs.length := by rw [lr, List.length_take]; omega
    have fr : valV (kvOf ky (l.take i) rs) (.inr (ky x)) = none := by
      have key : ∀ kvs : List (Key × V), Sum.inr (ky x) ∉ kvs.map (·.1) → valV kvs (.inr (ky x)) = none := by
        intro kvs
        induction kvs with
        | nil => intro _; rfl
        | cons p kvs ih =>
          intro h
          rw [List.map_cons, List.mem_cons, not_or] at h
          rw [valV_neg (p := p) (fun e => h.1 e.symm)]
          exact ih h.2
      refine key _ ?_
      rw [kvOf_keys lt.symm]
      intro hmem
      obtain ⟨z, hz, ez⟩ := List.mem_map.mp hmem
      have ez' : z = ky x := Sum.inr.inj ez
      obtain ⟨w, hw', e2⟩ := List.mem_map.mp hz
      obtain ⟨n, hlt', en⟩ := List.mem_take_iff_getElem.mp hw'
      have h1 : (l.map ky)[n]? = some (ky x) := by
        rw [List.getElem?_map, List.getElem?_eq_getElem (by omega)]
        rw [en, ← ez', ← e2]
        rfl
      have h2 : (l.map ky)[i]? = some (ky x) := by rw [List.getElem?_map, hx]; rfl
      have := (List.getElem?_inj (by rw [List.length_map]; omega) hn).mp (h1.trans h2.symm)
      omega
    refine ⟨kvOf ky (l.take i) rs, .inr (ky x), is_str r4, mu5.one, ?_, ?_⟩
    · have := W.len
      rw [hl] at this
      have e : (kvOf ky (l.take i) rs).length ≤ i := by
        unfold kvOf
        rw [List.length_map, List.length_zip]
        omega
      omega
    · rw [putK_new _ fr]
      refine ⟨rs ++ [r], by rw [List.length_append, lr]; rfl, ?_⟩
      have e1 : kvOf ky (l.take (i + 1)) (rs ++ [r]) = kvOf ky (l.take i) rs ++ [(Sum.inr (ky x), .ref r)] := by
        unfold kvOf
        rw [take_snoc hx, zip_snoc lt, List.map_append]
        rfl
      have e2 : lsOf gs (l.take (i + 1)) (rs ++ [r]) = lsOf gs (l.take i) rs ++ [(r, .lst ((gs x).map V.str))] := by
        unfold lsOf
        rw [take_snoc hx, zip_snoc lt, List.map_append]
        rfl
      rw [e1, e2]
      exact (mu5.put (o' := .dK (kvOf ky (l.take i) rs ++ [(Sum.inr (ky x), .ref r)])) (by intro _ z; cases z)).perm (List.Perm.cons _ (List.perm_append_singleton _ _).symm)
  · have e : i = l.length := by omega
    subst e
    rw [List.take_length] at mu
    exact .inl ⟨by have := W.stop H' mu.sam; rwa [hl] at this, k D rs H2 H' s2 lr mu⟩
end
end My
/-! C7 -/
namespace My
open PySem L2
section
variable {X : Cx} {σ : L2.St} {H : Hp} {tg iter elt : Expr} {ifs : List Expr} {scope : Scope} {pos : Pos} {α : Type} {l : List α} {enc : α → PyData} {g : α → PyData}
theorem evAt_dc {kx vx : Expr} {ky : α → Str} {own : List (Str × Nat)} {N : List Str} (sc : Scope) (nd : N.Nodup) (src : SrcAt X tg iter σ H (l.map enc)) (hn : (l.map ky).Nodup) (ht : ∀ x ∈ l, tupD (g x) = true)
    (turn : ∀ x ∈ l, ∀ v H1, Same H H1 → Rp H1 v (enc x) → DcTurn X scope tg [] kx vx (own.map (·.2)) σ H1 v (ky x) (g x)) (hN : X.N = N := by rfl) (hsc : X.env.scope = sc := by rfl) (ok : blkC N sc scope own = true := by decide +kernel) (hc : X.calm = true := by rfl) (hs : ∀ x, foldedSetIterable iter X.env x = pure x := by intro _; rfl) :
    EvAt X (.DictComp kx vx [⟨tg, iter, [], 0⟩] scope pos) σ H (DK (l.map fun x => (ky x, g x))) := fun Q k => by
  refine we (pe_dc (tk := jE X scope kx) (tv := jE X scope vx) (tt := tYes) (g := jG X scope tg) hc (by rw [hN]; exact nd) (pi_w tg iter) (blkOk_by (by rw [hN, hsc]; exact ok)) (fun s H C cl fp => ⟨fun pins s' σ H v u Q I r h => h (s, _, C, cl, fp) pins s' u I r⟩) (fun s H C cl fp => pts_nil)
    (fun s H C cl fp => ⟨fun pins s' σ H Q I h => h (s, _, C, cl, fp) pins s' I⟩) (fun s H C cl fp => ⟨fun pins s' σ H Q I h => h (s, _, C, cl, fp) pins s' I⟩) hs) ?_
  refine src _ fun J H2 s2 W D hD => ?_
  have hl : (l.map enc).length = l.length := List.length_map ..
  let P : Nat → Hp → Prop := fun i H' => Same H2 H' ∧ ∃ kvs, H' D = some (.dK kvs) ∧ KvA H' kvs ((l.take i).map fun x => (ky x, g x)) ∧ kvs.length = i
  refine ⟨fun i mm H' => mm = l.length - i ∧ i ≤ l.length ∧ P i H', ⟨l.length, rfl, Nat.zero_le _, same_new hD, [], upd_same, .nil, rfl⟩, ?_⟩
  rintro i mm H' ⟨rfl, hi, s', kvs, hy, ry, ly⟩
  by_cases hlt : i < l.length
  · refine .inr ⟨W.go i H' s' (by rw [hl]; exact hlt), P (i + 1), fun H'' p => ⟨l.length - (i + 1), by omega, rfl, hlt, p⟩, fun v H3 y => ?_⟩
    obtain ⟨s3, d, hd, rd⟩ := W.yld i H' v H3 s' y (by rw [hl]; exact hlt)
    obtain ⟨x, hx, ex⟩ : ∃ x, l[i]? = some x ∧ enc x = d := by
      rw [List.getElem?_map] at hd
      cases q : l[i]? with
      | none => rw [q] at hd; cases hd
      | some x => rw [q] at hd; exact ⟨x, rfl, Option.some.inj hd⟩
    subst ex
    have hm : x ∈ l := List.mem_of_getElem? hx
    have m3 : Same H H3 := (s2.trans s').trans s3
    obtain ⟨σ', hw, hg, hk, hv⟩ := (turn x hm v H3 m3 rd).go
    have td : ∀ q ∈ (l.take i).map fun x => (ky x, g x), tupD q.2 = true := fun q hq => by
      obtain ⟨z, hz, e⟩ := List.mem_map.mp hq
      rw [← e]
      exact ht z (List.mem_of_mem_take hz)
    refine fun j => hg j _ ⟨hw, ?_⟩
    refine iteT (B := P (i + 1) H3) ?_
    refine fun j => hk j H3 (Sm.refl _) _ fun u H4 s4 r4 => ?_
    refine fun j => hv j H4 (sm_of s4) _ fun z H5 s5 r5 => ?_
    have hy5 : H5 D = some (.dK kvs) := s5 _ _ (s4 _ _ (s3 _ _ hy))
    have ry5 := ry.mono (sm_of ((s3.trans s4).trans s5))
    have fr : valV kvs (.inr (ky x)) = none := ry.fresh (by
      rw [List.map_map]
      intro q
      obtain ⟨z, hz, ez⟩ := List.mem_map.mp q
      obtain ⟨n, hlt', en⟩ := List.mem_take_iff_getElem.mp hz
      have : (l.map ky)[n]? = some (ky x) := by
        rw [List.getElem?_map, List.getElem?_eq_getElem (by omega)]
        rw [en]
        exact congrArg some ez
      have q2 : (l.map ky)[i]? = some (ky x) := by rw [List.getElem?_map, hx]; rfl
      have := (List.getElem?_inj (by rw [List.length_map]; omega) hn).mp (this.trans q2.symm)
      omega)
    have tpu : Tp H5 (upd H5 D (.dK (kvs ++ [(.inr (ky x), z)]))) := tp_upd hy5 fun _ z => nomatch z
    refine ⟨kvs, .inr (ky x), is_str r4, hy5, ?_, ?_⟩
    · have := W.len
      rw [hl] at this
      omega
    · rw [putK_new _ fr]
      refine ⟨same_mut (((s'.trans s3).trans s4).trans s5) hD, _, upd_same, ?_, by rw [List.length_append, ly]; rfl⟩
      rw [take_snoc hx, List.map_append]
      exact KvA.snoc (ry5.tps tpu td) (Rp.tps tpu _ _ (ht x hm) r5)
  · have e : i = l.length := by omega
    subst e
    refine .inl ⟨by have := W.stop H' s'; rwa [hl] at this, k _ _ (s2.trans s') ⟨D, kvs, rfl, .inl hy, ?_⟩⟩
    rw [List.take_length] at ry
    exact ry
end
theorem g_go {X : Cx} {σ σ' : L2.St} {H : Hp} {tg : Expr} {v : V} {P : L2.St → Hp → Prop} (h : EvG X tg σ H v σ') (k : P σ' H) : wG X tg v σ H P := h P k
/-! ### lists beside one another -/
section
variable {α : Type} {c c' : Str → List Str} {l : List Str} {rs : List Addr} {F H : Hp} {D : Addr} {kvs : List (Key × V)}
theorem zip_find {l : List Str} : ∀ {rs : List Addr}, rs.length = l.length → ∀ {x : Str}, x ∈ l → ∃ r, (x, r) ∈ l.zip rs := by
  induction l with
  | nil => intro rs _ x h; cases h
  | cons y l ih =>
    intro rs hl x h
    cases rs with
    | nil => cases hl
    | cons r rs =>
      rcases List.mem_cons.mp h with e | h
      · subst e; exact ⟨r, List.mem_cons_self⟩
      · obtain ⟨q, hq⟩ := ih (by simpa using hl) h
        exact ⟨q, List.mem_cons_of_mem _ hq⟩
theorem kvOf_val {l : List Str} : ∀ {rs : List Addr}, l.Nodup → ∀ {x : Str} {r : Addr}, (x, r) ∈ l.zip rs → valV (kvOf (fun x => x) l rs) (.inr x) = some (.ref r) := by
  induction l with
  | nil => intro rs _ x r h; cases h
  | cons y l ih =>
    intro rs nd x r h
    rw [List.nodup_cons] at nd
    cases rs with
    | nil => cases h
    | cons q rs =>
      rcases List.mem_cons.mp h with e | h
      · cases e
        exact valV_pos rfl
      · have ne : y ≠ x := fun e => nd.1 (e ▸ (List.of_mem_zip h).1)
        show valV (((Sum.inr y : Key), V.ref q) :: kvOf (fun x => x) l rs) (.inr x) = _
        rw [valV_neg (p := ((Sum.inr y : Key), V.ref q)) (fun e => ne (Sum.inr.inj e))]
        exact ih nd.2 h
theorem lsOf_set {l : List Str} {ys : List Str} : ∀ {rs : List Addr}, l.Nodup → rs.Nodup → ∀ {x : Str} {r : Addr}, (x, r) ∈ l.zip rs → (∀ z, c' z = if z = x then ys else c z) → setAt r (.lst (ys.map V.str)) (lsOf c l rs) = lsOf c' l rs := by
  induction l with
  | nil => intro rs _ _ x r h; cases h
  | cons y l ih =>
    intro rs nd nr x r h hc
    rw [List.nodup_cons] at nd
    cases rs with
    | nil => cases h
    | cons q rs =>
      rw [List.nodup_cons] at nr
      show (if q = r then (r, HO.lst (ys.map V.str)) else (q, HO.lst ((c y).map V.str))) :: setAt r (.lst (ys.map V.str)) (lsOf c l rs) = (q, HO.lst ((c' y).map V.str)) :: lsOf c' l rs
      rcases List.mem_cons.mp h with e | h
      · cases e
        rw [if_pos rfl, hc y, if_pos rfl]
        congr 1
        have : ∀ p ∈ l.zip rs, p.2 ≠ r ∧ p.1 ≠ y := fun p hp => ⟨fun e => nr.1 (by rw [← e]; exact (List.of_mem_zip (a := p.1) (b := p.2) hp).2), fun e => nd.1 (by rw [← e]; exact (List.of_mem_zip (a := p.1) (b := p.2) hp).1)⟩
        unfold setAt lsOf
        rw [List.map_map]
        refine List.map_congr_left fun p hp => ?_
        show (if p.2 = r then _ else _) = _
        rw [if_neg (this p hp).1, hc p.1, if_neg (this p hp).2]
      · have ne : q ≠ r := fun e => nr.1 (e ▸ (List.of_mem_zip h).2)
        have ne' : y ≠ x := fun e => nd.1 (e ▸ (List.of_mem_zip h).1)
        rw [if_neg ne, hc y, if_neg ne', ih nd.2 nr.2 h hc]
theorem lsOf_at {l : List Str} {rs : List Addr} {x : Str} {r : Addr} (h : (x, r) ∈ l.zip rs) : (r, HO.lst ((c x).map V.str)) ∈ lsOf c l rs := List.mem_map.mpr ⟨(x, r), h, rfl⟩
/-- d[x] stands at r, one of the lists -/
theorem Mu.lsAt {x : Str} {r : Addr} (mu : Mu F ((D, .dK kvs) :: lsOf c l rs) H) (h : (x, r) ∈ l.zip rs) : H r = some (.lst ((c x).map V.str)) := (mu.at_ _ (List.mem_cons_of_mem _ (lsOf_at h))).2.1
theorem Mu.lsSet {x : Str} {r : Addr} {ys : List Str} (mu : Mu F ((D, .dK kvs) :: lsOf c l rs) H) (hl : rs.length = l.length) (nd : l.Nodup) (h : (x, r) ∈ l.zip rs) (hc : ∀ z, c' z = if z = x then ys else c z) : Mu F ((D, .dK kvs) :: lsOf c' l rs) (upd H r (.lst (ys.map V.str))) := by
  have hn := mu.nd
  rw [List.map_cons, lsOf_keys hl, List.nodup_cons] at hn
  have hr : r ∈ rs := (List.of_mem_zip h).2
  have m2 := Mu.set (r := r) (o := .lst (ys.map V.str)) mu (by rw [List.map_cons, lsOf_keys hl]; exact List.mem_cons_of_mem _ hr) (by intro _ z; cases z)
  have e : setAt r (.lst (ys.map V.str)) ((D, .dK kvs) :: lsOf c l rs) = (D, .dK kvs) :: lsOf c' l rs := by
    show (if D = r then _ else (D, HO.dK kvs)) :: setAt r (.lst (ys.map V.str)) (lsOf c l rs) = _
    rw [if_neg (fun e => hn.1 (by rw [e]; exact hr)), lsOf_set nd hn.2 h hc]
  rw [e] at m2
  exact m2
/-- the whole of it, told as a dict -/
theorem Mu.told (mu : Mu F ((D, .dK (kvOf (fun x => x) l rs)) :: lsOf c l rs) H) (hl : rs.length = l.length) : DK (l.map fun x => (x, .list ((c x).map .str))) (.ref D) H := by
  refine ⟨D, _, rfl, .inl mu.one, ?_⟩
  have key : ∀ (l : List Str) (rs : List Addr), rs.length = l.length → (∀ q ∈ lsOf c l rs, H q.1 = some q.2) → KvA H (kvOf (fun x => x) l rs) (l.map fun x => (x, .list ((c x).map .str))) := by
    intro l
    induction l with
    | nil => intro rs _ _; exact .nil
    | cons y l ih =>
      intro rs hl hq
      cases rs with
      | nil => cases hl
      | cons r rs =>
        exact .cons (.lst (.inl (hq _ List.mem_cons_self)) (rpA_strs _)) (ih rs (by simpa using hl) fun q h => hq q (List.mem_cons_of_mem _ h))
  exact key l rs hl fun q hq => (mu.at_ q (List.mem_cons_of_mem _ hq)).2.1
end
end My
/-! D14 -/
namespace My
open PySem L2
section
variable {P : Program} {w : World} {K : PySem.W.Frag} {mg : Str → Option Value} {base : Heap}
abbrev sFol : Stmt := top 37
theorem sc_fol : FnScope ["block", "pairs", "found", "one", "other", "name"] ["block", "pairs"] (defScope sFol) := ⟨rfl, rfl, rfl, by decide +kernel, rfl, by decide +kernel, by decide +kernel⟩
abbrev APairs : Blk × List (Str × Str) → RelA := fun p vs H => RpA H vs [eB p.1, eM p.2] ∧ WF p.1 ∧ PairsOk p.1 p.2
abbrev CFol (P : Program) (w : World) (K : PySem.W.Frag) (mg : Str → Option Value) (base : Heap) : Prop := C8.Cal P w K mg base 9 "followers" (PF APairs fun p => DK (folD p.1 p.2)) []
theorem cal_fol (F : Df K mg "followers" sFol) (B : Blt mg) (c0 : CTup P w K mg base) (c1 : CNames P w K mg base) (c2 : CReaders P w K mg base) (c3 : CSetS P w K mg base) : CFol P w K mg base := by
  refine cal_pf (A := APairs) F sc_fol (fun _ _ _ _ _ _ us hl => match us, hl with | [_, _], _ => rfl) (fun d vs H h => by obtain ⟨v, w, rfl, _⟩ := bl2 h.1; rfl) ?_
  intro f cdv Ar outer s H vs Q E ⟨b, ps⟩ hr ⟨h1, wf, hps⟩ q
  have wf : WF b := wf
  have hps : PairsOk b ps := hps
  obtain ⟨v, u, rfl, hv, hu⟩ := bl2 h1
  refine b_cons (s_setW 2 sc_fol.nd (e_dcL (own := [("name", 5)]) (l := names b) (enc := PyData.str) (ky := fun x => x) (gs := readers b) (defScope sFol) sc_fol.nd (src_tup (ev_namesIn c1 hr (ev_name 0 (R := Is (eB b)) rfl hv))) (by rw [List.map_id']; exact wf.nd) (fun x hx y H1 m ry => ⟨_, ?_, fun j => eg_name 5 sc_fol.nd, fun j => ev_name 5 rfl ry, fun j => evN_list B.list (sq_t (ev_readers c2 hr (ev_name 0 (R := Is (eB b)) rfl (Rp.mono m _ _ hv)) (ev_name 5 rfl ry) hx))⟩) fun D rs H1 H2 s1 hl mu => ?_))
  · rfl
  have hv1 : Rp H1 v (eB b) := Rp.mono (sm_of s1) _ _ hv
  have hu1 : Rp H1 u (eM ps) := Rp.mono (sm_of s1) _ _ hu
  have lk : ∀ {x}, x ∈ names b → ∃ r, (x, r) ∈ (names b).zip rs := fun hx => zip_find hl hx
  refine b_cons (s_for (F := H1) (l := ps) (enc := eP) (srcF_tup (evF_tup (ps := ((D, HO.dK (kvOf (fun x => x) (names b) rs)) :: lsOf (readers b) (names b) rs).map (·.1)) (ev_tupB c0 hr (ev_name 1 (R := Is (eM ps)) rfl hu1) (Kd.tup ps) (Kd.dep ps)) (Kd.tup ps))) mu.sam mu.cond fun G H3 f tp np s3 g => ?_)
  have mu3 : Mu G ((D, .dK (kvOf (fun x => x) (names b) rs)) :: lsOf (readers b) (names b) rs) H3 := ⟨g, fun q hq => ⟨np _ (List.mem_map.mpr ⟨q, hq, rfl⟩), s3 _ _ (mu.at_ q hq).2.1, (mu.at_ q hq).2.2⟩, mu.nd⟩
  refine ⟨fun i σ H => ∃ o1 o2, σ = [some v, some u, some (.ref D), o1, o2, none] ∧ Mu G ((D, .dK (kvOf (fun x => x) (names b) rs)) :: lsOf (folL b (ps.take i)) (names b) rs) H, ⟨none, none, rfl, mu3⟩, fun i σ H ⟨_, _, _, m⟩ => m.sam, ?_, ?_⟩
  · rintro i ⟨x, y⟩ σ H4 H5 z hx ⟨o1, o2, rfl, mu4⟩ s5 rz
    have mu5 := mu4.eval s5
    obtain ⟨a, v1, v2, rfl, ha, e1, e2⟩ := tup2 rz
    have hi : i < ps.length := (List.getElem?_eq_some_iff.mp hx).1
    have pm : (x, y) ∈ ps := List.mem_of_getElem? hx
    have xn : x ∈ names b := (hps.2 _ pm).1
    have yn : y ∈ names b := (hps.2 _ pm).2
    obtain ⟨rx, hrx⟩ := lk xn
    obtain ⟨ry, hry⟩ := lk yn
    have ex := is_str e1
    have ey := is_str e2
    subst ex ey
    have tk : ps.take (i + 1) = ps.take i ++ [(x, y)] := take_snoc hx
    have l0 : ∀ z, (folL b (ps.take i) z).length ≤ 1206 := fun z => by
      have z1 := folL_len wf z _ (ps.take i) rfl
      rw [List.length_take] at z1
      have := hps.1
      omega
    have ln : rs.length = (names b).length := hl
    refine g_go (eg_tup (egs_cons (eg_name 3 sc_fol.nd) (egs_cons (eg_name 4 sc_fol.nd) egs_nil)) ha) ?_
    refine b_cons (s_expr (e_extend (ds := (readers b y).map .str) (at_dk hr (at_name 2 rfl) (atS_name 3 rfl) mu5.one (kvOf_val wf.nd hrx)) (mu5.lsAt hrx) (ev_readers c2 hr (ev_name 0 (R := Is (eB b)) rfl (Rp.mono (sm_of (f.trans mu5.sam)) _ _ hv1)) (ev_name 4 (R := Is (.str y)) rfl (.str y)) yn) ?_ fun ys H6 s6 hy6 => ?_))
    · rw [List.length_map, List.length_map]
      have := l0 x
      have := readers_len wf y
      omega
    have ez := hy6.strs
    subst ez
    rw [← List.map_append]
    have mu7 := (mu5.eval s6).lsSet (c' := fun z => if z = x then folL b (ps.take i) z ++ readers b y else folL b (ps.take i) z) ln wf.nd hrx (ys := folL b (ps.take i) x ++ readers b y) (fun z => by
      by_cases e : z = x
      · rw [if_pos e, if_pos e, e]
      · rw [if_neg e, if_neg e])
    generalize upd H6 rx (.lst ((folL b (ps.take i) x ++ readers b y).map V.str)) = H7 at mu7
    refine b_one (s_expr (e_extend (ds := (readers b x).map .str) (at_dk hr (at_name 2 rfl) (atS_name 4 rfl) mu7.one (kvOf_val wf.nd hry)) (mu7.lsAt hry) (ev_readers c2 hr (ev_name 0 (R := Is (eB b)) rfl (Rp.mono (sm_of (f.trans mu7.sam)) _ _ hv1)) (ev_name 3 (R := Is (.str x)) rfl (.str x)) xn) ?_ fun ys H8 s8 hy8 => ⟨_, _, rfl, ?_⟩))
    · rw [List.length_map, List.length_map]
      have := l0 y
      have := readers_len wf x
      have := readers_len wf y
      split <;> (try simp only [List.length_append]) <;> omega
    have ez := hy8.strs
    subst ez
    rw [← List.map_append, tk, folL_snoc]
    refine (mu7.eval s8).lsSet ln wf.nd hry (ys := _) fun z => ?_
    unfold folStep
    dsimp only
    by_cases e : z = y
    · rw [if_pos e, if_pos e, e]
    · rw [if_neg e, if_neg e]
  · rintro σ H4 ⟨o1, o2, rfl, mu4⟩
    rw [List.take_length] at mu4
    have dk := mu4.told hl
    have s4 : Same H H4 := s1.trans (f.trans mu4.sam)
    refine b_one (s_ret (R := DK (folD b ps)) (evAt_lock dk fun Hl o kvs sm hf hk => evAt_dc (l := names b) (enc := PyData.str) (ky := fun x => x) (g := fun x => eN (fol b ps x)) (own := [("name", 5)]) (defScope sFol) sc_fol.nd (src_keysN (by rw [List.map_map]; rfl) (evAt_of (ev_name 2 (R := Eqv (.ref D)) rfl rfl)) hf hk) (by rw [List.map_id']; exact wf.nd) (fun x _ => tupD_names _) fun x hx y H5 s5 ry => ⟨_, ?_, fun j => eg_name 5 sc_fol.nd, fun j => ev_name 5 rfl ry, fun j => ?_⟩) fun z H5 s5 r5 => q z H5 (s4.trans s5) r5)
    · rfl
    · refine ev_setS (xs := folL b ps x) c3 hr (sq_l (ev_dk hr (ev_name 2 (R := DK _) rfl (Mono.up (sm.trans (sm_of s5)) dk)) (ev_name 5 rfl ry) ?_)) ?_
      · exact look_map hx
      · have z1 := folL_len wf x _ ps rfl
        have := hps.1
        omega
end
end My
/-! D15 -/
namespace My
open PySem L2
theorem look_fol {b : Blk} {ps : List (Str × Str)} {x : Str} (h : x ∈ names b) : look (folD b ps) x = some (eN (fol b ps x)) := look_map (f := fun x => eN (fol b ps x)) h
theorem fol_keys (b : Blk) (ps : List (Str × Str)) : (folD b ps).map (fun q => PyData.str q.1) = (names b).map PyData.str := by
  unfold folD
  rw [List.map_map]
  rfl
section
variable {P : Program} {w : World} {K : PySem.W.Frag} {mg : Str → Option Value} {base : Heap}
/-! ### ready -/
abbrev sReady : Stmt := top 38
theorem sc_ready : FnScope ["later", "done", "rest", "name", "own"] ["later", "done"] (defScope sReady) := ⟨rfl, rfl, rfl, by decide +kernel, rfl, by decide +kernel, by decide +kernel⟩
abbrev AReady : Blk × List (Str × Str) × List Str → RelA := fun p vs H => ∃ v u, vs = [v, u] ∧ DK (folD p.1 p.2.1) v H ∧ Sq (p.2.2.map .str) u H ∧ WF p.1
abbrev CReady (P : Program) (w : World) (K : PySem.W.Frag) (mg : Str → Option Value) (base : Heap) : Prop := C8.Cal P w K mg base 1 "ready" (PL AReady fun p => (readyL p.1 p.2.1 p.2.2).map .str) []
theorem cal_ready (F : Df K mg "ready" sReady) (B : Blt mg) : CReady P w K mg base := by
  refine cal_pl (A := AReady) F sc_ready (fun _ _ _ _ _ _ us hl => match us, hl with | [_, _], _ => rfl) (fun d vs H ⟨v, u, e, _⟩ => by rw [e]; rfl) ?_
  intro f cdv Ar outer s H vs Q E ⟨b, ps, done⟩ hr ⟨v, u, e, hv, hu, wf⟩ q
  subst e
  have wf : WF b := wf
  have hv : DK (folD b ps) v H := hv
  obtain ⟨d, kvs0, e, _, _⟩ := id hv
  subst e
  refine b_cons (s_set 2 sc_ready.nd (R := Is (.list ((restL b done).map .str))) (evAt_lock hv fun Hl o kvs sm hf hk => evAt_lcN (i := 3) (l := names b) (enc := PyData.str) (f := fun x => !decide (x ∈ done)) (g := PyData.str) (defScope sReady) sc_ready.nd (src_keysN (fol_keys b ps) (evAt_of (ev_name 0 (R := Eqv (.ref d)) rfl rfl)) hf hk) (fun r _ _ => by simp [tupD]) fun x hx y H2 s2 ry => ⟨fun j => ?_, fun _ j => ev_name 3 rfl ry⟩) fun rs H1 s1 rr => ?_)
  · exact ets_one (et_notInN hr (ev_name 3 rfl ry) (ev_name 1 (R := Sq (done.map .str)) rfl (Mono.up (sm.trans (sm_of s2)) hu)))
  have hv1 : DK (folD b ps) (.ref d) H1 := Mono.up (sm_of s1) hv
  refine b_one (s_retN (ds := (readyL b ps done).map .str) (evN_lc (i := 3) (l := restL b done) (enc := PyData.str) (f := fun x => !(restL b done).any fun y => decide (x ∈ fol b ps y)) (g := PyData.str) (defScope sReady) sc_ready.nd (src_list (ev_name 2 (R := Is (.list ((restL b done).map .str))) rfl rr)) (fun r _ _ => by simp [tupD]) fun x hx y H2 m2 ry => ⟨fun j => ?_, fun _ j => ev_name 3 rfl ry⟩) fun p xs H' s' hp h' hx => q p xs H' (s1.trans s') (s1.free hp) h' hx)
  have rr2 : Rp H2 rs (.list ((restL b done).map .str)) := Rp.mono m2 _ _ rr
  refine ets_one (EvT.is (et_not (et_val (Ev.is (ev_any (bs := (restL b done).map fun y => decide (x ∈ fol b ps y)) B.any (Ev.is (ev_lcA' (defScope sReady) (i := 4) (l := restL b done) (enc := PyData.str) (g := fun y => .bool (decide (x ∈ fol b ps y))) sc_ready.nd
    (src_list (ev_name 2 (R := Is (.list ((restL b done).map .str))) rfl rr2)) (fun r _ => by simp [tupD]) fun z hz t H3 m3 rt k => ?_) (by rw [List.map_map]; rfl))) rfl))) ?_)
  · exact ev_inN hr (ev_name 3 rfl (Rp.mono m3 _ _ ry)) (sq_t (ev_dk hr (ev_name 0 (R := DK (folD b ps)) rfl (Mono.up (m2.trans m3) hv1)) (ev_name 4 rfl rt) (look_fol (List.mem_filter.mp hz).1)))
  · rw [List.any_map]
    congr 1
theorem evN_ready {X : Cx} {σ : L2.St} {H : Hp} {e e2 : Expr} {p pos : Pos} {j : Nat} {b : Blk} {ps : List (Str × Str)} {done : List Str} (c : CReady X.prog X.w X.K X.mg X.base) (hr : Room j X.A) (wf : WF b) (h : Ev X e σ H (DK (folD b ps))) (h2 : Ev X e2 σ H (Sq (done.map .str))) (hk : 1 ≤ j := by decide) (hg : Gl X "ready" := by rfl)
    (he : starEach [e, e2] X.env = (false, eval e X.env) :: starEach [e2] X.env := by rfl) (he2 : starEach [e2] X.env = (false, eval e2 X.env) :: starEach [] X.env := by rfl) (hpl : (backTo pos (starEach [e2] X.env)).any (·.1) = false := by rfl) : EvN X (.Call (.Name "ready" p) [e, e2] [] pos) σ H ((readyL b ps done).map .str) :=
  ev_pl (b, ps, done) c hr (ea_cons h (ea_cons h2 ea_nil he2) he) (fun vs H1 _ t => by
    obtain ⟨v, u, rfl, r1, r2⟩ := two_of t
    exact ⟨v, u, rfl, r1, r2, wf⟩) hk hg (by decide) he hpl
theorem ev_fol {X : Cx} {σ : L2.St} {H : Hp} {e e2 : Expr} {p pos : Pos} {j : Nat} {b : Blk} {ps : List (Str × Str)} (c : CFol X.prog X.w X.K X.mg X.base) (hr : Room j X.A) (wf : WF b) (hps : PairsOk b ps) (h : Ev X e σ H (Is (eB b))) (h2 : Ev X e2 σ H (Is (eM ps))) (hk : 9 ≤ j := by decide) (hg : Gl X "followers" := by rfl)
    (he : starEach [e, e2] X.env = (false, eval e X.env) :: starEach [e2] X.env := by rfl) (he2 : starEach [e2] X.env = (false, eval e2 X.env) :: starEach [] X.env := by rfl) (hpl : (backTo pos (starEach [e2] X.env)).any (·.1) = false := by rfl) : Ev X (.Call (.Name "followers" p) [e, e2] [] pos) σ H (DK (folD b ps)) :=
  ev_pf (b, ps) c hr (ea_is h (ea_is h2 ea_isNil he2) he) (fun vs H1 _ t => ⟨t, wf, hps⟩) hk hg (by decide) he hpl
theorem atI_head (d : PyData) (ds : List PyData) : atI (d :: ds) 0 = some d := by
  unfold atI
  have e : ixN (d :: ds).length 0 = some 0 := ixN_nat (j := 0) (by rw [List.length_cons]; omega)
  rw [e]
  rfl
theorem eqv_nat0 (n : Nat) : PyData.eqv (.int (n : Int)) (.int 0) = decide (n = 0) := by
  have e : PyData.eqv (.int (n : Int)) (.int 0) = decide ((n : Int) = 0) := by
    simp only [PyData.eqv]
    rfl
  rw [e]
  by_cases h : n = 0
  · subst h; rfl
  · rw [decide_eq_false h, decide_eq_false (by omega)]
/-! ### order_meeting, can_all_meet -/
abbrev sOM : Stmt := top 39
theorem sc_OM : FnScope ["block", "pairs", "later", "found", "free"] ["block", "pairs"] (defScope sOM) := ⟨rfl, rfl, rfl, by decide +kernel, rfl, by decide +kernel, by decide +kernel⟩
abbrev COM (P : Program) (w : World) (K : PySem.W.Frag) (mg : Str → Option Value) (base : Heap) : Prop := C8.Cal P w K mg base 10 "order_meeting" (PF APairs fun p => Is (orderMD p.1 p.2)) []
theorem cal_OM (F : Df K mg "order_meeting" sOM) (B : Blt mg) (c1 : CFol P w K mg base) (c2 : CReady P w K mg base) : COM P w K mg base := by
  refine cal_pf (A := APairs) F sc_OM (fun _ _ _ _ _ _ us hl => match us, hl with | [_, _], _ => rfl) (fun d vs H h => by obtain ⟨v, w, rfl, _⟩ := bl2 h.1; rfl) ?_
  intro f cdv Ar outer s H vs Q E ⟨b, ps⟩ hr ⟨h1, wf, hps⟩ q
  have wf : WF b := wf
  have hps : PairsOk b ps := hps
  have q : ∀ (v : V) (H' : Hp), Same H H' → Is (orderMD b ps) v H' → Q v H' := q
  obtain ⟨v, u, rfl, hv, hu⟩ := bl2 h1
  refine b_cons (s_par 2 3 sc_OM.nd (wa (pa_cons (pe_w _) (pa_cons (pe_w _) pa_nil)) ?_))
  refine (ev_fol c1 hr wf hps (ev_name 0 (R := Is (eB b)) rfl hv) (ev_name 1 (R := Is (eM ps)) rfl hu)).go fun la H1 s1 rl => ?_
  refine (evN_lst (ds := []) ea_isNil (by simp)) H1 (Sm.refl _) _ fun p ys H2 s2 rf2 h2 hx2 => ?_
  cases hx2
  refine ⟨_, _, rfl, ?_⟩
  have mu2 : Mu H1 [(p, .lst (([] : List Str).map V.str))] H2 := (Mu.nil H1).add s2 rf2 h2 (by intro _ z; cases z)
  have ll : (folD b ps).length = b.rows.length := by rw [folD, List.length_map, List.length_map]
  let W : Nat → L2.St → Hp → Prop := fun n σ H5 => ∃ (fd : List Str) (fr : Option V), σ = [some v, some u, some la, some (.ref p), fr] ∧ Mu H1 [(p, .lst (fd.map V.str))] H5 ∧ n + fd.length = b.rows.length ∧ omRun b ps n fd = orderM b ps
  refine b_cons (s_while (W := W) b.rows.length ⟨[], none, rfl, mu2, rfl, rfl⟩ ?_)
  rintro n σ H5 ⟨fd, fr, rfl, mu5, hn, ho⟩
  have hfd : ∀ {H}, Mu H1 [(p, .lst (fd.map V.str))] H → Rp H (.ref p) (.list (fd.map .str)) := fun m => .lst (.inl m.one) (rpA_strs fd)
  have rl5 : ∀ {H}, Mu H1 [(p, .lst (fd.map V.str))] H → DK (folD b ps) la H := fun m => Mono.up m.sm rl
  refine ⟨decide (((fd.map PyData.str).length : Int) < ((folD b ps).length : Int)), et_lt (ev_len B.len (sq_l (ev_name 3 (R := Is (.list (fd.map .str))) rfl (hfd mu5)))) (ev_lenD B.len (ev_name 2 (R := DK (folD b ps)) rfl (rl5 mu5))), fun hb H6 s6 => ?_, fun hb H6 s6 => ?_⟩
  · rw [decide_eq_true_eq, List.length_map, ll] at hb
    obtain ⟨n, rfl⟩ : ∃ m, n = m + 1 := ⟨n - 1, by omega⟩
    have mu6 := mu5.eval s6
    refine b_cons (s_set 4 sc_OM.nd (R := Is (.list ((readyL b ps fd).map .str))) (evN_ready c2 hr wf (ev_name 2 (R := DK (folD b ps)) rfl (rl5 mu6)) (sq_l (ev_name 3 (R := Is (.list (fd.map .str))) rfl (hfd mu6)))).ev fun fv H7 s7 rv => ?_)
    have mu7 := mu6.eval s7
    have ho : (match readyL b ps fd with | [] => none | x :: _ => omRun b ps n (fd ++ [x])) = orderM b ps := ho
    refine b_cons (s_if (k := decide ((readyL b ps fd).length = 0)) (EvT.is (et_eqD (n := 0) hr (ev_len B.len (sq_l (ev_name 4 (R := Is (.list ((readyL b ps fd).map .str))) rfl rv))) ev_int shp_int shp_int) ?_) (fun hk H8 s8 => ?_) fun hk H8 s8 => b_nil ?_)
    · rw [List.length_map]
      exact eqv_nat0 _
    · have e0 : readyL b ps fd = [] := List.length_eq_zero_iff.mp (of_decide_eq_true hk)
      rw [e0] at ho
      refine b_one (s_ret ev_non fun z H9 s9 r9 => q z H9 ((s1.trans mu7.sam).trans (s8.trans s9)) ?_)
      have e : orderMD b ps = .none := by unfold orderMD; rw [← ho]
      rw [e]
      exact r9
    · obtain ⟨x, l, e⟩ : ∃ x l, readyL b ps fd = x :: l := by
        cases e : readyL b ps fd with
        | nil => rw [e] at hk; simp at hk
        | cons x l => exact ⟨x, l, rfl⟩
      rw [e] at ho rv
      have mu8 := mu7.eval s8
      have l1 : fd.length ≤ 6 := by have := wf.few; omega
      refine b_one (s_expr (e_append (R := Is (.str x)) (at_name 3 rfl) mu8.one (ev_ixL (i := 0) (ev_name 4 (R := Is (.list ((x :: l).map .str))) rfl (Rp.mono (sm_of s8) _ _ rv)) ev_int (atI_head _ _)) (by rw [List.length_map]; omega) fun z H9 s9 rz => ?_))
      rw [is_str rz, vstrs_snoc]
      have mu9 : Mu H1 [(p, .lst ((fd ++ [x]).map V.str))] (upd H9 p (.lst ((fd ++ [x]).map V.str))) := (mu8.eval s9).put (by intro _ z; cases z)
      exact ⟨n, by omega, fd ++ [x], _, rfl, mu9, by rw [List.length_append, List.length_cons, List.length_nil]; omega, ho⟩
  · rw [decide_eq_false_iff_not, List.length_map, ll] at hb
    have n0 : n = 0 := by omega
    subst n0
    have ho : some fd = orderM b ps := ho
    have mu6 := mu5.eval s6
    refine b_one (s_ret (R := Is (eN fd)) (ev_tuple B.tuple (sq_l (ev_name 3 (R := Is (.list (fd.map .str))) rfl (hfd mu6)))) fun z H9 s9 r9 => q z H9 ((s1.trans mu6.sam).trans s9) ?_)
    have e : orderMD b ps = eN fd := by unfold orderMD; rw [← ho]
    rw [e]
    exact r9
abbrev sCAM : Stmt := top 40
theorem sc_CAM : FnScope ["block", "pairs"] ["block", "pairs"] (defScope sCAM) := ⟨rfl, rfl, rfl, by decide +kernel, rfl, by decide +kernel, by decide +kernel⟩
abbrev CCAM (P : Program) (w : World) (K : PySem.W.Frag) (mg : Str → Option Value) (base : Heap) : Prop := C8.Cal P w K mg base 11 "can_all_meet" (PF APairs fun p => Is (.bool (orderM p.1 p.2).isSome)) []
theorem ev_OM {X : Cx} {σ : L2.St} {H : Hp} {e e2 : Expr} {p pos : Pos} {j : Nat} {b : Blk} {ps : List (Str × Str)} (c : COM X.prog X.w X.K X.mg X.base) (hr : Room j X.A) (wf : WF b) (hps : PairsOk b ps) (h : Ev X e σ H (Is (eB b))) (h2 : Ev X e2 σ H (Is (eM ps))) (hk : 10 ≤ j := by decide) (hg : Gl X "order_meeting" := by rfl)
    (he : starEach [e, e2] X.env = (false, eval e X.env) :: starEach [e2] X.env := by rfl) (he2 : starEach [e2] X.env = (false, eval e2 X.env) :: starEach [] X.env := by rfl) (hpl : (backTo pos (starEach [e2] X.env)).any (·.1) = false := by rfl) : Ev X (.Call (.Name "order_meeting" p) [e, e2] [] pos) σ H (Is (orderMD b ps)) :=
  ev_pf (b, ps) c hr (ea_is h (ea_is h2 ea_isNil he2) he) (fun vs H1 _ t => ⟨t, wf, hps⟩) hk hg (by decide) he hpl
theorem ev_notNone {X : Cx} {σ : L2.St} {H : Hp} {a : Expr} {pos : Pos} {d : PyData} {j p'} (ha : Ev X a σ H (Is d)) : Ev X (.Compare a [.IsNot] [.Constant .none j p'] pos) σ H (Is (.bool (!isNone d))) :=
  ev_cmp op_notN (nomark _) ha ev_non fun x y H1 _ r1 r2 Q k => ⟨is_non r2, by cases r1 <;> exact k _ _ (Same.refl _) (.bl _)⟩
theorem ev_isNone {X : Cx} {σ : L2.St} {H : Hp} {a : Expr} {pos : Pos} {d : PyData} {j p'} (ha : Ev X a σ H (Is d)) : Ev X (.Compare a [.Is] [.Constant .none j p'] pos) σ H (Is (.bool (isNone d))) :=
  ev_cmp op_isN (nomark _) ha ev_non fun x y H1 _ r1 r2 Q k => ⟨is_non r2, by cases r1 <;> exact k _ _ (Same.refl _) (.bl _)⟩
theorem orderMD_none (b : Blk) (ps : List (Str × Str)) : isNone (orderMD b ps) = !(orderM b ps).isSome := by
  unfold orderMD
  cases orderM b ps <;> rfl
theorem cal_CAM (F : Df K mg "can_all_meet" sCAM) (c1 : COM P w K mg base) : CCAM P w K mg base := by
  refine cal_pf (A := APairs) F sc_CAM (fun _ _ _ _ _ _ us hl => match us, hl with | [_, _], _ => rfl) (fun d vs H h => by obtain ⟨v, w, rfl, _⟩ := bl2 h.1; rfl) ?_
  intro f cdv Ar outer s H vs Q E ⟨b, ps⟩ hr ⟨h1, wf, hps⟩ q
  have wf : WF b := wf
  have hps : PairsOk b ps := hps
  obtain ⟨v, u, rfl, hv, hu⟩ := bl2 h1
  exact b_one (s_ret (R := Is (.bool (orderM b ps).isSome)) (Ev.is (ev_notNone (ev_OM c1 hr wf hps (ev_name 0 (R := Is (eB b)) rfl hv) (ev_name 1 (R := Is (eM ps)) rfl hu))) (by rw [orderMD_none, Bool.not_not])) q)
end
end My
/-! C8 -/
namespace My
open PySem L2
/-! ### sum(d.values()), the keys of d tuples -/
def tSumT (td : TE) : TE := fun σ H Q => td σ H fun x H1 => ∃ (a : Addr) (kvs : List (List Key × V)) (is : List Int), x = V.ref a ∧ Rd H1 a (.dT kvs) ∧ kvs.map Prod.snd = is.map V.int ∧ Q (.int (is.sum : Int)) H1
section
variable {X : Cx} {σ : L2.St} {H : Hp}
theorem paired_at {α β : Type} {F : α → β → Prop} : ∀ {l : List α} {m : List β}, Paired F l m → ∀ {i : Nat} {y : β}, m[i]? = some y → ∃ x, l[i]? = some x ∧ F x y
  | _, _, .nil, i, y, h => by simp at h
  | _, _, .cons r t, 0, y, h => by simp at h; subst h; exact ⟨_, rfl, r⟩
  | _, _, .cons r t, i + 1, y, h => by
    obtain ⟨x, h1, h2⟩ := paired_at t (i := i) (y := y) (by simpa using h)
    exact ⟨x, by simpa using h1, h2⟩
theorem paired_len {α β : Type} {F : α → β → Prop} : ∀ {l : List α} {m : List β}, Paired F l m → l.length = m.length
  | _, _, .nil => rfl
  | _, _, .cons _ t => by rw [List.length_cons, List.length_cons, paired_len t]
theorem preSum_list (val : Nat → Int) : ∀ (is : List Int) (k : Nat), (∀ i, i < is.length → val (k + i) = is.getD i 0) → preSum (fun i => val (k + i)) is.length = is.sum := by
  intro is
  have gen : ∀ n, n ≤ is.length → ∀ k, (∀ i, i < is.length → val (k + i) = is.getD i 0) → preSum (fun i => val (k + i)) n = (is.take n).sum := by
    intro n
    induction n with
    | zero => intro _ k _; rfl
    | succ n ih =>
      intro hn k hv
      show preSum (fun i => val (k + i)) n + val (k + n) = _
      rw [ih (by omega) k hv, hv n (by omega), List.take_succ, List.getElem?_eq_getElem (by omega), List.sum_append, List.getD_eq_getElem?_getD, List.getElem?_eq_getElem (by omega)]
      simp
  intro k hv
  rw [gen is.length (Nat.le_refl _) k hv, List.take_length]
theorem pe_sumT {o : Expr} {p pos apos mpos : Pos} {td : TE} (hc : X.calm = true) (hg : Gl X "sum") (hm : X.mg "sum" = none) (hd : PE X o td) (hbase : attributeBase o "values" X.env (eval o X.env) = eval o X.env := by rfl) (hline : (apos.endLine == mpos.line) = true := by rfl)
    (hse : starEach [Expr.Call (.Attribute o "values" apos) [] [] mpos] X.env = [(false, eval (Expr.Call (.Attribute o "values" apos) [] [] mpos) X.env)] := by rfl) :
    PE X (.Call (.Name "sum" p) [.Call (.Attribute o "values" apos) [] [] mpos] [] pos) (tSumT td) := by
  refine ⟨fun pins s σ H Q I h => ?_⟩
  refine wpAny_Call_Name_kw (ld_blt I hg hm (u := .builtin "sum") (by first | rfl | decide +kernel) ?_ (by first | decide +kernel | decide) (by first | decide +kernel | decide))
  rw [hse]
  refine PySem.callWith_builtin1 (wpAny_Call_method0_late hbase hline (thn (hd.run pins s σ H _ I h) fun v s1 ⟨x, H1, I1, r1, a, kvs, is, ex, ha, hv, q⟩ => ?_))
  subst ex
  obtain rfl : v = Value.ref a := r1
  obtain ⟨hz, hsys, xs, rel, dof⟩ := dt_rd I1.hok ha
  obtain ⟨ob, es, ep, ho, exd, hdat, hes, hks, hnd⟩ := id dof
  refine ⟨"dict", "dict.values", PySem.F.plainAttrs_dict, PySem.F.slot_dict_values, PySem.F.type_dict_values, ⟨ob, ho, exd.1⟩, fun b e => ?_, Calls.callWith_builtin rfl (PySem.evalArgs_none ?_)⟩
  · cases e
    exact ⟨ob, ho, exd.2.1⟩
  have raw : s1.heap.DictRaw a es ep := ⟨ob, ho, exd, hdat⟩
  refine call_meetsIn PySem.F.slot_dict_values ⟨ob, ho, exd.1⟩ PySem.F.entry_dict_values (PySem.F.args_dict_values_1 _) (meets_dict_values_raw a hsys) ⟨⟨es, ep, raw⟩, ?_⟩
  have k1 : ∀ b u, s1.heap.get? b = some u → (s1.heap.push { cls := .type "dict_values", data := .fields #[.ref a] }).get? b = some u := fun b u e => Heap.get?_push_of_some _ e
  have lx : xs.length = is.length := by
    have e1 := congrArg List.length hv
    rw [List.length_map, List.length_map, paired_len rel] at e1
    exact e1
  have hsize : es.size = is.length := (size_of_entries hes).trans lx
  have hval : ∀ (i : Nat) (v : Value), (∃ hi : i < es.size, v = es[i].val) → ∃ t, v = Value.int (is.getD i 0) t := fun i v ⟨hi, e⟩ => by
    have e0 : es[i]? = some es[i] := Array.getElem?_eq_getElem hi
    rw [entry_at hes i] at e0
    obtain ⟨y, hy, e1⟩ := Option.map_eq_some_iff.mp e0
    obtain ⟨x, hx, r⟩ := paired_at rel hy
    have e2 : (kvs.map Prod.snd)[i]? = some x.2 := by rw [List.getElem?_map, hx]; rfl
    rw [hv, List.getElem?_map] at e2
    obtain ⟨j, hj, e3⟩ := Option.map_eq_some_iff.mp e2
    have r3 := r.2.2
    rw [← e3] at r3
    obtain ⟨t, e4⟩ := r3
    refine ⟨t, ?_⟩
    rw [e, ← e1]
    show y.2.2 = _
    rw [e4, List.getD_eq_getElem?_getD, hj]
    rfl
  have hlt : a < s1.heap.objs.size := Heap.lt_size ho
  have hsz : (s1.heap.push { cls := .type "dict_values", data := .fields #[.ref a] }).objs.size = s1.heap.objs.size + 1 := Heap.size_push _ _
  refine call_sum_walkG (wpAny_pyIter_values_raw (v := s1.heap.objs.size) (d := a) ⟨_, Heap.get?_push_size _ rfl, rfl, rfl⟩ (raw.at fun o e => k1 a o e) ?_)
  refine ⟨_, _, _, _, _, _, fun i => is.getD i 0, rfl, Walks.rawValues (A := X.A.in1) (I.ok.hd hc) (s1.heap.push { cls := .type "dict_values", data := .fields #[.ref a] }).objs.size a (by rw [hsz]; exact Nat.ne_of_lt (Nat.lt_succ_of_lt hlt)) es ep,
    ⟨⟨_, Heap.get?_push_size _ rfl, rfl, rfl⟩, (raw.at fun o e => k1 a o e).at fun o e => Heap.get?_push_of_some _ e⟩, fun b hb => ?_, hval, fun h' tk t' hk => ?_⟩
  · show b < ((s1.heap.push _).push _).objs.size
    rw [Heap.size_push, Heap.size_push]
    rw [hsz] at hb
    rcases List.mem_cons.mp hb with e | hb
    · rw [e]
      exact Nat.lt_succ_self _
    · have e : b = a := List.mem_singleton.mp hb
      rw [e]
      exact Nat.lt_succ_of_lt (Nat.lt_succ_of_lt hlt)
  · refine ⟨.int _, H1, I1.kept (t' := tk) fun b u e => hk b u (fun hmem => ?_) (Heap.get?_push_of_some _ (k1 b u e)), ⟨t', rfl⟩, ?_⟩
    · have e1 : b = (s1.heap.push { cls := .type "dict_values", data := .fields #[.ref a] }).objs.size := List.mem_singleton.mp hmem
      have e2 := Heap.lt_size e
      rw [hsz] at e1
      rw [e1] at e2
      exact absurd e2 (Nat.not_lt.mpr (Nat.le_succ _))
    · have e : preSum (fun i => is.getD i 0) es.size = is.sum := by
        rw [hsize]
        have z := preSum_list (fun i => is.getD i 0) is 0 (fun i _ => by rw [Nat.zero_add])
        simpa using z
      rw [e]
      exact q
end
end My
/-! C9 -/
namespace My
open PySem L2
/-! ### {k: v}, k a tuple of texts -/
def tDispT (tk tv : TE) : TE := fun σ H Q => ∀ p, H p = none → tk σ (upd H p (.dT [])) fun y H1 => tv σ H1 fun w H2 => ∃ b ks, y = .ref b ∧ H2 b = some (.tup (List.map kV ks)) ∧ H2 p = some (.dT []) ∧ Q (.ref p) (upd H2 p (.dT [(ks, w)]))
section
variable {X : Cx} {σ : L2.St} {H : Hp} {pos : Pos}
theorem pe_dispT {k v : Expr} {tk tv : TE} (hu : X.A.units + 1 < cLine) (hk : PE X k tk) (hv : PE X v tv) : PE X (.Dict [some k] [v] pos) (tDispT tk tv) := by
  refine ⟨fun pins s σ H Q I q => ?_⟩
  have hn := I.hok.fresh (Nat.le_refl s.heap.objs.size)
  have I1 := I.laid (a := s.heap.objs.size) (o := .dT []) (h' := s.heap.push { cls := .type "dict", data := .dict #[] }) (t' := s.toks) (fun _ _ q => Heap.get?_push_of_some _ q) (Nat.le_refl _) (dt_empty s.heap I.big)
  have hz := zip_pairTrees [some k] [v] X.env pos rfl rfl
  have rm : (tupleKind (mixKind X.prog X.w)).room X.A := by
    have z : X.A.units < cLine := by omega
    first
      | exact z
      | exact hu
  have l1 : (pairTrees [some k] [v] X.env pos).length = 1 := rfl
  rw [arm_eval_Dict, hz, dictDisplay_pairs _ (by intro e; rw [e] at l1; cases l1) (by rw [l1]; decide)]
  refine wpAny_bind (wpAny_standAt (wpAny_bind (wpAny_subDictH (knd := tupleKind (mixKind X.prog X.w)) (Q := fun d s' => wpAny (model X.prog X.w) X.A (pure (Value.ref d)) (EP X pins σ Q) X.xe s') rm (by rw [l1]; decide) ?_)))
  refine pairTrees_cons_walk (thn (hk.run pins _ σ _ _ I1 (q _ hn)) fun u s2 ⟨y, H1, I2, ry, q1⟩ => thn (hv.run pins s2 σ H1 _ I2 q1) fun z s3 ⟨w, H2, I3, rz, b, ks, e, hb, hp, hq⟩ => ?_)
  subst e
  obtain rfl : u = Value.ref b := ry
  refine pairTrees_nil_walk ?_
  obtain ⟨_, hd, xs, rel, dd⟩ := dt_of I3.hok hp
  cases rel
  refine ⟨[(ks, b, z)], ⟨rfl, rfl, key_of I3.hok hb, trivial⟩, dd, fun h' tk dd' hs => wpAny_pure ⟨.ref s.heap.objs.size, _, ?_, rfl, hq⟩⟩
  obtain ⟨o, es, ep, ho, h2, h3, h4, _, h5⟩ := dd'
  refine d_write I3 (by rw [hp]; exact True.intro) hs ⟨o, ho⟩ ⟨by show 1 ≤ sizeLine; decide, hd, [(ks, b, z)], .cons ⟨rfl, ?_, rz⟩ .nil, o, es, ep, ho, h2, h3, h4, h5⟩
  rw [upd_ne (ne_of hb hp (fun z => nomatch z))]
  exact hb
end
/-! ### rules for such dicts -/
theorem KtA.length {H : Hp} {kvs : List (List Key × V)} {m : List (List Str × PyData)} (h : KtA H kvs m) : kvs.length = m.length := by
  induction h with
  | nil => rfl
  | cons _ _ ih => rw [List.length_cons, List.length_cons, ih]
theorem KtA.key {H : Hp} {kvs : List (List Key × V)} {m : List (List Str × PyData)} (h : KtA H kvs m) : ∀ {i : Nat} {k : List Key} {v : V}, kvs[i]? = some (k, v) → ∃ x dd, m[i]? = some (x, dd) ∧ k = x.map .inr ∧ Rp H v dd := by
  induction h with
  | nil => intro i k v e; simp at e
  | @cons k0 v0 d0 kvs m0 r t ih =>
    intro i k v e
    cases i with
    | zero => simp at e; obtain ⟨e1, e2⟩ := e; subst e1 e2; exact ⟨_, _, rfl, rfl, r⟩
    | succ i => simp at e; obtain ⟨x, dd, h1, h2⟩ := ih e; exact ⟨x, dd, by simpa using h1, h2⟩
def putT {β : Type} (m : List (List Str × β)) (x : List Str) (d : β) : List (List Str × β) :=
  if (m.any fun q => decide (q.1 = x)) = true then m.map fun q => if q.1 = x then (q.1, d) else q else m ++ [(x, d)]
theorem KtA.put {H : Hp} {kvs : List (List Key × V)} {m : List (List Str × PyData)} (h : KtA H kvs m) (x : List Str) {v : V} {d : PyData} (r : Rp H v d) : KtA H (putK kvs (x.map .inr) v) (putT m x d) := by
  have ea : (kvs.any fun kv => decide (kv.1 = x.map .inr)) = m.any fun q => decide (q.1 = x) := by
    induction h with
    | nil => rfl
    | @cons k0 v0 d0 kvs m0 r0 t ih =>
      rw [List.any_cons, List.any_cons, ih]
      congr 1
      show decide (k0.map Sum.inr = x.map Sum.inr) = decide (k0 = x)
      by_cases e : k0 = x
      · subst e; simp
      · rw [decide_eq_false e, decide_eq_false fun z => e (inr_inj z)]
  unfold putK putT
  rw [ea]
  clear ea
  split
  · rename_i hh
    clear hh
    induction h with
    | nil => exact .nil
    | @cons k0 v0 d0 kvs m0 r0 t ih =>
      rw [List.map_cons, List.map_cons]
      dsimp only
      by_cases e : k0 = x
      · subst e
        rw [if_pos rfl, if_pos rfl]
        exact .cons r ih
      · rw [if_neg e, if_neg (fun z => e (inr_inj z))]
        exact .cons r0 ih
  · rename_i hh
    clear hh
    induction h with
    | nil => exact .cons r .nil
    | cons r0 t ih => exact .cons r0 ih
theorem KtA.tps {H H' : Hp} (e : Tp H H') {kvs : List (List Key × V)} {m : List (List Str × PyData)} (h : KtA H kvs m) : (∀ q ∈ m, tupD q.2 = true) → KtA H' kvs m := by
  induction h with
  | nil => exact fun _ => .nil
  | @cons k v d kvs m r t ih => exact fun z => .cons (Rp.tps e _ _ (z _ List.mem_cons_self) r) (ih fun q hq => z q (List.mem_cons_of_mem _ hq))
section
variable {X : Cx} {σ : L2.St} {F H : Hp} {R : Rel} {ms : List (Addr × HO)} {D : Ends} {k v o i a b e iter tg : Expr} {body : List Stmt} {pos pos' apos : Pos} {p d : Addr} {kvs : List (List Key × V)} {m : List (List Str × PyData)} {ks : List Str}
theorem e_dispT {kk : Nat} [Mono R] (hr : Room kk X.A) (hk : Ev X k σ H (Is (eN ks))) (hv : Ev X v σ H R) {Q : VK} (z : ∀ p w H2, H p = none → Same (upd H p (.dT [])) H2 → R w H2 → Q (.ref p) (upd H2 p (.dT [(ks.map .inr, w)]))) : wE X (.Dict [some k] [v] pos) σ H Q :=
  we (pe_dispT (hu_of hr) (pe_w k) (pe_w v)) fun p hp => hk _ (sm_of (same_new hp)) _ fun y H1 s1 r1 => hv H1 (sm_of ((same_new hp).trans s1)) _ fun w H2 s2 r2 => by
    obtain ⟨b, e, hb⟩ := names_rp r1
    exact ⟨b, ks.map .inr, e, s2 _ _ hb, (s1.trans s2) _ _ upd_same, z p w H2 hp (s1.trans s2) r2⟩
theorem ev_dtget2 {kk : Nat} {x : List Str} {d : PyData} (hr : Room kk X.A) (ha : Ev X o σ H (DT m)) (hb : Ev X a σ H (Is (eN x))) (hc : Ev X b σ H (Is d)) (M : M2 X o "get" apos a b pos) : Ev X (.Call (.Attribute o "get" apos) [a, b] [] pos) σ H (Is ((lookT m x).getD d)) := fun H1 mm Q z =>
  we (pe_dget2 (hu_of hr) (pe_w o) (pe_w a) (pe_w b) M) (ha H1 mm _ fun v H2 s2 r2 => by
    obtain ⟨p, kvs, e, h1, h2⟩ := id r2
    refine ⟨p, e, .inr ⟨kvs, h1⟩, hb H2 (mm.trans (sm_of s2)) _ fun y H3 s3 r3 => hc H3 (mm.trans (sm_of (s2.trans s3))) _ fun w H4 s4 r4 => ?_⟩
    have h3 := (h2.mono (sm_of (s3.trans s4))).look (x := x)
    have rd : Rd H4 p (.dT kvs) := (sm_of (s3.trans s4)).rd _ _ True.intro h1
    obtain ⟨b', e', hb'⟩ := names_rp (Rp.mono (sm_of s4) _ _ r3)
    refine ⟨valV kvs (x.map .inr), .inr ⟨kvs, x.map .inr, b', rd, e', hb', rfl⟩, ?_⟩
    cases hl : lookT m x with
    | none =>
      rw [hl] at h3
      rw [h3]
      exact z _ _ ((s2.trans s3).trans s4) (by rw [hl]; exact r4)
    | some dd =>
      rw [hl] at h3
      obtain ⟨u, hu, ru⟩ := h3
      rw [hu]
      exact z _ _ ((s2.trans s3).trans s4) (by rw [hl]; exact ru))
/-- d[x] = e, x a tuple of texts -/
theorem s_dputT {kk : Nat} {x : List Str} (hr : Room kk X.A) [Mono R] (ho : ∀ H, At X o σ H p) (hp : H p = some (.dT kvs)) (hv : Ev X e σ H R) (hi : ∀ H1, Same H H1 → Ev X i σ H1 (Is (eN x))) (hz : kvs.length < 100000) (k : ∀ v H1, Same H H1 → R v H1 → D.nx σ (upd H1 p (.dT (putK kvs (x.map .inr) v))))
    (hs : swapsWith e (some (.Subscript o i pos')) pos.line X.env = pure false := by rfl) : wS X (.Assign [.Subscript o i pos'] e pos) D σ H :=
  ws (ps_dput (room_u1 hr) (pe_w o) (pe_w i) (pe_w e) hs) (hv.go fun v H1 s1 r1 => ho H1 _ ((hi H1 s1).go fun y H2 s2 r2 => by
    obtain ⟨b, e', hb⟩ := names_rp r2
    rw [e']
    exact ⟨p, _, rfl, DPut.t (k := x.map .inr) ((s1.trans s2) _ _ hp) hb (Nat.lt_of_lt_of_le hz (by decide)), k v H2 (s1.trans s2) (Mono.up (sm_of s2) r1)⟩))
/-- for x in d, d a dict whose keys are tuples of texts -/
theorem s_forT (hd : DT m (.ref d) F) (mu : Mu F ms H) (hi : ∀ H, At X iter σ H d)
    (go : ∀ F' H', Sm F F' → Tp F F' → (∀ p, F p = none → F' p = none) → Mu F' ms H' → ∃ I : Nat → L2.St → Hp → Prop, I 0 σ H' ∧ (∀ i σ H, I i σ H → Same F' H) ∧
      (∀ (D0 : Ends) i x σ H1, (m.map (·.1))[i]? = some x → I i σ H1 → ∀ v, Rp H1 v (eN x) → wG X tg v σ H1 fun σ2 H2 => wB X body { D0 with nx := I (i + 1), ct := I (i + 1) } σ2 H2) ∧
      ∀ σ H1 H2, I m.length σ H1 → Same F H2 → Sm H1 H2 → (∀ p, F p = none → H2 p = H1 p) → D.nx σ H2)
    (hp : PassesOwn (model X.prog X.w) X.A X.env X.xe := by exact PassesOwn.never) (hcl : X.calm = true := by rfl) (hs : ∀ x, foldedSetIterable iter X.env x = pure x := by intro _; rfl) : wS X (.For tg iter body [] pos) D σ H := by
  have main : ∀ (D' : Ends) (F' H' : Hp) (o : Obj) (kvs : List (List Key × V)), Sm F F' → Tp F F' → (∀ p, F p = none → F' p = none) → Mu F' ms H' → F' d = some (.frz o (.dT kvs)) → KtA F' kvs m →
      (∀ (I : Nat → L2.St → Hp → Prop), (∀ σ H1 H2, I m.length σ H1 → Same F H2 → Sm H1 H2 → (∀ p, F p = none → H2 p = H1 p) → D.nx σ H2) → ∀ σ H1, I m.length σ H1 → Same F' H1 → D'.nx σ H1) → wS X (.For tg iter body [] pos) D' σ H' := by
    intro D' F' H' o kvs sm tp fr mu' hf hk fin
    obtain ⟨I, i0, iG, turn, last⟩ := go F' H' sm tp fr mu'
    refine ws (ps_for hp hcl (pi_w tg iter) (pg_w tg) (pb_w body) hs) (wi (pi_keys (pe_w iter)) (we_inv (hi H' _ fun pins s I => ?_)))
    have hd2 : H' d = some (.frz o (.dT kvs)) := mu'.sam _ _ hf
    have hz : kvs.length ≤ sizeLine := (Rd.ok (u := .dT kvs) (.inr ⟨o, hd2⟩) I.hok).1
    obtain ⟨I, i0, iG, turn, last⟩ := go F' H' sm tp fr mu'
    have hl : m.length = kvs.length := hk.length.symm
    refine ⟨d, o, rfl, .inr ⟨kvs, hd2, fun i n σ H => n = m.length - i ∧ i ≤ m.length ∧ I i σ H, ⟨m.length, rfl, Nat.zero_le _, i0⟩, ?_⟩⟩
    rintro i n σ1 H1 ⟨rfl, hle, hI⟩
    have hd3 : H1 d = some (.frz o (.dT kvs)) := iG _ _ _ hI _ _ hf
    by_cases hlt : i < m.length
    · refine .inr ⟨⟨hd3, by rw [← hl]; exact hlt⟩, I (i + 1), fun σ2 H2 p => ⟨m.length - (i + 1), by omega, rfl, hlt, p⟩, fun v H3 y => ?_⟩
      obtain ⟨e, kk, vv, q, hkv, ex, hq⟩ := y
      subst e ex
      obtain ⟨x, dd, h1, h2, _⟩ := hk.key hkv
      subst h2
      exact turn { D' with bk := D'.nx } i x σ1 H3 (by rw [List.getElem?_map, h1]; rfl) hI _ (by
        rw [List.map_map] at hq
        have e : x.map (kV ∘ Sum.inr) = x.map V.str := rfl
        rw [e] at hq
        exact .tup hq (rpA_strs x))
    · have e : i = m.length := by omega
      subst e
      exact .inl ⟨⟨hd3, by rw [hl]; exact Nat.le_refl _⟩, fin I last σ1 H1 hI (iG _ _ _ hI)⟩
  obtain ⟨q, kvs, e, hr, hk⟩ := id hd
  cases e
  rcases hr with hr | ⟨o, hr⟩
  · have hH : H d = some (.dT kvs) := mu.sam _ _ hr
    refine ws (ps_lock (ps_w _)) ⟨d, .dT kvs, hH, trivial, fun od => ?_⟩
    have sl : Sm F (upd F d (.frz od (.dT kvs))) := Sm.lock hr trivial
    have nd : ∀ p, F p = none → p ≠ d := fun p hp e => by rw [e, hr] at hp; cases hp
    refine main _ (upd F d (.frz od (.dT kvs))) (upd H d (.frz od (.dT kvs))) od kvs sl (tp_upd hr fun _ z => nomatch z) (fun p hp => by rw [upd_ne (nd p hp)]; exact hp) ⟨fun b o e => ?_, fun q hq => ?_, mu.nd⟩ upd_same (hk.mono sl) fun I last σ1 H1 hI g => ⟨g _ _ upd_same, last σ1 H1 _ hI (fun b o e => ?_) (Sm.unlock (g _ _ upd_same)) fun p hp => by rw [upd_ne (nd p hp)]⟩
    · by_cases q : b = d
      · subst q
        rw [upd_same] at e ⊢
        exact e
      · rw [upd_ne q] at e ⊢
        exact mu.sam _ _ e
    · have z := mu.at_ q hq
      exact ⟨by rw [upd_ne (nd _ z.1)]; exact z.1, by rw [upd_ne (nd _ z.1)]; exact z.2.1, z.2.2⟩
    · by_cases q : b = d
      · subst q
        rw [hr] at e
        rw [upd_same]
        exact e
      · rw [upd_ne q]
        exact g _ _ (by rw [upd_ne q]; exact e)
  · exact main D F H o kvs (Sm.refl F) (fun _ _ h => h) (fun _ h => h) mu hr hk fun I last σ1 H1 hI g => last σ1 H1 H1 hI g (Sm.refl H1) fun _ _ => rfl
end
end My
/-! D16 -/
namespace My
open PySem L2
abbrev mW (m : Ways) : List (List Str × PyData) := m.map fun q => (q.1, .int q.2)
theorem lookT_W {m : Ways} {x : List Str} : (lookT (mW m) x).getD (.int 0) = .int (lookW m x) := by
  induction m with
  | nil => rfl
  | cons q m ih =>
    obtain ⟨k, d⟩ := q
    show (if k = x then some (PyData.int d) else lookT (mW m) x).getD _ = .int (if k = x then d else lookW m x)
    by_cases e : k = x
    · rw [if_pos e, if_pos e]; rfl
    · rw [if_neg e, if_neg e]; exact ih
theorem lookT_in {m : Ways} {x : List Str} {d : Int} (hn : (m.map (·.1)).Nodup) (h : (x, d) ∈ m) : lookT (mW m) x = some (.int d) := by
  induction m with
  | nil => cases h
  | cons q m ih =>
    obtain ⟨k, n⟩ := q
    rw [List.map_cons, List.nodup_cons] at hn
    show (if k = x then some (PyData.int n) else lookT (mW m) x) = _
    rcases List.mem_cons.mp h with e | h
    · cases e
      exact if_pos rfl
    · have ne : k ≠ x := fun e => hn.1 (List.mem_map.mpr ⟨(x, d), h, e.symm⟩)
      rw [if_neg ne]
      exact ih hn.2 h
theorem putT_W {m : Ways} {x : List Str} {d : Int} : putT (mW m) x (.int d) = mW (putW m x d) := by
  unfold putT putW
  have e : ((mW m).any fun q => decide (q.1 = x)) = m.any fun q => decide (q.1 = x) := by rw [List.any_map]; rfl
  rw [e]
  split
  · unfold mW
    rw [List.map_map, List.map_map]
    refine List.map_congr_left fun q _ => ?_
    show (if q.1 = x then (q.1, PyData.int d) else (q.1, .int q.2)) = ((if q.1 = x then (q.1, d) else q).1, PyData.int (if q.1 = x then (q.1, d) else q).2)
    by_cases c : q.1 = x
    · rw [if_pos c, if_pos c]
    · rw [if_neg c, if_neg c]
  · unfold mW
    rw [List.map_append]
    rfl
theorem Mu.low {F F2 H : Hp} {ms : List (Addr × HO)} (s : Same F F2) (m : Mu F2 ms H) : Mu F ms H := by
  refine ⟨s.trans m.sam, fun q hq => ⟨?_, (m.at_ q hq).2⟩, m.nd⟩
  cases e : F q.1 with
  | none => rfl
  | some o =>
    have z := (m.at_ q hq).1
    rw [s _ _ e] at z
    cases z
theorem ktA_ints {H : Hp} : ∀ {kvs : List (List Key × V)} {m : Ways}, KtA H kvs (mW m) → kvs.map Prod.snd = (m.map (·.2)).map V.int
  | [], [], _ => rfl
  | _ :: _, q :: m, h => by
    cases h with
    | cons r t =>
      cases r
      rw [List.map_cons, List.map_cons, List.map_cons, ktA_ints t]
theorem ktA_move {H H' : Hp} : ∀ {kvs : List (List Key × V)} {m : Ways}, KtA H kvs (mW m) → KtA H' kvs (mW m)
  | [], [], _ => .nil
  | _ :: _, q :: m, h => by
    cases h with
    | cons r t =>
      cases r
      exact .cons (.int _) (ktA_move t)
theorem ev_sumT {X : Cx} {σ : L2.St} {H : Hp} {o : Expr} {p pos apos mpos : Pos} {m : Ways} (hm : X.mg "sum" = none) (h : Ev X o σ H (DT (mW m))) (hc : X.calm = true := by rfl) (hg : Gl X "sum" := by rfl) (hbase : attributeBase o "values" X.env (eval o X.env) = eval o X.env := by rfl) (hline : (apos.endLine == mpos.line) = true := by rfl)
    (hse : starEach [Expr.Call (.Attribute o "values" apos) [] [] mpos] X.env = [(false, eval (Expr.Call (.Attribute o "values" apos) [] [] mpos) X.env)] := by rfl) : Ev X (.Call (.Name "sum" p) [.Call (.Attribute o "values" apos) [] [] mpos] [] pos) σ H (Is (.int (m.map (·.2)).sum)) := fun H1 mm Q z =>
  we (pe_sumT hc hg hm (pe_w o) hbase hline hse) (h H1 mm _ fun v H2 s2 ⟨a, kvs, e, hd, hk⟩ => ⟨a, kvs, _, e, hd, ktA_ints hk, z _ _ s2 (.int _)⟩)
section
variable {P : Program} {w : World} {K : PySem.W.Frag} {mg : Str → Option Value} {base : Heap}
abbrev sHow : Stmt := top 41
theorem sc_how : FnScope ["block", "pairs", "turn", "later", "ways", "found", "done", "name", "own"] ["block", "pairs"] (defScope sHow) := ⟨rfl, rfl, rfl, by decide +kernel, rfl, by decide +kernel, by decide +kernel⟩
abbrev CHow (P : Program) (w : World) (K : PySem.W.Frag) (mg : Str → Option Value) (base : Heap) : Prop := C8.Cal P w K mg base 10 "how_many_meeting" (PF APairs fun p => Is (.int (howM p.1 p.2))) []
theorem cal_how (F : Df K mg "how_many_meeting" sHow) (B : Blt mg) (c1 : CFol P w K mg base) (c2 : CReady P w K mg base) (c3 : CSetS P w K mg base) : CHow P w K mg base := by
  refine cal_pf (A := APairs) F sc_how (fun _ _ _ _ _ _ us hl => match us, hl with | [_, _], _ => rfl) (fun d vs H h => by obtain ⟨v, w, rfl, _⟩ := bl2 h.1; rfl) ?_
  intro f cdv Ar outer s H vs Q E ⟨b, ps⟩ hr ⟨h1, wf, hps⟩ q
  have wf : WF b := wf
  have hps : PairsOk b ps := hps
  have q : ∀ (v : V) (H' : Hp), Same H H' → Is (.int (howM b ps)) v H' → Q v H' := q
  obtain ⟨v, u, rfl, hv, hu⟩ := bl2 h1
  refine b_cons (s_par 3 4 sc_how.nd (wa (pa_cons (pe_w _) (pa_cons (pe_w _) pa_nil)) ?_))
  refine (ev_fol c1 hr wf hps (ev_name 0 (R := Is (eB b)) rfl hv) (ev_name 1 (R := Is (eM ps)) rfl hu)).go fun la H1 s1 rl => ?_
  refine e_dispT (ks := []) (R := Is (.int 1)) hr (ev_tup ea_isNil (by simp)) ev_int fun wd n0 H2 hw s2 r2 => ?_
  refine ⟨_, _, rfl, ?_⟩
  have en : n0 = .int 1 := is_int r2
  subst en
  have mu2 : Mu H1 [(wd, .dT [(List.map Sum.inr [], .int 1)])] (upd H2 wd (.dT [(List.map Sum.inr [], .int 1)])) := ((Mu.new (o := .dT []) (Mu.nil H1) hw (by intro _ z; cases z)).eval s2).put (by intro _ z; cases z)
  have dt0 : DT (mW (wRun b ps 0)) (.ref wd) (upd H2 wd (.dT [(List.map Sum.inr [], .int 1)])) := ⟨wd, _, rfl, .inl mu2.one, .cons (k := []) (.int 1) .nil⟩
  have rl2 : DK (folD b ps) la (upd H2 wd (.dT [(List.map Sum.inr [], .int 1)])) := Mono.up mu2.sm rl
  have s2' : Same H (upd H2 wd (.dT [(List.map Sum.inr [], .int 1)])) := s1.trans mu2.sam
  generalize upd H2 wd (.dT [(List.map Sum.inr [], .int 1)]) = H3 at dt0 rl2 s2'
  have ll : (folD b ps).length = b.rows.length := by rw [folD, List.length_map, List.length_map]
  refine b_cons (s_for (F := H3) (ps := []) (l := List.range b.rows.length) (enc := fun i => .int (i : Nat)) (srcF_range (Ev.is (ev_lenD B.len (ev_name 3 (R := DK (folD b ps)) rfl rl2)) (by rw [ll])) (by have := wf.few; omega) B.range) (Same.refl _) (by intro _ h; cases h) fun G H4 f4 tp4 np4 s4 g4 => ?_)
  refine ⟨fun i σ H => Same G H ∧ ∃ (t : Option V) (wd : Addr) (fo dn nm ow : Option V), σ = [some v, some u, t, some la, some (.ref wd), fo, dn, nm, ow] ∧ DT (mW (wRun b ps i)) (.ref wd) H,
    ⟨g4, none, wd, none, none, none, none, rfl, Mono.up (sm_of s4) dt0⟩, fun i σ H h => h.1, ?_, ?_⟩
  · rintro i x σ H5 H6 tv hx ⟨g5, t, wd, fo, dn, nm, ow, rfl, dt5⟩ s6 rt
    have dt6 := Mono.up (R := DT (mW (wRun b ps i))) (sm_of s6) dt5
    have rl6 : ∀ {H}, Sm H6 H → DK (folD b ps) la H := fun m => Mono.up ((sm_of (f4.trans (g5.trans s6))).trans m) rl2
    have hi : i < b.rows.length := by
      have z := (List.getElem?_eq_some_iff.mp hx).1
      rwa [List.length_range] at z
    have kl : ∀ q ∈ wRun b ps i, q.1.length ≤ 6 := fun q hq => Nat.le_trans (wRun_keylen i q hq) (by have := wf.few; omega)
    have wl : ∀ n, n ≤ 6 → (wRun b ps n).length ≤ 46656 := fun n hn => Nat.le_trans (wRun_len wf ps n) (Nat.le_trans (Nat.pow_le_pow_right (by decide) hn) (by decide))
    refine g_name 2 sc_how.nd ?_
    refine b_cons (s_setW 5 sc_how.nd (e_dict0T fun p hp => ?_))
    have mu7 : Mu H6 [(p, .dT [])] (upd H6 p (.dT [])) := Mu.new (Mu.nil H6) hp (by intro _ z; cases z)
    refine b_cons (s_forT (F := H6) (ms := [(p, .dT [])]) dt6 mu7 (fun H => at_name 4 rfl) fun F' H8 sm tp fr mu8 => ?_)
    refine ⟨fun k σ H => ∃ (kvs : List (List Key × V)) (dn nm ow : Option V), σ = [some v, some u, some tv, some la, some (.ref wd), some (.ref p), dn, nm, ow] ∧ Mu F' [(p, .dT kvs)] H ∧ KtA F' kvs (mW (((wRun b ps i).take k).foldl (fun f q => wIn q.1 q.2 (readyL b ps q.1) f) [])),
      ⟨[], dn, nm, ow, rfl, mu8, .nil⟩, fun k σ H ⟨_, _, _, _, _, m, _⟩ => m.sam, ?_, ?_⟩
    · rintro D0 k x σ H9 hx ⟨kvs, dn, nm, ow, rfl, mu9, hk9⟩ dv rd
      obtain ⟨n, hn⟩ : ∃ n, (wRun b ps i)[k]? = some (x, n) := by
        rw [List.map_map, List.getElem?_map] at hx
        obtain ⟨q, hq, e⟩ := Option.map_eq_some_iff.mp hx
        exact ⟨q.2, by rw [hq]; congr 1; exact Prod.ext e rfl⟩
      have xm : (x, n) ∈ wRun b ps i := List.mem_of_getElem? hn
      have xl : x.length ≤ 6 := kl _ xm
      refine g_name 6 sc_how.nd ?_
      obtain ⟨w1, w2, w3⟩ := mu9.wide
      have rd2 : Rp (Mu.rest [(p, .dT kvs)] H9) dv (eN x) := Rp.tps w3 _ _ (tupD_names x) rd
      have rlF : DK (folD b ps) la (Mu.rest [(p, .dT kvs)] H9) := rl6 (sm.trans (sm_of w1))
      have dtF : DT (mW (wRun b ps i)) (.ref wd) (Mu.rest [(p, .dT kvs)] H9) := Mono.up (sm.trans (sm_of w1)) dt6
      refine b_one (s_for (F := Mu.rest [(p, .dT kvs)] H9) (ps := [p]) (l := readyL b ps x) (enc := PyData.str) (srcF_list (evF_new (evN_ready c2 hr wf (ev_name 3 (R := DK (folD b ps)) rfl rlF) (sq_t (ev_name 6 (R := Is (eN x)) rfl rd2))) (tup_map (fun a => by simp [tupD]) _))) w2.sam w2.cond fun G2 H10 f10 tp10 np10 s10 g10 => ?_)
      have mu10 : Mu G2 [(p, .dT kvs)] H10 := ⟨g10, fun q hq => ⟨np10 _ (List.mem_map.mpr ⟨q, hq, rfl⟩), s10 _ _ (w2.at_ q hq).2.1, (w2.at_ q hq).2.2⟩, w2.nd⟩
      generalize hf0 : ((wRun b ps i).take k).foldl (fun f q => wIn q.1 q.2 (readyL b ps q.1) f) [] = f0 at hk9
      have f0l : f0.length ≤ 46656 * 6 := by
        have z := wFold_len wf ps ((wRun b ps i).take k) []
        rw [hf0, List.length_take, List.length_nil] at z
        have := wl i (by have := wf.few; omega)
        omega
      have l36 : (wRun b ps i).length ≤ 7776 := Nat.le_trans (wRun_len wf ps i) (Nat.le_trans (Nat.pow_le_pow_right (n := 6) (by decide) (show i ≤ 5 by have := wf.few; omega)) (by decide))
      have f0s : f0.length ≤ 46656 := by
        have z := wFold_len wf ps ((wRun b ps i).take k) []
        rw [hf0, List.length_take, List.length_nil] at z
        omega
      refine ⟨fun j σ H => ∃ (kvs : List (List Key × V)) (nm ow : Option V), σ = [some v, some u, some tv, some la, some (.ref wd), some (.ref p), some dv, nm, ow] ∧ Mu G2 [(p, .dT kvs)] H ∧ KtA G2 kvs (mW (wIn x n ((readyL b ps x).take j) f0)),
        ⟨kvs, nm, ow, rfl, mu10, ktA_move hk9⟩, fun j σ H ⟨_, _, _, _, m, _⟩ => m.sam, ?_, ?_⟩
      · rintro j y σ H11 H12 yv hy ⟨kvs, nm, ow, rfl, mu11, hk11⟩ s12 ry
        have mu12 := mu11.eval s12
        have ey := is_str ry
        subst ey
        have rd12 : ∀ {H}, Sm G2 H → Rp H dv (eN x) := fun m => Rp.mono ((sm_of f10).trans m) _ _ rd2
        refine g_name 7 sc_how.nd ?_
        refine b_cons (s_set 8 sc_how.nd (ev_setS (xs := x ++ [y]) c3 hr (sq_t (Ev.is (ev_tup (ea_star (sq_t (ev_name 6 (R := Is (eN x)) rfl (rd12 mu12.sm))) (ea_is (ev_name 7 (R := Is (.str y)) rfl (.str y)) ea_isNil)) ?_) ?_)) ?_) fun ov H13 s13 ro => ?_)
        · rw [List.length_append, List.length_map, List.length_cons, List.length_nil]
          omega
        · rw [List.map_append]
          rfl
        · rw [List.length_append, List.length_cons, List.length_nil]
          omega
        have mu13 := mu12.eval s13
        have dt13 : ∀ {H}, Mu G2 [(p, .dT kvs)] H → DT (mW (wIn x n ((readyL b ps x).take j) f0)) (.ref p) H := fun m => ⟨p, kvs, rfl, .inl m.one, ktA_move hk11⟩
        have dw13 : ∀ {H}, Mu G2 [(p, .dT kvs)] H → DT (mW (wRun b ps i)) (.ref wd) H := fun m => Mono.up (sm_of (f10.trans m.sam)) dtF
        have ro13 : Is (eN (setL ltK (x ++ [y]))) ov H13 := ro
        refine b_one (s_dputT hr (fun H => at_name 5 rfl) mu13.one (R := Is (.int (lookW (wIn x n ((readyL b ps x).take j) f0) (setL ltK (x ++ [y])) + n))) (ev_add (Ev.is (ev_dtget2 (m := mW (wIn x n ((readyL b ps x).take j) f0)) (x := setL ltK (x ++ [y])) hr (ev_name 5 rfl (dt13 mu13)) (ev_name 8 rfl ro13) ev_int ⟨rfl, rfl, rfl, rfl⟩) lookT_W) (ev_dt (m := mW (wRun b ps i)) (x := x) hr (ev_name 4 rfl (dw13 mu13)) (ev_name 6 rfl (rd12 mu13.sm)) (lookT_in (wRun_nd i) xm))) (fun H s => ev_name 8 rfl (Rp.mono (sm_of s) _ _ ro13)) ?_ fun nv H14 s14 rn => ?_)
        · have z := hk11.length
          rw [List.length_map] at z
          have z2 := wIn_len x n ((readyL b ps x).take j) f0
          rw [List.length_take] at z2
          have z3 := readyL_len wf ps x
          omega
        · refine ⟨_, _, _, rfl, (mu13.eval s14).put (by intro _ z; cases z), ?_⟩
          have z := hk11.put (setL ltK (x ++ [y])) (v := nv) (d := .int (lookW (wIn x n ((readyL b ps x).take j) f0) (setL ltK (x ++ [y])) + n)) (by cases rn; exact .int _)
          rw [putT_W] at z
          have e : wIn x n ((readyL b ps x).take (j + 1)) f0 = putW (wIn x n ((readyL b ps x).take j) f0) (setL ltK (x ++ [y])) (lookW (wIn x n ((readyL b ps x).take j) f0) (setL ltK (x ++ [y])) + n) := by
            rw [take_snoc hy]
            unfold wIn
            rw [List.foldl_append]
            rfl
          rw [e]
          exact z
      · rintro σ H11 ⟨kvs, nm, ow, rfl, mu11, hk11⟩
        rw [List.take_length] at hk11
        refine ⟨kvs, _, _, _, rfl, mu11.low (w1.trans f10), ?_⟩
        rw [take_snoc hn, List.foldl_append, hf0]
        exact ktA_move hk11
    · rintro σ H9 H10 ⟨kvs, dn, nm, ow, rfl, mu9, hk9⟩ g10 m10 np
      have el : (mW (wRun b ps i)).length = (wRun b ps i).length := List.length_map _
      rw [el, List.take_length] at hk9
      have hp10 : H10 p = some (.dT kvs) := (np p hp).trans mu9.one
      have dt10 : DT (mW (wRun b ps (i + 1))) (.ref p) H10 := ⟨p, kvs, rfl, .inl hp10, ktA_move hk9⟩
      refine b_one (s_set 4 sc_how.nd (ev_name 5 (R := DT (mW (wRun b ps (i + 1)))) rfl dt10) fun z H11 s11 rz => ?_)
      obtain ⟨d, kk, e, rest⟩ := id rz
      subst e
      exact ⟨(g5.trans s6).trans (g10.trans s11), _, d, _, _, _, _, rfl, rz⟩
  · rintro σ H5 ⟨g5, t, wd, fo, dn, nm, ow, rfl, dt5⟩
    rw [List.length_range] at dt5
    refine b_one (s_ret (ev_sumT B.sum (ev_name 4 (R := DT (mW (wRun b ps b.rows.length))) rfl dt5)) fun z H9 s9 r9 => q z H9 (s2'.trans (f4.trans (g5.trans s9))) r9)
end
end My
/-! P9 -/
/-! plain: ways_by, the least order, order_with_gap -/
namespace My
open PySem
def laterL (b : Blk) (L : List (List Str)) : List (List Str) := L.flatMap fun d => (freeL b d).map fun x => setL ltK (d ++ [x])
def lvl (b : Blk) : Nat → List (List Str)
  | 0 => [[]]
  | k + 1 => setL ltK (laterL b (lvl b k))
/-- what stands at d -/
def wSum (b : Blk) (m : Ways) (d : List Str) : Int := ((freeL b d).map fun x => lookW m (setL ltK (d ++ [x]))).sum
def wLvl (b : Blk) (L : List (List Str)) (m : Ways) : Ways := L.foldl (fun m d => putW m d (wSum b m d)) m
def topS (b : Blk) : List Str := (lvl b b.rows.length).headD []
/-- the levels, the last but one first -/
def downs (b : Blk) : List (List (List Str)) := ((List.range b.rows.length).map (lvl b)).reverse
def waysM (b : Blk) : Ways := (downs b).foldl (fun m L => wLvl b L m) [(topS b, 1)]
structure OkW (b : Blk) : Prop where
  few : ∀ k, k < b.rows.length → (laterL b (lvl b k)).length ≤ 70
  one : lvl b b.rows.length = [topS b]
  sz : ∀ k, k ≤ b.rows.length → (lvl b k).length ≤ 70
theorem lvl_rowlen {b : Blk} : ∀ k, ∀ d ∈ lvl b k, d.length ≤ k
  | 0, d, h => by rw [List.mem_singleton.mp h]; exact Nat.le_refl _
  | k + 1, d, h => by
    have h := (setL_mem ordK).mp h
    obtain ⟨c, hc, h⟩ := List.mem_flatMap.mp h
    obtain ⟨x, _, rfl⟩ := List.mem_map.mp h
    have z := lvl_rowlen k c hc
    refine Nat.le_trans setL_len_le ?_
    rw [List.length_append]
    exact Nat.succ_le_succ z
theorem lvl_next {b : Blk} {k : Nat} {d : List Str} (h : d ∈ lvl b k) {x : Str} (hx : x ∈ freeL b d) : setL ltK (d ++ [x]) ∈ lvl b (k + 1) :=
  (setL_mem ordK).mpr (List.mem_flatMap.mpr ⟨d, h, List.mem_map.mpr ⟨x, hx, rfl⟩⟩)
theorem putW_mem {m : Ways} {x : List Str} {d : Int} : x ∈ (putW m x d).map (·.1) := by
  unfold putW
  split
  · rename_i h
    obtain ⟨q, hq, e⟩ := List.any_eq_true.mp h
    have e : q.1 = x := of_decide_eq_true e
    exact List.mem_map.mpr ⟨(q.1, d), List.mem_map.mpr ⟨q, hq, if_pos e⟩, e⟩
  · rw [List.map_append]
    exact List.mem_append_right _ (List.mem_singleton.mpr rfl)
theorem putW_old {m : Ways} {x y : List Str} {d : Int} (h : y ∈ m.map (·.1)) : y ∈ (putW m x d).map (·.1) := by
  obtain ⟨q, hq, e⟩ := List.mem_map.mp h
  unfold putW
  split
  · by_cases c : q.1 = x
    · exact List.mem_map.mpr ⟨(q.1, d), List.mem_map.mpr ⟨q, hq, if_pos c⟩, e⟩
    · exact List.mem_map.mpr ⟨q, List.mem_map.mpr ⟨q, hq, if_neg c⟩, e⟩
  · rw [List.map_append]
    exact List.mem_append_left _ h
theorem wLvl_snoc (b : Blk) (L : List (List Str)) (d : List Str) (m : Ways) : wLvl b (L ++ [d]) m = putW (wLvl b L m) d (wSum b (wLvl b L m) d) := by
  unfold wLvl
  rw [List.foldl_append]
  rfl
theorem wLvl_nd {b : Blk} : ∀ (L : List (List Str)) (m : Ways), (m.map (·.1)).Nodup → ((wLvl b L m).map (·.1)).Nodup
  | [], m, h => h
  | d :: L, m, h => wLvl_nd L _ (putW_nd h)
theorem wLvl_old {b : Blk} {y : List Str} : ∀ (L : List (List Str)) (m : Ways), y ∈ m.map (·.1) → y ∈ (wLvl b L m).map (·.1)
  | [], m, h => h
  | d :: L, m, h => wLvl_old L _ (putW_old h)
theorem wLvl_mem {b : Blk} {y : List Str} : ∀ (L : List (List Str)) (m : Ways), y ∈ L → y ∈ (wLvl b L m).map (·.1)
  | d :: L, m, h => by
    rcases List.mem_cons.mp h with e | h
    · exact wLvl_old L _ (e ▸ putW_mem)
    · exact wLvl_mem L _ h
theorem wLvl_len {b : Blk} : ∀ (L : List (List Str)) (m : Ways), (wLvl b L m).length ≤ m.length + L.length
  | [], m => Nat.le_refl _
  | d :: L, m => by
    have z := wLvl_len (b := b) L (putW m d (wSum b m d))
    have z2 := putW_len m d (wSum b m d)
    show (wLvl b L (putW m d (wSum b m d))).length ≤ _
    rw [List.length_cons]
    omega
theorem lookW_in {m : Ways} {x : List Str} (h : x ∈ m.map (·.1)) : (x, lookW m x) ∈ m := by
  induction m with
  | nil => cases h
  | cons q m ih =>
    obtain ⟨k, d⟩ := q
    unfold lookW
    by_cases e : k = x
    · rw [if_pos e, e]
      exact List.mem_cons_self
    · rw [if_neg e]
      rw [List.map_cons] at h
      rcases List.mem_cons.mp h with z | z
      · exact absurd z.symm e
      · exact List.mem_cons_of_mem _ (ih z)
/-- the first free one each time -/
def leastN (b : Blk) : Nat → List Str
  | 0 => []
  | k + 1 => leastN b k ++ [(freeL b (leastN b k)).headD ⟨#[]⟩]
def leastO (b : Blk) : List Str := leastN b b.rows.length
structure OkL (b : Blk) : Prop where
  w : OkW b
  ne : ∀ k, k < b.rows.length → freeL b (leastN b k) ≠ []
  ps : ∀ k, k < b.rows.length → setL ltK (leastN b (k + 1)) ∈ (waysM b).map (·.1) ∧ 0 < lookW (waysM b) (setL ltK (leastN b (k + 1)))
  p0 : [] ∈ (waysM b).map (·.1) ∧ 0 < lookW (waysM b) []
def owg (b : Blk) (x : Str) (g : Nat) : List Str :=
  let row := leastO b
  let free := row.filter fun y => !decide (y = x) && (!decide (y ∈ needs b x) && !decide (y ∈ neededBy b x))
  row.filter (fun y => decide (y ∈ needs b x)) ++ (free.take (free.length - g) ++ ([x] ++ (free.drop (free.length - g) ++ row.filter (fun y => decide (y ∈ neededBy b x)))))
end My
/-! M1 -/
/-! plain: places, first readers, ticks by place -/
namespace My
open PySem
theorem mem_readers {b : Blk} (w : WF b) {x z : Str} : z ∈ readers b x ↔ x ∈ readsOf b z := by
  unfold readers
  constructor
  · intro h
    obtain ⟨r, hr, e⟩ := List.mem_map.mp h
    obtain ⟨h1, h2⟩ := List.mem_filter.mp hr
    rw [← e, readsOf_name w h1]
    simpa using h2
  · intro h
    unfold readsOf at h
    cases e : rowOf b z with
    | none => rw [e] at h; cases h
    | some r =>
      rw [e] at h
      obtain ⟨h1, h2⟩ := rowOf_mem e
      exact List.mem_map.mpr ⟨r, List.mem_filter.mpr ⟨h1, by simpa using h⟩, h2⟩
theorem readersSub {b : Blk} {x z : Str} (h : z ∈ readers b x) : z ∈ names b := by
  obtain ⟨r, hr, e⟩ := List.mem_map.mp h
  exact List.mem_map.mpr ⟨r, (List.mem_filter.mp hr).1, e⟩
theorem IsOrd.nd {b : Blk} {o : List Str} (w : WF b) (h : IsOrd b o) : o.Nodup := h.perm.nodup_iff.mpr w.nd
theorem IsOrd.size {b : Blk} {o : List Str} (h : IsOrd b o) : o.length = b.rows.length := by rw [h.perm.length_eq, List.length_map]
theorem IsOrd.in {b : Blk} {o : List Str} (h : IsOrd b o) {x : Str} : x ∈ o ↔ x ∈ names b := h.perm.mem_iff
theorem plcLt {o : List Str} {x : Str} (h : x ∈ o) : plc o x < o.length := by
  unfold plc
  exact List.findIdx_lt_length_of_exists ⟨x, h, by simp⟩
theorem plc_get {o : List Str} {x : Str} (h : x ∈ o) : o[plc o x]? = some x := by
  have lt := plcLt h
  rw [List.getElem?_eq_getElem lt]
  have := List.findIdx_getElem (xs := o) (p := fun y => decide (y = x)) (w := lt)
  have e : o[plc o x] = x := of_decide_eq_true this
  rw [e]
theorem plc_of {o : List Str} {x : Str} {i : Nat} (nd : o.Nodup) (h : o[i]? = some x) : plc o x = i := by
  have hm : x ∈ o := List.mem_of_getElem? h
  have h2 := plc_get hm
  exact (List.getElem?_inj (plcLt hm) nd).mp (h2.trans h.symm)
theorem plc_inj {o : List Str} {x y : Str} (h : x ∈ o) (h' : y ∈ o) (e : plc o x = plc o y) : x = y := by
  have a := plc_get h
  have c := plc_get h'
  rw [e, c] at a
  exact (Option.some.inj a).symm
theorem mem_take_plc {o : List Str} {x : Str} {i : Nat} (nd : o.Nodup) (h : x ∈ o) : x ∈ o.take i ↔ plc o x < i := by
  constructor
  · intro hx
    obtain ⟨j, hj, e⟩ := List.mem_take_iff_getElem.mp hx
    have : plc o x = j := plc_of nd (by rw [List.getElem?_eq_getElem (by omega), e])
    omega
  · intro lt
    have hl := plcLt h
    refine List.mem_take_iff_getElem.mpr ⟨plc o x, by omega, ?_⟩
    have := plc_get h
    rw [List.getElem?_eq_getElem hl] at this
    exact Option.some.inj this
/-- what is read stands ahead -/
theorem IsOrd.lt {b : Blk} {o : List Str} (w : WF b) (h : IsOrd b o) {x y : Str} (hy : y ∈ readsOf b x) (hx : x ∈ names b) : plc o y < plc o x := by
  have z := h.ahead _ _ (plc_get (h.in.mpr hx)) y hy
  exact (mem_take_plc (h.nd w) (List.mem_of_mem_take z)).mp z
theorem readsOf_src {b : Blk} {x y : Str} (hy : y ∈ readsOf b x) : x ∈ names b := (Need.one hy).src
theorem IsOrd.needLt {b : Blk} {o : List Str} (w : WF b) (h : IsOrd b o) {x y : Str} (hy : Need b x y) : plc o y < plc o x := by
  induction hy with
  | one g => exact h.lt w g (readsOf_src g)
  | step g _ ih => exact Nat.lt_trans ih (h.lt w g (readsOf_src g))
theorem minF_le : ∀ (ps : List Nat) (p : Nat), ps.foldl min p ≤ p ∧ ∀ q ∈ ps, ps.foldl min p ≤ q
  | [], p => ⟨Nat.le_refl _, fun _ h => (by cases h)⟩
  | q :: ps, p => by
    have h := minF_le ps (min p q)
    rw [List.foldl_cons]
    refine ⟨Nat.le_trans h.1 (Nat.min_le_left _ _), fun r hr => ?_⟩
    rcases List.mem_cons.mp hr with e | hr
    · rw [e]; exact Nat.le_trans h.1 (Nat.min_le_right _ _)
    · exact h.2 r hr
theorem minF_mem : ∀ (ps : List Nat) (p : Nat), ps.foldl min p = p ∨ ps.foldl min p ∈ ps
  | [], p => .inl rfl
  | q :: ps, p => by
    rw [List.foldl_cons]
    rcases minF_mem ps (min p q) with h | h
    · rw [h]
      rcases Nat.le_total p q with c | c
      · rw [Nat.min_eq_left c]; exact .inl rfl
      · rw [Nat.min_eq_right c]; exact .inr List.mem_cons_self
    · exact .inr (List.mem_cons_of_mem _ h)
theorem rplace_none {b : Blk} {o : List Str} {x : Str} (h : readers b x = []) : rplace b o x = o.length := by
  unfold rplace
  rw [h]
  rfl
theorem rplace_le {b : Blk} {o : List Str} {x z : Str} (h : z ∈ readers b x) : rplace b o x ≤ plc o z := by
  unfold rplace
  have hz : plc o z ∈ (readers b x).map (plc o) := List.mem_map.mpr ⟨z, h, rfl⟩
  cases e : (readers b x).map (plc o) with
  | nil => rw [e] at hz; cases hz
  | cons p ps =>
    rw [e] at hz
    show ps.foldl min p ≤ _
    rcases List.mem_cons.mp hz with q | q
    · rw [q]; exact (minF_le ps p).1
    · exact (minF_le ps p).2 _ q
theorem rplace_mem {b : Blk} {o : List Str} {x : Str} (h : readers b x ≠ []) : ∃ z ∈ readers b x, rplace b o x = plc o z := by
  have key : rplace b o x ∈ (readers b x).map (plc o) := by
    unfold rplace
    cases e : (readers b x).map (plc o) with
    | nil => exact absurd (List.map_eq_nil_iff.mp e) h
    | cons p ps =>
      show ps.foldl min p ∈ p :: ps
      rcases minF_mem ps p with q | q
      · rw [q]; exact List.mem_cons_self
      · exact List.mem_cons_of_mem _ q
  obtain ⟨z, hz, e⟩ := List.mem_map.mp key
  exact ⟨z, hz, e.symm⟩
theorem rplace_top {b : Blk} {o : List Str} (h : IsOrd b o) (x : Str) : rplace b o x ≤ o.length := by
  by_cases e : readers b x = []
  · rw [rplace_none e]; exact Nat.le_refl _
  · obtain ⟨z, hz, e2⟩ := rplace_mem (o := o) e
    rw [e2]
    exact Nat.le_of_lt (plcLt (h.in.mpr (readersSub hz)))
/-- a place lies ahead of the first reader if ahead of each, and within -/
theorem lt_rplace {b : Blk} {o : List Str} {x : Str} {i : Nat} (hi : i < o.length) (h : ∀ z ∈ readers b x, i < plc o z) : i < rplace b o x := by
  by_cases e : readers b x = []
  · rw [rplace_none e]; exact hi
  · obtain ⟨z, hz, e2⟩ := rplace_mem (o := o) e
    rw [e2]
    exact h z hz
theorem plc_rplace {b : Blk} {o : List Str} (w : WF b) (h : IsOrd b o) {x : Str} (hx : x ∈ names b) : plc o x < rplace b o x :=
  lt_rplace (plcLt (h.in.mpr hx)) fun z hz => h.lt w ((mem_readers w).mp hz) (readersSub hz)

/-! ### ticks -/
def tickOf (b : Blk) (ls : List (Str × Int)) (o : List Str) (i : Nat) : Int := (tkRun b ls (o.take (i + 1))).2
def prevOf (b : Blk) (ls : List (Str × Int)) (o : List Str) (i : Nat) : Int := (tkRun b ls (o.take i)).2
theorem lkT_append {f g : List Tk} {x : Str} : lkT (f ++ g) x = match lkT f x with | some d => some d | none => lkT g x := by
  induction f with
  | nil => rfl
  | cons p f ih =>
    obtain ⟨k, d⟩ := p
    show (if k = x then some d else lkT (f ++ g) x) = match (if k = x then some d else lkT f x) with | some d => some d | none => lkT g x
    by_cases e : k = x
    · rw [if_pos e, if_pos e]
    · rw [if_neg e, if_neg e]; exact ih
theorem lkT_none {f : List Tk} {x : Str} (h : x ∉ f.map (·.1)) : lkT f x = none := by
  induction f with
  | nil => rfl
  | cons p f ih =>
    obtain ⟨k, d⟩ := p
    rw [List.map_cons, List.mem_cons, not_or] at h
    unfold lkT
    rw [if_neg (fun e => h.1 e.symm)]
    exact ih h.2
section
variable {b : Blk} {ls : List (Str × Int)} {o : List Str}
theorem take_succ' {i : Nat} {x : Str} (h : o[i]? = some x) : o.take (i + 1) = o.take i ++ [x] := by
  rw [List.take_succ, h]
  rfl
theorem prev_succ (i : Nat) : prevOf b ls o (i + 1) = tickOf b ls o i := rfl
theorem tick_eq {i : Nat} {x : Str} (h : o[i]? = some x) : tickOf b ls o i = tickAt b (tkRun b ls (o.take i)).1 (prevOf b ls o i) x := by
  unfold tickOf
  rw [take_succ' h, tkRun_snoc]
  rfl
theorem come_at (nd : o.Nodup) {i : Nat} {x : Str} (h : o[i]? = some x) : ∀ k, i < k → k ≤ o.length → come (tkRun b ls (o.take k)).1 x = tickOf b ls o i + lat b ls x
  | 0, h1, _ => by omega
  | k + 1, h1, h2 => by
    have hk : o[k]? = some o[k] := List.getElem?_eq_getElem (by omega)
    rw [take_succ' hk, tkRun_snoc]
    show ((lkT ((tkRun b ls (o.take k)).1 ++ [_]) x).getD (0, 0)).2 = _
    rw [lkT_append]
    by_cases e : i = k
    · subst e
      have ex : o[i] = x := by rw [hk] at h; exact Option.some.inj h
      have nx : x ∉ (tkRun b ls (o.take i)).1.map (·.1) := by
        rw [tkRun_keys]
        intro hx
        have hm : x ∈ o := List.mem_of_getElem? h
        have := (mem_take_plc nd hm).mp hx
        rw [plc_of nd h] at this
        omega
      rw [lkT_none nx, tick_eq h]
      simp only [lkT, ex, if_true]
      rfl
    · have hx : x ∈ (tkRun b ls (o.take k)).1.map (·.1) := by
        rw [tkRun_keys]
        have hm : x ∈ o := List.mem_of_getElem? h
        exact (mem_take_plc nd hm).mpr (by rw [plc_of nd h]; omega)
      obtain ⟨d, hd⟩ := lkT_mem hx
      have ih := come_at nd h k (by omega) (by omega)
      unfold come at ih
      rw [hd] at ih ⊢
      exact ih
variable (w : WF b) (ho : IsOrd b o)
include w ho
theorem tick_prev {i : Nat} (h : i < o.length) : prevOf b ls o i + 1 ≤ tickOf b ls o i := by
  rw [tick_eq (List.getElem?_eq_getElem h)]
  exact (maxL_le _ _).1
theorem tick_read {i j : Nat} {x y : Str} (h : o[i]? = some x) (hy : y ∈ readsOf b x) (hj : o[j]? = some y) : tickOf b ls o j + lat b ls y ≤ tickOf b ls o i := by
  have nd := ho.nd w
  have hx : x ∈ names b := ho.in.mp (List.mem_of_getElem? h)
  have lt := ho.lt w hy hx
  rw [plc_of nd h, plc_of nd hj] at lt
  have il : i < o.length := (List.getElem?_eq_some_iff.mp h).1
  rw [tick_eq h]
  refine Int.le_trans (Int.le_of_eq ?_) ((maxL_le _ _).2 _ (List.mem_map.mpr ⟨y, hy, rfl⟩))
  exact (come_at nd hj i lt (by omega)).symm
theorem tick_or {i : Nat} {x : Str} (h : o[i]? = some x) : tickOf b ls o i = prevOf b ls o i + 1 ∨ ∃ y ∈ readsOf b x, ∃ j, j < i ∧ o[j]? = some y ∧ tickOf b ls o i = tickOf b ls o j + lat b ls y := by
  have nd := ho.nd w
  have il : i < o.length := (List.getElem?_eq_some_iff.mp h).1
  rw [tick_eq h]
  rcases maxL_mem (prevOf b ls o i + 1) ((readsOf b x).map (come (tkRun b ls (o.take i)).1)) with e | e
  · exact .inl e
  · obtain ⟨y, hy, e⟩ := List.mem_map.mp e
    have hx : x ∈ names b := ho.in.mp (List.mem_of_getElem? h)
    have lt := ho.lt w hy hx
    rw [plc_of nd h] at lt
    have hm : y ∈ o := ho.in.mpr (readsOf_sub w hy)
    refine .inr ⟨y, hy, plc o y, lt, plc_get hm, ?_⟩
    unfold tickAt
    rw [← e]
    exact come_at nd (plc_get hm) i lt (by omega)
theorem tick_mono {i : Nat} : ∀ {j : Nat}, i ≤ j → j < o.length → tickOf b ls o i + ((j : Int) - i) ≤ tickOf b ls o j
  | 0, h1, h2 => by
    have : i = 0 := by omega
    subst this
    omega
  | j + 1, h1, h2 => by
    have p := tick_prev (ls := ls) w ho h2
    rw [prev_succ] at p
    rcases Nat.lt_or_ge j i with c | c
    · have : i = j + 1 := by omega
      subst this
      omega
    · have ih := tick_mono (i := i) (j := j) c (by omega)
      omega
theorem tick_ge {i : Nat} (h : i < o.length) : (i : Int) ≤ tickOf b ls o i := by
  have z := tick_prev (ls := ls) w ho (i := 0) (by omega)
  have z0 : prevOf b ls o 0 = -1 := rfl
  have := tick_mono (ls := ls) w ho (i := 0) (j := i) (by omega) h
  omega
theorem run_ticks : ∀ k, k ≤ o.length → (tkRun b ls (o.take k)).1.map (fun t => t.2.1) = (List.range k).map (tickOf b ls o)
  | 0, _ => rfl
  | k + 1, h => by
    have hk : o[k]? = some o[k] := List.getElem?_eq_getElem (by omega)
    rw [take_succ' hk, tkRun_snoc, List.range_succ, List.map_append, ← run_ticks k (by omega)]
    show ((tkRun b ls (o.take k)).1 ++ [_]).map _ = _
    rw [List.map_append, List.map_singleton, List.map_singleton, tick_eq hk]
    rfl
theorem end_issue {i : Nat} (h : i < o.length) : tickOf b ls o i + 1 ≤ endOf b o ls := by
  have e := run_ticks (ls := ls) w ho o.length (Nat.le_refl _)
  rw [List.take_length] at e
  unfold endOf
  refine (maxL_le 0 _).2 _ (List.mem_append_left _ ?_)
  have z : tickOf b ls o i ∈ (tkRun b ls o).1.map (fun t => t.2.1) := by
    rw [e]
    exact List.mem_map.mpr ⟨i, List.mem_range.mpr h, rfl⟩
  obtain ⟨t, ht, e2⟩ := List.mem_map.mp z
  exact List.mem_map.mpr ⟨t, ht, by rw [e2]⟩
theorem come_end {i : Nat} {x : Str} (h : o[i]? = some x) : come (tkRun b ls o).1 x = tickOf b ls o i + lat b ls x := by
  have z := come_at (b := b) (ls := ls) (ho.nd w) h o.length (List.getElem?_eq_some_iff.mp h).1 (Nat.le_refl _)
  rwa [List.take_length] at z
theorem end_live {i : Nat} {x : Str} (h : o[i]? = some x) (hl : x ∈ b.live) : tickOf b ls o i + lat b ls x ≤ endOf b o ls := by
  unfold endOf
  refine (maxL_le 0 _).2 _ (List.mem_append_right _ ?_)
  exact List.mem_map.mpr ⟨x, hl, come_end w ho h⟩
theorem end_le {m : Int} (h0 : 0 ≤ m) (h1 : ∀ i, i < o.length → tickOf b ls o i + 1 ≤ m) (h2 : ∀ i x, o[i]? = some x → x ∈ b.live → tickOf b ls o i + lat b ls x ≤ m) : endOf b o ls ≤ m := by
  have e := run_ticks (ls := ls) w ho o.length (Nat.le_refl _)
  rw [List.take_length] at e
  unfold endOf
  rcases maxL_mem 0 (((tkRun b ls o).1.map fun t => t.2.1 + 1) ++ b.live.map (come (tkRun b ls o).1)) with q | q
  · rw [q]; exact h0
  · rcases List.mem_append.mp q with q | q
    · obtain ⟨t, ht, e2⟩ := List.mem_map.mp q
      have z : t.2.1 ∈ (tkRun b ls o).1.map (fun t => t.2.1) := List.mem_map.mpr ⟨t, ht, rfl⟩
      rw [e] at z
      obtain ⟨i, hi, e3⟩ := List.mem_map.mp z
      rw [← e2, ← e3]
      exact h1 i (List.mem_range.mp hi)
    · obtain ⟨x, hx, e2⟩ := List.mem_map.mp q
      have hm : x ∈ o := ho.in.mpr (w.lv x hx)
      rw [← e2, come_end w ho (plc_get hm)]
      exact h2 _ _ (plc_get hm) hx
/-- all slow ones start ahead of m, are read from m on, and have come by m + D -/
theorem ends_upper {m : Nat} {D : Int} (hD : 0 ≤ D) (hl : ∀ x ∈ names b, lat b ls x = 1 ∨ (plc o x < m ∧ (∀ z ∈ readers b x, m ≤ plc o z) ∧ ((m < o.length ∨ x ∈ b.live) → (plc o x : Int) + lat b ls x ≤ m + D))) (hm : m ≤ o.length) : endOf b o ls ≤ o.length + D := by
  have nd := ho.nd w
  have key : ∀ i, i < o.length → tickOf b ls o i ≤ i + (if m ≤ i then D else 0) := by
    intro i
    induction i using Nat.strongRecOn with
    | ind i ih =>
      intro hi
      have hx : o[i]? = some o[i] := List.getElem?_eq_getElem hi
      rcases tick_or (ls := ls) w ho hx with e | ⟨y, hy, j, hj, hyj, e⟩
      · rw [e]
        cases i with
        | zero =>
          have z0 : prevOf b ls o 0 = -1 := rfl
          rw [z0]
          split <;> omega
        | succ k =>
          rw [prev_succ]
          have := ih k (by omega) (by omega)
          split at this <;> split <;> omega
      · rw [e]
        have ihj := ih j hj (by omega)
        have py : plc o y = j := plc_of nd hyj
        have px : plc o o[i] = i := plc_of nd hx
        rcases hl y (readsOf_sub w hy) with l1 | ⟨a1, a2, a3⟩
        · rw [l1]
          split at ihj <;> split <;> omega
        · have c1 := a2 o[i] ((mem_readers w).mpr hy)
          rw [px] at c1
          have c2 := a3 (.inl (by omega))
          rw [py] at a1 c2
          rw [if_neg (by omega)] at ihj
          rw [if_pos c1]
          omega
  refine end_le w ho (by omega) (fun i hi => ?_) fun i x hx hlv => ?_
  · have := key i hi
    split at this <;> omega
  · have hi : i < o.length := (List.getElem?_eq_some_iff.mp hx).1
    have z := key i hi
    have px : plc o x = i := plc_of nd hx
    rcases hl x (ho.in.mp (List.mem_of_getElem? hx)) with l1 | ⟨a1, a2, a3⟩
    · rw [l1]
      split at z <;> omega
    · have c2 := a3 (.inr hlv)
      rw [px] at a1 c2
      rw [if_neg (by omega)] at z
      omega
end
end My
/-! M2 -/
/-! plain: the ends with one slow, with two -/
namespace My
open PySem
theorem lkI_map {g : Str → Int} : ∀ {xs : List Str} {x : Str}, x ∈ xs → lkI (xs.map fun y => (y, g y)) x = some (g x)
  | [], _, h => by cases h
  | y :: xs, x, h => by
    rw [List.map_cons]
    unfold lkI
    by_cases e : y = x
    · rw [if_pos e, e]
    · rw [if_neg e]
      rcases List.mem_cons.mp h with q | q
      · exact absurd q.symm e
      · exact lkI_map q
theorem slowed_eq (b : Blk) (m : List (Str × Int)) : slowed b m = (slows b).map fun x => (x, 1 + (lkI m x).getD 0) := by
  unfold slowed slows
  rw [List.map_map]
  rfl
theorem mem_slows {b : Blk} (w : WF b) {x : Str} : x ∈ slows b ↔ slowOf b x = true := by
  unfold slows
  constructor
  · intro h
    obtain ⟨r, hr, e⟩ := List.mem_map.mp h
    obtain ⟨h1, h2⟩ := List.mem_filter.mp hr
    rw [← e, slowOf_name w h1]
    exact h2
  · intro h
    unfold slowOf at h
    cases e : rowOf b x with
    | none => rw [e] at h; cases h
    | some r =>
      rw [e] at h
      obtain ⟨h1, h2⟩ := rowOf_mem e
      exact List.mem_map.mpr ⟨r, List.mem_filter.mpr ⟨h1, h⟩, h2⟩
theorem lat_slowed {b : Blk} (w : WF b) (m : List (Str × Int)) (x : Str) : lat b (slowed b m) x = if x ∈ slows b then 1 + (lkI m x).getD 0 else 1 := by
  unfold lat
  by_cases h : slowOf b x = true
  · rw [if_pos h, if_pos ((mem_slows w).mpr h), slowed_eq, lkI_map ((mem_slows w).mpr h)]
    rfl
  · rw [if_neg h, if_neg (fun z => h ((mem_slows w).mp z))]
theorem mem_awaited {b : Blk} {x : Str} : x ∈ awaited b ↔ x ∈ slows b ∧ (x ∈ b.live ∨ readers b x ≠ []) := by
  unfold awaited
  rw [List.mem_filter]
  simp only [Bool.or_eq_true, decide_eq_true_eq, List.length_pos_iff]
theorem slows_in {b : Blk} {x : Str} (h : x ∈ slows b) : x ∈ names b := by
  obtain ⟨r, hr, e⟩ := List.mem_map.mp h
  exact List.mem_map.mpr ⟨r, (List.mem_filter.mp hr).1, e⟩
theorem awaited_in {b : Blk} {x : Str} (h : x ∈ awaited b) : x ∈ names b := slows_in (mem_awaited.mp h).1
def gapO (b : Blk) (o : List Str) (x : Str) : Int := (rplace b o x : Int) - plc o x - 1
section
variable {b : Blk} {o : List Str} (w : WF b) (ho : IsOrd b o)
include w ho
theorem end_n (ls : List (Str × Int)) : (o.length : Int) ≤ endOf b o ls := by
  rcases Nat.eq_zero_or_pos o.length with e | e
  · rw [e]
    unfold endOf
    exact (maxL_le 0 _).1
  · have h1 := end_issue (ls := ls) w ho (i := o.length - 1) (by omega)
    have h2 := tick_ge (ls := ls) w ho (i := o.length - 1) (by omega)
    omega
/-- an awaited one: from its issue to the end at least its latency and what stands behind its first reader -/
theorem end_lower (ls : List (Str × Int)) {x : Str} (hx : x ∈ awaited b) {t : Int} (ht : t ≤ tickOf b ls o (plc o x)) : t + lat b ls x + ((o.length : Int) - rplace b o x) ≤ endOf b o ls := by
  have hn := awaited_in hx
  have hm : x ∈ o := ho.in.mpr hn
  by_cases e : readers b x = []
  · rw [rplace_none e]
    rcases (mem_awaited.mp hx).2 with h | h
    · have := end_live (ls := ls) w ho (plc_get hm) h
      omega
    · exact absurd e h
  · obtain ⟨z, hz, e2⟩ := rplace_mem (o := o) e
    have hzo : z ∈ o := ho.in.mpr (readersSub hz)
    have h1 := tick_read (ls := ls) w ho (plc_get hzo) ((mem_readers w).mp hz) (plc_get hm)
    have lz := plcLt hzo
    have h2 := end_issue (ls := ls) w ho (i := o.length - 1) (by omega)
    have h3 := tick_mono (ls := ls) w ho (i := plc o z) (j := o.length - 1) (by omega) (by omega)
    rw [e2]
    omega
theorem end_one {x : Str} (hx : x ∈ slows b) {M : Int} (hM : (o.length : Int) ≤ M) : endOf b o (slowed b [(x, M)]) = if x ∈ awaited b then o.length + M - gapO b o x else o.length := by
  have hn := slows_in hx
  have hm : x ∈ o := ho.in.mpr hn
  have lx : lat b (slowed b [(x, M)]) x = 1 + M := by
    rw [lat_slowed w, if_pos hx]
    simp [lkI]
  have ly : ∀ y, y ≠ x → lat b (slowed b [(x, M)]) y = 1 := fun y hy => by
    rw [lat_slowed w]
    split
    · unfold lkI
      rw [if_neg (fun e => hy e.symm)]
      rfl
    · rfl
  have pr := plc_rplace w ho hn
  have rt := rplace_top ho x
  by_cases ha : x ∈ awaited b
  · rw [if_pos ha]
    refine Int.le_antisymm ?_ ?_
    · have hD : 0 ≤ M - gapO b o x := by
        unfold gapO
        omega
      have z := ends_upper (ls := slowed b [(x, M)]) w ho (m := rplace b o x) (D := M - gapO b o x) hD (fun y hy => ?_) rt
      · omega
      · by_cases e : y = x
        · subst e
          refine .inr ⟨pr, fun z hz => rplace_le hz, fun _ => ?_⟩
          rw [lx]
          unfold gapO
          omega
        · exact .inl (ly y e)
    · have z := end_lower w ho (slowed b [(x, M)]) ha (tick_ge (ls := slowed b [(x, M)]) w ho (plcLt hm))
      rw [lx] at z
      unfold gapO
      omega
  · rw [if_neg ha]
    refine Int.le_antisymm ?_ (end_n w ho _)
    have na : x ∉ b.live ∧ readers b x = [] := by
      rw [mem_awaited] at ha
      constructor
      · intro h; exact ha ⟨hx, .inl h⟩
      · exact Classical.byContradiction fun h => ha ⟨hx, .inr h⟩
    have z := ends_upper (ls := slowed b [(x, M)]) w ho (m := o.length) (D := 0) (Int.le_refl _) (fun y hy => ?_) (Nat.le_refl _)
    · omega
    · by_cases e : y = x
      · subst e
        exact .inr ⟨plcLt hm, fun z hz => (by rw [na.2] at hz; cases hz), fun h => h.elim (fun h => absurd h (Nat.lt_irrefl _)) fun h => absurd h na.1⟩
      · exact .inl (ly y e)
/-- two awaited ones, both slow by M -/
theorem end_two {x y : Str} (hx : x ∈ awaited b) (hy : y ∈ awaited b) (ne : x ≠ y) {M : Int} (hM : 4 * (o.length : Int) + 2 ≤ M) : decide (2 * M - 2 * o.length < endOf b o (slowed b [(x, M), (y, M)])) = !meets b o x y := by
  have xn := awaited_in hx
  have yn := awaited_in hy
  have hxo : x ∈ o := ho.in.mpr xn
  have hyo : y ∈ o := ho.in.mpr yn
  have xs := (mem_awaited.mp hx).1
  have ys := (mem_awaited.mp hy).1
  generalize hls : slowed b [(x, M), (y, M)] = ls
  have lx : lat b ls x = 1 + M := by
    rw [← hls, lat_slowed w, if_pos xs]
    simp [lkI]
  have ly : lat b ls y = 1 + M := by
    rw [← hls, lat_slowed w, if_pos ys]
    unfold lkI
    rw [if_neg ne]
    simp [lkI]
  have lz : ∀ z, z ≠ x → z ≠ y → lat b ls z = 1 := fun z h1 h2 => by
    rw [← hls, lat_slowed w]
    split
    · unfold lkI
      rw [if_neg (fun e => h1 e.symm)]
      unfold lkI
      rw [if_neg (fun e => h2 e.symm)]
      rfl
    · rfl
  have apart : ∀ x y : Str, x ∈ awaited b → y ∈ awaited b → lat b ls x = 1 + M → lat b ls y = 1 + M → rplace b o x ≤ plc o y → 2 * M - 2 * (o.length : Int) < endOf b o ls := fun x y hx hy lx ly h => by
    have hyo : y ∈ o := ho.in.mpr (awaited_in hy)
    have hxo : x ∈ o := ho.in.mpr (awaited_in hx)
    have ly' := plcLt hyo
    have ne : readers b x ≠ [] := fun e => by
      rw [rplace_none e] at h
      omega
    obtain ⟨z, hz, e2⟩ := rplace_mem (o := o) ne
    have hzo : z ∈ o := ho.in.mpr (readersSub hz)
    have h1 := tick_read (ls := ls) w ho (plc_get hzo) ((mem_readers w).mp hz) (plc_get hxo)
    have h2 := tick_ge (ls := ls) w ho (plcLt hxo)
    have h3 := tick_mono (ls := ls) w ho (i := plc o z) (j := plc o y) (by omega) (by omega)
    have h4 := end_lower w ho ls hy (t := 1 + M) (by omega)
    have h5 := rplace_top ho y
    omega
  by_cases hm : meets b o x y = true
  · rw [hm, Bool.not_true, decide_eq_false_iff_not, Int.not_lt]
    unfold meets at hm
    rw [Bool.and_eq_true, decide_eq_true_eq, decide_eq_true_eq] at hm
    have px := plc_rplace w ho xn
    have py := plc_rplace w ho yn
    have tx := rplace_top ho x
    have ty := rplace_top ho y
    have z := ends_upper (ls := ls) w ho (m := min (rplace b o x) (rplace b o y)) (D := 1 + M) (by omega) (fun u hu => ?_) (by omega)
    · omega
    · by_cases e1 : u = x
      · subst e1
        exact .inr ⟨by omega, fun z hz => Nat.le_trans (Nat.min_le_left _ _) (rplace_le hz), fun _ => by omega⟩
      · by_cases e2 : u = y
        · subst e2
          exact .inr ⟨by omega, fun z hz => Nat.le_trans (Nat.min_le_right _ _) (rplace_le hz), fun _ => by omega⟩
        · exact .inl (lz u e1 e2)
  · have hm' : meets b o x y = false := by simpa using hm
    rw [hm', Bool.not_false, decide_eq_true_eq]
    unfold meets at hm'
    rw [Bool.and_eq_false_iff, decide_eq_false_iff_not, decide_eq_false_iff_not] at hm'
    rcases hm' with h | h
    · exact apart y x hy hx ly lx (by omega)
    · exact apart x y hx hy lx ly (by omega)
theorem meets_comm (x y : Str) : meets b o x y = meets b o y x := by
  unfold meets
  rw [Bool.and_comm]
end
end My
/-! M3 -/
/-! plain: orders there are; the greatest gap; who can meet -/
namespace My
open PySem
theorem isOrd_of {b : Blk} {o : List Str} (w : WF b) (pm : o.Perm (names b)) (h : ∀ x ∈ names b, ∀ y ∈ readsOf b x, plc o y < plc o x) : IsOrd b o := by
  have nd : o.Nodup := pm.nodup_iff.mpr w.nd
  refine ⟨pm, fun i x hx y hy => ?_⟩
  have hm : x ∈ o := List.mem_of_getElem? hx
  have lt := h x (pm.mem_iff.mp hm) y hy
  rw [plc_of nd hx] at lt
  exact (mem_take_plc nd (pm.mem_iff.mpr (readsOf_sub w hy))).mpr lt
theorem pw_plc {o : List Str} {R : Str → Str → Prop} (h : o.Pairwise R) {x y : Str} (hx : x ∈ o) (hy : y ∈ o) (ne : x ≠ y) (n : ¬ R y x) : plc o x < plc o y := by
  rcases Nat.lt_or_ge (plc o x) (plc o y) with c | c
  · exact c
  · exfalso
    have ne2 : plc o y ≠ plc o x := fun e => ne (plc_inj hx hy e.symm)
    have lx := plcLt hx
    have ly := plcLt hy
    have z := List.pairwise_iff_getElem.mp h (plc o y) (plc o x) ly lx (by omega)
    have e1 := plc_get hx
    have e2 := plc_get hy
    rw [List.getElem?_eq_getElem lx] at e1
    rw [List.getElem?_eq_getElem ly] at e2
    rw [Option.some.inj e1, Option.some.inj e2] at z
    exact n z
/-- there is an order that goes by any key that grows along the reads -/
theorem exists_order {b : Blk} (w : WF b) (K : Str → Nat) (h : ∀ x ∈ names b, ∀ y ∈ readsOf b x, K y < K x) : ∃ o, IsOrd b o ∧ ∀ x ∈ names b, ∀ y ∈ names b, K x < K y → plc o x < plc o y := by
  have pm : ((names b).mergeSort fun x y => decide (K x ≤ K y)).Perm (names b) := List.mergeSort_perm _ _
  have pw : ((names b).mergeSort fun x y => decide (K x ≤ K y)).Pairwise fun x y => decide (K x ≤ K y) = true := List.pairwise_mergeSort (fun x y z h1 h2 => by
    simp only [decide_eq_true_eq] at h1 h2 ⊢
    omega) (fun x y => by
    simp only [Bool.or_eq_true, decide_eq_true_eq]
    omega) _
  generalize (names b).mergeSort (fun x y => decide (K x ≤ K y)) = o at pm pw
  have key : ∀ x ∈ names b, ∀ y ∈ names b, K x < K y → plc o x < plc o y := fun x hx y hy lt => by
    refine pw_plc pw (pm.mem_iff.mpr hx) (pm.mem_iff.mpr hy) (fun e => by rw [e] at lt; omega) fun z => ?_
    simp only [decide_eq_true_eq] at z
    omega
  exact ⟨o, isOrd_of w pm fun x hx y hy => key y (readsOf_sub w hy) x hx (h x hx y hy), key⟩
theorem some_order {b : Blk} (w : WF b) : ∃ o, IsOrd b o := by
  obtain ⟨rk, hr⟩ := w.rk
  obtain ⟨o, ho, _⟩ := exists_order w rk fun x _ y hy => readsOf_rank hr hy
  exact ⟨o, ho⟩
/-- by blocks -/
theorem exists_by {b : Blk} (w : WF b) (c : Str → Nat) (h : ∀ x ∈ names b, ∀ y ∈ readsOf b x, c y ≤ c x) : ∃ o, IsOrd b o ∧ ∀ x ∈ names b, ∀ y ∈ names b, c x < c y → plc o x < plc o y := by
  obtain ⟨o0, h0⟩ := some_order w
  have top : ∀ x ∈ names b, plc o0 x < o0.length := fun x hx => plcLt (h0.in.mpr hx)
  obtain ⟨o, ho, hk⟩ := exists_order w (fun x => c x * o0.length + plc o0 x) fun x hx y hy => by
    have h1 := Nat.mul_le_mul_right o0.length (h x hx y hy)
    have h2 := h0.lt w hy hx
    show c y * o0.length + plc o0 y < c x * o0.length + plc o0 x
    omega
  refine ⟨o, ho, fun x hx y hy lt => hk x hx y hy ?_⟩
  have h1 := Nat.mul_le_mul_right o0.length (show c x + 1 ≤ c y from lt)
  have h2 := top x hx
  rw [Nat.succ_mul] at h1
  show c x * o0.length + plc o0 x < c y * o0.length + plc o0 y
  omega
/-! ### all orders are listed -/
structure Pre (b : Blk) (k : Nat) (o : List Str) : Prop where
  len : o.length = k
  nd : o.Nodup
  sub : ∀ x ∈ o, x ∈ names b
  ahead : ∀ i x, o[i]? = some x → ∀ y ∈ readsOf b x, y ∈ o.take i
theorem mem_freeL {b : Blk} {d : List Str} {x : Str} : x ∈ freeL b d ↔ x ∈ names b ∧ x ∉ d ∧ ∀ y ∈ readsOf b x, y ∈ d := by
  unfold freeL
  rw [List.mem_filter]
  simp [List.all_eq_true]
theorem mem_ordsN {b : Blk} : ∀ (k : Nat) (o : List Str), o ∈ ordsN b k ↔ Pre b k o
  | 0, o => by
    show o ∈ [[]] ↔ _
    rw [List.mem_singleton]
    constructor
    · rintro rfl
      exact ⟨rfl, List.nodup_nil, fun _ h => (by cases h), fun i x h => (by simp at h)⟩
    · intro h
      exact List.length_eq_zero_iff.mp h.len
  | k + 1, o => by
    show o ∈ ordStep b (ordsN b k) ↔ _
    unfold ordStep
    rw [List.mem_flatMap]
    constructor
    · rintro ⟨p, hp, ho⟩
      obtain ⟨x, hx, rfl⟩ := List.mem_map.mp ho
      have P := (mem_ordsN k p).mp hp
      obtain ⟨f1, f2, f3⟩ := mem_freeL.mp hx
      refine ⟨by rw [List.length_append, P.len]; rfl, List.nodup_append.mpr ⟨P.nd, by simp, fun a ha c hc => by
        rw [List.mem_singleton.mp hc]
        rintro rfl
        exact f2 ha⟩, fun y hy => ?_, fun i y hy z hz => ?_⟩
      · rcases List.mem_append.mp hy with h | h
        · exact P.sub y h
        · rw [List.mem_singleton.mp h]; exact f1
      · rcases Nat.lt_or_ge i p.length with c | c
        · rw [List.getElem?_append_left c] at hy
          rw [List.take_append_of_le_length (by omega)]
          exact P.ahead i y hy z hz
        · rw [List.getElem?_append_right c] at hy
          have e : i - p.length = 0 := by
            rcases Nat.eq_zero_or_pos (i - p.length) with e | e
            · exact e
            · rw [List.getElem?_eq_none (by simp; omega)] at hy
              cases hy
          rw [e] at hy
          have ey : x = y := by simpa using hy
          have ei : i = p.length := by omega
          subst ey
          rw [ei, List.take_left' rfl]
          exact f3 z hz
    · intro P
      have ne : o ≠ [] := by
        rintro rfl
        have := P.len
        simp at this
      obtain ⟨p, x, rfl⟩ : ∃ p x, o = p ++ [x] := ⟨o.dropLast, o.getLast ne, (List.dropLast_concat_getLast ne).symm⟩
      have lp : p.length = k := by
        have := P.len
        rw [List.length_append] at this
        simpa using this
      obtain ⟨n1, n2, n3⟩ := List.nodup_append.mp P.nd
      refine ⟨p, (mem_ordsN k p).mpr ⟨lp, n1, fun y hy => P.sub y (List.mem_append_left _ hy), fun i y hy z hz => ?_⟩, List.mem_map.mpr ⟨x, mem_freeL.mpr ⟨P.sub x (by simp), fun h => n3 x h x (by simp) rfl, fun y hy => ?_⟩, rfl⟩⟩
      · have c : i < p.length := (List.getElem?_eq_some_iff.mp hy).1
        have z2 := P.ahead i y (by rw [List.getElem?_append_left c]; exact hy) z hz
        rwa [List.take_append_of_le_length (by omega)] at z2
      · have z2 := P.ahead p.length x (by rw [List.getElem?_append_right (Nat.le_refl _)]; simp) y hy
        rwa [List.take_left' rfl] at z2
theorem mem_ords {b : Blk} (w : WF b) {o : List Str} : o ∈ ords b ↔ IsOrd b o := by
  unfold ords
  rw [mem_ordsN]
  constructor
  · intro P
    refine ⟨(List.perm_ext_iff_of_nodup P.nd w.nd).mpr fun x => ⟨P.sub x, fun hx => ?_⟩, P.ahead⟩
    refine Classical.byContradiction fun hn => ?_
    have z := nd_le (x :: o) (names b) (List.nodup_cons.mpr ⟨hn, P.nd⟩) fun y hy => by
      rcases List.mem_cons.mp hy with e | h
      · rw [e]; exact hx
      · exact P.sub y h
    rw [List.length_cons, P.len, List.length_map] at z
    omega
  · intro h
    exact ⟨h.size, h.nd w, fun x hx => h.in.mp hx, h.ahead⟩
theorem ords_ne {b : Blk} (w : WF b) : ords b ≠ [] := by
  obtain ⟨o, ho⟩ := some_order w
  intro e
  have := (mem_ords w).mpr ho
  rw [e] at this
  cases this
/-! ### gaps -/
theorem needs_nodup {b : Blk} {x : Str} : (needs b x).Nodup := asc_nodup ordK (setL_asc ordK)
theorem neededBy_nodup {b : Blk} (w : WF b) {x : Str} : (neededBy b x).Nodup := w.nd.filter _
theorem rplace_need {b : Blk} (w : WF b) {o : List Str} (ho : IsOrd b o) {x z : Str} (h : Need b z x) : rplace b o x ≤ plc o z := by
  have key : ∀ {z y}, Need b z y → y = x → rplace b o x ≤ plc o z := by
    intro z y h
    induction h with
    | one g =>
      rintro rfl
      exact rplace_le ((mem_readers w).mpr g)
    | step g _ ih =>
      intro e
      exact Nat.le_trans (ih e) (Nat.le_of_lt (ho.lt w g (readsOf_src g)))
  exact key h rfl
theorem gap_le {b : Blk} (w : WF b) {o : List Str} (ho : IsOrd b o) {x : Str} (hx : x ∈ names b) : gapO b o x + 1 + (needs b x).length + (neededBy b x).length ≤ b.rows.length := by
  have nd := ho.nd w
  have pr := plc_rplace w ho hx
  have rt := rplace_top ho x
  generalize hmid : (o.take (rplace b o x)).drop (plc o x + 1) = mid
  have ml : mid.length = rplace b o x - (plc o x + 1) := by
    rw [← hmid, List.length_drop, List.length_take]
    omega
  have mm : ∀ y ∈ mid, y ∈ o ∧ plc o x < plc o y ∧ plc o y < rplace b o x := fun y hy => by
    rw [← hmid] at hy
    obtain ⟨i, hi, e⟩ := List.mem_iff_getElem.mp hy
    rw [List.getElem_drop, List.getElem_take] at e
    rw [List.length_drop, List.length_take] at hi
    have z : o[plc o x + 1 + i]? = some y := by rw [List.getElem?_eq_getElem (by omega), e]
    rw [plc_of nd z]
    exact ⟨List.mem_of_getElem? z, by omega, by omega⟩
  have mnd : mid.Nodup := by
    rw [← hmid]
    exact (nd.sublist (List.take_sublist _ _)).sublist (List.drop_sublist _ _)
  have z := nd_le (x :: (needs b x ++ (neededBy b x ++ mid))) (names b) (List.nodup_cons.mpr ⟨?_, List.nodup_append.mpr ⟨needs_nodup, List.nodup_append.mpr ⟨neededBy_nodup w, mnd, ?_⟩, ?_⟩⟩) ?_
  · rw [List.length_cons, List.length_append, List.length_append, ml, List.length_map] at z
    unfold gapO
    omega
  · intro h
    rcases List.mem_append.mp h with h | h
    · exact Need.irrefl w ((mem_needs w).mp h)
    · rcases List.mem_append.mp h with h | h
      · exact Need.irrefl w ((mem_neededBy w).mp h)
      · have := (mm x h).2.1
        omega
  · rintro y hy c hc rfl
    have := rplace_need w ho ((mem_neededBy w).mp hy)
    have := (mm y hc).2.2
    omega
  · rintro y hy c hc rfl
    have h1 := ho.needLt w ((mem_needs w).mp hy)
    rcases List.mem_append.mp hc with h | h
    · exact Need.irrefl w (((mem_needs w).mp hy).trans ((mem_neededBy w).mp h))
    · have := (mm y h).2.1
      omega
  · intro y hy
    rcases List.mem_cons.mp hy with e | h
    · rw [e]; exact hx
    · rcases List.mem_append.mp h with h | h
      · exact ((mem_needs w).mp h).sub w
      · rcases List.mem_append.mp h with h | h
        · exact ((mem_neededBy w).mp h).src
        · exact ho.in.mp (mm y h).1
theorem gap_has {b : Blk} (w : WF b) {x : Str} (hx : x ∈ names b) : ∃ o, IsOrd b o ∧ (b.rows.length : Int) ≤ gapO b o x + 1 + (needs b x).length + (neededBy b x).length := by
  let c : Str → Nat := fun z => if z ∈ needs b x then 0 else if z = x then 1 else if z ∈ neededBy b x then 3 else 2
  have cx : c x = 1 := by
    show (if x ∈ needs b x then 0 else if x = x then 1 else if x ∈ neededBy b x then 3 else 2) = 1
    rw [if_neg (fun h => Need.irrefl w ((mem_needs w).mp h)), if_pos rfl]
  have cb : ∀ z, z ∈ neededBy b x → c z = 3 := fun z hz => by
    show (if z ∈ needs b x then 0 else if z = x then 1 else if z ∈ neededBy b x then 3 else 2) = 3
    rw [if_neg (fun h => Need.irrefl w (((mem_needs w).mp h).trans ((mem_neededBy w).mp hz))), if_neg (fun e => by subst e; exact Need.irrefl w ((mem_neededBy w).mp hz)), if_pos hz]
  have c0 : ∀ z, c z ≤ 1 → z ∈ needs b x ∨ z = x := fun z h => by
    have h : (if z ∈ needs b x then 0 else if z = x then 1 else if z ∈ neededBy b x then 3 else 2) ≤ 1 := h
    by_cases h1 : z ∈ needs b x
    · exact .inl h1
    · by_cases h2 : z = x
      · exact .inr h2
      · rw [if_neg h1, if_neg h2] at h
        split at h <;> omega
  have c3 : ∀ z, 3 ≤ c z → z ∈ neededBy b x := fun z h => by
    have h : 3 ≤ (if z ∈ needs b x then 0 else if z = x then 1 else if z ∈ neededBy b x then 3 else 2) := h
    by_cases h3 : z ∈ neededBy b x
    · exact h3
    · rw [if_neg h3] at h
      split at h
      · omega
      · split at h <;> omega
  obtain ⟨o, ho, hk⟩ := exists_by w c fun z hz y hy => by
    have hzy := Need.one hy
    by_cases h0 : z ∈ needs b x ∨ z = x
    · have : y ∈ needs b x := by
        rcases h0 with h | h
        · exact (mem_needs w).mpr (((mem_needs w).mp h).trans hzy)
        · exact (mem_needs w).mpr (h ▸ hzy)
      have e : c y = 0 := if_pos this
      omega
    · have h1 : 2 ≤ c z := by
        rcases Nat.lt_or_ge (c z) 2 with q | q
        · exact absurd (c0 z (by omega)) h0
        · exact q
      by_cases h2 : z ∈ neededBy b x
      · rw [cb z h2]
        show (if y ∈ needs b x then 0 else if y = x then 1 else if y ∈ neededBy b x then 3 else 2) ≤ 3
        split
        · omega
        · split
          · omega
          · split <;> omega
      · have n3 : y ∉ neededBy b x := fun h => h2 ((mem_neededBy w).mpr (hzy.trans ((mem_neededBy w).mp h)))
        have : ¬ 3 ≤ c y := fun h => n3 (c3 y h)
        omega
  refine ⟨o, ho, ?_⟩
  have nd := ho.nd w
  have hxo : x ∈ o := ho.in.mpr hx
  have h1 : plc o x ≤ (needs b x).length := by
    have z := nd_le (o.take (plc o x)) (needs b x) (nd.sublist (List.take_sublist _ _)) fun y hy => by
      have hyo : y ∈ o := List.mem_of_mem_take hy
      have lt := (mem_take_plc nd hyo).mp hy
      rcases Nat.lt_or_ge (c x) (c y) with q | q
      · have := hk x hx y (ho.in.mp hyo) q
        omega
      · rcases c0 y (by omega) with h | h
        · exact h
        · subst h
          omega
    rw [List.length_take] at z
    have := plcLt hxo
    omega
  have h2 : o.length ≤ rplace b o x + (neededBy b x).length := by
    by_cases e : readers b x = []
    · rw [rplace_none e]
      omega
    · obtain ⟨r, hr, er⟩ := rplace_mem (o := o) e
      have hrn : r ∈ neededBy b x := (mem_neededBy w).mpr (.one ((mem_readers w).mp hr))
      have hro : r ∈ o := ho.in.mpr (readersSub hr)
      have z := nd_le (o.drop (plc o r)) (neededBy b x) (nd.sublist (List.drop_sublist _ _)) fun y hy => by
        obtain ⟨i, hi, e⟩ := List.mem_iff_getElem.mp hy
        rw [List.getElem_drop] at e
        rw [List.length_drop] at hi
        have z : o[plc o r + i]? = some y := by rw [List.getElem?_eq_getElem (by omega), e]
        have hyo : y ∈ o := List.mem_of_getElem? z
        have pz := plc_of nd z
        refine c3 y ?_
        rcases Nat.lt_or_ge (c y) (c r) with q | q
        · have := hk y (ho.in.mp hyo) r (readersSub hr) q
          omega
        · rw [cb r hrn] at q
          exact q
      rw [List.length_drop] at z
      omega
  have h3 := ho.size
  unfold gapO
  omega
/-! ### who can meet -/
theorem meets_need {b : Blk} (w : WF b) {o : List Str} (ho : IsOrd b o) {x y : Str} (h : Need b x y) : meets b o x y = false := by
  unfold meets
  have := rplace_need w ho h
  rw [Bool.and_eq_false_iff, decide_eq_false_iff_not]
  exact .inl (by omega)
theorem meet_has {b : Blk} (w : WF b) {x y : Str} (hx : x ∈ names b) (hy : y ∈ names b) (n1 : ¬ Need b x y) (n2 : ¬ Need b y x) : ∃ o, IsOrd b o ∧ meets b o x y = true := by
  let c : Str → Nat := fun z => if z = x ∨ z = y then 1 else if z ∈ needs b x ∨ z ∈ needs b y then 0 else 2
  have cxy : ∀ z, z = x ∨ z = y → c z = 1 := fun z h => if_pos h
  have c0 : ∀ z, z ∈ needs b x ∨ z ∈ needs b y → c z = 0 := fun z h => by
    show (if z = x ∨ z = y then 1 else if z ∈ needs b x ∨ z ∈ needs b y then 0 else 2) = 0
    rw [if_neg, if_pos h]
    rintro (e | e)
    · subst e
      rcases h with h | h
      · exact Need.irrefl w ((mem_needs w).mp h)
      · exact n2 ((mem_needs w).mp h)
    · subst e
      rcases h with h | h
      · exact n1 ((mem_needs w).mp h)
      · exact Need.irrefl w ((mem_needs w).mp h)
  have c2 : ∀ z, c z ≤ 2 := fun z => by
    show (if z = x ∨ z = y then 1 else if z ∈ needs b x ∨ z ∈ needs b y then 0 else 2) ≤ 2
    split
    · omega
    · split <;> omega
  have cr : ∀ z, (Need b z x ∨ Need b z y) → c z = 2 := fun z h => by
    show (if z = x ∨ z = y then 1 else if z ∈ needs b x ∨ z ∈ needs b y then 0 else 2) = 2
    rw [if_neg, if_neg]
    · rintro (q | q)
      · have q := (mem_needs w).mp q
        rcases h with h | h
        · exact Need.irrefl w (q.trans h)
        · exact n1 (q.trans h)
      · have q := (mem_needs w).mp q
        rcases h with h | h
        · exact n2 (q.trans h)
        · exact Need.irrefl w (q.trans h)
    · rintro (e | e)
      · subst e
        rcases h with h | h
        · exact Need.irrefl w h
        · exact n1 h
      · subst e
        rcases h with h | h
        · exact n2 h
        · exact Need.irrefl w h
  obtain ⟨o, ho, hk⟩ := exists_by w c fun z hz u hu => by
    have zu := Need.one hu
    by_cases h0 : (z = x ∨ z = y) ∨ z ∈ needs b x ∨ z ∈ needs b y
    · have : u ∈ needs b x ∨ u ∈ needs b y := by
        rcases h0 with (h | h) | h | h
        · exact .inl ((mem_needs w).mpr (h ▸ zu))
        · exact .inr ((mem_needs w).mpr (h ▸ zu))
        · exact .inl ((mem_needs w).mpr (((mem_needs w).mp h).trans zu))
        · exact .inr ((mem_needs w).mpr (((mem_needs w).mp h).trans zu))
      rw [c0 u this]
      omega
    · have e : c z = 2 := by
        show (if z = x ∨ z = y then 1 else if z ∈ needs b x ∨ z ∈ needs b y then 0 else 2) = 2
        rw [if_neg (fun h => h0 (.inl h)), if_neg (fun h => h0 (.inr h))]
      rw [e]
      exact c2 u
  refine ⟨o, ho, ?_⟩
  have key : ∀ p q, (p = x ∨ p = y) → (q = x ∨ q = y) → plc o p < rplace b o q := fun p q hp hq => by
    have hpn : p ∈ names b := by rcases hp with e | e <;> (rw [e]; assumption)
    refine lt_rplace (plcLt (ho.in.mpr hpn)) fun z hz => hk p hpn z (readersSub hz) ?_
    have nz := Need.one ((mem_readers w).mp hz)
    rw [cxy p hp, cr z (by rcases hq with e | e <;> subst e; exact .inl nz; exact .inr nz)]
    omega
  unfold meets
  rw [Bool.and_eq_true, decide_eq_true_eq, decide_eq_true_eq]
  exact ⟨key x y (.inl rfl) (.inr rfl), key y x (.inr rfl) (.inl rfl)⟩
end My
/-! M4 -/
/-! plain: the orders in which all of some pairs meet -/
namespace My
open PySem
def allMeet (b : Blk) (ps : List (Str × Str)) (o : List Str) : Bool := ps.all fun p => meets b o p.1 p.2
def extN (b : Blk) (ps : List (Str × Str)) : Nat → List (List Str)
  | 0 => [[]]
  | k + 1 => (extN b ps k).flatMap fun r => (readyL b ps r).map fun x => r ++ [x]
def rdy (b : Blk) (ps : List (Str × Str)) (r : List Str) (x : Str) : Bool := !(restL b r).any fun y => decide (x ∈ fol b ps y)
def okB (b : Blk) (ps : List (Str × Str)) (o : List Str) : Bool := (List.range o.length).all fun i => match o[i]? with
  | some x => rdy b ps (o.take i) x
  | none => true
theorem mem_restL {b : Blk} {d : List Str} {x : Str} : x ∈ restL b d ↔ x ∈ names b ∧ x ∉ d := by
  unfold restL
  rw [List.mem_filter]
  simp
theorem okB_snoc (b : Blk) (ps : List (Str × Str)) (r : List Str) (x : Str) : okB b ps (r ++ [x]) = (okB b ps r && rdy b ps r x) := by
  unfold okB
  rw [List.length_append, List.length_singleton, List.range_succ, List.all_append]
  congr 1
  · rw [Bool.eq_iff_iff, List.all_eq_true, List.all_eq_true]
    refine forall_congr' fun i => ?_
    constructor
    · intro h hi
      have z := h hi
      have lt := List.mem_range.mp hi
      rw [List.getElem?_append_left lt, List.take_append_of_le_length (by omega)] at z
      exact z
    · intro h hi
      have z := h hi
      have lt := List.mem_range.mp hi
      rw [List.getElem?_append_left lt, List.take_append_of_le_length (by omega)]
      exact z
  · simp [List.take_left']
theorem readyL_eq {b : Blk} (w : WF b) (ps : List (Str × Str)) (r : List Str) : readyL b ps r = (freeL b r).filter (rdy b ps r) := by
  unfold readyL freeL
  conv => lhs; rw [restL]
  rw [List.filter_filter, List.filter_filter]
  refine List.filter_congr fun x hx => ?_
  show (rdy b ps r x && !decide (x ∈ r)) = (rdy b ps r x && (!decide (x ∈ r) && (readsOf b x).all fun y => decide (y ∈ r)))
  cases e : rdy b ps r x with
  | false => rfl
  | true =>
    have : ((readsOf b x).all fun y => decide (y ∈ r)) = true := by
      rw [List.all_eq_true]
      intro y hy
      rw [decide_eq_true_eq]
      refine Classical.byContradiction fun hn => ?_
      unfold rdy at e
      rw [Bool.not_eq_true', List.any_eq_false] at e
      exact e y (mem_restL.mpr ⟨readsOf_sub w hy, hn⟩) (by simpa using mem_fol.mpr (.inl ((mem_readers w).mpr hy)))
    rw [this, Bool.and_true]
theorem filter_flatMap {α β : Type} {f : α → List β} {p : β → Bool} : ∀ l : List α, (l.flatMap f).filter p = l.flatMap fun x => (f x).filter p
  | [] => rfl
  | x :: l => by rw [List.flatMap_cons, List.flatMap_cons, List.filter_append, filter_flatMap l]
theorem flatMap_filter {α β : Type} {f : α → List β} {p : α → Bool} : ∀ l : List α, (l.filter p).flatMap f = l.flatMap fun x => if p x = true then f x else []
  | [] => rfl
  | x :: l => by
    rw [List.flatMap_cons, List.filter_cons]
    split
    · rw [List.flatMap_cons, flatMap_filter l]
    · rw [flatMap_filter l]; rfl
theorem extN_filter {b : Blk} (w : WF b) (ps : List (Str × Str)) : ∀ k, extN b ps k = (ordsN b k).filter (okB b ps)
  | 0 => rfl
  | k + 1 => by
    show (extN b ps k).flatMap _ = (ordStep b (ordsN b k)).filter _
    unfold ordStep
    rw [extN_filter w ps k, filter_flatMap, flatMap_filter]
    refine congrArg (fun z => List.flatMap z (ordsN b k)) (funext fun r => ?_)
    rw [List.filter_map, readyL_eq w]
    have e : (okB b ps ∘ fun x => r ++ [x]) = fun x => (okB b ps r && rdy b ps r x) := funext fun x => okB_snoc b ps r x
    rw [e]
    cases okB b ps r with
    | true => simp
    | false => simp
theorem okB_iff {b : Blk} (w : WF b) {ps : List (Str × Str)} {o : List Str} (ho : IsOrd b o) : okB b ps o = true ↔ ∀ x ∈ names b, ∀ y ∈ names b, x ∈ fol b ps y → plc o y < plc o x := by
  have nd := ho.nd w
  unfold okB
  rw [List.all_eq_true]
  constructor
  · intro h x hx y hy hf
    have hxo := ho.in.mpr hx
    have hyo := ho.in.mpr hy
    have z := h (plc o x) (List.mem_range.mpr (plcLt hxo))
    rw [plc_get hxo] at z
    unfold rdy at z
    rw [Bool.not_eq_true', List.any_eq_false] at z
    refine Classical.byContradiction fun hn => ?_
    refine z y (mem_restL.mpr ⟨hy, fun hm => hn ((mem_take_plc nd hyo).mp hm)⟩) (by simpa using hf)
  · intro h i hi
    have hl := List.mem_range.mp hi
    have hx : o[i]? = some o[i] := List.getElem?_eq_getElem hl
    rw [hx]
    show rdy b ps (o.take i) o[i] = true
    unfold rdy
    rw [Bool.not_eq_true', List.any_eq_false]
    intro y hy hf
    obtain ⟨y1, y2⟩ := mem_restL.mp hy
    have hyo := ho.in.mpr y1
    have z := h o[i] (ho.in.mp (List.mem_of_getElem? hx)) y y1 (by simpa using hf)
    rw [plc_of nd hx] at z
    exact y2 ((mem_take_plc nd hyo).mpr z)
theorem ok_meet {b : Blk} (w : WF b) {ps : List (Str × Str)} (hps : ∀ p ∈ ps, p.1 ∈ names b ∧ p.2 ∈ names b) {o : List Str} (ho : IsOrd b o) : okB b ps o = allMeet b ps o := by
  rw [Bool.eq_iff_iff, okB_iff w ho]
  unfold allMeet
  rw [List.all_eq_true]
  constructor
  · intro h p hp
    obtain ⟨n1, n2⟩ := hps p hp
    unfold meets
    rw [Bool.and_eq_true, decide_eq_true_eq, decide_eq_true_eq]
    exact ⟨lt_rplace (plcLt (ho.in.mpr n1)) fun z hz => h z (readersSub hz) p.1 n1 (mem_fol.mpr (.inr ⟨p, hp, .inl ⟨rfl, hz⟩⟩)), lt_rplace (plcLt (ho.in.mpr n2)) fun z hz => h z (readersSub hz) p.2 n2 (mem_fol.mpr (.inr ⟨p, hp, .inr ⟨rfl, hz⟩⟩))⟩
  · intro h x hx y hy hf
    rcases mem_fol.mp hf with q | ⟨p, hp, q⟩
    · exact ho.lt w ((mem_readers w).mp q) hx
    · have z := h p hp
      unfold meets at z
      rw [Bool.and_eq_true, decide_eq_true_eq, decide_eq_true_eq] at z
      rcases q with ⟨e, hr⟩ | ⟨e, hr⟩
      · rw [e]
        exact Nat.lt_of_lt_of_le z.1 (rplace_le hr)
      · rw [e]
        exact Nat.lt_of_lt_of_le z.2 (rplace_le hr)
theorem ext_meet {b : Blk} (w : WF b) {ps : List (Str × Str)} (hps : ∀ p ∈ ps, p.1 ∈ names b ∧ p.2 ∈ names b) : extN b ps b.rows.length = (ords b).filter (allMeet b ps) := by
  rw [extN_filter w]
  exact List.filter_congr fun o ho => ok_meet w hps ((mem_ords w).mp ho)
/-! ### counted -/
theorem restL_congr {b : Blk} {d d' : List Str} (h : ∀ z, z ∈ d ↔ z ∈ d') : restL b d = restL b d' := by
  unfold restL
  refine List.filter_congr fun x _ => ?_
  simp only [h x]
theorem readyL_congr {b : Blk} {ps : List (Str × Str)} {d d' : List Str} (h : ∀ z, z ∈ d ↔ z ∈ d') : readyL b ps d = readyL b ps d' := by
  unfold readyL
  rw [restL_congr h]
abbrev sumW (f : List Str → Int) (m : Ways) : Int := (m.map fun q => q.2 * f q.1).sum
theorem lookW_none {m : Ways} {x : List Str} (h : x ∉ m.map (·.1)) : lookW m x = 0 := by
  induction m with
  | nil => rfl
  | cons q m ih =>
    obtain ⟨k, d⟩ := q
    rw [List.map_cons, List.mem_cons, not_or] at h
    unfold lookW
    rw [if_neg (fun e => h.1 e.symm)]
    exact ih h.2
theorem upd_none {m : Ways} {x : List Str} {d : Int} (h : x ∉ m.map (·.1)) : (m.map fun q => if q.1 = x then (q.1, d) else q) = m := by
  induction m with
  | nil => rfl
  | cons q m ih =>
    rw [List.map_cons, List.mem_cons, not_or] at h
    rw [List.map_cons, ih h.2, if_neg (fun e => h.1 e.symm)]
theorem sum_upd {f : List Str → Int} {x : List Str} {n : Int} : ∀ {m : Ways}, (m.map (·.1)).Nodup → x ∈ m.map (·.1) → sumW f (m.map fun q => if q.1 = x then (q.1, lookW m x + n) else q) = sumW f m + n * f x
  | [], _, h => by cases h
  | (k, d) :: m, hn, h => by
    obtain ⟨n1, n2⟩ := List.nodup_cons.mp hn
    by_cases e : k = x
    · subst e
      have l : lookW ((k, d) :: m) k = d := by
        unfold lookW
        rw [if_pos rfl]
      rw [l, List.map_cons, upd_none n1]
      simp only [if_true]
      show (d + n) * f k + (m.map _).sum = (d * f k + (m.map _).sum) + n * f k
      rw [Int.add_mul]
      omega
    · have hm : x ∈ m.map (·.1) := by
        rcases List.mem_cons.mp h with q | q
        · exact absurd q.symm e
        · exact q
      have l : lookW ((k, d) :: m) x = lookW m x := by
        conv => lhs; unfold lookW
        rw [if_neg e]
      have ih := sum_upd (f := f) (n := n) n2 hm
      rw [l, List.map_cons]
      simp only [e, if_false]
      show d * f k + sumW f (m.map _) = (d * f k + sumW f m) + n * f x
      rw [ih]
      omega
theorem sum_put {f : List Str → Int} {m : Ways} {x : List Str} {n : Int} (hn : (m.map (·.1)).Nodup) : sumW f (putW m x (lookW m x + n)) = sumW f m + n * f x := by
  unfold putW
  by_cases h : x ∈ m.map (·.1)
  · rw [if_pos, sum_upd hn h]
    obtain ⟨q, hq, e⟩ := List.mem_map.mp h
    exact List.any_eq_true.mpr ⟨q, hq, by simpa using e⟩
  · rw [if_neg, lookW_none h]
    · unfold sumW
      rw [List.map_append, List.sum_append]
      simp
    · intro z
      obtain ⟨q, hq, e⟩ := List.any_eq_true.mp z
      exact h (List.mem_map.mpr ⟨q, hq, by simpa using e⟩)
theorem sum_in {f : List Str → Int} {done : List Str} {n : Int} : ∀ {l : List Str} {m : Ways}, (m.map (·.1)).Nodup → sumW f (wIn done n l m) = sumW f m + n * (l.map fun x => f (setL ltK (done ++ [x]))).sum
  | [], m, _ => by simp [wIn]
  | x :: l, m, hn => by
    have e : wIn done n (x :: l) m = wIn done n l (putW m (setL ltK (done ++ [x])) (lookW m (setL ltK (done ++ [x])) + n)) := rfl
    rw [e, sum_in (putW_nd hn), sum_put hn, List.map_cons, List.sum_cons, Int.mul_add]
    omega
theorem sum_fold {b : Blk} {ps : List (Str × Str)} {f : List Str → Int} : ∀ {m : Ways} {m0 : Ways}, (m0.map (·.1)).Nodup → sumW f (m.foldl (fun g q => wIn q.1 q.2 (readyL b ps q.1) g) m0) = sumW f m0 + sumW (fun s => ((readyL b ps s).map fun x => f (setL ltK (s ++ [x]))).sum) m
  | [], m0, _ => (Int.add_zero _).symm
  | q :: m, m0, hn => by
    rw [List.foldl_cons, sum_fold (wIn_nd hn), sum_in hn]
    have e : ∀ g : List Str → Int, sumW g (q :: m) = q.2 * g q.1 + sumW g m := fun g => rfl
    rw [e, Int.add_assoc]
theorem sum_flat {α β : Type} {g : α → List β} {f : β → Int} : ∀ l : List α, ((l.flatMap g).map f).sum = (l.map fun x => ((g x).map f).sum).sum
  | [] => rfl
  | x :: l => by rw [List.flatMap_cons, List.map_append, List.sum_append, sum_flat l, List.map_cons, List.sum_cons]
theorem sum_run {b : Blk} {ps : List (Str × Str)} : ∀ (k : Nat) (f : List Str → Int), sumW f (wRun b ps k) = ((extN b ps k).map fun s => f (setL ltK s)).sum
  | 0, f => by
    show 1 * f [] + 0 = f (setL ltK []) + 0
    rw [Int.one_mul]
    rfl
  | k + 1, f => by
    show sumW f (wStep b ps (wRun b ps k)) = (((extN b ps k).flatMap _).map _).sum
    unfold wStep
    rw [sum_fold (m0 := []) List.nodup_nil, sum_run k, sum_flat]
    have z : sumW f [] = 0 := rfl
    rw [z, Int.zero_add]
    congr 1
    refine List.map_congr_left fun s _ => ?_
    rw [List.map_map, readyL_congr (fun z => setL_mem ordK)]
    congr 1
    refine List.map_congr_left fun x _ => ?_
    show f _ = f _
    congr 1
    refine setL_congr ordK fun z => ?_
    rw [List.mem_append, List.mem_append, setL_mem ordK]
theorem sum_ones {α : Type} : ∀ l : List α, (l.map fun _ => (1 : Int)).sum = l.length
  | [] => rfl
  | x :: l => by
    rw [List.map_cons, List.sum_cons, sum_ones l, List.length_cons]
    omega
theorem howM_eq {b : Blk} (w : WF b) {ps : List (Str × Str)} (hps : ∀ p ∈ ps, p.1 ∈ names b ∧ p.2 ∈ names b) : howM b ps = ((ords b).filter (allMeet b ps)).length := by
  have z := sum_run (b := b) (ps := ps) b.rows.length fun _ => 1
  rw [sum_ones, ext_meet w hps] at z
  rw [← z]
  unfold howM sumW
  congr 1
  exact List.map_congr_left fun q _ => (Int.mul_one _).symm
/-! ### one of them -/
theorem om_mem {b : Blk} {ps : List (Str × Str)} : ∀ (m k : Nat) (f o : List Str), f ∈ extN b ps k → omRun b ps m f = some o → o ∈ extN b ps (k + m)
  | 0, k, f, o, hf, h => by
    cases h
    exact hf
  | m + 1, k, f, o, hf, h => by
    unfold omRun at h
    cases e : readyL b ps f with
    | nil => rw [e] at h; cases h
    | cons x l =>
      rw [e] at h
      have z := om_mem m (k + 1) (f ++ [x]) o (List.mem_flatMap.mpr ⟨f, hf, List.mem_map.mpr ⟨x, by rw [e]; exact List.mem_cons_self, rfl⟩⟩) h
      rwa [Nat.add_assoc, Nat.add_comm 1] at z
theorem exists_min {α : Type} (K : α → Nat) : ∀ l : List α, l ≠ [] → ∃ x ∈ l, ∀ y ∈ l, K x ≤ K y
  | [], h => absurd rfl h
  | [x], _ => ⟨x, List.mem_cons_self, fun y hy => by rw [List.mem_singleton.mp hy]; exact Nat.le_refl _⟩
  | x :: z :: l, _ => by
    obtain ⟨u, hu, hm⟩ := exists_min K (z :: l) (by simp)
    rcases Nat.lt_or_ge (K x) (K u) with c | c
    · refine ⟨x, List.mem_cons_self, fun y hy => ?_⟩
      rcases List.mem_cons.mp hy with e | h
      · rw [e]; exact Nat.le_refl _
      · exact Nat.le_trans (Nat.le_of_lt c) (hm y h)
    · refine ⟨u, List.mem_cons_of_mem _ hu, fun y hy => ?_⟩
      rcases List.mem_cons.mp hy with e | h
      · rw [e]; exact c
      · exact hm y h
theorem om_some {b : Blk} (w : WF b) {ps : List (Str × Str)} {o' : List Str} (ho : IsOrd b o') (ok : okB b ps o' = true) : ∀ (m : Nat) (f : List Str), f.length + m = b.rows.length → ∃ o, omRun b ps m f = some o
  | 0, f, _ => ⟨f, rfl⟩
  | m + 1, f, h => by
    have ne : restL b f ≠ [] := fun e => by
      have z := nd_le (names b) f w.nd fun x hx => Classical.byContradiction fun hn => by
        have := mem_restL.mpr ⟨hx, hn⟩
        rw [e] at this
        cases this
      rw [List.length_map] at z
      omega
    obtain ⟨x, hx, hm⟩ := exists_min (plc o') _ ne
    have hr : x ∈ readyL b ps f := by
      unfold readyL
      refine List.mem_filter.mpr ⟨hx, ?_⟩
      rw [Bool.not_eq_true', List.any_eq_false]
      intro y hy hf
      have hf : x ∈ fol b ps y := by simpa using hf
      have z := (okB_iff w ho).mp ok x (mem_restL.mp hx).1 y (mem_restL.mp hy).1 hf
      have := hm y hy
      omega
    unfold omRun
    cases e : readyL b ps f with
    | nil => rw [e] at hr; cases hr
    | cons x l => exact om_some w ho ok m (f ++ [x]) (by rw [List.length_append, List.length_singleton]; omega)
theorem orderM_mem {b : Blk} (w : WF b) {ps : List (Str × Str)} (hps : ∀ p ∈ ps, p.1 ∈ names b ∧ p.2 ∈ names b) {o : List Str} (h : orderM b ps = some o) : o ∈ (ords b).filter (allMeet b ps) := by
  rw [← ext_meet w hps]
  have z := om_mem b.rows.length 0 [] o (by simp [extN]) h
  rwa [Nat.zero_add] at z
theorem orderM_isSome {b : Blk} (w : WF b) {ps : List (Str × Str)} (hps : ∀ p ∈ ps, p.1 ∈ names b ∧ p.2 ∈ names b) : (orderM b ps).isSome = decide (0 < ((ords b).filter (allMeet b ps)).length) := by
  cases e : orderM b ps with
  | some o =>
    have := orderM_mem w hps e
    exact (decide_eq_true (List.length_pos_of_mem this)).symm
  | none =>
    refine (decide_eq_false fun h => ?_).symm
    obtain ⟨o, ho⟩ := List.exists_mem_of_length_pos h
    obtain ⟨h1, h2⟩ := List.mem_filter.mp ho
    have io := (mem_ords w).mp h1
    obtain ⟨o2, z⟩ := om_some w io (by rw [ok_meet w hps io]; exact h2) b.rows.length [] (by simp)
    unfold orderM at e
    rw [z] at e
    cases e
end My
/-! M5 -/
/-! plain: at most 64 different meetings -/
namespace My
open PySem
theorem twos_append_len {α : Type} : ∀ l : List α, 2 * (twos l).length = l.length * (l.length - 1)
  | [] => rfl
  | x :: l => by
    have ih := twos_append_len l
    show 2 * (l.map (fun y => (x, y)) ++ twos l).length = _
    rw [List.length_append, List.length_map, List.length_cons, Nat.mul_add, ih, Nat.add_sub_cancel]
    cases l.length with
    | zero => rfl
    | succ k =>
      rw [Nat.add_sub_cancel, Nat.mul_comm (k + 1 + 1) (k + 1), Nat.mul_add (k + 1) (k + 1) 1, Nat.mul_add (k + 1) k 1]
      omega
theorem twos_sub {α : Type} : ∀ {l m : List α}, l.Sublist m → (twos l).Sublist (twos m)
  | _, _, .slnil => List.Sublist.refl _
  | _, _, .cons a h => (twos_sub h).trans (List.sublist_append_right _ _)
  | _, _, .cons_cons a h => (h.map _).append (twos_sub h)
theorem twos_filter {α : Type} (p : α → Bool) : ∀ l : List α, (twos l).countP (fun q => p q.1 && p q.2) = (twos (l.filter p)).length
  | [] => rfl
  | x :: l => by
    show (l.map (fun y => (x, y)) ++ twos l).countP _ = _
    rw [List.countP_append, List.countP_map, twos_filter p l, List.filter_cons]
    cases e : p x with
    | true =>
      rw [if_pos rfl]
      show _ = ((l.filter p).map (fun y => (x, y)) ++ twos (l.filter p)).length
      rw [List.length_append, List.length_map, List.countP_eq_length_filter]
      congr 2
      refine List.filter_congr fun y _ => ?_
      show (p x && p y) = p y
      rw [e, Bool.true_and]
    | false =>
      rw [if_neg (by simp)]
      have : l.countP ((fun q : α × α => p q.1 && p q.2) ∘ fun y => (x, y)) = 0 := by
        rw [List.countP_eq_zero]
        intro y _
        show ¬ (p x && p y) = true
        rw [e]
        simp
      omega
theorem count3 {α : Type} {p q r : α → Bool} : ∀ l : List α, (∀ x ∈ l, (p x && q x) = false ∧ (p x && r x) = false ∧ (q x && r x) = false) → l.countP p + l.countP q + l.countP r ≤ l.length
  | [], _ => Nat.le_refl _
  | x :: l, h => by
    have ih := count3 l fun y hy => h y (List.mem_cons_of_mem _ hy)
    have hx := h x List.mem_cons_self
    rw [List.countP_cons, List.countP_cons, List.countP_cons, List.length_cons]
    revert hx
    cases p x <;> cases q x <;> cases r x <;> simp <;> omega
theorem count_or {α : Type} {p q : α → Bool} : ∀ l : List α, (∀ x ∈ l, (p x && q x) = false) → l.countP (fun x => p x || q x) = l.countP p + l.countP q
  | [], _ => rfl
  | x :: l, h => by
    have ih := count_or l fun y hy => h y (List.mem_cons_of_mem _ hy)
    have hx := h x List.mem_cons_self
    rw [List.countP_cons, List.countP_cons, List.countP_cons, ih]
    revert hx
    cases p x <;> cases q x <;> simp <;> omega
theorem count_or_le {α : Type} {p q r : α → Bool} (h : ∀ x, r x = true → p x = true ∨ q x = true) : ∀ l : List α, l.countP r ≤ l.countP p + l.countP q
  | [] => Nat.le_refl _
  | x :: l => by
    have ih := count_or_le h l
    have hx := h x
    rw [List.countP_cons, List.countP_cons, List.countP_cons]
    revert hx
    cases r x <;> cases p x <;> cases q x <;> simp <;> omega
/-- one who is read is in a pair with a reader -/
theorem count_rel {R : Str → Str → Bool} (irr : ∀ x, R x x = false) (anti : ∀ x y, (R x y && R y x) = false) : ∀ l : List Str, l.countP (fun y => l.any fun x => R x y) ≤ (twos l).countP fun q => R q.1 q.2 || R q.2 q.1
  | [] => Nat.le_refl _
  | a :: l => by
    have ih := count_rel irr anti l
    show _ ≤ (l.map (fun y => (a, y)) ++ twos l).countP _
    rw [List.countP_append, List.countP_map, List.countP_cons]
    have e1 : l.countP ((fun q : Str × Str => R q.1 q.2 || R q.2 q.1) ∘ fun y => (a, y)) = l.countP (fun y => R a y) + l.countP (fun y => R y a) := count_or l fun y _ => anti a y
    have e2 := count_or_le (p := fun y => R a y) (q := fun y => l.any fun x => R x y) (r := fun y => (a :: l).any fun x => R x y) (fun y h => by
      rw [List.any_cons, Bool.or_eq_true] at h
      exact h) l
    have e3 : (if ((a :: l).any fun x => R x a) = true then 1 else 0) ≤ l.countP (fun y => R y a) := by
      split
      · rename_i h
        rw [List.any_cons, irr, Bool.false_or] at h
        obtain ⟨y, hy, hr⟩ := List.any_eq_true.mp h
        exact List.countP_pos_iff.mpr ⟨y, hy, hr⟩
      · exact Nat.zero_le _
    rw [e1]
    omega
def unread (b : Blk) (x : Str) : Bool := decide (readers b x = [])
def relR (b : Blk) (x y : Str) : Bool := decide (y ∈ readsOf b x)
def vary (b : Blk) (q : Str × Str) : Bool := !(relR b q.1 q.2 || relR b q.2 q.1) && !(unread b q.1 && unread b q.2)
theorem awaited_sublist (b : Blk) : (awaited b).Sublist (names b) := by
  unfold awaited slows names
  exact List.filter_sublist.trans (List.filter_sublist.map _)
theorem vary_le {b : Blk} (w : WF b) (h5 : b.rows.length ≤ 5) : ((twos (awaited b)).filter (vary b)).length ≤ 6 := by
  have s0 := (twos_sub (awaited_sublist b)).countP_le (p := vary b)
  rw [← List.countP_eq_length_filter]
  have irr : ∀ x, relR b x x = false := fun x => decide_eq_false fun h => Need.irrefl w (.one h)
  have anti : ∀ x y, (relR b x y && relR b y x) = false := fun x y => by
    cases e1 : relR b x y with
    | false => rfl
    | true =>
      refine decide_eq_false fun h2 => ?_
      exact Need.irrefl w ((Need.one (of_decide_eq_true e1)).trans (.one h2))
  have c1 := count_rel irr anti (names b)
  have c2 := count3 (p := vary b) (q := fun q => relR b q.1 q.2 || relR b q.2 q.1) (r := fun q => unread b q.1 && unread b q.2) (twos (names b)) fun q _ => by
    have nr : ∀ x y, relR b x y = true → unread b y = false := fun x y h => decide_eq_false fun e => by
      have := (mem_readers w).mpr (of_decide_eq_true h)
      rw [e] at this
      cases this
    unfold vary
    cases e1 : relR b q.1 q.2 with
    | true =>
      rw [nr _ _ e1]
      simp
    | false =>
      cases e2 : relR b q.2 q.1 with
      | true =>
        rw [nr _ _ e2]
        simp
      | false => cases unread b q.1 <;> cases unread b q.2 <;> simp
  rw [twos_filter (unread b) (names b)] at c2
  have c3 := twos_append_len (names b)
  have c4 := twos_append_len ((names b).filter (unread b))
  have c5 : (names b).countP (fun y => (names b).any fun x => relR b x y) + ((names b).filter (unread b)).length = (names b).length := by
    rw [← List.countP_eq_length_filter]
    have e : (names b).countP (unread b) = (names b).countP fun y => !((names b).any fun x => relR b x y) := by
      rw [List.countP_eq_length_filter, List.countP_eq_length_filter]
      congr 1
      refine List.filter_congr fun y _ => ?_
      unfold unread
      rw [Bool.eq_iff_iff, decide_eq_true_eq, Bool.not_eq_true', List.any_eq_false]
      constructor
      · intro h x hx hr
        have := (mem_readers w).mpr (of_decide_eq_true hr)
        rw [h] at this
        cases this
      · intro h
        refine List.eq_nil_iff_forall_not_mem.mpr fun z hz => ?_
        exact h z (readersSub hz) (decide_eq_true ((mem_readers w).mp hz))
    rw [e]
    have := List.length_eq_countP_add_countP (fun y => (names b).any fun x => relR b x y) (l := names b)
    rw [this]
    congr 1
    rw [List.countP_eq_length_filter, List.countP_eq_length_filter]
    congr 1
    refine List.filter_congr fun y _ => ?_
    cases ((names b).any fun x => relR b x y) <;> rfl
  have c6 : (names b).length ≤ 5 := by rw [List.length_map]; exact h5
  generalize (names b).length = n at *
  generalize ((names b).filter (unread b)).length = s at *
  generalize (twos (names b)).length = t at *
  generalize (twos ((names b).filter (unread b))).length = u at *
  have c7 : s ≤ n := by omega
  have hn : n = 0 ∨ n = 1 ∨ n = 2 ∨ n = 3 ∨ n = 4 ∨ n = 5 := by omega
  have hs : s = 0 ∨ s = 1 ∨ s = 2 ∨ s = 3 ∨ s = 4 ∨ s = 5 := by omega
  rcases hn with e | e | e | e | e | e <;> subst e <;> (rcases hs with e | e | e | e | e | e <;> subst e <;> (simp only [Nat.reduceMul, Nat.reduceSub] at c3 c4; omega))
def subs {α : Type} : List α → List (List α)
  | [] => [[]]
  | x :: l => subs l ++ (subs l).map fun m => x :: m
theorem subs_len {α : Type} : ∀ l : List α, (subs l).length = 2 ^ l.length
  | [] => rfl
  | x :: l => by
    show (subs l ++ (subs l).map _).length = _
    rw [List.length_append, List.length_map, subs_len l, List.length_cons, Nat.pow_succ]
    omega
theorem filter_subs {α : Type} (p : α → Bool) : ∀ l : List α, l.filter p ∈ subs l
  | [] => List.mem_singleton.mpr rfl
  | x :: l => by
    show _ ∈ subs l ++ (subs l).map _
    rw [List.filter_cons]
    split
    · exact List.mem_append_right _ (List.mem_map.mpr ⟨_, filter_subs p l, rfl⟩)
    · exact List.mem_append_left _ (filter_subs p l)
theorem twosMem {α : Type} {p : α × α} : ∀ {l : List α}, p ∈ twos l → p.1 ∈ l ∧ p.2 ∈ l
  | [], h => by cases h
  | x :: l, h => by
    have h : p ∈ l.map (fun y => (x, y)) ++ twos l := h
    rcases List.mem_append.mp h with h | h
    · obtain ⟨y, hy, rfl⟩ := List.mem_map.mp h
      exact ⟨List.mem_cons_self, List.mem_cons_of_mem _ hy⟩
    · exact ⟨List.mem_cons_of_mem _ (twosMem h).1, List.mem_cons_of_mem _ (twosMem h).2⟩
theorem fix_meets {b : Blk} (w : WF b) {o o' : List Str} (ho : IsOrd b o) (ho' : IsOrd b o') {q : Str × Str} (h1 : q.1 ∈ names b) (h2 : q.2 ∈ names b) (hv : vary b q = false) : meets b o q.1 q.2 = meets b o' q.1 q.2 := by
  unfold vary at hv
  rw [Bool.and_eq_false_iff, Bool.not_eq_false', Bool.not_eq_false', Bool.or_eq_true, Bool.and_eq_true] at hv
  rcases hv with (h | h) | ⟨u1, u2⟩
  · have n := Need.one (of_decide_eq_true h)
    rw [meets_need w ho n, meets_need w ho' n]
  · have n := Need.one (of_decide_eq_true h)
    have c : ∀ o, meets b o q.1 q.2 = meets b o q.2 q.1 := fun o => by unfold meets; rw [Bool.and_comm]
    rw [c, c, meets_need w ho n, meets_need w ho' n]
  · have u1 : readers b q.1 = [] := of_decide_eq_true u1
    have u2 : readers b q.2 = [] := of_decide_eq_true u2
    have key : ∀ o, IsOrd b o → meets b o q.1 q.2 = true := fun o ho => by
      unfold meets
      rw [rplace_none u1, rplace_none u2, Bool.and_eq_true, decide_eq_true_eq, decide_eq_true_eq]
      exact ⟨plcLt (ho.in.mpr h1), plcLt (ho.in.mpr h2)⟩
    rw [key o ho, key o' ho']
theorem few_meetings {b : Blk} (w : WF b) (h5 : b.rows.length ≤ 5) (l : List (List (Str × Str))) (hn : l.Nodup) (hl : ∀ m ∈ l, m ∈ (ords b).map (meeting b)) : l.length ≤ 70 := by
  generalize hV : (twos (awaited b)).filter (vary b) = V
  have lV : V.length ≤ 6 := by rw [← hV]; exact vary_le w h5
  have inj : ∀ m ∈ l, ∀ m' ∈ l, V.filter (fun q => decide (q ∈ m)) = V.filter (fun q => decide (q ∈ m')) → m = m' := fun m hm m' hm' e => by
    obtain ⟨o, ho, e1⟩ := List.mem_map.mp (hl m hm)
    obtain ⟨o', ho', e2⟩ := List.mem_map.mp (hl m' hm')
    have io := (mem_ords w).mp ho
    have io' := (mem_ords w).mp ho'
    rw [← e1, ← e2]
    unfold meeting
    refine List.filter_congr fun q hq => ?_
    obtain ⟨q1, q2⟩ := twosMem hq
    cases hv : vary b q with
    | false => exact fix_meets w io io' (awaited_in q1) (awaited_in q2) hv
    | true =>
      have qV : q ∈ V := by rw [← hV]; exact List.mem_filter.mpr ⟨hq, hv⟩
      have z : q ∈ V.filter (fun q => decide (q ∈ m)) ↔ q ∈ V.filter (fun q => decide (q ∈ m')) := by rw [e]
      rw [List.mem_filter, List.mem_filter, decide_eq_true_eq, decide_eq_true_eq, ← e1, ← e2] at z
      unfold meeting at z
      rw [List.mem_filter, List.mem_filter] at z
      rw [Bool.eq_iff_iff]
      exact ⟨fun h => (z.mp ⟨qV, hq, h⟩).2.2, fun h => (z.mpr ⟨qV, hq, h⟩).2.2⟩
  have nd : (l.map fun m => V.filter fun q => decide (q ∈ m)).Nodup := by
    rw [List.Nodup, List.pairwise_map]
    exact hn.imp_of_mem fun {m m'} hm hm' ne e => ne (inj m hm m' hm' e)
  have z := nd_le _ (subs V) nd fun s hs => by
    obtain ⟨m, _, e⟩ := List.mem_map.mp hs
    rw [← e]
    exact filter_subs _ V
  rw [List.length_map, subs_len] at z
  have : 2 ^ V.length ≤ 2 ^ 6 := Nat.pow_le_pow_right (by decide) lV
  omega
/-- the law's test of a great one -/
theorem great_eq {α : Type} [DecidableEq α] {S sets : List (List α)} (h : ∀ z, z ∈ S ↔ z ∈ sets) (own : List α) :
    (!(S.any fun far => !decide (own = far) && own.all fun pr => decide (pr ∈ far))) = decide ((sets.filter fun far => !decide (far = own) && decide ((own.filter fun bit => !decide (bit ∈ far)) = [])) = []) := by
  rw [Bool.eq_iff_iff, decide_eq_true_eq, Bool.not_eq_true', List.any_eq_false, List.filter_eq_nil_iff]
  have key : ∀ far, (!decide (own = far) && own.all fun pr => decide (pr ∈ far)) = (!decide (far = own) && decide ((own.filter fun bit => !decide (bit ∈ far)) = [])) := fun far => by
    have e1 : decide (own = far) = decide (far = own) := by
      rw [decide_eq_decide]
      exact ⟨Eq.symm, Eq.symm⟩
    rw [e1]
    congr 1
    rw [Bool.eq_iff_iff, decide_eq_true_eq, List.filter_eq_nil_iff, List.all_eq_true]
    simp
  constructor
  · intro q far hf
    rw [← key far]
    exact q far ((h far).mpr hf)
  · intro q far hf
    rw [key far]
    exact q far ((h far).mp hf)
end My
/-! D17 -/
namespace My
open PySem L2
/-! ### three levels down -/
section
variable {X : Cx} {scope0 scope1 : Scope} {j j1 : BI} {σ : L2.St} {H : Hp} {iter elt : Expr} {ifs : List Expr} {scope : Scope} {pos : Pos} {α : Type} {l : List α} {enc : α → PyData} {f : α → Bool} {g : α → PyData}
theorem ev_lcA3 {N : List Str} {i : Nat} {x : Str} {px : Pos} (sc0 : Scope) (nd : N.Nodup) (src : Src (BX (BX X scope0 j) scope1 j1) (.Name x px) iter σ H (l.map enc)) (ht : ∀ y ∈ l, tupD (g y) = true)
    (turn : ∀ y ∈ l, ∀ v H1, Sm H H1 → Rp H1 v (enc y) → ∀ k, Ev (BX (BX (BX X scope0 j) scope1 j1) scope k) elt (σ.set i (some v)) H1 (Is (g y)))
    (hN : X.N = N := by rfl) (hsc : X.env.scope = sc0 := by rfl) (ok : blkC N (relS scope1 (relS scope0 sc0)) scope [(x, i)] = true := by decide +kernel) (hi : N[i]? = some x := by rfl)
    (hx : (relS scope (relS scope1 (relS scope0 sc0))).names.lookup x = some .local ∨ ((relS scope (relS scope1 (relS scope0 sc0))).names.lookup x = some .cell ∧ (scope.names.lookup x == some .cell) = true) := by first | exact .inl (by rfl) | exact .inr ⟨by rfl, by rfl⟩)
    (hc : X.calm = true := by rfl) (hs : ∀ x, foldedSetIterable iter (BX (BX X scope0 j) scope1 j1).env x = pure x := by intro _; rfl) : Ev (BX (BX X scope0 j) scope1 j1) (.ListComp elt [⟨.Name x px, iter, [], 0⟩] scope pos) σ H (Is (.list (l.map g))) :=
  ev_lcA (X := BX (BX X scope0 j) scope1 j1) (relS scope1 (relS scope0 sc0)) nd src ht turn hN (by rw [← hsc]; rfl) ok hi hx hc hs
end
abbrev meetsAll (b : Blk) : List (List (Str × Str)) := setL ltK ((ords b).map (meeting b))
def greatL (b : Blk) : List (List (Str × Str)) := (meetsAll b).filter fun own => !(meetsAll b).any fun far => !decide (own = far) && own.all fun pr => decide (pr ∈ far)
abbrev CSetM (P : Program) (w : World) (K : PySem.W.Frag) (mg : Str → Option Value) (base : Heap) : Prop := C8.Cal P w K mg base 1 "set_of" (PF (fun (as : List (List (Str × Str))) vs H => ∃ v, vs = [v] ∧ Sq (as.map Kd.enc) v H ∧ FewL as (Ks.bound (List (Str × Str)))) fun as => Is (.tuple ((setL ltK as).map Kd.enc))) []
theorem shp_eM (m : List (Str × Str)) : Shp 2 (eM m) := shp_tup (shpA_map fun p _ => shp_tup (shpA_cons shp_str (shpA_cons shp_str shpA_nil)))
theorem plain_eM (m : List (Str × Str)) : PyData.plainAll (m.map eP) = true := (shpA_map (n := 1) (l := m) (f := eP) fun p _ => shp_tup (shpA_cons shp_str (shpA_cons shp_str shpA_nil))).1
section
variable {P : Program} {w : World} {K : PySem.W.Frag} {mg : Str → Option Value} {base : Heap}
abbrev sGreat : Stmt := top 42
theorem sc_great : FnScope ["block", "some", "own", "order", "far", "pair"] ["block"] (defScope sGreat) := ⟨rfl, rfl, rfl, by decide +kernel, rfl, by decide +kernel, by decide +kernel⟩
abbrev AGreat : Blk → RelA := fun b vs H => RpA H vs [eB b] ∧ WF b ∧ FewL ((ords b).map (meeting b)) 70
abbrev CGreat (P : Program) (w : World) (K : PySem.W.Frag) (mg : Str → Option Value) (base : Heap) : Prop := C8.Cal P w K mg base 12 "great_meetings" (PF AGreat fun b => Is (.list ((greatL b).map eM))) []
theorem ev_allO {X : Cx} {σ : L2.St} {H : Hp} {e : Expr} {p pos : Pos} {j : Nat} {b : Blk} (c : CAllO X.prog X.w X.K X.mg X.base) (hr : Room j X.A) (wf : WF b) (h : Ev X e σ H (Is (eB b))) (hk : 7 ≤ j := by decide) (hg : Gl X "all_orders" := by rfl) (he : starEach [e] X.env = (false, eval e X.env) :: starEach [] X.env := by rfl) (hpl : (backTo pos (starEach [] X.env)).any (·.1) = false := by rfl) :
    Ev X (.Call (.Name "all_orders" p) [e] [] pos) σ H (Is (.list ((ords b).map eN))) := ev_pf b c hr (ea_is h ea_isNil he) (fun vs H1 _ t => ⟨t, wf⟩) hk hg (by decide) he hpl
theorem ev_meeting {X : Cx} {σ : L2.St} {H : Hp} {e e2 : Expr} {p pos : Pos} {j : Nat} {b : Blk} {o : List Str} (c : CMeeting X.prog X.w X.K X.mg X.base) (hr : Room j X.A) (wf : WF b) (ho : IsOrd b o) (h : Ev X e σ H (Is (eB b))) (h2 : Ev X e2 σ H (Is (eN o))) (hk : 11 ≤ j := by decide) (hg : Gl X "meeting" := by rfl)
    (he : starEach [e, e2] X.env = (false, eval e X.env) :: starEach [e2] X.env := by rfl) (he2 : starEach [e2] X.env = (false, eval e2 X.env) :: starEach [] X.env := by rfl) (hpl : (backTo pos (starEach [e2] X.env)).any (·.1) = false := by rfl) : Ev X (.Call (.Name "meeting" p) [e, e2] [] pos) σ H (Is (eM (meeting b o))) :=
  ev_pf (b, o) c hr (ea_is h (ea_is h2 ea_isNil he2) he) (fun vs H1 _ t => ⟨t, wf, ho⟩) hk hg (by decide) he hpl
theorem ev_setM {X : Cx} {σ : L2.St} {H : Hp} {e : Expr} {p pos : Pos} {j : Nat} {as : List (List (Str × Str))} (c : CSetM X.prog X.w X.K X.mg X.base) (hr : Room j X.A) (h : Ev X e σ H (Sq (as.map eM))) (hz : FewL as 70) (hk : 1 ≤ j := by decide) (hg : Gl X "set_of" := by rfl) (he : starEach [e] X.env = (false, eval e X.env) :: starEach [] X.env := by rfl) (hpl : (backTo pos (starEach [] X.env)).any (·.1) = false := by rfl) :
    Ev X (.Call (.Name "set_of" p) [e] [] pos) σ H (Is (.tuple ((setL ltK as).map eM))) :=
  ev_call c hr (ea_cons h ea_nil he) (fun vs H1 _ t Q z => by
    obtain ⟨v, rfl, r1⟩ := one_of t
    exact ⟨as, ⟨v, rfl, r1, hz⟩, fun u H2 s2 r2 => z u H2 s2 r2⟩) hk hg (by decide) he hpl
theorem cal_great (F : Df K mg "great_meetings" sGreat) (B : Blt mg) (c1 : CAllO P w K mg base) (c2 : CMeeting P w K mg base) (c3 : CSetM P w K mg base) (allO : ∀ b, WF b → ∀ o ∈ ords b, IsOrd b o) : CGreat P w K mg base := by
  refine cal_pf (A := AGreat) F sc_great (fun _ _ _ _ _ _ us hl => match us, hl with | [_], _ => rfl) (fun d vs H h => by obtain ⟨v, rfl, _⟩ := bl1 h.1; rfl) ?_
  intro f cdv Ar outer s H vs Q E b hr ⟨h1, wf, few⟩ q
  obtain ⟨v, rfl, hv⟩ := bl1 h1
  refine b_cons (s_set 1 sc_great.nd (ev_setM (as := (ords b).map (meeting b)) c3 hr (sq_l (Ev.is (ev_lcA (i := 3) (l := ords b) (enc := eN) (g := fun o => eM (meeting b o)) (defScope sGreat) sc_great.nd (src_list (ev_allO c1 hr wf (ev_name 0 (R := Is (eB b)) rfl hv))) (fun o _ => Kd.tup (meeting b o)) fun o ho y H1 m ry j => ev_meeting c2 hr wf (allO b wf o ho) (ev_name 0 (R := Is (eB b)) rfl (Rp.mono m _ _ hv)) (ev_name 3 (R := Is (eN o)) rfl ry)) (by rw [List.map_map]; rfl))) few) fun sv H1 s1 rs => ?_)
  have rs : Rp H1 sv (.tuple ((meetsAll b).map eM)) := rs
  refine b_one (s_ret (R := Is (.list ((greatL b).map eM))) (ev_lcN (i := 2) (l := meetsAll b) (enc := eM) (f := fun own => !(meetsAll b).any fun far => !decide (own = far) && own.all fun pr => decide (pr ∈ far)) (g := eM) (defScope sGreat) sc_great.nd (src_tup (ev_name 1 (R := Is (.tuple ((meetsAll b).map eM))) rfl rs)) (fun m _ _ => Kd.tup m) fun own ho y H2 m2 ry => ⟨fun j => ?_, fun _ j => ev_name 2 rfl ry⟩) fun z H2 s2 r2 => q z H2 (s1.trans s2) r2)
  refine ets_one (EvT.is (et_not (et_val (Ev.is (ev_any (bs := (meetsAll b).map fun far => !decide (own = far) && own.all fun pr => decide (pr ∈ far)) B.any (Ev.is (ev_lcA' (defScope sGreat) (i := 4) (l := meetsAll b) (enc := eM) (g := fun far => .bool (!decide (own = far) && own.all fun pr => decide (pr ∈ far))) sc_great.nd
    (src_tup (ev_name 1 (R := Is (.tuple ((meetsAll b).map eM))) rfl (Rp.mono m2 _ _ rs))) (fun r _ => by simp [tupD]) fun far hf t H3 m3 rt k => ?_) (by rw [List.map_map]; rfl))) rfl))) ?_)
  · have ro : Rp H3 y (eM own) := Rp.mono m3 _ _ ry
    refine ev_and (Ev.is (ev_ne (n := 2) hr (ev_name 2 (R := Is (eM own)) rfl ro) (ev_name 4 (R := Is (eM far)) rfl rt) (shp_eM own) (shp_eM far)) ?_) fun _ => ev_one (Ev.is (ev_all (bs := own.map fun pr => decide (pr ∈ far)) B.all (Ev.is (ev_lcA3 (defScope sGreat) (i := 5) (l := own) (enc := eP) (g := fun pr => .bool (decide (pr ∈ far))) sc_great.nd (src_tup (ev_name 2 (R := Is (eM own)) rfl ro)) (fun r _ => by simp [tupD]) fun pr hp t2 H4 m4 rp k2 => ?_) (by rw [List.map_map]; rfl))) ?_)
    · rw [show PyData.eqv (eM own) (eM far) = decide (own = far) from eqv_enc (α := List (Str × Str)) own far]
    · refine Ev.is (ev_inD (n := 1) hr (ev_name 5 rfl rp) (sq_t (ev_name 4 (R := Is (eM far)) rfl (Rp.mono m4 _ _ rt))) (shp_tup (shpA_cons shp_str (shpA_cons shp_str shpA_nil))) (plain_eM far)) ?_
      exact congrArg PyData.bool ((any_enc (α := Str × Str) far pr).trans (decide_eq_decide.mpr Iff.rfl))
    · rw [List.all_map]
      rfl
  · rw [List.any_map]
    rfl
end
end My
/-! M6 -/
/-! plain: the law's table -/
namespace My
open PySem PyProof.Rows PySem.W
theorem str_tok {x y : Str} (h : x ≠ y) : (Sum.inr x.cps.toList : Int ⊕ List Nat) ≠ Sum.inr y.cps.toList := fun e => h (by
  have e1 := Sum.inr.inj e
  have e2 := Array.toList_inj.mp e1
  cases x
  cases y
  exact congrArg Str.mk e2)
theorem lt_two1 {x y u v : Str} (h : ltK x u = true) : ltK [x, y] [u, v] = true := by
  have ne : x ≠ u := fun e => by
    rw [e, ordK.irr] at h
    cases h
  show PyProof.Rows.lexLt itemOrd (keyToks (eN [x, y])) (keyToks (eN [u, v])) = true
  simp only [keyToks, keyToksAll, List.map]
  have z := lex_pre [.inl 1] (Sum.inr x.cps.toList :: keyToksAll [.str y]) (Sum.inr u.cps.toList :: keyToksAll [.str v])
  have z2 := lex_atom (str_tok ne) (keyToksAll [.str y]) (keyToksAll [.str v])
  exact (z.trans z2).trans h
theorem lt_two2 {x y v : Str} (h : ltK y v = true) : ltK [x, y] [x, v] = true := by
  have ne : y ≠ v := fun e => by
    rw [e, ordK.irr] at h
    cases h
  show PyProof.Rows.lexLt itemOrd (keyToks (eN [x, y])) (keyToks (eN [x, v])) = true
  simp only [keyToks, keyToksAll, List.map]
  have z := lex_pre [.inl 1, .inr x.cps.toList, .inl 1] (Sum.inr y.cps.toList :: keyToksAll []) (Sum.inr v.cps.toList :: keyToksAll [])
  have z2 := lex_atom (str_tok ne) (keyToksAll []) (keyToksAll [])
  exact (z.trans z2).trans h
abbrev kP (p : Str × Str) : List Str := [p.1, p.2]
theorem asc_twos : ∀ {l : List Str}, Asc ltK l → Asc ltK ((twos l).map kP)
  | [], _ => List.Pairwise.nil
  | x :: l, h => by
    obtain ⟨h1, h2⟩ := List.pairwise_cons.mp h
    show Asc ltK ((l.map (fun y => (x, y)) ++ twos l).map kP)
    rw [List.map_append, List.map_map]
    refine List.pairwise_append.mpr ⟨?_, asc_twos h2, fun a ha c hc => ?_⟩
    · rw [List.pairwise_map]
      exact h2.imp fun h => lt_two2 h
    · obtain ⟨y, hy, rfl⟩ := List.mem_map.mp ha
      obtain ⟨p, hp, rfl⟩ := List.mem_map.mp hc
      exact lt_two1 (h1 _ (twosMem hp).1)
theorem twos_lt {l : List Str} (h : Asc ltK l) {p : Str × Str} (hp : p ∈ twos l) : ltK p.1 p.2 = true := by
  induction l with
  | nil => cases hp
  | cons x l ih =>
    obtain ⟨h1, h2⟩ := List.pairwise_cons.mp h
    have hp : p ∈ l.map (fun y => (x, y)) ++ twos l := hp
    rcases List.mem_append.mp hp with q | q
    · obtain ⟨y, hy, rfl⟩ := List.mem_map.mp q
      exact h1 y hy
    · exact ih h2 q
theorem lt_ne {x y : Str} (h : ltK x y = true) : x ≠ y := fun e => by
  rw [e, ordK.irr] at h
  cases h
theorem mem_twos {l : List Str} (h : Asc ltK l) {x y : Str} (hx : x ∈ l) (hy : y ∈ l) (lt : ltK x y = true) : (x, y) ∈ twos l := by
  induction l with
  | nil => cases hx
  | cons z l ih =>
    obtain ⟨h1, h2⟩ := List.pairwise_cons.mp h
    show (x, y) ∈ l.map (fun u => (z, u)) ++ twos l
    rcases List.mem_cons.mp hx with e | hx2
    · subst e
      rcases List.mem_cons.mp hy with e | hy2
      · exact absurd e.symm (lt_ne lt)
      · exact List.mem_append_left _ (List.mem_map.mpr ⟨y, hy2, rfl⟩)
    · rcases List.mem_cons.mp hy with e | hy2
      · have := h1 x hx2
        rw [← e, ordK.asym lt] at this
        cases this
      · exact List.mem_append_right _ (ih h2 hx2 hy2)
/-- the table of who meets in which order -/
def rowD (b : Blk) (p : Str × Str) : PyData := .list ((ords b).map fun o => .bool (meets b o p.1 p.2))
def tabM (b : Blk) (ps : List (Str × Str)) : List (List Str × PyData) := ps.map fun p => (kP p, rowD b p)
theorem kP_inj {p q : Str × Str} (h : kP p = kP q) : p = q := by
  injection h with h1 h2
  injection h2 with h2 _
  exact Prod.ext h1 h2
theorem look_tabM {b : Blk} : ∀ {ps : List (Str × Str)} {p : Str × Str}, p ∈ ps → lookT (tabM b ps) (kP p) = some (rowD b p)
  | [], _, h => by cases h
  | q :: ps, p, h => by
    show (if kP q = kP p then some (rowD b q) else lookT (tabM b ps) (kP p)) = _
    by_cases e : kP q = kP p
    · rw [if_pos e, kP_inj e]
    · rw [if_neg e]
      rcases List.mem_cons.mp h with z | z
      · exact absurd (by rw [z]) e
      · exact look_tabM z
theorem putT_new {b : Blk} {ps : List (Str × Str)} {p : Str × Str} (h : p ∉ ps) : putT (tabM b ps) (kP p) (rowD b p) = tabM b (ps ++ [p]) := by
  unfold putT
  rw [if_neg]
  · unfold tabM
    rw [List.map_append]
    rfl
  · intro z
    obtain ⟨q, hq, e⟩ := List.any_eq_true.mp z
    obtain ⟨r, hr, rfl⟩ := List.mem_map.mp hq
    have e : kP r = kP p := of_decide_eq_true e
    exact h (kP_inj e ▸ hr)
theorem tab_sorted {b : Blk} (w : WF b) : sortL ltK ((tabM b (twos (awaited b))).map (·.1)) = (twos (awaited b)).map kP := by
  have e : (tabM b (twos (awaited b))).map (·.1) = (twos (awaited b)).map kP := by
    unfold tabM
    rw [List.map_map]
    rfl
  rw [e]
  exact sortL_self ordK (asc_twos (awaited_asc w))
theorem twos_nodup {b : Blk} (w : WF b) : (twos (awaited b)).Nodup := by
  have z := asc_nodup ordK (asc_twos (awaited_asc w))
  rw [List.Nodup, List.pairwise_map] at z
  exact z.imp fun {a c} h e => h (by rw [e])
/-- a drawn pair, sorted -/
theorem pair_sorted {b : Blk} (w : WF b) {p : Str × Str} (h1 : p.1 ∈ awaited b) (h2 : p.2 ∈ awaited b) (ne : p.1 ≠ p.2) : ∃ q ∈ twos (awaited b), sortL ltK [p.1, p.2] = kP q ∧ ∀ o, meets b o q.1 q.2 = meets b o p.1 p.2 := by
  cases e : ltK p.1 p.2 with
  | true =>
    refine ⟨p, mem_twos (awaited_asc w) h1 h2 e, ?_, fun _ => rfl⟩
    show insS ltK p.1 (insS ltK p.2 []) = _
    show (if ltK p.2 p.1 = true then [p.2, p.1] else [p.1, p.2]) = _
    rw [if_neg (by rw [ordK.asym e]; simp)]
  | false =>
    have e2 : ltK p.2 p.1 = true := by
      cases e2 : ltK p.2 p.1 with
      | true => rfl
      | false => exact absurd (ordK.tot _ _ e e2) ne
    refine ⟨(p.2, p.1), mem_twos (awaited_asc w) h2 h1 e2, ?_, fun o => by unfold meets; rw [Bool.and_comm]⟩
    show (if ltK p.2 p.1 = true then [p.2, p.1] else [p.1, p.2]) = _
    rw [if_pos e2]
/-! ### what the law asks, answered -/
/-- the greatest gap -/
theorem gap_told {b : Blk} (w : WF b) {x : Str} (hx : x ∈ slows b) {M : Int} (hM : (b.rows.length : Int) ≤ M) :
    (x ∈ awaited b → (b.rows.length : Int) + M - gapI b x ∈ (ords b).map (fun o => endOf b o (slowed b [(x, M)])) ∧ (∀ e ∈ (ords b).map (fun o => endOf b o (slowed b [(x, M)])), (b.rows.length : Int) + M - gapI b x ≤ e) ∧ ∀ e ∈ (ords b).map (fun o => endOf b o (slowed b [(x, M)])), (M > b.rows.length → (b.rows.length : Int) < e)) ∧
    (x ∉ awaited b → ∀ e ∈ (ords b).map (fun o => endOf b o (slowed b [(x, M)])), e = b.rows.length) := by
  have hn := slows_in hx
  have key : ∀ o, IsOrd b o → endOf b o (slowed b [(x, M)]) = if x ∈ awaited b then b.rows.length + M - gapO b o x else b.rows.length := fun o ho => by
    have z := end_one w ho hx (M := M) (by rw [ho.size]; exact hM)
    rw [ho.size] at z
    exact z
  constructor
  · intro ha
    obtain ⟨o, ho, hg⟩ := gap_has w hn
    have hle := gap_le w ho hn
    have eg : gapO b o x = gapI b x := by
      unfold gapI
      omega
    refine ⟨List.mem_map.mpr ⟨o, (mem_ords w).mpr ho, by rw [key o ho, if_pos ha, eg]⟩, fun e he => ?_, fun e he hm => ?_⟩
    · obtain ⟨o', ho', e2⟩ := List.mem_map.mp he
      have io := (mem_ords w).mp ho'
      rw [← e2, key o' io, if_pos ha]
      have := gap_le w io hn
      unfold gapI
      omega
    · obtain ⟨o', ho', e2⟩ := List.mem_map.mp he
      have io := (mem_ords w).mp ho'
      rw [← e2, key o' io, if_pos ha]
      have := gap_le w io hn
      omega
  · intro ha e he
    obtain ⟨o', ho', e2⟩ := List.mem_map.mp he
    rw [← e2, key o' ((mem_ords w).mp ho'), if_neg ha]
theorem waited_filter {b : Blk} : (slows b).filter (fun x => decide (x ∈ awaited b)) = awaited b := by
  conv => rhs; unfold awaited
  refine List.filter_congr fun x hx => ?_
  rw [Bool.eq_iff_iff, decide_eq_true_eq, mem_awaited]
  simp only [Bool.or_eq_true, decide_eq_true_eq, List.length_pos_iff]
  exact ⟨fun h => h.2, fun h => ⟨hx, h⟩⟩
/-- who can meet -/
theorem can_told {b : Blk} (w : WF b) {p : Str × Str} (hp : p ∈ twos (awaited b)) : canM b p.2 p.1 = ((ords b).map fun o => meets b o p.1 p.2).any fun k => k := by
  obtain ⟨h1, h2⟩ := twosMem hp
  have ne := lt_ne (twos_lt (awaited_asc w) hp)
  have n1 := awaited_in h1
  have n2 := awaited_in h2
  have e : canM b p.2 p.1 = (!decide (p.2 ∈ needs b p.1) && !decide (p.1 ∈ needs b p.2)) := by
    unfold canM areA
    rw [decide_eq_false (fun e : p.2 = p.1 => ne e.symm), decide_eq_true h1, decide_eq_true h2]
    rfl
  rw [e, List.any_map]
  by_cases c : Need b p.1 p.2 ∨ Need b p.2 p.1
  · have f : (!decide (p.2 ∈ needs b p.1) && !decide (p.1 ∈ needs b p.2)) = false := by
      rcases c with c | c
      · rw [decide_eq_true ((mem_needs w).mpr c)]; rfl
      · rw [decide_eq_true ((mem_needs w).mpr c)]; simp
    rw [f]
    symm
    rw [List.any_eq_false]
    intro o ho
    have io := (mem_ords w).mp ho
    show ¬ (meets b o p.1 p.2 = true)
    rcases c with c | c
    · rw [meets_need w io c]; simp
    · have cm : meets b o p.1 p.2 = meets b o p.2 p.1 := by unfold meets; rw [Bool.and_comm]
      rw [cm, meets_need w io c]; simp
  · rw [not_or] at c
    obtain ⟨o, ho, hm⟩ := meet_has w n1 n2 c.1 c.2
    have f : (!decide (p.2 ∈ needs b p.1) && !decide (p.1 ∈ needs b p.2)) = true := by
      rw [decide_eq_false (fun h => c.1 ((mem_needs w).mp h)), decide_eq_false (fun h => c.2 ((mem_needs w).mp h))]; rfl
    rw [f]
    symm
    exact List.any_eq_true.mpr ⟨o, (mem_ords w).mpr ho, hm⟩
end My
/-! C10 -/
namespace My
open PySem L2
/-! ### a list of three ints that some calls change, n more times at most -/
abbrev Tri (a b c : Int) : HO := .lst [.int a, .int b, .int c]
def JM (jr : Addr) (n : Nat) (ms : List (Addr × HO)) (F H : Hp) : Prop := ∃ a b c : Int, 0 ≤ c ∧ c + (n : Int) ≤ 1152921504606846976 ∧ Mu F ((jr, Tri a b c) :: ms) H
section
variable {jr : Addr} {n k : Nat} {ms ms' : List (Addr × HO)} {F G H H' : Hp}
theorem JM.le (h : JM jr n ms F H) (hk : k ≤ n) : JM jr k ms F H := by
  obtain ⟨a, b, c, h0, h1, m⟩ := h
  exact ⟨a, b, c, h0, by omega, m⟩
theorem JM.eval (h : JM jr n ms F H) (s : Same H H') : JM jr n ms F H' := by
  obtain ⟨a, b, c, h0, h1, m⟩ := h
  exact ⟨a, b, c, h0, h1, m.eval s⟩
theorem JM.sam (h : JM jr n ms F H) : Same F H := let ⟨_, _, _, _, _, m⟩ := h; m.sam
theorem JM.sm (h : JM jr n ms F H) : Sm F H := sm_of h.sam
theorem Mu.perm2 {q : Addr × HO} (m : Mu F (q :: ms) H) (p : ms.Perm ms') : Mu F (q :: ms') H := m.perm (List.Perm.cons _ p)
theorem JM.perm (h : JM jr n ms F H) (p : ms.Perm ms') : JM jr n ms' F H := by
  obtain ⟨a, b, c, h0, h1, m⟩ := h
  exact ⟨a, b, c, h0, h1, m.perm2 p⟩
/-- all that stands beside -/
theorem JM.wide (h : JM jr n ms F H) : ∃ G, Same F G ∧ JM jr n ms G H ∧ Tp H G := by
  obtain ⟨a, b, c, h0, h1, m⟩ := h
  obtain ⟨w1, w2, w3⟩ := m.wide
  exact ⟨_, w1, ⟨a, b, c, h0, h1, w2⟩, w3⟩
theorem JM.add {p : Addr} {o : HO} (h : JM jr n ms F H) (s : Same H H') (hp : H p = none) (h' : H' p = some o) (nt : ∀ xs, o ≠ .tup xs) : JM jr n ((p, o) :: ms) F H' := by
  obtain ⟨a, b, c, h0, h1, m⟩ := h
  exact ⟨a, b, c, h0, h1, (m.add s hp h' nt).swap⟩
theorem JM.new {p : Addr} {o : HO} (h : JM jr n ms F H) (hp : H p = none) (nt : ∀ xs, o ≠ .tup xs) : JM jr n ((p, o) :: ms) F (upd H p o) := by
  obtain ⟨a, b, c, h0, h1, m⟩ := h
  exact ⟨a, b, c, h0, h1, (m.new hp nt).swap⟩
theorem JM.one {p : Addr} {o : HO} (h : JM jr n ((p, o) :: ms) F H) : H p = some o := by
  obtain ⟨a, b, c, h0, h1, m⟩ := h
  exact m.two
theorem JM.two {q : Addr × HO} {p : Addr} {o : HO} (h : JM jr n (q :: (p, o) :: ms) F H) : H p = some o := by
  obtain ⟨a, b, c, h0, h1, m⟩ := h
  exact (m.at_ _ (List.mem_cons_of_mem _ (List.mem_cons_of_mem _ List.mem_cons_self))).2.1
theorem JM.put {p : Addr} {o o' : HO} (h : JM jr n ((p, o) :: ms) F H) (nt : ∀ xs, o' ≠ .tup xs) : JM jr n ((p, o') :: ms) F (upd H p o') := by
  obtain ⟨a, b, c, h0, h1, m⟩ := h
  exact ⟨a, b, c, h0, h1, (m.swap.put nt).swap⟩
theorem JM.swap {q r : Addr × HO} (h : JM jr n (q :: r :: ms) F H) : JM jr n (r :: q :: ms) F H := h.perm (List.Perm.swap _ _ _)
/-- it changes no more -/
theorem JM.done {p : Addr} {o : HO} (h : JM jr n ((p, o) :: ms) F H) : ∃ F', Same F F' ∧ JM jr n ms F' H ∧ Tp H F' ∧ F' p = some o := by
  obtain ⟨a, b, c, h0, h1, m⟩ := h
  obtain ⟨F', w1, w2, w3, w4⟩ := m.swap.done
  exact ⟨F', w1, ⟨a, b, c, h0, h1, w2⟩, w3, w4⟩
theorem JM.forget {q : Addr × HO} (h : JM jr n (q :: ms) F H) : JM jr n ms F H := by
  obtain ⟨a, b, c, h0, h1, m⟩ := h
  exact ⟨a, b, c, h0, h1, m.swap.forget⟩
theorem JM.jar (h : JM jr n ms F H) : ∃ a b c : Int, 0 ≤ c ∧ c + (n : Int) ≤ 1152921504606846976 ∧ H jr = some (Tri a b c) := by
  obtain ⟨a, b, c, h0, h1, m⟩ := h
  exact ⟨a, b, c, h0, h1, m.one⟩
theorem JM.non (h : JM jr n ms F H) : F jr = none := by
  obtain ⟨a, b, c, h0, h1, m⟩ := h
  exact m.non
/-- the three are told anew -/
theorem JM.set {k : Nat} {a' b' c' : Int} (h : JM jr n ms F H) (h0 : 0 ≤ c') (h1 : c' + (k : Int) ≤ 1152921504606846976) : JM jr k ms F (upd H jr (Tri a' b' c')) := by
  obtain ⟨a, b, c, _, _, m⟩ := h
  exact ⟨a', b', c', h0, h1, m.put (by intro _ z; cases z)⟩
theorem JM.cond (h : JM jr n ms F H) : Cond (jr :: ms.map (·.1)) F H := by
  obtain ⟨a, b, c, _, _, m⟩ := h
  exact m.cond
/-- .. from a frame that the source of a loop gives -/
theorem JM.from {H2 : Hp} (h : JM jr n ms F H) (s : Same H H2) (g : Same G H2) (np : ∀ p ∈ jr :: ms.map (·.1), G p = none) : JM jr n ms G H2 := by
  obtain ⟨a, b, c, h0, h1, m⟩ := h
  exact ⟨a, b, c, h0, h1, g, fun q hq => ⟨np _ (List.mem_map.mpr ⟨q, hq, rfl⟩), s _ _ (m.at_ q hq).2.1, (m.at_ q hq).2.2⟩, m.nd⟩
theorem JM.low {F2 : Hp} (s : Same F F2) (h : JM jr n ms F2 H) : JM jr n ms F H := by
  obtain ⟨a, b, c, h0, h1, m⟩ := h
  exact ⟨a, b, c, h0, h1, m.low s⟩
end
/-! ### readings that may change it -/
def EvJ (X : Cx) (jr : Addr) (e : Expr) (σ : L2.St) (ms : List (Addr × HO)) (n k : Nat) (F : Hp) (R : Rel) : Prop := ∀ H, JM jr (n + k) ms F H → ∀ Q : VK, (∀ v F' H', Same F F' → JM jr n ms F' H' → R v F' → Q v H') → wE X e σ H Q
def EvAJ (X : Cx) (jr : Addr) (es : List Expr) (σ : L2.St) (ms : List (Addr × HO)) (n k : Nat) (F : Hp) (R : RelA) : Prop := ∀ H, JM jr (n + k) ms F H → ∀ Q : List V → Hp → Prop, (∀ vs F' H', Same F F' → JM jr n ms F' H' → R vs F' → Q vs H') → wA X es σ H Q
/-- the promise of a def whose first argument is such a list -/
def PJ {α : Type} (A : α → RelA) (B : α → Rel) (cost : Nat) : Sp := fun vs H Q _ => ∃ x jr n ms F us, vs = .ref jr :: us ∧ JM jr (n + cost) ms F H ∧ A x us F ∧ ∀ v F' H', Same F F' → JM jr n ms F' H' → B x v F' → Q v H'
section
variable {X : Cx} {jr : Addr} {σ : L2.St} {ms : List (Addr × HO)} {n k : Nat} {F : Hp} {R : Rel} {e a b : Expr} {es : List Expr} {p pos apos : Pos}
/-- data without lists, nothing changed -/
theorem ej_tup {d : PyData} (h : Ev X e σ F (Is d)) (t : tupD d = true) : EvJ X jr e σ ms n k F (Is d) := fun H m Q q => h H m.sm Q fun v H2 s r => by
  obtain ⟨G, w1, w2, w3⟩ := (m.eval s).wide
  exact q v G H2 w1 (w2.le (by omega)) (Rp.tps w3 _ _ t r)
/-- a new list -/
theorem ej_new {ds : List PyData} (h : EvN X e σ F ds) (t : tupDs ds = true) : EvJ X jr e σ ms n k F (Is (.list ds)) := fun H m Q q => h H m.sm Q fun p xs H2 s fr hp hx => by
  obtain ⟨F', w1, w2, w3, w4⟩ := (m.add s fr hp (by intro _ z; cases z)).done
  exact q _ F' H2 w1 (w2.le (by omega)) (.lst (.inl w4) (RpA.tps w3 _ _ t hx))
/-- a name, whatever it is -/
theorem ej_name (i : Nat) {x : Str} {v : V} [Mono R] (hs : σ[i]? = some (some v)) (r : R v F) (hN : X.N[i]? = some x := by rfl)
    (hv : Vis X.env.scope x := by first | exact Or.inl rfl | exact Or.inr (Or.inl rfl) | exact Or.inr (Or.inr rfl)) (hd : (x == ("__debug__" : Str)) = false := by decide) (hcd : (x == ("__classdict__" : Str)) = false := by decide) : EvJ X jr (.Name x pos) σ ms n k F R :=
  fun H m Q q => we (pe_var hN hv hd hcd) ⟨v, hs, q v F H (Same.refl F) (m.le (by omega)) r⟩
theorem EvJ.weak {R' : Rel} (h : EvJ X jr e σ ms n k F R) (z : ∀ v H, R v H → R' v H) : EvJ X jr e σ ms n k F R' := fun H m Q q => h H m Q fun v F' H' s j r => q v F' H' s j (z v F' r)
theorem eaj_nil : EvAJ X jr [] σ ms n k F (fun vs _ => vs = []) := fun H m Q q => wa pa_nil (q [] F H (Same.refl F) (m.le (by omega)) rfl)
theorem eaj_cons {k2 : Nat} [Mono R] {T : RelA} (h : EvJ X jr e σ ms (n + k2) k F R) (t : ∀ F', Same F F' → EvAJ X jr es σ ms n k2 F' T) (hs : starEach (e :: es) X.env = (false, eval e X.env) :: starEach es X.env := by rfl) :
    EvAJ X jr (e :: es) σ ms n (k + k2) F (fun vs H => ∃ v us, vs = v :: us ∧ R v H ∧ T us H) := fun H m Q q =>
  wa (pa_cons (pe_w e) (pa_w es) hs) (h H (m.le (by omega)) _ fun v F' H' s j r => t F' s H' j _ fun us F2 H2 s2 j2 r2 => q _ F2 H2 (s.trans s2) j2 ⟨v, us, rfl, Mono.up (sm_of s2) r, r2⟩)
/-- a call of such a def: the list itself is the first argument -/
theorem ej_call {α : Type} {A : α → RelA} {B : α → Rel} {cost k2 j kk : Nat} {x : Str} {T : RelA} (c : C8.Cal X.prog X.w X.K X.mg X.base kk x (PJ A B cost) []) (hr : Room j X.A) (y : α) (hj : ∀ H, At X e σ H jr) (args : EvAJ X jr es σ ms (n + cost) k2 F T) (h : ∀ us F', Same F F' → T us F' → A y us F')
    (hk : kk ≤ j := by decide) (hg : Gl X x := by rfl) (hdb : (x == ("__debug__" : Str)) = false := by decide) (he : starEach (e :: es) X.env = (false, eval e X.env) :: starEach es X.env := by rfl) (hpl : (backTo pos (starEach es X.env)).any (·.1) = false := by rfl) :
    EvJ X jr (.Call (.Name x p) (e :: es) [] pos) σ ms n (cost + k2) F (B y) := fun H m Q z =>
  we (C8.pe_c c hr hk hg (pa_w (e :: es)) hdb he hpl) (wa (pa_cons (pe_w e) (pa_w es) he) (hj H _ (args H (m.le (by omega)) _ fun us F' H' s j r => by
    show PJ A B cost ((V.ref jr :: us) ++ []) H' Q E0
    rw [List.append_nil]
    exact ⟨y, jr, n, ms, F', us, rfl, j, h us F' s r, fun v F2 H2 s2 j2 b2 => z v F2 H2 (s.trans s2) j2 b2⟩)))
theorem cal_pj {P : Program} {w : World} {K : PySem.W.Frag} {mg : Str → Option Value} {base : Heap} {α : Type} {A : α → RelA} {B : α → Rel} {cost : Nat} {x : Str} {st : Stmt} {N ps : List Str} {k : Nat} (F : Df K mg x st) (S : FnScope N ps (defScope st))
    (hb : ∀ (kV doc pm : Value) (an : Option Addr) (cdv ct : Value) (us : List Value), us.length = ps.length → bindArgs (PySem.W.fnOf x x (defArgs st) (defBody st) (defScope st) .none kV doc pm an cdv ct) ⟨us, []⟩ = pure (ps.zip us))
    (len : ∀ x us H, A x us H → us.length + 1 = ps.length)
    (body : ∀ (f : Addr) (cdv : Value) (Ar : Around) (outer : List Env) (s : Shared) (H : Hp) (Q : VK) (E : XK) (a : α) (jr : Addr) (n : Nat) (ms : List (Addr × HO)) (G : Hp) (us : List V), Room k (XF P w K mg base N x (defScope st) f cdv Ar outer s H E).A → JM jr (n + cost) ms G H → A a us G → (∀ v F' H', Same G F' → JM jr n ms F' H' → B a v F' → Q v H') →
      wB (XF P w K mg base N x (defScope st) f cdv Ar outer s H E) (defBody st) { nx := fun _ H' => Q .non H', rt := Q } (start N (.ref jr :: us)) H) : C8.Cal P w K mg base (k + 1) x (PJ A B cost) [] :=
  cal_mk F S hb (fun vs H Q E ⟨a, jr, n, ms, G, us, e, _, h, _⟩ => by rw [e]; exact len a us G h) fun f cdv Ar outer s H vs Q E hr ⟨a, jr, n, ms, G, us, e, m, h, q⟩ => by
    subst e
    exact body f cdv Ar outer s H Q E a jr n ms G us hr m h q
/-- name = e -/
theorem s_setJ {D : Ends} {pos' : Pos} (i : Nat) {x : Str} {H : Hp} (nd : X.N.Nodup) (h : EvJ X jr e σ ms n k F R) (m : JM jr (n + k) ms F H) (q : ∀ v F' H', Same F F' → JM jr n ms F' H' → R v F' → D.nx (σ.set i (some v)) H') (hi : X.N[i]? = some x := by rfl) (hx : Loc X.env.scope x := by first | exact Or.inl rfl | exact Or.inr rfl)
    (hs : swapsWith e (some (.Name x pos')) pos.line X.env = pure false := by rfl) (hf : X.fn x = true ∨ X.env.scope.names.lookup x = some .local := by first | exact .inl rfl | exact .inr rfl) : wS X (.Assign [.Name x pos'] e pos) D σ H :=
  s_setW i nd (h H m _ q) hi hx hs hf
end
/-! ### list comprehensions that change it -/
section
variable {X : Cx} {jr : Addr} {σ : L2.St} {ms : List (Addr × HO)} {n c : Nat} {F H : Hp} {iter elt : Expr} {ifs : List Expr} {scope : Scope} {pos px : Pos} {α : Type} {l : List α} {enc g : α → PyData}
/-- what one turn does: it keeps the item, or not -/
def TurnJ (X : Cx) (jr : Addr) (scope : Scope) (ifs : List Expr) (elt : Expr) (σ : L2.St) (c : Nat) (F : Hp) (d : PyData) : Prop :=
  ∀ (ms : List (Addr × HO)) (m : Nat) (H : Hp), JM jr (m + c) ms F H → ∀ (K0 : Hp → Prop) (K1 : V → Hp → Prop), (∀ F' H', Same F F' → JM jr m ms F' H' → K0 H') → (∀ u F' H', Same F F' → JM jr m ms F' H' → Rp F' u d → K1 u H') →
    ∀ j, wTs (BX X scope j) ifs σ H fun b H' => if b = true then ∀ j', wE (BX X scope j') elt σ H' K1 else K0 H'
theorem lc_J {N : List Str} {i : Nat} {x : Str} (sc : Scope) (nd : N.Nodup) (src : SrcF X (.Name x px) iter σ F (jr :: ms.map (·.1)) (l.map enc)) (jm : JM jr (n + l.length * c) ms F H) (hte : ∀ y ∈ l, tupD (enc y) = true)
    (turn : ∀ y ∈ l, ∀ v F', Same F F' → Rp F' v (enc y) → TurnJ X jr scope ifs elt (σ.set i (some v)) c F' (g y)) {Q : VK}
    (k : ∀ (v : V) (l' : List α) (F' H' : Hp), Same F F' → JM jr n ms F' H' → l'.Sublist l → Rp F' v (.list (l'.map g)) → Q v H')
    (hN : X.N = N := by rfl) (hsc : X.env.scope = sc := by rfl) (hi : N[i]? = some x := by rfl)
    (hx : (relS scope sc).names.lookup x = some .local ∨ ((relS scope sc).names.lookup x = some .cell ∧ (scope.names.lookup x == some .cell) = true) := by first | exact .inl (by rfl) | exact .inr ⟨by rfl, by rfl⟩) :
    tLc (wI X (.Name x px) iter) (jG X scope (.Name x px)) (jTs X scope ifs) (jE X scope elt) [i] σ H Q := by
  subst hN hsc
  refine src H jm.sam jm.cond _ fun J G H2 s2 f2 g2 t2 np W D hD => ?_
  have hl : (l.map enc).length = l.length := List.length_map ..
  have j2 : JM jr (n + l.length * c) ms G H2 := jm.from s2 g2 np
  let P : Nat → Hp → Prop := fun i H' => ∃ (F' : Hp) (l' : List α) (ys : List V), Same G F' ∧ JM jr (n + (l.length - i) * c) ((D, .lst ys) :: ms) F' H' ∧ l'.Sublist (l.take i) ∧ RpA F' ys (l'.map g)
  refine ⟨fun i mm H' => mm = l.length - i ∧ i ≤ l.length ∧ P i H', ⟨l.length, rfl, Nat.zero_le _, G, [], [], Same.refl _, j2.new hD (by intro _ z; cases z), List.Sublist.refl _, .nil⟩, ?_⟩
  rintro q mm H' ⟨rfl, hi', F', l', ys, sF, jF, sub, ry⟩
  by_cases hlt : q < l.length
  · refine .inr ⟨W.go q H' (sF.trans jF.sam) (by rw [hl]; exact hlt), P (q + 1), fun H'' p => ⟨l.length - (q + 1), by omega, rfl, hlt, p⟩, fun v H3 y => ?_⟩
    obtain ⟨s3, d, hd, rd⟩ := W.yld q H' v H3 (sF.trans jF.sam) y (by rw [hl]; exact hlt)
    obtain ⟨x0, hx0, ex⟩ : ∃ x, l[q]? = some x ∧ enc x = d := by
      rw [List.getElem?_map] at hd
      obtain ⟨x, hx, e⟩ := Option.map_eq_some_iff.mp hd
      exact ⟨x, hx, e⟩
    subst ex
    have hm : x0 ∈ l := List.mem_of_getElem? hx0
    have tk := take_snoc hx0
    have cost : n + (l.length - q) * c = n + (l.length - (q + 1)) * c + c := by
      have e : l.length - q = (l.length - (q + 1)) + 1 := by omega
      rw [e, Nat.add_mul]
      omega
    obtain ⟨F3, w1, w2, w3⟩ := (jF.eval s3).wide
    have hyl : ys.length ≤ q := by
      rw [ry.length, List.length_map]
      exact Nat.le_trans sub.length_le (by rw [List.length_take]; exact Nat.min_le_left _ _)
    refine fun j => ?_
    have sv : (wipe σ [i]).set i (some v) = σ.set i (some v) := by
      show (σ.set i none).set i (some v) = _
      rw [List.set_set]
    have eg := @eg_name (BX X scope j) (wipe σ [i]) H3 v px i x nd hi (hx.elim .inl fun z => .inr z.1) (hx.elim .inr fun z => .inl z.2)
    rw [sv] at eg
    refine eg _ ⟨wipe1 _ _ _, fun j => ?_⟩
    rw [cost] at w2
    have rv : Rp F3 v (enc x0) := Rp.tps w3 _ _ (hte x0 hm) rd
    refine turn x0 hm v F3 (f2.trans (sF.trans w1)) rv ((D, .lst ys) :: ms) _ H3 w2 _ _ (fun F4 H4 s4 j4 => ⟨F4, l', ys, sF.trans (w1.trans s4), j4, sub.trans (by rw [tk]; exact List.sublist_append_left _ _), RpA.mono (sm_of (w1.trans s4)) _ _ ry⟩) (fun u F4 H4 s4 j4 r4 => ⟨ys, j4.one, by have := W.len; rw [hl] at this; omega, F4, l' ++ [x0], ys ++ [u], sF.trans (w1.trans s4), j4.put (by intro _ z; cases z), by rw [tk]; exact sub.append (List.Sublist.refl _), ?_⟩) j
    rw [List.map_append]
    exact RpA.snoc (RpA.mono (sm_of (w1.trans s4)) _ _ ry) r4
  · have e : q = l.length := by omega
    subst e
    rw [List.take_length] at sub
    rw [Nat.sub_self, Nat.zero_mul, Nat.add_zero] at jF
    obtain ⟨F4, v1, v2, v3, v4⟩ := jF.done
    exact .inl ⟨by have := W.stop H' (sF.trans jF.sam); rwa [hl] at this, k _ l' F4 H' (f2.trans (sF.trans v1)) v2 sub (.lst (.inl v4) (RpA.mono (sm_of v1) _ _ ry))⟩
theorem e_lcJ {N : List Str} {i : Nat} {x : Str} (sc : Scope) (nd : N.Nodup) (src : SrcF X (.Name x px) iter σ F (jr :: ms.map (·.1)) (l.map enc)) (jm : JM jr (n + l.length * c) ms F H) (hte : ∀ y ∈ l, tupD (enc y) = true)
    (turn : ∀ y ∈ l, ∀ v F', Same F F' → Rp F' v (enc y) → TurnJ X jr scope ifs elt (σ.set i (some v)) c F' (g y)) {Q : VK}
    (k : ∀ (v : V) (l' : List α) (F' H' : Hp), Same F F' → JM jr n ms F' H' → l'.Sublist l → Rp F' v (.list (l'.map g)) → Q v H')
    (hN : X.N = N := by rfl) (hsc : X.env.scope = sc := by rfl) (ok : blkC N sc scope [(x, i)] = true := by decide +kernel) (hi : N[i]? = some x := by rfl)
    (hx : (relS scope sc).names.lookup x = some .local ∨ ((relS scope sc).names.lookup x = some .cell ∧ (scope.names.lookup x == some .cell) = true) := by first | exact .inl (by rfl) | exact .inr ⟨by rfl, by rfl⟩)
    (hc : X.calm = true := by rfl) (hs : ∀ x, foldedSetIterable iter X.env x = pure x := by intro _; rfl) : wE X (.ListComp elt [⟨.Name x px, iter, ifs, 0⟩] scope pos) σ H Q :=
  we (pe_lc (own := [(x, i)]) hc (by rw [hN]; exact nd) (pi_w _ iter) (blkOk_by (by rw [hN, hsc]; exact ok)) (tt := jTs X scope ifs) (te := jE X scope elt) (g := jG X scope (.Name x px)) (fun s H C cl fp => ⟨fun pins s' σ H v u Q I r h => h (s, _, C, cl, fp) pins s' u I r⟩) (fun s H C cl fp => ⟨fun pins s' σ H Q I h => h (s, _, C, cl, fp) pins s' I⟩)
    (fun s H C cl fp => ⟨fun pins s' σ H Q I h => h (s, _, C, cl, fp) pins s' I⟩) hs) (lc_J sc nd src jm hte turn k hN hsc hi hx)
/-- .. stored in a name, on one line -/
theorem s_setLcJ {D : Ends} {p2 pos' : Pos} (i0 : Nat) {x0 : Str} {N : List Str} {i : Nat} {x : Str} (sc : Scope) (nd : N.Nodup) (src : SrcF X (.Name x px) iter σ F (jr :: ms.map (·.1)) (l.map enc)) (jm : JM jr (n + l.length * c) ms F H) (hte : ∀ y ∈ l, tupD (enc y) = true)
    (turn : ∀ y ∈ l, ∀ v F', Same F F' → Rp F' v (enc y) → TurnJ X jr scope ifs elt (σ.set i (some v)) c F' (g y)) 
    (k : ∀ (v : V) (l' : List α) (F' H' : Hp), Same F F' → JM jr n ms F' H' → l'.Sublist l → Rp F' v (.list (l'.map g)) → D.nx (σ.set i0 (some v)) H') (hsw : swapsWith (.ListComp elt [⟨.Name x px, iter, ifs, 0⟩] scope p2) (some (.Name x0 pos')) pos.line X.env = pure true)
    (hN : X.N = N := by rfl) (hsc : X.env.scope = sc := by rfl) (ok : blkC N sc scope [(x, i)] = true := by decide +kernel) (hi : N[i]? = some x := by rfl)
    (hx : (relS scope sc).names.lookup x = some .local ∨ ((relS scope sc).names.lookup x = some .cell ∧ (scope.names.lookup x == some .cell) = true) := by first | exact .inl (by rfl) | exact .inr ⟨by rfl, by rfl⟩)
    (hc : X.calm = true := by rfl) (hs : ∀ x, foldedSetIterable iter X.env x = pure x := by intro _; rfl) (hi0 : X.N[i0]? = some x0 := by rfl) (hxl : X.env.scope.names.lookup x0 = some .local := by rfl) : wS X (.Assign [.Name x0 pos'] (.ListComp elt [⟨.Name x px, iter, ifs, 0⟩] scope p2) pos) D σ H :=
  ws (ps_setLc (own := [(x, i)]) hc (by rw [hN]; exact nd) hi0 hxl hsw (pi_w _ iter) (blkOk_by (by rw [hN, hsc]; exact ok)) (tt := jTs X scope ifs) (te := jE X scope elt) (g := jG X scope (.Name x px)) (fun s H C cl fp => ⟨fun pins s' σ H v u Q I r h => h (s, _, C, cl, fp) pins s' u I r⟩) (fun s H C cl fp => ⟨fun pins s' σ H Q I h => h (s, _, C, cl, fp) pins s' I⟩)
    (fun s H C cl fp => ⟨fun pins s' σ H Q I h => h (s, _, C, cl, fp) pins s' I⟩) hs) (lc_J sc nd src jm hte turn k hN hsc hi hx)
end
end My
/-! C11 -/
namespace My
open PySem L2
section
variable {X : Cx} {σ : L2.St} {H : Hp} {D : Ends} {iter tg a b : Expr} {body : List Stmt} {p pos : Pos}
/-- for i in range(e), e's value told at this heap -/
theorem s_forR {n : Nat} (h : Ev X iter σ H (Is (.int (n : Int)))) (hn : n ≤ 100000) (hm : X.mg "range" = none) (I : Nat → L2.St → Hp → Prop) (h0 : ∀ H2, Same H H2 → I 0 σ H2)
    (turn : ∀ i σ H', i < n → I i σ H' → wG X tg (.int (i : Nat)) σ H' fun σ2 H2 => wB X body { D with nx := I (i + 1), ct := I (i + 1), bk := D.nx } σ2 H2) (fin : ∀ σ H, I n σ H → D.nx σ H)
    (hg : Gl X "range" := by rfl) (hs : starEach [iter] X.env = [(false, eval iter X.env)] := by rfl)
    (hp : PassesOwn (model X.prog X.w) X.A X.env X.xe := by exact PassesOwn.never) (hcl : X.calm = true := by rfl) (hs2 : ∀ x, foldedSetIterable (.Call (.Name "range" p) [iter] [] pos) X.env x = pure x := by intro _; rfl) {pos2 : Pos} : wS X (.For tg (.Call (.Name "range" p) [iter] [] pos) body [] pos2) D σ H := by
  refine ws (ps_for hp hcl (pi_w tg _) (pg_w tg) (pb_w body) hs2) ?_
  refine wi (pi_range1 hg hm (pa_cons (pe_w iter) pa_nil (by rw [hs]; rfl)) hs) ?_
  refine h H (Sm.refl H) _ fun v H2 s2 r2 => ⟨n, by rw [is_int r2], by omega, by omega, ?_⟩
  refine ⟨fun i m σ H => m = n - i ∧ i ≤ n ∧ I i σ H, ⟨n, rfl, Nat.zero_le _, h0 H2 s2⟩, ?_⟩
  rintro i mm σ' H' ⟨rfl, hi, hI⟩
  by_cases hlt : i < n
  · refine .inr ⟨?_, I (i + 1), fun σ'' H'' p => ⟨n - (i + 1), by omega, rfl, hlt, p⟩, fun v H3 y => ?_⟩
    · show i < (n : Int).toNat
      omega
    · obtain ⟨e, q⟩ := y
      subst e q
      have z := turn i σ' H3 hlt hI
      rw [Int.zero_add]
      exact z
  · have e : i = n := by omega
    subst e
    refine .inl ⟨?_, fin _ _ hI⟩
    show (i : Int).toNat ≤ i
    omega
/-- min of two ints -/
theorem ev_min2 {i j : Int} (hc : X.calm = true) (hm : X.mg "min" = none) (ha : Ev X a σ H (Is (.int i))) (hb : Ev X b σ H (Is (.int j))) (hg : Gl X "min" := by rfl) (he : starEach [a, b] X.env = (false, eval a X.env) :: starEach [b] X.env := by rfl) (he2 : starEach [b] X.env = (false, eval b X.env) :: starEach [] X.env := by rfl) (hpl : (backTo pos (starEach [b] X.env)).any (·.1) = false := by rfl) :
    Ev X (.Call (.Name "min" p) [a, b] [] pos) σ H (Is (.int (if j < i then j else i))) :=
  ev_callB (call_min2 hc) b_min hm (ea_cons ha (ea_cons hb ea_nil he2) he) (fun vs H1 _ t Q z => by
    obtain ⟨v, u, rfl, r1, r2⟩ := two_of t
    exact ⟨i, j, by rw [is_int r1, is_int r2], z _ _ (Same.refl _) (.int _)⟩) hg (by decide) (by decide) he hpl
theorem EvJ.go {jr : Addr} {e : Expr} {ms : List (Addr × HO)} {n k : Nat} {F : Hp} {R : Rel} {Q : VK} (h : EvJ X jr e σ ms n k F R) (m : JM jr (n + k) ms F H) (q : ∀ v F' H', Same F F' → JM jr n ms F' H' → R v F' → Q v H') : wE X e σ H Q := h H m Q q
/-- xs.append(e), where e may change things -/
theorem e_appendW {o e : Expr} {apos : Pos} {q : Addr} {xs0 : List V} {Q : VK} (ho : At X o σ H q) (hp : H q = some (.lst xs0)) (he : wE X e σ H fun v H1 => ∃ xs, H1 q = some (.lst xs) ∧ xs.length < 100000 ∧ Q .non (upd H1 q (.lst (xs ++ [v]))))
    (hbase : attributeBase o "append" X.env (eval o X.env) = eval o X.env := by rfl)
    (hfew : ((backTo pos (starEach [e] X.env)).all (fun x => !x.1) && (backToKw pos (keywordEach [] X.env)).all (fun x => x.1.isSome) && decide ([e].length + ([] : List Keyword).length + (if ([] : List Keyword).isEmpty then 0 else 1) < 30)) = true := by rfl)
    (hline : (apos.endLine == pos.line) = true := by rfl) (hs : starEach [e] X.env = (false, eval e X.env) :: starEach [] X.env := by rfl) (hpl : (backTo pos (starEach [] X.env)).any (·.1) = false := by rfl) :
    wE X (.Call (.Attribute o "append" apos) [e] [] pos) σ H Q :=
  we (pe_bm PySem.F.plainAttrs_list PySem.F.slot_list_append PySem.F.type_list_append mt_append (pe_w o) (pa_w [e]) hbase hfew hline hs hpl) (ho _ ⟨ty_list hp, wa_one (fun pins s I => thn (he pins s I) fun u s' ⟨v, H1, I', r, xs, h1, hz, z⟩ => ⟨v, H1, I', r, q, xs, v, rfl, rfl, h1, Nat.lt_of_lt_of_le hz (by decide), z⟩) hs⟩)
/-- xs.pop(e), where e may change things -/
theorem e_popW {o e : Expr} {apos : Pos} {q : Addr} {xs0 : List V} {Q : VK} (ho : At X o σ H q) (hp : H q = some (.lst xs0)) (he : wE X e σ H fun v H1 => ∃ (i : Nat) (y : V) (xs : List V), v = .int (i : Nat) ∧ H1 q = some (.lst xs) ∧ xs[i]? = some y ∧ i < 100000 ∧ Q y (upd H1 q (.lst (xs.eraseIdx i))))
    (hbase : attributeBase o "pop" X.env (eval o X.env) = eval o X.env := by rfl)
    (hfew : ((backTo pos (starEach [e] X.env)).all (fun x => !x.1) && (backToKw pos (keywordEach [] X.env)).all (fun x => x.1.isSome) && decide ([e].length + ([] : List Keyword).length + (if ([] : List Keyword).isEmpty then 0 else 1) < 30)) = true := by rfl)
    (hline : (apos.endLine == pos.line) = true := by rfl) (hs : starEach [e] X.env = (false, eval e X.env) :: starEach [] X.env := by rfl) (hpl : (backTo pos (starEach [] X.env)).any (·.1) = false := by rfl) :
    wE X (.Call (.Attribute o "pop" apos) [e] [] pos) σ H Q :=
  we (pe_bm PySem.F.plainAttrs_list PySem.F.slot_list_pop PySem.F.type_list_pop mt_popAt (pe_w o) (pa_w [e]) hbase hfew hline hs hpl) (ho _ ⟨ty_list hp, wa_one (fun pins s I => thn (he pins s I) fun u s' ⟨v, H', I', r, i, y, xs, e1, h1, h2, h3, z⟩ => ⟨v, H', I', r, q, xs, (i : Nat), i, y, rfl, by rw [e1], h1, by omega, by omega, seq_nat h2, h2, z⟩) hs⟩)
end
end My
/-! L1 -/
namespace My
open PySem L2
section
variable {X : Cx} {σ : L2.St} {H : Hp} {R : Rel} {D : Ends} {a b o i e : Expr} {pos pos' : Pos} {p : Addr} {xs : List V}
theorem ev_mod {k j : Int} (ha : Ev X a σ H (Is (.int k))) (hb : Ev X b σ H (Is (.int j))) (h : 0 < j) : Ev X (.BinOp a .Mod b pos) σ H (Is (.int (k % j))) :=
  ev_op op_mod ha hb fun x y H1 _ h1 h2 Q q => ⟨k, j, is_int h1, is_int h2, h, q _ _ (Same.refl _) (.int _)⟩
theorem ev_fdiv {k j : Int} (ha : Ev X a σ H (Is (.int k))) (hb : Ev X b σ H (Is (.int j))) (h : 0 < j) (h2 : j < 1073741824) : Ev X (.BinOp a .FloorDiv b pos) σ H (Is (.int (k / j))) :=
  ev_op op_fdiv ha hb fun x y H1 _ r1 r2 Q q => ⟨k, j, is_int r1, is_int r2, ⟨h, h2⟩, q _ _ (Same.refl _) (.int _)⟩
/-- xs[k] = e -/
theorem s_lput {k : Int} {j : Nat} (ho : ∀ H, At X o σ H p) (hp : H p = some (.lst xs)) (hv : Ev X e σ H R) [Mono R] (hi : ∀ H1, Ev X i σ H1 (Is (.int k))) (hj : ixN xs.length k = some j) (q : ∀ v H1, Same H H1 → R v H1 → D.nx σ (upd H1 p (.lst (xs.set j v))))
    (hs : swapsWithSole [.Subscript o i pos'] e pos.line X.env = pure false := by rfl) (hw : swappedStores [.Subscript o i pos'] e X.env = pure none := by rfl)
    (ha : ∀ v, assign (.Subscript o i pos') X.env v = (do
      let ov ← holding [v] (eval o X.env)
      let iv ← holding [v, ov] (eval i X.env)
      standAt pos'
      holding [v, ov, iv] (setItem ov iv v)
      release [v, ov, iv] []) := by intro _; rfl) (h1 : (assignEach [.Subscript o i pos'] X.env).map (·.2) = [assign (.Subscript o i pos') X.env] := by rfl) : wS X (.Assign [.Subscript o i pos'] e pos) D σ H :=
  ws (ps_asg (pe_w e) (pg_sub (pe_w o) (pe_w i) set_list ha) hs hw h1) (hv.go fun v H1 s1 r1 => ho H1 _ ((hi H1).go fun y H2 s2 r2 => ⟨p, xs, k, j, rfl, is_int r2, (s1.trans s2) _ _ hp, hj, q v H2 (s1.trans s2) (Mono.up (sm_of s2) r1)⟩))
end
abbrev IntP (P : Int → Prop) : Rel := fun v _ => ∃ r : Int, v = .int r ∧ P r
instance {P : Int → Prop} : Mono (IntP P) := ⟨fun _ h => h⟩
section
variable {P : Program} {w : World} {K : PySem.W.Frag} {mg : Str → Option Value} {base : Heap}
/-! ### _law_take -/
abbrev sTake : Stmt := top 48
theorem sc_take : FnScope ["_law_jar", "_law_top_so", "_law_first", "_law_wide", "_law_then_so", "_law_got_so"] ["_law_jar", "_law_top_so"] (defScope sTake) := ⟨rfl, rfl, rfl, by decide +kernel, rfl, by decide +kernel, by decide +kernel⟩
abbrev ATake : Int → RelA := fun t us _ => us = [.int t] ∧ 0 < t ∧ t < 1073741824
abbrev BTake : Int → Rel := fun t => IntP fun r => 0 ≤ r ∧ r < t
abbrev CTake (P : Program) (w : World) (K : PySem.W.Frag) (mg : Str → Option Value) (base : Heap) : Prop := C8.Cal P w K mg base 1 "_law_take" (PJ ATake BTake 1) []
theorem cal_take (F : Df K mg "_law_take" sTake) (B : Blt mg) : CTake P w K mg base := by
  refine cal_pj (A := ATake) (B := BTake) F sc_take (fun _ _ _ _ _ _ us hl => match us, hl with | [_, _], _ => rfl) (fun t us H h => by rw [h.1]; rfl) ?_
  intro f cdv Ar outer s H Q E t jr n ms G us hr jm ⟨e, t0, t1⟩ q
  subst e
  obtain ⟨a, b, c, c0, c1, hj⟩ := jm.jar
  have rj : Rp H (.ref jr) (.list [.int a, .int b, .int c]) := .lst (.inl hj) (.cons (.int _) (.cons (.int _) (.cons (.int _) .nil)))
  have fin : ∀ {H'} {k j : Int}, JM jr n ms G H' → k % t = j → Q (.int j) H' := fun m e => by
    subst e
    exact q _ G _ (Same.refl G) m ⟨_, rfl, Int.emod_nonneg _ (by omega), Int.emod_lt_of_pos _ t0⟩
  refine b_cons (s_if (k := decide ((0 : Int) < a)) (et_gt (ev_ixL (i := 0) (ev_name 0 (R := Is (.list [.int a, .int b, .int c])) rfl rj) ev_int rfl) ev_int) (fun hk H1 s1 => ?_) fun hk H1 s1 => b_nil ?_)
  · have rj1 := Rp.mono (sm_of s1) _ _ rj
    refine b_cons (s_set 5 sc_take.nd (ev_mod (ev_intI B.int (ev_ixL (i := 0) (ev_name 0 (R := Is (.list [.int a, .int b, .int c])) rfl rj1) ev_int rfl)) (ev_name 1 (R := Is (.int t)) rfl (.int t)) t0) fun g H2 s2 r2 => ?_)
    have eg := is_int r2
    subst eg
    have rj2 := Rp.mono (sm_of s2) _ _ rj1
    have jm2 := (jm.eval s1).eval s2
    refine b_cons (s_lput (k := 0) (j := 0) (fun H => at_name 0 rfl) ((s1.trans s2) _ _ hj) (ev_fdiv (ev_ixL (i := 0) (ev_name 0 (R := Is (.list [.int a, .int b, .int c])) rfl rj2) ev_int rfl) (ev_name 1 (R := Is (.int t)) rfl (.int t)) t0 t1) (fun _ => ev_int) rfl fun v H3 s3 r3 => ?_)
    have ev := is_int r3
    subst ev
    have jm4 : JM jr n ms G (upd H3 jr (Tri (a / t) b c)) := (jm2.eval s3).set c0 (by omega)
    exact b_one (s_ret (ev_name 5 (R := Is (.int (a % t))) rfl (.int _)) fun z H5 s5 r5 => by rw [is_int r5]; exact fin (jm4.eval s5) rfl)
  · have rj1 := Rp.mono (sm_of s1) _ _ rj
    have jm1 := jm.eval s1
    refine b_cons (s_lput (k := 2) (j := 2) (fun H => at_name 0 rfl) (s1 _ _ hj) (ev_add (ev_ixL (i := 2) (ev_name 0 (R := Is (.list [.int a, .int b, .int c])) rfl rj1) ev_int rfl) ev_int) (fun _ => ev_int) rfl fun v H2 s2 r2 => ?_)
    have ev := is_int r2
    subst ev
    have jm3 : JM jr n ms G (upd H2 jr (Tri a b (c + 1))) := (jm1.eval s2).set (by omega) (by omega)
    generalize hH3 : upd H2 jr (Tri a b (c + 1)) = H3 at jm3
    have rj3 : Rp H3 (.ref jr) (.list [.int a, .int b, .int (c + 1)]) := .lst (.inl (by rw [← hH3]; exact upd_same)) (.cons (.int _) (.cons (.int _) (.cons (.int _) .nil)))
    have hH3' : (upd H2 jr (.lst ([V.int a, .int b, .int c].set 2 (.int (c + 1))))) = H3 := hH3
    rw [hH3']
    have sm40 : (2 : Int) ^ 64 = 18446744073709551616 := by decide
    refine b_cons (s_set 2 sc_take.nd (ev_mod (ev_intI B.int (ev_mul (ev_add (ev_ixL (i := 1) (ev_name 0 (R := Is (.list [.int a, .int b, .int (c + 1)])) rfl rj3) ev_int rfl) (ev_mul ev_int (ev_ixL (i := 2) (ev_name 0 (R := Is (.list [.int a, .int b, .int (c + 1)])) rfl rj3) ev_int rfl) (.inl ⟨by decide, by decide⟩)))
      (ev_add ev_int (ev_ixL (i := 2) (ev_name 0 (R := Is (.list [.int a, .int b, .int (c + 1)])) rfl rj3) ev_int rfl)) (.inr ⟨by rw [sm40]; omega, by rw [sm40]; omega⟩))) ev_int (by decide)) fun v4 H4 s4 r4 => ?_)
    have e4 := is_int r4
    subst e4
    have f0 : 0 ≤ (b + 48271 * (c + 1)) * (39703 + (c + 1)) % 2147483647 := Int.emod_nonneg _ (by decide)
    have f1 : (b + 48271 * (c + 1)) * (39703 + (c + 1)) % 2147483647 < 2147483647 := Int.emod_lt_of_pos _ (by decide)
    generalize (b + 48271 * (c + 1)) * (39703 + (c + 1)) % 2147483647 = f at f0 f1
    have rj4 := Rp.mono (sm_of s4) _ _ rj3
    refine b_cons (s_set 3 sc_take.nd (ev_add (ev_mod (ev_intI B.int (ev_name 2 (R := Is (.int f)) rfl (.int f))) ev_int (by decide)) ev_int) fun v5 H5 s5 r5 => ?_)
    have e5 := is_int r5
    subst e5
    have w0 : 0 ≤ f % 40009 := Int.emod_nonneg _ (by decide)
    have w1 : f % 40009 < 40009 := Int.emod_lt_of_pos _ (by decide)
    have rj5 := Rp.mono (sm_of s5) _ _ rj4
    refine b_cons (s_set 4 sc_take.nd (ev_mod (ev_intI B.int (ev_mul (ev_add (ev_add (ev_name 2 (R := Is (.int f)) rfl (.int f)) (ev_ixL (i := 2) (ev_name 0 (R := Is (.list [.int a, .int b, .int (c + 1)])) rfl rj5) ev_int rfl))
      (ev_fdiv (ev_ixL (i := 1) (ev_name 0 (R := Is (.list [.int a, .int b, .int (c + 1)])) rfl rj5) ev_int rfl) ev_int (by decide) (by decide))) (ev_name 3 (R := Is (.int (f % 40009 + 7))) rfl (.int _)) (.inr ⟨by rw [sm40]; omega, by rw [sm40]; omega⟩))) ev_int (by decide)) fun v6 H6 s6 r6 => ?_)
    have e6 := is_int r6
    subst e6
    generalize (f + (c + 1) + b / 1000003) * (f % 40009 + 7) % 2147483629 = th
    exact b_one (s_ret (ev_mod (ev_intI B.int (ev_fdiv (ev_mod (ev_intI B.int (ev_add (ev_mul (ev_name 4 (R := Is (.int th)) rfl (.int th)) ev_int (.inr ⟨by decide, by decide⟩)) (ev_name 2 (R := Is (.int f)) rfl (.int f)))) ev_int (by decide)) ev_int (by decide) (by decide))) (ev_name 1 (R := Is (.int t)) rfl (.int t)) t0) fun z H7 s7 r7 => by
      rw [is_int r7]
      exact fin ((((jm3.eval s4).eval s5).eval s6).eval s7) rfl)
end
end My
/-! C12 -/
namespace My
open PySem L2
section
variable {X : Cx} {jr : Addr} {σ : L2.St} {ms : List (Addr × HO)} {n k k2 : Nat} {F : Hp} {R : Rel} {a b e : Expr} {p p2 pos pos2 : Pos}
theorem tup_kd {α : Type} [Kd α] (as : List α) : tupDs (as.map Kd.enc) = true := tup_map (fun a => Kd.tup a) as
theorem ej_tuple {Z : List PyData → Prop} (hm : X.mg "tuple" = none) (h : EvJ X jr a σ ms n k F (fun v H => ∃ ds, Sq ds v H ∧ tupDs ds = true ∧ Z ds)) (hg : Gl X "tuple" := by rfl) (he : starEach [a] X.env = (false, eval a X.env) :: starEach [] X.env := by rfl) (hpl : (backTo pos (starEach [] X.env)).any (·.1) = false := by rfl) :
    EvJ X jr (.Call (.Name "tuple" p) [a] [] pos) σ ms n k F (fun v H => ∃ ds, Rp H v (.tuple ds) ∧ Z ds) := fun H m Q q =>
  we (pe_callTy call_tuple_of hg hm b_tuple (pa_w [a]) (by decide) (by decide) he hpl) (wa_one (h H m _ fun v F' H' s j ⟨ds, r1, t, z⟩ => by
    have r2 : Sq ds v H' := Mono.up j.sm r1
    have fin : ∀ u H2, Same H' H2 → Rp H2 u (.tuple ds) → Q u H2 := fun u H2 s2 r => by
      obtain ⟨G, w1, w2, w3⟩ := (j.eval s2).wide
      exact q u G H2 (s.trans w1) w2 ⟨ds, Rp.tps w3 _ _ (by simpa [tupD] using t) r, z⟩
    rcases r2 with r2 | r2
    · cases r2 with
      | @lst q xs _ ha hx => exact ⟨q, xs, rfl, .inl ⟨.inl ha, fun l hl => fin _ _ (same_new hl) (.tup upd_same (RpA.mono (sm_of (same_new hl)) _ _ hx))⟩⟩
    · cases r2 with
      | @tup q xs _ ha hx => exact ⟨q, xs, rfl, .inr ⟨SqT.of ha, fin _ _ (Same.refl _) (.tup ha hx)⟩⟩) he)
theorem ej_tupSort {α : Type} [Kd α] {kk : Nat} {Z : List α → Prop} (hr : Room kk X.A) (hm : X.mg "tuple" = none) (hm2 : X.mg "sorted" = none) (h : EvJ X jr a σ ms n k F (fun v H => ∃ as : List α, Sq (as.map Kd.enc) v H ∧ Z as)) (hg : Gl X "tuple" := by rfl) (hg2 : Gl X "sorted" := by rfl) (he : starEach [a] X.env = (false, eval a X.env) :: starEach [] X.env := by rfl) (hpl : (backTo pos2 (starEach [] X.env)).any (·.1) = false := by rfl)
    (he2 : starEach [.Call (.Name "sorted" p2) [a] [] pos2] X.env = (false, eval (.Call (.Name "sorted" p2) [a] [] pos2) X.env) :: starEach [] X.env := by rfl) (hpl2 : (backTo pos (starEach [] X.env)).any (·.1) = false := by rfl) :
    EvJ X jr (.Call (.Name "tuple" p) [.Call (.Name "sorted" p2) [a] [] pos2] [] pos) σ ms n k F (fun v H => ∃ as : List α, Rp H v (.tuple ((sortL ltK as).map Kd.enc)) ∧ Z as) := fun H m Q q =>
  we (pe_callTy call_tuple_of hg hm b_tuple (pa_w _) (by decide) (by decide) he2 hpl2) (wa_one (we (pe_callB (cr_sortK (α := α) (room_u65 hr)) hg2 hm2 b_sorted (pa_w [a]) (by decide) (by decide) he hpl) (wa_one (h H m _ fun v F' H' s j ⟨as, r1, z⟩ => by
    have r2 : Sq (as.map Kd.enc) v H' := Mono.up j.sm r1
    refine ⟨v, as, rfl, r2, fun u H2 s2 r3 => ?_⟩
    have r3 : Rp H2 u (.list ((sortL ltK as).map Kd.enc)) := r3
    cases r3 with
    | @lst q0 xs _ ha hx =>
      refine ⟨q0, xs, rfl, .inl ⟨.inl ha, fun l hl => ?_⟩⟩
      have s3 := s2.trans (same_new (o := .tup xs) hl)
      obtain ⟨G, w1, w2, w3⟩ := (j.eval s3).wide
      exact q _ G _ (s.trans w1) w2 ⟨as, Rp.tps w3 _ _ (by rw [tupD]; exact tup_kd _) (.tup upd_same (RpA.mono (sm_of (same_new hl)) _ _ hx)), z⟩) he)) he2)
/-- a + b of ints -/
theorem ej_add {P1 P2 P3 : Int → Prop} (ha : EvJ X jr a σ ms (n + k2) k F (IntP P1)) (hb : ∀ F', Same F F' → EvJ X jr b σ ms n k2 F' (IntP P2)) (z : ∀ i j, P1 i → P2 j → P3 (i + j)) : EvJ X jr (.BinOp a .Add b pos) σ ms n (k + k2) F (IntP P3) := fun H m Q q =>
  we (pe_op op_add (pe_w a) (pe_w b)) (ha H (m.le (by omega)) _ fun v F' H' s j ⟨i, e1, h1⟩ => hb F' s H' j _ fun u F2 H2 s2 j2 ⟨l, e2, h2⟩ => ⟨i, l, e1, e2, q _ F2 H2 (s.trans s2) j2 ⟨_, rfl, z i l h1 h2⟩⟩)
theorem ej_int {i : Int} {P1 : Int → Prop} {j} (h : P1 i) : EvJ X jr (.Constant (.int i) j pos) σ ms n k F (IntP P1) := (ej_tup (d := .int i) ev_int rfl).weak fun v H r => ⟨i, is_int r, h⟩
theorem ej_intOf {i : Int} {P1 : Int → Prop} (h : Ev X e σ F (Is (.int i))) (z : P1 i) : EvJ X jr e σ ms n k F (IntP P1) := (ej_tup (d := .int i) h rfl).weak fun v H r => ⟨i, is_int r, z⟩
theorem EvJ.le {k3 : Nat} (h : EvJ X jr e σ ms n k F R) (l : k ≤ k3) : EvJ X jr e σ ms n k3 F R := fun H m Q q => h H (m.le (by omega)) Q q
theorem eaj_one [Mono R] (h : EvJ X jr e σ ms n k F R) (hs : starEach [e] X.env = (false, eval e X.env) :: starEach [] X.env := by rfl) : EvAJ X jr [e] σ ms n k F (fun vs H => ∃ v, vs = [v] ∧ R v H) := fun H m Q q =>
  wa (pa_cons (pe_w e) (pa_w []) hs) (h H m _ fun v F' H' s j r => wa pa_nil (q [v] F' H' s j ⟨v, rfl, r⟩))
theorem EvAJ.weak {es : List Expr} {T T' : RelA} (h : EvAJ X jr es σ ms n k F T) (z : ∀ vs H, T vs H → T' vs H) : EvAJ X jr es σ ms n k F T' := fun H m Q q => h H m Q fun vs F' H' s j r => q vs F' H' s j (z vs F' r)
/-- a call, what is asked and told known only behind the arguments -/
theorem ej_callD {α : Type} {A : α → RelA} {B : α → Rel} {cost j kk : Nat} {x : Str} {es : List Expr} {T : RelA} (c : C8.Cal X.prog X.w X.K X.mg X.base kk x (PJ A B cost) []) (hr : Room j X.A) (hj : ∀ H, At X e σ H jr) (args : EvAJ X jr es σ ms (n + cost) k2 F T) (h : ∀ us F', Same F F' → T us F' → ∃ y, A y us F' ∧ ∀ v F2, B y v F2 → R v F2)
    (hk : kk ≤ j := by decide) (hg : Gl X x := by rfl) (hdb : (x == ("__debug__" : Str)) = false := by decide) (he : starEach (e :: es) X.env = (false, eval e X.env) :: starEach es X.env := by rfl) (hpl : (backTo pos (starEach es X.env)).any (·.1) = false := by rfl) :
    EvJ X jr (.Call (.Name x p) (e :: es) [] pos) σ ms n (cost + k2) F R := fun H m Q z =>
  we (C8.pe_c c hr hk hg (pa_w (e :: es)) hdb he hpl) (wa (pa_cons (pe_w e) (pa_w es) he) (hj H _ (args H (m.le (by omega)) _ fun us F' H' s j r => by
    show PJ A B cost ((V.ref jr :: us) ++ []) H' Q E0
    rw [List.append_nil]
    obtain ⟨y, h1, h2⟩ := h us F' s r
    exact ⟨y, jr, n, ms, F', us, rfl, j, h1, fun v F2 H2 s2 j2 b2 => z v F2 H2 (s.trans s2) j2 (h2 v F2 b2)⟩)))
end
end My
/-! C13 -/
namespace My
open PySem L2
/-! ### written data -/
mutual
def litD : Expr → Option PyData
  | .Constant (.str s) _ _ => some (.str s)
  | .Constant (.int i) _ _ => some (.int i)
  | .Constant (.bool k) _ _ => some (.bool k)
  | .Tuple es _ _ => match litDs es with
    | some ds => if ds.length ≤ 100000 then some (.tuple ds) else none
    | none => none
  | _ => none
def litDs : List Expr → Option (List PyData)
  | [] => some []
  | e :: es => match litD e, litDs es with
    | some d, some ds => some (d :: ds)
    | _, _ => none
end
section
variable {X : Cx} {σ : L2.St} {H : Hp}
theorem star_lit {e : Expr} {es : List Expr} {d : PyData} (h : litD e = some d) : starEach (e :: es) X.env = (false, eval e X.env) :: starEach es X.env := by
  cases e with
  | Constant c j p => rfl
  | Tuple l x p => rfl
  | _ => simp [litD] at h
mutual
theorem lit_ev : ∀ (e : Expr) (d : PyData), litD e = some d → Ev X e σ H (Is d)
  | .Constant (.str s) _ _, d, h => by
    simp only [litD, Option.some.injEq] at h
    subst h
    exact ev_str
  | .Constant (.int i) _ _, d, h => by
    simp only [litD, Option.some.injEq] at h
    subst h
    exact ev_int
  | .Constant (.bool k) _ _, d, h => by
    simp only [litD, Option.some.injEq] at h
    subst h
    exact ev_bl
  | .Tuple es x p, d, h => by
    simp only [litD] at h
    cases e : litDs es with
    | none => rw [e] at h; cases h
    | some ds =>
      rw [e] at h
      dsimp only at h
      by_cases z : ds.length ≤ 100000
      · rw [if_pos z] at h
        cases h
        exact ev_tup (lits_ev es ds e) z
      · rw [if_neg z] at h
        cases h
theorem lits_ev : ∀ (es : List Expr) (ds : List PyData), litDs es = some ds → EvA X es σ H (IsA ds)
  | [], ds, h => by
    simp only [litDs, Option.some.injEq] at h
    subst h
    exact ea_isNil
  | e :: es, ds, h => by
    simp only [litDs] at h
    cases e1 : litD e with
    | none => rw [e1] at h; cases h
    | some d =>
      cases e2 : litDs es with
      | none => rw [e1, e2] at h; cases h
      | some ds' =>
        rw [e1, e2] at h
        cases h
        exact ea_is (lit_ev e d e1) (lits_ev es ds' e2) (star_lit e1)
end
end
end My
/-! C14 -/
namespace My
open PySem L2
section
variable {X : Cx} {σ : L2.St} {H : Hp} {D : Ends} {iter tg a b : Expr} {body : List Stmt} {p pos : Pos}
/-- for i in range(e), e may change things -/
theorem s_forRW (h : wE X iter σ H fun v H2 => ∃ (n : Nat) (I : Nat → L2.St → Hp → Prop), v = .int (n : Nat) ∧ n ≤ 100000 ∧ I 0 σ H2 ∧ (∀ i σ H', i < n → I i σ H' → wG X tg (.int (i : Nat)) σ H' fun σ2 H2 => wB X body { D with nx := I (i + 1), ct := I (i + 1), bk := D.nx } σ2 H2) ∧ (∀ σ H, I n σ H → D.nx σ H)) (hm : X.mg "range" = none)
    (hg : Gl X "range" := by rfl) (hs : starEach [iter] X.env = [(false, eval iter X.env)] := by rfl)
    (hp : PassesOwn (model X.prog X.w) X.A X.env X.xe := by exact PassesOwn.never) (hcl : X.calm = true := by rfl) (hs2 : ∀ x, foldedSetIterable (.Call (.Name "range" p) [iter] [] pos) X.env x = pure x := by intro _; rfl) {pos2 : Pos} : wS X (.For tg (.Call (.Name "range" p) [iter] [] pos) body [] pos2) D σ H := by
  refine ws (ps_for hp hcl (pi_w tg _) (pg_w tg) (pb_w body) hs2) ?_
  refine wi (pi_range1 hg hm (pa_cons (pe_w iter) pa_nil (by rw [hs]; rfl)) hs) ?_
  refine fun pins s I0 => thn (h pins s I0) fun u s' ⟨v, H2, I', r, n, I, e, hn, h0, turn, fin⟩ => ⟨v, H2, I', r, n, by rw [e], by omega, by omega, ?_⟩
  refine ⟨fun i m σ H => m = n - i ∧ i ≤ n ∧ I i σ H, ⟨n, rfl, Nat.zero_le _, h0⟩, ?_⟩
  rintro i mm σ' H' ⟨rfl, hi, hI⟩
  by_cases hlt : i < n
  · refine .inr ⟨?_, I (i + 1), fun σ'' H'' p => ⟨n - (i + 1), by omega, rfl, hlt, p⟩, fun v H3 y => ?_⟩
    · show i < (n : Int).toNat
      omega
    · obtain ⟨e, q⟩ := y
      subst e q
      have z := turn i σ' H3 hlt hI
      rw [Int.zero_add]
      exact z
  · have e : i = n := by omega
    subst e
    refine .inl ⟨?_, fin _ _ hI⟩
    show (i : Int).toNat ≤ i
    omega
end
end My
/-! C15 -/
namespace My
open PySem PySem.Spec PyProof.Rows L2 PySem.W PySem.Calls
/-! ### sorted(d), d with keys that are tuples of texts -/
theorem keys_tups {H : Hp} {xs : List (List Key × Addr × Value)} : ∀ {kvs : List (List Key × V)} {m : List (List Str × PyData)} {us : List Value} {xs : List (List Key × Addr × Value)}, KtA H kvs m → KT H kvs xs → us = xs.map (fun x => Value.ref x.2.1) → ∃ bs : List (Rt (List Str)), bs.map (·.1) = us ∧ bs.map (·.2.2) = m.map (·.1) ∧ ∀ b ∈ bs, RelV b.2.1 b.1 ∧ Rp H b.2.1 (Kd.enc b.2.2)
  | _, _, _, _, .nil, .nil, e => ⟨[], by rw [e]; rfl, rfl, fun _ h => (by cases h)⟩
  | _, _, us, _, .cons (k := k) r t, .cons (b := y) (l₂ := m2) h t2, e => by
    obtain ⟨bs, h1, h2, h3⟩ := keys_tups (us := m2.map fun x => Value.ref x.2.1) (xs := m2) t t2 rfl
    refine ⟨(.ref y.2.1, .ref y.2.1, k) :: bs, by rw [List.map_cons, h1, e]; rfl, by rw [List.map_cons, h2]; rfl, fun b hb => ?_⟩
    rcases List.mem_cons.mp hb with rfl | hb
    · refine ⟨rfl, ?_⟩
      have hh := h.2.1
      show Rp H (.ref y.2.1) (eN k)
      refine .tup hh ?_
      rw [List.map_map]
      exact rpA_strs k
    · exact h3 b hb
section
variable {X : Cx}
theorem cr_sortedT (hc : X.calm = true) (rm : X.A.units + 65 < cLine) : CallR X (.builtin "sorted") (fun vs H Q => ∃ (v : V) (m : List (List Str × PyData)), vs = [v] ∧ DT m v H ∧ ∀ u H', Same H H' → Rp H' u (.list ((sortL ltK (m.map (·.1))).map eN)) → Q u H') := by
  intro pins s σ H vs us Q I r h
  obtain ⟨v, m, rfl, ⟨a, kvs, rfl, hd, hk⟩, q⟩ := h
  rw [Vals.ref1 r]
  obtain ⟨hz, hsys, xs, rel, dof⟩ := dt_rd I.hok hd
  obtain ⟨ob, es, ep, ho, exd, hdat, hes, hks, hnd⟩ := id dof
  have hsize : es.size = xs.length := size_of_entries hes
  have lx : kvs.length = xs.length := paired_len rel
  obtain ⟨bs, e1, e2, e3⟩ := keys_tups (xs := xs) hk rel rfl
  have lb : bs.length = xs.length := by
    have e := congrArg List.length e1
    rw [List.length_map, List.length_map] at e
    exact e
  refine sorted_fin (α := List Str) I rm (C := fun b => b = bs) (fun E Q h => ?_) (fun b hb => ?_) fun b v H' hb hs hr => by
    subst hb
    rw [e2] at hr
    exact q v H' hs hr
  · have raw : s.heap.DictRaw a es ep := ⟨ob, ho, exd, hdat⟩
    refine kdu_collect (A := X.A.in1) (KdlSrc.rawDict (d := a) (es := es) (ep := ep) hsys) (I.ok.hd hc) raw (by rw [hsize, ← lx]; exact hz) fun h' tk acc hk' hacc => ?_
    have ea : acc.toList = bs.map (·.1) := by
      rw [e1]
      refine List.ext_getElem? fun i => ?_
      rw [Array.getElem?_toList, List.getElem?_map]
      by_cases hi : i < acc.size
      · have e0 : acc[i]? = some acc[i] := Array.getElem?_eq_getElem hi
        obtain ⟨hi2, ev⟩ := hacc.2 i _ e0
        have e4 : es[i]? = some es[i] := Array.getElem?_eq_getElem hi2
        rw [entry_at hes i] at e4
        obtain ⟨y, hy, e5⟩ := Option.map_eq_some_iff.mp e4
        rw [e0, hy, ev, ← e5]
        rfl
      · have e4 : xs[i]? = none := by
          rw [List.getElem?_eq_none]
          have := hacc.1
          omega
        rw [e4, Array.getElem?_eq_none (by omega)]
        rfl
    have := h { s with heap := h', toks := tk } bs hk' rfl rfl rfl
    rw [← ea] at this
    exact this
  · subst hb
    exact ⟨by rw [lb, ← lx]; exact hz, e3⟩
end
section
variable {X : Cx} {σ : L2.St} {H : Hp} {a : Expr} {p pos : Pos}
theorem ev_sortedT {m : List (List Str × PyData)} {k : Nat} (hr : Room k X.A) (hm : X.mg "sorted" = none) (h : Ev X a σ H (DT m)) (hc : X.calm = true := by rfl) (hg : Gl X "sorted" := by rfl) (he : starEach [a] X.env = (false, eval a X.env) :: starEach [] X.env := by rfl) (hpl : (backTo pos (starEach [] X.env)).any (·.1) = false := by rfl) :
    Ev X (.Call (.Name "sorted" p) [a] [] pos) σ H (Is (.list ((sortL ltK (m.map (·.1))).map eN))) :=
  ev_callB (cr_sortedT hc (room_u65 hr)) b_sorted hm (ea_cons h ea_nil he) (fun vs H1 _ t Q z => by
    obtain ⟨v, rfl, r1⟩ := one_of t
    exact ⟨v, m, rfl, r1, fun u H' s r => z u H' s r⟩) hg (by decide) (by decide) he hpl
/-- xs * k -/
theorem w_rep {Q : VK} {b : Expr} {ds : List PyData} {n : Nat} (h : EvN X a σ H ds) (hb : Ev X b σ H (Is (.int (n : Int)))) (hn : n ≤ 1) (hz : ds.length ≤ 1000) (z : ∀ q xs H1, H q = none → Same H H1 → H1 q = some (.lst xs) → RpA H1 xs (List.replicate n ds).flatten → Q (.ref q) H1) : wE X (.BinOp a .Mult b pos) σ H Q :=
  we (pe_op op_rep (pe_w a) (pe_w b)) (h H (Sm.refl _) _ fun p xs H2 s2 f2 h2 hx => hb H2 (sm_of s2) _ fun v H3 s3 r3 => ⟨p, n, xs, rfl, is_int r3, s3 _ _ h2, by omega, by omega, by
    have l := hx.length
    rw [Int.toNat_natCast, sizeLine_eq]
    have : xs.length * n ≤ 1000 * 1 := Nat.mul_le_mul (by omega) hn
    omega, fun q hq => by
      rw [Int.toNat_natCast]
      refine z q _ _ ((s2.trans s3).free hq) ((s2.trans s3).trans (same_new hq)) upd_same ?_
      have hx3 := RpA.mono (sm_of (s3.trans (same_new (o := .lst (List.replicate n xs).flatten) hq))) _ _ hx
      have e : n = 0 ∨ n = 1 := by omega
      rcases e with e | e
      · subst e; exact .nil
      · subst e
        simp only [List.replicate_one, List.flatten_cons, List.flatten_nil, List.append_nil] at hx3 ⊢
        exact hx3⟩)
end
end My
/-! C16 -/
namespace My
open PySem L2
/-! ### comprehensions whose items stand already -/
section
variable {X : Cx} {σ : L2.St} {H B : Hp} {tg iter elt e : Expr} {ifs : List Expr} {scope : Scope} {pos : Pos} {α : Type} {l : List α} {enc : α → PyData} {f : α → Bool} {g : α → PyData} {vs : List Nat}
theorem lc_atF (src : SrcAt X tg iter σ H (l.map enc))
    (turn : ∀ x ∈ l, ∀ v H1, Same H H1 → Rp H1 v (enc x) → LcTurn X scope tg ifs elt vs σ H1 v (f x) (fun u _ => Rp B u (g x))) (Q : VK) (k : ∀ p xs H2, Same H H2 → H p = none → H2 p = some (.lst xs) → RpA B xs ((l.filter f).map g) → Q (.ref p) H2) :
    tLc (wI X tg iter) (jG X scope tg) (jTs X scope ifs) (jE X scope elt) vs σ H Q := by
  refine src _ fun J H2 s2 W D hD => ?_
  have hl : (l.map enc).length = l.length := List.length_map ..
  let P : Nat → Hp → Prop := fun i H' => Same H2 H' ∧ ∃ ys, H' D = some (.lst ys) ∧ RpA B ys (((l.take i).filter f).map g) ∧ ys.length ≤ i
  refine ⟨fun i mm H' => mm = l.length - i ∧ i ≤ l.length ∧ P i H', ⟨l.length, rfl, Nat.zero_le _, same_new hD, [], upd_same, .nil, Nat.le_refl _⟩, ?_⟩
  rintro i mm H' ⟨rfl, hi, s', ys, hy, ry, ly⟩
  by_cases hlt : i < l.length
  · refine .inr ⟨W.go i H' s' (by rw [hl]; exact hlt), P (i + 1), fun H'' p => ⟨l.length - (i + 1), by omega, rfl, hlt, p⟩, fun v H3 y => ?_⟩
    obtain ⟨s3, d, hd, rd⟩ := W.yld i H' v H3 s' y (by rw [hl]; exact hlt)
    obtain ⟨x, hx, ex⟩ : ∃ x, l[i]? = some x ∧ enc x = d := by
      rw [List.getElem?_map] at hd
      obtain ⟨x, hx, e⟩ := Option.map_eq_some_iff.mp hd
      exact ⟨x, hx, e⟩
    subst ex
    have hm : x ∈ l := List.mem_of_getElem? hx
    obtain ⟨σ', hw, hg, hts, hel⟩ := (turn x hm v H3 ((s2.trans s').trans s3) rd).go
    have hy3 : H3 D = some (.lst ys) := s3 _ _ hy
    refine fun j => hg j _ ⟨hw, fun j => hts j H3 (Sm.refl _) _ fun H4 s4 => ?_⟩
    cases hf : f x with
    | false =>
      refine iteF ⟨(s'.trans s3).trans s4, ys, s4 _ _ hy3, ?_, Nat.le_succ_of_le ly⟩
      rw [take_snoc hx, List.filter_append, List.filter_cons_of_neg (by rw [hf]; decide), List.filter_nil, List.append_nil]
      exact ry
    | true =>
      refine iteT fun j => hel hf j H4 (sm_of s4) _ fun u H5 s5 r5 => ?_
      have hy5 : H5 D = some (.lst ys) := s5 _ _ (s4 _ _ hy3)
      refine ⟨ys, hy5, ?_, same_mut (((s'.trans s3).trans s4).trans s5) hD, ys ++ [u], upd_same, ?_, ?_⟩
      · have := W.len
        rw [hl] at this
        omega
      · rw [take_snoc hx, List.filter_append, List.filter_cons_of_pos hf, List.filter_nil, List.map_append]
        exact RpA.snoc ry r5
      · rw [List.length_append]
        show ys.length + 1 ≤ i + 1
        omega
  · have e : i = l.length := by omega
    subst e
    rw [List.take_length] at ry
    refine .inl ⟨by have := W.stop H' s'; rwa [hl] at this, k D ys _ (s2.trans s') ?_ hy ry⟩
    cases q : H D with
    | none => rfl
    | some o => rw [s2 _ _ q] at hD; cases hD
theorem s_setLcF {D : Ends} {N : List Str} {i : Nat} {x x0 : Str} {px p2 pos' : Pos} (i0 : Nat) (sc : Scope) (nd : N.Nodup) (src : SrcAt X (.Name x px) iter σ H (l.map enc))
    (turn : ∀ y ∈ l, ∀ v H1, Same H H1 → Rp H1 v (enc y) → (∀ j, EvTs (BX X scope j) ifs (σ.set i (some v)) H1 (f y)) ∧ (f y = true → ∀ j, Ev (BX X scope j) elt (σ.set i (some v)) H1 (fun u _ => Rp B u (g y))))
    (k : ∀ p xs H2, Same H H2 → H p = none → H2 p = some (.lst xs) → RpA B xs ((l.filter f).map g) → D.nx (σ.set i0 (some (.ref p))) H2) (hsw : swapsWith (.ListComp elt [⟨.Name x px, iter, ifs, 0⟩] scope p2) (some (.Name x0 pos')) pos.line X.env = pure true)
    (hN : X.N = N := by rfl) (hsc : X.env.scope = sc := by rfl) (ok : blkC N sc scope [(x, i)] = true := by decide +kernel) (hi : N[i]? = some x := by rfl)
    (hx : (relS scope sc).names.lookup x = some .local ∨ ((relS scope sc).names.lookup x = some .cell ∧ (scope.names.lookup x == some .cell) = true) := by first | exact .inl (by rfl) | exact .inr ⟨by rfl, by rfl⟩)
    (hc : X.calm = true := by rfl) (hs : ∀ x, foldedSetIterable iter X.env x = pure x := by intro _; rfl) (hi0 : X.N[i0]? = some x0 := by rfl) (hxl : X.env.scope.names.lookup x0 = some .local := by rfl) : wS X (.Assign [.Name x0 pos'] (.ListComp elt [⟨.Name x px, iter, ifs, 0⟩] scope p2) pos) D σ H :=
  ws (ps_setLc (own := [(x, i)]) hc (by rw [hN]; exact nd) hi0 hxl hsw (pi_w _ iter) (blkOk_by (by rw [hN, hsc]; exact ok)) (tt := jTs X scope ifs) (te := jE X scope elt) (g := jG X scope (.Name x px)) (fun s H C cl fp => ⟨fun pins s' σ H v u Q I r h => h (s, _, C, cl, fp) pins s' u I r⟩) (fun s H C cl fp => ⟨fun pins s' σ H Q I h => h (s, _, C, cl, fp) pins s' I⟩)
    (fun s H C cl fp => ⟨fun pins s' σ H Q I h => h (s, _, C, cl, fp) pins s' I⟩) hs) (lc_atF src (fun y hy v H1 s r => lt_name nd hN hi hsc hx (turn y hy v H1 s r).1 (turn y hy v H1 s r).2) _ k)
/-- .. new tuples, numbers, texts -/
theorem s_setLcN {D : Ends} {N : List Str} {i : Nat} {x x0 : Str} {px p2 pos' : Pos} (i0 : Nat) (sc : Scope) (nd : N.Nodup) (src : Src X (.Name x px) iter σ H (l.map enc)) (ht : ∀ y ∈ l, f y = true → tupD (g y) = true)
    (turn : ∀ y ∈ l, ∀ v H1, Sm H H1 → Rp H1 v (enc y) → (∀ j, EvTs (BX X scope j) ifs (σ.set i (some v)) H1 (f y)) ∧ (f y = true → ∀ j, Ev (BX X scope j) elt (σ.set i (some v)) H1 (Is (g y))))
    (k : ∀ p xs H2, Same H H2 → H p = none → H2 p = some (.lst xs) → RpA H2 xs ((l.filter f).map g) → D.nx (σ.set i0 (some (.ref p))) H2) (hsw : swapsWith (.ListComp elt [⟨.Name x px, iter, ifs, 0⟩] scope p2) (some (.Name x0 pos')) pos.line X.env = pure true)
    (hN : X.N = N := by rfl) (hsc : X.env.scope = sc := by rfl) (ok : blkC N sc scope [(x, i)] = true := by decide +kernel) (hi : N[i]? = some x := by rfl)
    (hx : (relS scope sc).names.lookup x = some .local ∨ ((relS scope sc).names.lookup x = some .cell ∧ (scope.names.lookup x == some .cell) = true) := by first | exact .inl (by rfl) | exact .inr ⟨by rfl, by rfl⟩)
    (hc : X.calm = true := by rfl) (hs : ∀ x, foldedSetIterable iter X.env x = pure x := by intro _; rfl) (hi0 : X.N[i0]? = some x0 := by rfl) (hxl : X.env.scope.names.lookup x0 = some .local := by rfl) : wS X (.Assign [.Name x0 pos'] (.ListComp elt [⟨.Name x px, iter, ifs, 0⟩] scope p2) pos) D σ H :=
  ws (ps_setLc (own := [(x, i)]) hc (by rw [hN]; exact nd) hi0 hxl hsw (pi_w _ iter) (blkOk_by (by rw [hN, hsc]; exact ok)) (tt := jTs X scope ifs) (te := jE X scope elt) (g := jG X scope (.Name x px)) (fun s H C cl fp => ⟨fun pins s' σ H v u Q I r h => h (s, _, C, cl, fp) pins s' u I r⟩) (fun s H C cl fp => ⟨fun pins s' σ H Q I h => h (s, _, C, cl, fp) pins s' I⟩)
    (fun s H C cl fp => ⟨fun pins s' σ H Q I h => h (s, _, C, cl, fp) pins s' I⟩) hs) (lc_atN (fun R k => src H (Sm.refl H) R k) ht (fun y hy v H1 s r => lt_name nd hN hi hsc hx (turn y hy v H1 (sm_of s) r).1 (turn y hy v H1 (sm_of s) r).2) _ k)
end
/-! ### the very items -/
structure WkV (J : It) (xs : List V) (Hb : Hp) : Prop where
  len : xs.length ≤ sizeLine
  go : ∀ i H, Same Hb H → i < xs.length → J.go i H
  stop : ∀ H, Same Hb H → J.stop xs.length H
  yld : ∀ i H x H', Same Hb H → J.yld i H x H' → i < xs.length → Same H H' ∧ xs[i]? = some x
def SrcV (X : Cx) (tg iter : Expr) (σ : L2.St) (H : Hp) (xs : List V) : Prop := ∀ R : It → Hp → Prop, (∀ J H2, Same H H2 → WkV J xs H2 → R J H2) → wI X tg iter σ H R
section
variable {X : Cx} {σ : L2.St} {H B : Hp} {tg iter elt e : Expr} {ifs : List Expr} {scope : Scope} {pos : Pos} {α : Type} {l : List α} {enc : α → PyData} {f : α → Bool} {g : α → PyData} {vs : List Nat} {xs0 : List V} {a : Addr}
theorem src_listV (h : Ev X iter σ H (Eqv (.ref a))) (ha : Rd H a (.lst xs0)) : SrcV X tg iter σ H xs0 := fun R k => by
  refine wi (pi_list (pe_w iter)) ?_
  refine we_inv (h H (Sm.refl H) _ fun v H2 s2 r2 pins s I => ?_)
  have r2 : v = .ref a := r2
  subst r2
  have ha2 : Rd H2 a (.lst xs0) := (sm_of s2).rd _ _ True.intro ha
  obtain ⟨_, _, _, hz⟩ := I.list (a := a) (xs := xs0) (.inl ha2)
  have up : ∀ {H'}, Same H2 H' → SqL X.K H' a xs0 := fun s => .inl ((sm_of s).rd _ _ True.intro ha2)
  refine ⟨a, rfl, ⟨xs0, .inl ha2⟩, k _ H2 s2 ⟨hz, fun i H' s hi => ⟨xs0, xs0[i], up s, by simp⟩, fun H' s => ⟨xs0, up s, Nat.le_refl _⟩, fun i H' x H'' s y hi => ?_⟩⟩
  obtain ⟨e, q⟩ := y
  subst e
  exact ⟨Same.refl _, q xs0 (up s)⟩
theorem lc_atV (src : SrcV X tg iter σ H xs0) (hx : RpA B xs0 (l.map enc))
    (turn : ∀ x ∈ l, ∀ v H1, Same H H1 → Rp B v (enc x) → LcTurn X scope tg ifs elt vs σ H1 v (f x) (fun u _ => Rp B u (g x))) (Q : VK) (k : ∀ p xs H2, Same H H2 → H p = none → H2 p = some (.lst xs) → RpA B xs ((l.filter f).map g) → Q (.ref p) H2) :
    tLc (wI X tg iter) (jG X scope tg) (jTs X scope ifs) (jE X scope elt) vs σ H Q := by
  refine src _ fun J H2 s2 W D hD => ?_
  have hl : xs0.length = l.length := by rw [hx.length, List.length_map]
  let P : Nat → Hp → Prop := fun i H' => Same H2 H' ∧ ∃ ys, H' D = some (.lst ys) ∧ RpA B ys (((l.take i).filter f).map g) ∧ ys.length ≤ i
  refine ⟨fun i mm H' => mm = l.length - i ∧ i ≤ l.length ∧ P i H', ⟨l.length, rfl, Nat.zero_le _, same_new hD, [], upd_same, .nil, Nat.le_refl _⟩, ?_⟩
  rintro i mm H' ⟨rfl, hi, s', ys, hy, ry, ly⟩
  by_cases hlt : i < l.length
  · refine .inr ⟨W.go i H' s' (by rw [hl]; exact hlt), P (i + 1), fun H'' p => ⟨l.length - (i + 1), by omega, rfl, hlt, p⟩, fun v H3 y => ?_⟩
    obtain ⟨s3, hd⟩ := W.yld i H' v H3 s' y (by rw [hl]; exact hlt)
    obtain ⟨d, hd2, rd⟩ := hx.get hd
    obtain ⟨x, hx1, ex⟩ : ∃ x, l[i]? = some x ∧ enc x = d := by
      rw [List.getElem?_map] at hd2
      obtain ⟨x, hx, e⟩ := Option.map_eq_some_iff.mp hd2
      exact ⟨x, hx, e⟩
    subst ex
    have hm : x ∈ l := List.mem_of_getElem? hx1
    obtain ⟨σ', hw, hg, hts, hel⟩ := (turn x hm v H3 ((s2.trans s').trans s3) rd).go
    have hy3 : H3 D = some (.lst ys) := s3 _ _ hy
    refine fun j => hg j _ ⟨hw, fun j => hts j H3 (Sm.refl _) _ fun H4 s4 => ?_⟩
    cases hf : f x with
    | false =>
      refine iteF ⟨(s'.trans s3).trans s4, ys, s4 _ _ hy3, ?_, Nat.le_succ_of_le ly⟩
      rw [take_snoc hx1, List.filter_append, List.filter_cons_of_neg (by rw [hf]; decide), List.filter_nil, List.append_nil]
      exact ry
    | true =>
      refine iteT fun j => hel hf j H4 (sm_of s4) _ fun u H5 s5 r5 => ?_
      have hy5 : H5 D = some (.lst ys) := s5 _ _ (s4 _ _ hy3)
      refine ⟨ys, hy5, ?_, same_mut (((s'.trans s3).trans s4).trans s5) hD, ys ++ [u], upd_same, ?_, ?_⟩
      · have := W.len
        rw [hl] at this
        omega
      · rw [take_snoc hx1, List.filter_append, List.filter_cons_of_pos hf, List.filter_nil, List.map_append]
        exact RpA.snoc ry r5
      · rw [List.length_append]
        show ys.length + 1 ≤ i + 1
        omega
  · have e : i = l.length := by omega
    subst e
    rw [List.take_length] at ry
    refine .inl ⟨by have := W.stop H' s'; rwa [hl] at this, k D ys _ (s2.trans s') ?_ hy ry⟩
    cases q : H D with
    | none => rfl
    | some o => rw [s2 _ _ q] at hD; cases hD
/-- [y for y in a list of lists if ..] -/
theorem ev_lcV {N : List Str} {i : Nat} {x : Str} {px : Pos} (sc : Scope) (nd : N.Nodup) (sm : Sm B H) (hiter : Ev X iter σ H (Eqv (.ref a))) (ha : Rd B a (.lst xs0)) (hx0 : RpA B xs0 (l.map enc))
    (turn : ∀ y ∈ l, ∀ v H1, Sm H H1 → Rp B v (enc y) → (∀ j, EvTs (BX X scope j) ifs (σ.set i (some v)) H1 (f y)) ∧ (f y = true → ∀ j, Ev (BX X scope j) elt (σ.set i (some v)) H1 (fun u _ => Rp B u (g y))))
    (hN : X.N = N := by rfl) (hsc : X.env.scope = sc := by rfl) (ok : blkC N sc scope [(x, i)] = true := by decide +kernel) (hi : N[i]? = some x := by rfl)
    (hx : (relS scope sc).names.lookup x = some .local ∨ ((relS scope sc).names.lookup x = some .cell ∧ (scope.names.lookup x == some .cell) = true) := by first | exact .inl (by rfl) | exact .inr ⟨by rfl, by rfl⟩)
    (hc : X.calm = true := by rfl) (hs : ∀ x, foldedSetIterable iter X.env x = pure x := by intro _; rfl) : Ev X (.ListComp elt [⟨.Name x px, iter, ifs, 0⟩] scope pos) σ H (Is (.list ((l.filter f).map g))) := fun H1 m Q k =>
  we (pe_lc (own := [(x, i)]) hc (by rw [hN]; exact nd) (pi_w _ iter) (blkOk_by (by rw [hN, hsc]; exact ok)) (fun s H C cl fp => ⟨fun pins s' σ H v u Q I r h => h (s, _, C, cl, fp) pins s' u I r⟩) (fun s H C cl fp => ⟨fun pins s' σ H Q I h => h (s, _, C, cl, fp) pins s' I⟩)
    (fun s H C cl fp => ⟨fun pins s' σ H Q I h => h (s, _, C, cl, fp) pins s' I⟩) hs) (lc_atV (src_listV (hiter.up m) ((sm.trans m).rd _ _ True.intro ha)) hx0 (fun y hy v H2 s r => lt_name nd hN hi hsc hx (turn y hy v H2 (m.trans (sm_of s)) r).1 (turn y hy v H2 (m.trans (sm_of s)) r).2) Q fun p xs H2 s2 fr hp hr => k _ _ s2 (.lst (.inl hp) (RpA.mono (sm.trans (m.trans (sm_of s2))) _ _ hr)))
end
/-! ### dicts with tuple keys, a frame below -/
section
variable {X : Cx} {σ : L2.St} {H F : Hp} {a b e o i : Expr} {pos pos' p2 : Pos} {p : Addr}
theorem dget_tF {m : List (List Str × PyData)} {x : List Str} {d : PyData} {v u : V} (h : DT m v F) (sm : Sm F H) (hu : Rp H u (eN x)) (hl : lookT m x = some d) : ∃ p w, v = .ref p ∧ DGet H p u (some w) ∧ Rp F w d := by
  obtain ⟨p, kvs, e, h1, h2⟩ := h
  have q := h2.look (x := x)
  rw [hl] at q
  obtain ⟨w, hw, rw'⟩ := q
  obtain ⟨b, e2, hb⟩ := names_rp hu
  exact ⟨p, w, e, .inr ⟨kvs, x.map .inr, b, sm.rd _ _ True.intro h1, e2, hb, hw.symm⟩, rw'⟩
/-- d[x], what stands there stands in F -/
theorem ev_dtF {k : Nat} {m : List (List Str × PyData)} {x : List Str} {d : PyData} {v : V} (hr : Room k X.A) (sm : Sm F H) (hd : DT m v F) (ha : Ev X a σ H (Eqv v)) (hb : Ev X b σ H (Is (eN x))) (h : lookT m x = some d) (hs : NoSl b := by intro _ _; rfl) : Ev X (.Subscript a b pos) σ H (fun u _ => Rp F u d) :=
  fun H1 m Q k => we (pe_dget (hu_of hr) (pe_w a) (pe_w b) hs) (ha H1 m _ fun x H2 s2 r2 => hb H2 (m.trans (sm_of s2)) _ fun y H3 s3 r3 => by
    have r2 : x = v := r2
    subst r2
    obtain ⟨p, w, e, g, rw'⟩ := dget_tF hd (sm.trans ((m.trans (sm_of s2)).trans (sm_of s3))) r3 h
    exact ⟨p, w, e, g, k _ _ (s2.trans s3) rw'⟩)
/-- d[i] = e, i a tuple of texts, e read in any way -/
theorem s_dputTW {D : Ends} {kk : Nat} {x : List Str} (hr : Room kk X.A) (ho : ∀ H, At X o σ H p) (h : wE X e σ H fun v H1 => ∃ kvs, H1 p = some (.dT kvs) ∧ kvs.length < 100000 ∧ Ev X i σ H1 (Is (eN x)) ∧ ∀ H2, Same H1 H2 → D.nx σ (upd H2 p (.dT (putK kvs (x.map .inr) v))))
    (hs : swapsWith e (some (.Subscript o i pos')) pos.line X.env = pure false := by rfl) : wS X (.Assign [.Subscript o i pos'] e pos) D σ H :=
  ws (ps_dput (room_u1 hr) (pe_w o) (pe_w i) (pe_w e) hs) fun pins s I => thn (h pins s I) fun u s' ⟨v, H1, I', r, kvs, hp, hz, hi, k⟩ => ⟨v, H1, I', r, ho H1 _ (hi.go fun y H2 s2 r2 => by
    obtain ⟨b, e', hb⟩ := names_rp r2
    rw [e']
    exact ⟨p, _, rfl, DPut.t (k := x.map .inr) (s2 _ _ hp) hb (Nat.lt_of_lt_of_le hz (by decide)), k H2 s2⟩)⟩
end
end My
/-! C17 -/
namespace My
open PySem PySem.Spec PyProof.Rows L2 PySem.W PySem.Calls
/-! ### sorted(a set) is a new list -/
section
variable {X : Cx} {α : Type} [Kd α]
theorem sorted_finN {pins : List (Addr × Obj)} {σ : L2.St} {H : Hp} {s : Shared} {Q : VK} (I : Inv X pins σ H s) (rm : X.A.units + 65 < cLine) {x : Value} {C : List (Rt α) → Prop}
    (col : ∀ (E : Value → Shared → Prop) (Q : List Value → Shared → Prop), (∀ z bs, (∀ b o, s.heap.get? b = some o → z.heap.get? b = some o) → z.gens = s.gens → z.os = s.os → C bs → Q (bs.map (·.1)) z) → wpAny (model X.prog X.w) X.A.in1 (collect x) Q E s)
    (hC : ∀ bs, C bs → bs.length ≤ sizeLine ∧ ∀ b ∈ bs, RelV b.2.1 b.1 ∧ Rp H b.2.1 (Kd.enc b.2.2))
    (q : ∀ bs p xs H', C bs → Same H H' → H p = none → H' p = some (.lst xs) → RpA H' xs ((sortL ltK (bs.map (·.2.2))).map Kd.enc) → Q (.ref p) H') :
    wpAny (model X.prog X.w) X.A (call (.builtin "sorted") [x]) (fun u s' => ∃ v H', Inv X pins σ H' s' ∧ RelV v u ∧ Q v H') X.xe s := by
  refine sorted_any (val := fun b : Rt α => b.1) (enc := fun b : Rt α => Kd.enc b.2.2) col (fun bs h b hb => ?_) (fun bs h b hb => Kd.tup _) (fun bs h => ?_) (fun bs h => ?_) (fun bs h => (hC bs h).1) (fun bs h b hb => ?_) fun z h' bs c h k g o k2 hp => ?_
  · obtain ⟨r, hr⟩ := (hC bs h).2 b hb
    exact Dp.reads I _ _ _ (hr.dp _) r
  · intro d hd d' hd'
    obtain ⟨b, _, rfl⟩ := List.mem_map.mp hd
    obtain ⟨b', _, rfl⟩ := List.mem_map.mp hd'
    exact Kd.alk _ _
  · rcases Kd.kin (α := α) with t | t
    · refine .inl fun d hd => ?_
      obtain ⟨b, _, rfl⟩ := List.mem_map.mp hd
      exact t _
    · refine .inr fun d hd => ?_
      obtain ⟨b, _, rfl⟩ := List.mem_map.mp hd
      exact t _
  · have := Kd.dep b.2.2
    omega
  · have I1 : Inv X pins σ H z := I.call' (ch := []) o (Un.kept k) (I.hok.kept k) (by rw [g]; exact I.bare) (fun _ y => nomatch y)
    obtain ⟨L, hL⟩ : ∃ L, L = bs.mergeSort (dataLe false fun b : Rt α => Kd.enc b.2.2) := ⟨_, rfl⟩
    rw [← hL] at hp
    have pm : L.Perm bs := hL ▸ List.mergeSort_perm bs _
    have hr : ∀ b ∈ L, RelV b.2.1 b.1 ∧ Rp H b.2.1 (Kd.enc b.2.2) := fun b hb => (hC bs h).2 b (pm.mem_iff.mp hb)
    have hn : H z.heap.objs.size = none := I1.hok.fresh (Nat.le_refl _)
    refine ⟨.ref z.heap.objs.size, upd H z.heap.objs.size (.lst (L.map (·.2.1))), I1.laid (t' := z.toks) k2 (Nat.le_refl _) ⟨by rw [List.length_map, pm.length_eq]; exact (hC bs h).1, L.map (·.1), c, rows_vals fun b hb => (hr b hb).1, hp⟩, rfl, q bs _ _ _ h (same_new hn) hn upd_same ?_⟩
    have e : sortL ltK (bs.map (·.2.2)) = L.map (·.2.2) := by rw [hL, sorted_keys]
    rw [e]
    exact RpA.mono (sm_of (same_new hn)) _ _ (rows_rpA fun b hb => (hr b hb).2)
end
section
variable {X : Cx} {α : Type} [Kn α]
theorem cr_sortSetN (hc : X.calm = true) (rm : X.A.units + 65 < cLine) : CallR X (.builtin "sorted") (fun vs H Q => ∃ (v : V) (ks : List α), vs = [v] ∧ RSet X.w ks v H ∧ ∀ p xs H', Same H H' → H p = none → H' p = some (.lst xs) → RpA H' xs ((setL ltK ks).map Kd.enc) → Q (.ref p) H') := by
  intro pins s σ H vs us Q I r h
  obtain ⟨v, ks, rfl, ⟨a, L, rfl, hd, hL, hn, hm⟩, q⟩ := h
  rw [Vals.ref1 r]
  obtain ⟨⟨es, ep, t, z⟩, _⟩ := hd.ok I.hok
  have few := z.few
  rw [List.length_map] at few
  have sz := rws_size z.rows
  rw [List.length_map] at sz
  obtain ⟨o, ho, hex, hdt⟩ := id z.ob
  refine sorted_finN (α := α) I rm (C := fun b => b.Perm L) (fun E Q h => ?_) (fun b hb => ⟨by rw [hb.length_eq, sizeLine_eq]; omega, fun c hc => hL c (hb.mem_iff.mp hc)⟩) fun b p xs H' hb hs hn0 hp0 hr => ?_
  · refine collect_set (A := X.A.in1) (I.ok.hd hc) ⟨o, ho, hex.1, hdt⟩ z.fit (by rw [sz]; unfold scanBound; omega) z.ris z.led fun z1 out k1 hz g1 o1 pm => ?_
    have e : es.toList.map (·.2) = L.map (·.1) := by
      rw [z.rows, rws, List.map_map, List.map_map]
      rfl
    rw [e] at pm
    have key : ∀ {l m : List Value}, l.Perm m → ∀ L : List (Rt α), m = L.map (·.1) → ∃ L1 : List (Rt α), l = L1.map (·.1) ∧ L1.Perm L := by
      intro l m hp
      induction hp with
      | nil => intro L e; exact ⟨L, e, .refl L⟩
      | @cons x l m _ ih =>
        intro L e
        match L, e with
        | p :: L, e =>
          have e' : x :: m = p.1 :: L.map (·.1) := e
          injection e' with e1 e2
          obtain ⟨L1, h1, h2⟩ := ih L e2
          exact ⟨p :: L1, by rw [h1, e1]; rfl, h2.cons p⟩
      | swap x y l =>
        intro L e
        match L, e with
        | p :: q :: L, e =>
          have e' : x :: y :: l = p.1 :: q.1 :: L.map (·.1) := e
          injection e' with e1 e2
          injection e2 with e2 e3
          exact ⟨q :: p :: L, by rw [e1, e2, e3]; rfl, .swap p q L⟩
      | trans _ _ ih1 ih2 =>
        intro L e
        obtain ⟨L1, h1, h2⟩ := ih2 L e
        obtain ⟨L2, h3, h4⟩ := ih1 L1 h1
        exact ⟨L2, h3, h4.trans h2⟩
    obtain ⟨L1, e1, e2⟩ := key pm L rfl
    rw [e1]
    exact h z1 L1 k1 g1 o1 e2
  · have e : sortL ltK (b.map (·.2.2)) = setL ltK ks := by
      have pm : (b.map (·.2.2)).Perm (L.map (·.2.2)) := hb.map _
      rw [sortL_set ordK (pm.nodup_iff.mpr hn)]
      exact setL_congr ordK fun z => pm.mem_iff.trans (hm z)
    rw [e] at hr
    exact q p xs H' hs hn0 hp0 hr
end
section
variable {X : Cx} {σ : L2.St} {H : Hp} {a : Expr} {p pos : Pos} {α : Type}
theorem evN_sortSet [Ks α] {k : Nat} {as : List α} (hr : Room k X.A) (hc : X.calm = true) (hm : X.mg "sorted" = none) (h : Ev X a σ H (RSet X.w as)) (hg : Gl X "sorted" := by rfl) (he : starEach [a] X.env = (false, eval a X.env) :: starEach [] X.env := by rfl) (hpl : (backTo pos (starEach [] X.env)).any (·.1) = false := by rfl) :
    EvN X (.Call (.Name "sorted" p) [a] [] pos) σ H ((setL ltK as).map Kd.enc) := fun H1 m Q z =>
  we (pe_callB (cr_sortSetN (α := α) hc (room_u65 hr)) hg hm b_sorted (pa_w [a]) (by decide) (by decide) he hpl) (wa_one (h H1 m _ fun v H2 s2 r2 => ⟨v, as, rfl, r2, fun p xs H' s hn hp hr => z p xs H' (s2.trans s) (s2.free hn) hp hr⟩) he)
end
end My
/-! D18 -/
namespace My
open PySem L2
/-! ### what a changing dict leaves alone -/
section
variable {H : Hp} {p : Addr}
abbrev NoSeq (u : Option HO) : Prop := ∀ o, u = some o → (∀ xs, o ≠ .tup xs) ∧ (∀ xs, o ≠ .lst xs) ∧ ∀ od xs, o ≠ .frz od (.lst xs)
mutual
theorem Rp.cutD (h : NoSeq (H p)) : ∀ (d : PyData) (v : V), Rp H v d → Rp (cut [p] H) v d
  | .none, _, r => by cases r; exact .non
  | .bool b, _, r => by cases r; exact .bl b
  | .int i, _, r => by cases r; exact .int i
  | .str x, _, r => by cases r; exact .str x
  | .list ds, _, r => by
    cases r with
    | @lst a xs _ h1 h2 =>
      have ne : a ∉ [p] := fun hm => by
        rw [List.mem_singleton.mp hm] at h1
        rcases h1 with q | ⟨o, q⟩
        · exact (h _ q).2.1 xs rfl
        · exact (h _ q).2.2 o xs rfl
      refine .lst ?_ (RpA.cutD h ds _ h2)
      rcases h1 with q | ⟨o, q⟩
      · exact .inl (by rw [cut_out ne]; exact q)
      · exact .inr ⟨o, by rw [cut_out ne]; exact q⟩
  | .tuple ds, _, r => by
    cases r with
    | @tup a xs _ h1 h2 =>
      have ne : a ∉ [p] := fun hm => by
        rw [List.mem_singleton.mp hm] at h1
        exact (h _ h1).1 xs rfl
      exact .tup (by rw [cut_out ne]; exact h1) (RpA.cutD h ds _ h2)
  | .dict _, _, r => by cases r
theorem RpA.cutD (h : NoSeq (H p)) : ∀ (ds : List PyData) (vs : List V), RpA H vs ds → RpA (cut [p] H) vs ds
  | [], _, r => by cases r; exact .nil
  | d :: ds, _, r => by
    cases r with
    | cons h1 h2 => exact .cons (Rp.cutD h d _ h1) (RpA.cutD h ds _ h2)
end
theorem noSeq_dT {kvs : List (List Key × V)} (h : H p = some (.dT kvs)) : NoSeq (H p) := fun o e => by
  rw [h] at e
  cases e
  exact ⟨fun _ z => (nomatch z), fun _ z => (nomatch z), fun _ _ z => (nomatch z)⟩
end
/-! ### xs[:-1][::-1] -/
section
variable {X : Cx} {σ : L2.St} {F : Hp} {ps : List Addr} {e : Expr} {ws : List V} {ds : List PyData} {a : Addr} {k : Nat} {p1 p2 p3 p4 pos pos2 : Pos}
theorem evF_rev {j : Int} {hi : Option Expr} (ha : ∀ H, At X e σ H a) (hF : F a = some (.lst ws)) (hx : RpA F ws ds) (hh : ∀ H, EvO X hi σ H (some j)) :
    EvF X (.Subscript (.Subscript e (.Slice none hi none p4) pos2) (.Slice none none (some (.UnaryOp .USub (.Constant (.int 1) k p1) p2)) p3) pos) σ F ps (Is (.list (cutD ds none (some j)).reverse)) := fun H1 m c Q z =>
  we (pe_revL (pe_slice sl_list (pe_w e) (po_w none) (po_w hi))) (ha H1 _ (eo_none H1 (Sm.refl _) _ fun H2 s2 => hh H2 H2 (Sm.refl _) _ fun H3 s3 => by
    have hF3 : H3 a = some (.lst ws) := s3 _ _ (s2 _ _ (m _ _ hF))
    refine ⟨a, ws, rfl, SqL.of hF3, fun q hq => ⟨q, _, rfl, SqL.of upd_same, fun q2 hq2 => ?_⟩⟩
    have ss : Same H1 (upd (upd H3 q (.lst (cutV ws none (some j)))) q2 (.lst (cutV ws none (some j)).reverse)) := (s2.trans s3).trans ((same_new hq).trans (same_new hq2))
    obtain ⟨w1, w2⟩ := cond_cut c ss m
    have fr : H1 q2 = none := ((s2.trans s3).trans (same_new hq)).free hq2
    refine z _ _ _ ss w1 (cut_same _ _) w2 (fun p hp => cut_in hp) (.lst (.inl ?_) ((RpA.mono (sm_of w1) _ _ (hx.cut none (some j))).rev))
    rw [cut_out (fun h => by
      obtain ⟨_, o, ho, _⟩ := c q2 h
      rw [ho] at fr
      cases fr)]
    exact upd_same))
end
theorem EvF.is {X : Cx} {σ : L2.St} {F : Hp} {ps : List Addr} {e : Expr} {d d' : PyData} (h : EvF X e σ F ps (Is d)) (k : d = d') : EvF X e σ F ps (Is d') := k ▸ h
abbrev lvD (L : List (List Str)) : PyData := .list (L.map eN)
section
variable {P : Program} {w : World} {K : PySem.W.Frag} {mg : Str → Option Value} {base : Heap}
/-! ### ways_by -/
abbrev CSetL (P : Program) (w : World) (K : PySem.W.Frag) (mg : Str → Option Value) (base : Heap) : Prop := C8.Cal P w K mg base 1 "set_of" (PF (fun (as : List (List Str)) vs H => ∃ v, vs = [v] ∧ Sq (as.map Kd.enc) v H ∧ FewL as (Ks.bound (List Str))) fun as => Is (.tuple ((setL ltK as).map Kd.enc))) []
theorem ev_setL {X : Cx} {σ : L2.St} {H : Hp} {e : Expr} {p pos : Pos} {j : Nat} {as : List (List Str)} (c : CSetL X.prog X.w X.K X.mg X.base) (hr : Room j X.A) (h : Ev X e σ H (Sq (as.map eN))) (hz : as.length ≤ 70) (hk : 1 ≤ j := by decide) (hg : Gl X "set_of" := by rfl) (he : starEach [e] X.env = (false, eval e X.env) :: starEach [] X.env := by rfl) (hpl : (backTo pos (starEach [] X.env)).any (·.1) = false := by rfl) :
    Ev X (.Call (.Name "set_of" p) [e] [] pos) σ H (Is (.tuple ((setL ltK as).map eN))) :=
  ev_call c hr (ea_cons h ea_nil he) (fun vs H1 _ t Q z => by
    obtain ⟨v, rfl, r1⟩ := one_of t
    exact ⟨as, ⟨v, rfl, r1, fun l hn hl => Nat.le_trans (fewL_len as l hn hl) hz⟩, fun u H2 s2 r2 => z u H2 s2 r2⟩) hk hg (by decide) he hpl
abbrev sWays : Stmt := top 23
abbrev NWays : List Str := ["table", "levels", "name", "ways", "level", "later", "done", "own"]
theorem sc_ways : FnScope NWays ["table"] (defScope sWays) := ⟨rfl, rfl, rfl, by decide +kernel, rfl, by decide +kernel, by decide +kernel⟩
abbrev AWays : Blk → RelA := fun b vs H => ∃ v, vs = [v] ∧ DK (tabD b) v H ∧ WF b ∧ OkW b
abbrev CWays (P : Program) (w : World) (K : PySem.W.Frag) (mg : Str → Option Value) (base : Heap) : Prop := C8.Cal P w K mg base 2 "ways_by" (PF AWays fun b => DT (mW (waysM b))) []
def lvs (b : Blk) (n : Nat) : List PyData := (List.range n).map fun k => lvD (lvl b k)
theorem lvs_last (b : Blk) (n : Nat) : atI (lvs b (n + 1)) (-1) = some (lvD (lvl b n)) := by
  unfold lvs
  rw [List.range_succ, List.map_append]
  exact atI_last _ _
theorem lvs_cut (b : Blk) (n : Nat) : (cutD (lvs b (n + 1)) none (some (-1))).reverse = ((List.range n).map (lvl b)).reverse.map lvD := by
  have l : (lvs b (n + 1)).length = n + 1 := by unfold lvs; rw [List.length_map, List.length_range]
  have e : cutD (lvs b (n + 1)) none (some (-1)) = lvs b n := by
    unfold cutD
    rw [l, HT.sIx_none, List.drop_zero]
    have e2 : HT.sIx (n + 1) (n + 1) (some (-1)) - 0 = n := by
      show (if (-1 : Int) < 0 then ((-1 : Int) + ((n + 1 : Nat) : Int)).toNat else min (-1 : Int).toNat (n + 1)) - 0 = n
      rw [if_pos (by decide)]
      omega
    rw [e2]
    unfold lvs
    rw [List.range_succ, List.map_append, List.take_left' (by rw [List.length_map, List.length_range])]
  rw [e, List.map_reverse, List.map_map]
  rfl
theorem cal_ways (Fd : Df K mg "ways_by" sWays) (B : Blt mg) (c1 : CFree P w K mg base) (c2 : CSetS P w K mg base) (c3 : CSetL P w K mg base) : CWays P w K mg base := by
  refine cal_pf (A := AWays) Fd sc_ways (fun _ _ _ _ _ _ us hl => match us, hl with | [_], _ => rfl) (fun d vs H h => by obtain ⟨v, e, _⟩ := h; rw [e]; rfl) ?_
  intro f cdv Ar outer s H vs Q E b hr ⟨v, e, hv, wf, ok⟩ q
  subst e
  have hv : DK (tabD b) v H := hv
  have wf : WF b := wf
  have ok : OkW b := ok
  obtain ⟨d, kvs0, e, _, _⟩ := id hv
  subst e
  have keys : (tabD b).map (·.1) = names b := by rw [tabD, List.map_map]; rfl
  have few := wf.few
  refine b_cons (s_setW 1 sc_ways.nd (we (pe_lst (pa_w _)) (wa_one ((evN_lst (ds := [eN []]) (ea_is (ev_tup (ds := [].map PyData.str) ea_isNil (by simp)) ea_isNil) (by simp)) H (Sm.refl _) _ fun q0 ys H1 s1 f1 h1 hx1 => ⟨by rw [sizeLine_eq]; simp, fun p hp => ?_⟩))))
  have mu1 : Mu H1 [(p, .lst [.ref q0])] (upd H1 p (.lst [.ref q0])) := Mu.new (Mu.nil H1) hp (by intro _ z; cases z)
  have hx1' : RpA H1 [.ref q0] (lvs b 1) := .cons (.lst (.inl h1) hx1) .nil
  have hv1 : DK (tabD b) (.ref d) H1 := Mono.up (sm_of s1) hv
  refine b_cons (s_forK (F := H1) (ms := [(p, .lst [.ref q0])]) hv1 mu1 (fun H => at_name 0 rfl) fun F' H' sm tp fr mu => ?_)
  refine ⟨fun i σ H' => ∃ (Fi : Hp) (ws : List V) (o2 o5 : Option V), σ = [some (.ref d), some (.ref p), o2, none, none, o5, none, none] ∧ Same F' Fi ∧ Mu Fi [(p, .lst ws)] H' ∧ RpA Fi ws (lvs b (i + 1)) ∧ ws.length ≤ i + 1,
    ⟨F', [.ref q0], none, none, rfl, Same.refl _, mu, RpA.mono sm _ _ hx1', Nat.le_refl _⟩, fun i σ H ⟨_, _, _, _, _, s, m, _⟩ => s.trans m.sam, ?_, ?_⟩
  · rintro D0 i x σ H2 hx ⟨Fi, ws, o2, o5, rfl, sF, mu2, rw2, lw⟩
    have hi : i < b.rows.length := by
      have := (List.getElem?_eq_some_iff.mp hx).1
      rw [keys, List.length_map] at this
      exact this
    refine g_name 2 sc_ways.nd ?_
    have hv2 : DK (tabD b) (.ref d) H2 := Mono.up (sm.trans (sm_of (sF.trans mu2.sam))) hv1
    have rl2 : Rp H2 (.ref p) (.list (lvs b (i + 1))) := .lst (.inl mu2.one) (RpA.mono mu2.sm _ _ rw2)
    have ll : (laterL b (lvl b i)).length ≤ 70 := ok.few i hi
    have fm : ((lvl b i).flatMap fun dn => (freeL b dn).map fun y => eN (setL ltK (dn ++ [y]))) = (laterL b (lvl b i)).map eN := by
      unfold laterL
      rw [List.map_flatMap]
      refine congrArg (fun z => List.flatMap z (lvl b i)) (funext fun dn => ?_)
      rw [List.map_map]
      rfl
    refine b_cons (s_setLc2 (own := [("done", 6), ("own", 7)]) (l := lvl b i) (enc := eN) (l1 := fun dn => freeL b dn) (enc1 := fun _ y => PyData.str y) (g := fun dn y => eN (setL ltK (dn ++ [y]))) 5 7 (defScope sWays) sc_ways.nd (src_list (ev_ixL (i := -1) (ev_name 1 (R := Is (.list (lvs b (i + 1)))) rfl rl2) (ev_neg ev_int) (lvs_last b i))) (by rw [fm, List.length_map, sizeLine_eq]; omega) (fun dn _ => tupD_names dn) (fun dn _ y _ => tupD_names _) (fun dn hdn y H4 m4 ry => ?_) (fun lv H3 s3 r3 => ?_) (hsw := by rfl))
    · have hv4 : DK (tabD b) (.ref d) H4 := Mono.up m4 hv2
      have ld := lvl_rowlen i dn hdn
      refine ⟨[some (.ref d), some (.ref p), some (.str x), none, none, o5, some y, none], rfl, fun j H5 m5 => eg_name 6 sc_ways.nd, fun j => srcN_new (evN_free (b := b) (done := dn) c1 hr wf (ev_name 0 (R := DK (tabD b)) rfl hv4) (sq_t (ev_name 6 (R := Is (eN dn)) rfl ry))) (tup_map (fun a => by simp [tupD]) _), fun z hz t H5 m5 rt => ⟨fun j => eg_name 7 sc_ways.nd, fun j => ev_setS (xs := dn ++ [z]) c2 hr (sq_t (Ev.is (ev_tup (ea_star (sq_t (ev_name 6 (R := Is (eN dn)) rfl (Rp.mono m5 _ _ ry))) (ea_is (ev_name 7 (R := Is (.str z)) rfl rt) ea_isNil)) ?_) ?_)) ?_⟩⟩
      · rw [List.length_append, List.length_map, List.length_cons, List.length_nil]
        omega
      · rw [List.map_append]
        rfl
      · rw [List.length_append, List.length_cons, List.length_nil]
        omega
    · rw [fm] at r3
      have r3 : Rp H3 lv (.list ((laterL b (lvl b i)).map eN)) := r3
      have mu3 := mu2.eval s3
      refine b_one (s_expr (e_appendW (at_name 1 rfl) mu3.one ((evN_list B.list (sq_t (ev_setL c3 hr (sq_l (ev_name 5 (R := Is (.list ((laterL b (lvl b i)).map eN))) rfl r3)) ll))) H3 (Sm.refl _) _ fun q1 xs H4 s4 f4 h4 hx4 => ⟨ws, (mu3.eval s4).one, by omega, ?_⟩)))
      obtain ⟨F4, w4, mu4, t4, hq4⟩ := (mu3.add s4 f4 h4 (by intro _ z; cases z)).done
      refine ⟨F4, ws ++ [.ref q1], _, _, rfl, sF.trans w4, mu4.put (by intro _ z; cases z), ?_, by rw [List.length_append]; exact Nat.succ_le_succ lw⟩
      have e : lvs b (i + 1 + 1) = lvs b (i + 1) ++ [lvD (lvl b (i + 1))] := by
        unfold lvs
        rw [List.range_succ, List.map_append]
        rfl
      rw [e]
      exact RpA.snoc (RpA.mono (sm_of w4) _ _ rw2) (.lst (.inl hq4) (RpA.tps t4 _ _ (tup_kd _) hx4))
  · rintro σ H2 H3 ⟨Fi, ws, o2, o5, rfl, sF, mu2, rw2, lw⟩ g3 sm3 np
    have en : (tabD b).length = b.rows.length := by rw [tabD, List.length_map]
    rw [en] at rw2
    have hp3 : H3 p = some (.lst ws) := (np p hp).trans mu2.one
    have rw3 : RpA H3 ws (lvs b (b.rows.length + 1)) := RpA.mono (mu2.sm.trans sm3) _ _ rw2
    have rl3 : Rp H3 (.ref p) (.list (lvs b (b.rows.length + 1))) := .lst (.inl hp3) rw3
    have hv3 : DK (tabD b) (.ref d) H3 := Mono.up (sm_of g3) hv1
    have tl : (topS b).length ≤ 6 := Nat.le_trans (lvl_rowlen b.rows.length (topS b) (by rw [ok.one]; exact List.mem_singleton.mpr rfl)) few
    refine b_cons (s_setW 3 sc_ways.nd (e_dispT (ks := topS b) (R := Is (.int 1)) hr (ev_ixL (i := 0) (ev_ixL (i := -1) (ev_name 1 (R := Is (.list (lvs b (b.rows.length + 1)))) rfl rl3) (ev_neg ev_int) (lvs_last b _)) ev_int (by rw [ok.one]; rfl)) ev_int fun wd n0 H4 hw s4 r4 => ?_))
    have en0 : n0 = .int 1 := is_int r4
    subst en0
    have mu5 : Mu H3 [(wd, .dT [((topS b).map Sum.inr, .int 1)])] (upd H4 wd (.dT [((topS b).map Sum.inr, .int 1)])) := ((Mu.new (o := .dT []) (Mu.nil H3) hw (by intro _ z; cases z)).eval s4).put (by intro _ z; cases z)
    generalize upd H4 wd (.dT [((topS b).map Sum.inr, .int 1)]) = H5 at mu5
    have s35 : Same H H3 := s1.trans g3
    refine b_cons (s_for (F := H3) (ps := [wd]) (l := downs b) (enc := lvD) (srcF_list (EvF.is (evF_rev (j := -1) (fun H => at_name 1 rfl) hp3 rw3 (fun H => eo_some (ev_neg (n := 1) ev_int))) (by rw [lvs_cut]; rfl))) mu5.sam mu5.cond fun G H6 f6 tp6 np6 s6 g6 => ?_)
    have mu6 : Mu G [(wd, .dT [((topS b).map Sum.inr, .int 1)])] H6 := ⟨g6, fun q hq => ⟨np6 _ (List.mem_map.mpr ⟨q, hq, rfl⟩), s6 _ _ (mu5.at_ q hq).2.1, (mu5.at_ q hq).2.2⟩, mu5.nd⟩
    have hvG : DK (tabD b) (.ref d) G := Mono.up (sm_of f6) hv3
    let Inv : Nat → Ways → Prop := fun i m => (m.map (·.1)).Nodup ∧ (∀ y ∈ lvl b (b.rows.length - i), y ∈ m.map (·.1)) ∧ m.length ≤ 1 + 70 * i
    refine ⟨fun i σ H' => ∃ (kvs : List (List Key × V)) (o4 o6 : Option V), σ = [some (.ref d), some (.ref p), o2, some (.ref wd), o4, o5, o6, none] ∧ Mu G [(wd, .dT kvs)] H' ∧ KtA H' kvs (mW (((downs b).take i).foldl (fun m L => wLvl b L m) [(topS b, 1)])) ∧ Inv i (((downs b).take i).foldl (fun m L => wLvl b L m) [(topS b, 1)]),
      ⟨_, none, none, rfl, mu6, .cons (.int 1) .nil, by simp, fun y hy => by
        have hy : y ∈ lvl b (b.rows.length - 0) := hy
        rw [Nat.sub_zero, ok.one] at hy
        rw [List.mem_singleton.mp hy]
        simp, by simp⟩, fun i σ H ⟨_, _, _, _, m, _⟩ => m.sam, ?_, ?_⟩
    · rintro i L σ H7 H8 lvv hL ⟨kvs, o4, o6, rfl, mu7, kt7, nd7, in7, sz7⟩ s8 rl8
      generalize hm0 : ((downs b).take i).foldl (fun m L => wLvl b L m) [(topS b, 1)] = m0 at kt7 nd7 in7 sz7
      have dl : (downs b).length = b.rows.length := by unfold downs; rw [List.length_reverse, List.length_map, List.length_range]
      have hi : i < b.rows.length := by rw [← dl]; exact (List.getElem?_eq_some_iff.mp hL).1
      have eL : L = lvl b (b.rows.length - (i + 1)) := by
        have z := hL
        unfold downs at z
        rw [List.getElem?_reverse (by rw [List.length_map, List.length_range]; exact hi), List.length_map, List.length_range, List.getElem?_map, List.getElem?_range (by omega)] at z
        have z := Option.some.inj z
        rw [← z]
        congr 1
        omega
      have up : ∀ dn ∈ L, ∀ x ∈ freeL b dn, setL ltK (dn ++ [x]) ∈ m0.map (·.1) := fun dn hdn x hx => by
        rw [eL] at hdn
        have z := lvl_next hdn hx
        have e : b.rows.length - (i + 1) + 1 = b.rows.length - i := by omega
        rw [e] at z
        exact in7 _ z
      have Lsz : L.length ≤ 70 := by rw [eL]; exact ok.sz _ (by omega)
      have Lrow : ∀ dn ∈ L, dn.length ≤ 6 := fun dn hdn => by
        rw [eL] at hdn
        exact Nat.le_trans (lvl_rowlen _ dn hdn) (by omega)
      have mu8 := mu7.eval s8
      refine g_name 4 sc_ways.nd ?_
      have hw8 : NoSeq (H8 wd) := noSeq_dT mu8.one
      have rlF : Rp (cut [wd] H8) lvv (lvD L) := Rp.cutD hw8 _ _ rl8
      obtain ⟨w1, w2, w3⟩ := mu8.wide
      have eR : Mu.rest [(wd, HO.dT kvs)] H8 = cut [wd] H8 := rfl
      rw [eR] at w1 w2 w3
      refine b_one (s_for (F := cut [wd] H8) (ps := [wd]) (l := L) (enc := eN) (srcF_list (evF_name 4 (R := Is (lvD L)) rfl rlF)) w2.sam w2.cond fun G2 H9 f9 tp9 np9 s9 g9 => ?_)
      have mu9 : Mu G2 [(wd, .dT kvs)] H9 := ⟨g9, fun q hq => ⟨np9 _ (List.mem_map.mpr ⟨q, hq, rfl⟩), s9 _ _ (w2.at_ q hq).2.1, (w2.at_ q hq).2.2⟩, w2.nd⟩
      refine ⟨fun j σ H' => ∃ (kvs : List (List Key × V)) (o6 : Option V), σ = [some (.ref d), some (.ref p), o2, some (.ref wd), some lvv, o5, o6, none] ∧ Mu G2 [(wd, .dT kvs)] H' ∧ KtA H' kvs (mW (wLvl b (L.take j) m0)),
        ⟨kvs, o6, rfl, mu9, ktA_move kt7⟩, fun j σ H ⟨_, _, _, m, _⟩ => m.sam, ?_, ?_⟩
      · rintro j dn σ H10 H11 dv hdn ⟨kvs, o6, rfl, mu10, kt10⟩ s11 rd
        have mu11 := mu10.eval s11
        have hdm : dn ∈ L := List.mem_of_getElem? hdn
        generalize hm1 : wLvl b (L.take j) m0 = m1 at kt10
        have nd1 : (m1.map (·.1)).Nodup := by rw [← hm1]; exact wLvl_nd _ _ nd7
        have up1 : ∀ x ∈ freeL b dn, setL ltK (dn ++ [x]) ∈ m1.map (·.1) := fun x hx => by rw [← hm1]; exact wLvl_old _ _ (up dn hdm x hx)
        have sz1 : m1.length ≤ 1 + 70 * i + 70 := by
          rw [← hm1]
          have z := wLvl_len (b := b) (L.take j) m0
          rw [List.length_take] at z
          omega
        have ldn := Lrow dn hdm
        refine g_name 6 sc_ways.nd ?_
        have hv11 : DK (tabD b) (.ref d) H11 := Mono.up (sm_of ((w1.trans f9).trans mu11.sam)) hvG
        have dt11 : DT (mW m1) (.ref wd) H11 := ⟨wd, kvs, rfl, .inl mu11.one, ktA_move kt10⟩
        refine b_one (s_dputT (x := dn) hr (fun H => at_name 3 rfl) mu11.one (R := Is (.int (wSum b m1 dn))) (Ev.is (ev_sum (ns := (freeL b dn).map fun x => lookW m1 (setL ltK (dn ++ [x]))) B.sum (Ev.is (ev_lcA (i := 7) (l := freeL b dn) (enc := PyData.str) (g := fun x => .int (lookW m1 (setL ltK (dn ++ [x])))) (defScope sWays) sc_ways.nd (src_list (evN_free (b := b) (done := dn) c1 hr wf (ev_name 0 (R := DK (tabD b)) rfl hv11) (sq_t (ev_name 6 (R := Is (eN dn)) rfl rd))).ev) (fun _ _ => by simp [tupD]) fun x hx y H12 m12 ry jj => ?_) (by rw [List.map_map]; rfl))) rfl) (fun H12 s12 => ev_name 6 (R := Is (eN dn)) rfl (Rp.mono (sm_of s12) _ _ rd)) ?_ fun nv H12 s12 rn => ?_)
        · refine ev_dt (m := mW m1) (x := setL ltK (dn ++ [x])) hr (ev_name 3 (R := DT (mW m1)) rfl (Mono.up m12 dt11)) (ev_setS (xs := dn ++ [x]) c2 hr (sq_t (Ev.is (ev_tup (ea_star (sq_t (ev_name 6 (R := Is (eN dn)) rfl (Rp.mono m12 _ _ rd))) (ea_is (ev_name 7 (R := Is (.str x)) rfl ry) ea_isNil)) ?_) ?_)) ?_) (lookT_in nd1 (lookW_in (up1 x hx)))
          · rw [List.length_append, List.length_map, List.length_cons, List.length_nil]
            omega
          · rw [List.map_append]
            rfl
          · rw [List.length_append, List.length_cons, List.length_nil]
            omega
        · have z := kt10.length
          rw [List.length_map] at z
          omega
        · refine ⟨_, _, rfl, (mu11.eval s12).put (by intro _ z; cases z), ?_⟩
          have z := (ktA_move (H' := upd H12 wd (.dT (putK kvs (dn.map .inr) nv))) kt10).put dn (v := nv) (d := .int (wSum b m1 dn)) (by cases rn; exact .int _)
          rw [putT_W] at z
          rw [take_snoc hdn, wLvl_snoc, hm1]
          exact z
      · rintro σ H10 ⟨kvs, o6, rfl, mu10, kt10⟩
        rw [List.take_length] at kt10
        have e : ((downs b).take (i + 1)).foldl (fun m L => wLvl b L m) [(topS b, 1)] = wLvl b L m0 := by
          rw [take_snoc hL, List.foldl_append, hm0]
          rfl
        refine ⟨kvs, _, _, rfl, mu10.low (w1.trans f9), by rw [e]; exact kt10, ?_⟩
        rw [e]
        refine ⟨wLvl_nd _ _ nd7, fun y hy => ?_, ?_⟩
        · rw [← eL] at hy
          exact wLvl_mem _ _ hy
        · have z := wLvl_len (b := b) L m0
          omega
    · rintro σ H7 ⟨kvs, o4, o6, rfl, mu7, kt7, nd7, in7, sz7⟩
      rw [List.take_length] at kt7
      refine b_one (s_ret (R := DT (mW (waysM b))) (ev_name 3 rfl ⟨wd, kvs, rfl, .inl mu7.one, kt7⟩) fun z H8 s8 r8 => q z H8 (s35.trans (f6.trans (mu7.sam.trans s8))) r8)
end
end My
/-! L2 -/
namespace My
open PySem L2
section
variable {P : Program} {w : World} {K : PySem.W.Frag} {mg : Str → Option Value} {base : Heap}
/-! ### _law_pick -/
abbrev sPick : Stmt := top 51
theorem sc_pick : FnScope ["_law_jar", "_law_some_so", "_law_many", "_law_turn", "_law_rest", "_law_found"] ["_law_jar", "_law_some_so", "_law_many"] (defScope sPick) := ⟨rfl, rfl, rfl, by decide +kernel, rfl, by decide +kernel, by decide +kernel⟩
abbrev APick : List Str × Nat → RelA := fun p us H => ∃ v, us = [v, .int (p.2 : Nat)] ∧ Sq (p.1.map .str) v H ∧ p.1.length ≤ 8
/-- some of them, in any order -/
abbrev BPick : List Str × Nat → Rel := fun p v H => ∃ ys rest : List Str, Rp H v (.list (ys.map .str)) ∧ ys.length = min p.2 p.1.length ∧ (ys ++ rest).Perm p.1
abbrev CPick (P : Program) (w : World) (K : PySem.W.Frag) (mg : Str → Option Value) (base : Heap) : Prop := C8.Cal P w K mg base 2 "_law_pick" (PJ APick BPick 8) []
theorem perm_take {ys rest : List Str} {xs : List Str} {i : Nat} {y : Str} (h : (ys ++ rest).Perm xs) (hy : rest[i]? = some y) : ((ys ++ [y]) ++ rest.eraseIdx i).Perm xs := by
  refine List.Perm.trans ?_ h
  rw [List.append_assoc]
  refine List.Perm.append_left ys ?_
  obtain ⟨lt, e⟩ := List.getElem?_eq_some_iff.mp hy
  have e1 : rest = rest.take i ++ rest[i] :: rest.drop (i + 1) := by rw [← List.drop_eq_getElem_cons lt, List.take_append_drop]
  rw [List.eraseIdx_eq_take_drop_succ]
  conv => rhs; rw [e1, e]
  exact (List.perm_middle (l₁ := rest.take i) (a := y) (l₂ := rest.drop (i + 1))).symm
theorem map_erase {α β : Type} (f : α → β) (l : List α) (i : Nat) : (l.map f).eraseIdx i = (l.eraseIdx i).map f := by
  rw [List.eraseIdx_eq_take_drop_succ, List.eraseIdx_eq_take_drop_succ, List.map_append, List.map_take, List.map_drop]
theorem cal_pick (F : Df K mg "_law_pick" sPick) (B : Blt mg) (c1 : CTake P w K mg base) : CPick P w K mg base := by
  refine cal_pj (A := APick) (B := BPick) F sc_pick (fun _ _ _ _ _ _ us hl => match us, hl with | [_, _, _], _ => rfl) (fun t us H h => by obtain ⟨v, e, _⟩ := h; rw [e]; rfl) ?_
  intro f cdv Ar outer s H Q E ⟨xs, m⟩ jr n ms G us hr jm ⟨v, e, hv, hz⟩ q
  subst e
  have hv : Sq (xs.map .str) v G := hv
  have hz : xs.length ≤ 8 := hz
  refine b_cons (s_par 4 5 sc_pick.nd (wa (pa_cons (pe_w _) (pa_cons (pe_w _) pa_nil)) ?_))
  refine (evN_list B.list (ev_name 1 (R := Sq (xs.map .str)) rfl (Mono.up jm.sm hv))) H (Sm.refl _) _ fun rs ys H1 s1 f1 h1 hx1 => ?_
  have ey := hx1.strs
  subst ey
  refine (evN_lst (ds := []) ea_isNil (by simp)) H1 (Sm.refl _) _ fun fd ys H2 s2 f2 h2 hx2 => ?_
  cases hx2
  refine ⟨_, _, rfl, ?_⟩
  have j2 : JM jr (n + 8) ((fd, .lst (([] : List Str).map V.str)) :: (rs, .lst (xs.map V.str)) :: ms) G H2 := (jm.add s1 f1 h1 (by intro _ z; cases z)).add s2 f2 h2 (by intro _ z; cases z)
  have mn : (if ((xs.length : Nat) : Int) < ((m : Nat) : Int) then ((xs.length : Nat) : Int) else ((m : Nat) : Int)) = ((min m xs.length : Nat) : Int) := by
    by_cases h : xs.length < m
    · rw [if_pos (by omega)]; congr 1; omega
    · rw [if_neg (by omega)]; congr 1; omega
  have rr : Rp H2 (.ref rs) (.list (xs.map .str)) := .lst (.inl j2.two) (rpA_strs xs)
  refine b_cons (s_forR (n := min m xs.length) (Ev.is (ev_min2 rfl B.min (ev_name 2 (R := Is (.int (m : Nat))) rfl (.int _)) (ev_len B.len (sq_l (ev_name 4 (R := Is (.list (xs.map .str))) rfl rr)))) (by rw [List.length_map, mn])) (by omega) B.range
    (fun i σ H => ∃ (ys rest : List Str) (t : Option V) (G' : Hp), σ = [some (.ref jr), some v, some (.int (m : Nat)), t, some (.ref rs), some (.ref fd)] ∧ Same G G' ∧ JM jr (n + (8 - i)) ((fd, .lst (ys.map V.str)) :: (rs, .lst (rest.map V.str)) :: ms) G' H ∧ ys.length = i ∧ (ys ++ rest).Perm xs)
    (fun H3 s3 => ⟨[], xs, none, G, rfl, Same.refl _, j2.eval s3, rfl, List.Perm.refl _⟩) ?_ ?_)
  · rintro i σ H3 hi ⟨ys, rest, t, G', rfl, sg, j3, hy, hp⟩
    have lr : rest.length = xs.length - i := by
      have z := hp.length_eq
      rw [List.length_append] at z
      omega
    have hi2 : i < xs.length := by omega
    refine g_name 3 sc_pick.nd ?_
    have h8 : n + (8 - i) = (n + (8 - (i + 1))) + 1 := by omega
    rw [h8] at j3
    refine b_one (s_expr (e_appendW (at_name 5 rfl) j3.one (e_popW (at_name 4 rfl) j3.two ?_)))
    have rr3 : Rp H3 (.ref rs) (.list (rest.map .str)) := .lst (.inl j3.two) (rpA_strs rest)
    refine EvJ.go (ej_call (k2 := 0) (ms := (fd, .lst (ys.map V.str)) :: (rs, .lst (rest.map V.str)) :: ms) (n := n + (8 - (i + 1))) (F := G') c1 hr (rest.length : Int) (fun H => at_name 0 rfl) (T := fun us _ => us = [.int (rest.length : Int)]) (fun H4 j4 Q4 q4 => ?_) (fun us F' _ h => ⟨h, by omega, by omega⟩)) j3 fun u F4 H4 s4 j4 ⟨r, e, r0, r1⟩ => ?_
    · have rr4 : Rp H4 (.ref rs) (.list (rest.map .str)) := .lst (.inl j4.two) (rpA_strs rest)
      exact wa_one ((ev_len B.len (sq_l (ev_name 4 (R := Is (.list (rest.map .str))) rfl rr4))).go fun z H5 s5 r5 => q4 _ G' H5 (Same.refl _) (j4.eval s5) (by rw [is_int r5, List.length_map]))
    · obtain ⟨k, rfl⟩ : ∃ k : Nat, r = (k : Int) := ⟨r.toNat, by omega⟩
      have lt : k < rest.length := by omega
      refine ⟨k, .str rest[k], rest.map V.str, e, j4.two, by rw [List.getElem?_map, List.getElem?_eq_getElem lt]; rfl, by omega, ?_⟩
      have j5 : JM jr (n + (8 - (i + 1))) ((fd, .lst (ys.map V.str)) :: (rs, .lst ((rest.eraseIdx k).map V.str)) :: ms) F4 (upd H4 rs (.lst ((rest.map V.str).eraseIdx k))) := by
        rw [← map_erase]
        exact (j4.swap.put (by intro _ z; cases z)).swap
      refine ⟨ys.map V.str, j5.one, by rw [List.length_map]; omega, ys ++ [rest[k]], rest.eraseIdx k, _, F4, rfl, sg.trans s4, ?_, by rw [List.length_append, hy]; rfl, perm_take hp (List.getElem?_eq_getElem lt)⟩
      have z := j5.put (o' := .lst (ys.map V.str ++ [.str rest[k]])) (by intro _ z; cases z)
      rw [vstrs_snoc] at z ⊢
      exact z
  · rintro σ H3 ⟨ys, rest, t, G', rfl, sg, j3, hy, hp⟩
    obtain ⟨F1, w1, w2, w3, w4⟩ := j3.done
    have rf : Rp F1 (.ref fd) (.list (ys.map .str)) := .lst (.inl w4) (rpA_strs ys)
    refine b_one (s_retW (EvJ.go (ej_name (n := n) (k := 8 - min m xs.length) 5 (R := Is (.list (ys.map .str))) rfl rf) w2 fun z F2 H4 s4 j4 r4 => q z F2 H4 (sg.trans (w1.trans s4)) j4.forget ⟨ys, rest, r4, hy, hp⟩))
end
end My
/-! L3 -/
namespace My
open PySem L2
theorem sub_of_perm {ys rest xs : List Str} (h : (ys ++ rest).Perm xs) (nd : xs.Nodup) : ys.Nodup ∧ ∀ y ∈ ys, y ∈ xs := by
  have z := h.nodup_iff.mpr nd
  exact ⟨(List.nodup_append.mp z).1, fun y hy => h.subset (List.mem_append_left _ hy)⟩
section
variable {P : Program} {w : World} {K : PySem.W.Frag} {mg : Str → Option Value} {base : Heap}
/-! ### _law_tags -/
abbrev sTags : Stmt := top 52
theorem sc_tags : FnScope ["_law_jar", "_law_low_so", "_law_high_so", "_law_names_so"] ["_law_jar", "_law_low_so", "_law_high_so"] (defScope sTags) := ⟨rfl, rfl, rfl, by decide +kernel, rfl, by decide +kernel, by decide +kernel⟩
abbrev ATags : Nat × Nat → RelA := fun p us H => us = [.int (p.1 : Nat), .int (p.2 : Nat)] ∧ p.1 ≤ p.2 ∧ p.2 ≤ 8
abbrev BTags : Nat × Nat → Rel := fun p v H => ∃ xs : List Str, Rp H v (eN xs) ∧ Asc ltK xs ∧ (∀ x ∈ xs, x ∈ lawNames) ∧ p.1 ≤ xs.length ∧ xs.length ≤ p.2
abbrev CTags (P : Program) (w : World) (K : PySem.W.Frag) (mg : Str → Option Value) (base : Heap) : Prop := C8.Cal P w K mg base 3 "_law_tags" (PJ ATags BTags 9) []
theorem cal_tags (F : Df K mg "_law_tags" sTags) (B : Blt mg) (c1 : CTake P w K mg base) (c2 : CPick P w K mg base) : CTags P w K mg base := by
  refine cal_pj (A := ATags) (B := BTags) F sc_tags (fun _ _ _ _ _ _ us hl => match us, hl with | [_, _, _], _ => rfl) (fun t us H h => by rw [h.1]; rfl) ?_
  intro f cdv Ar outer s H Q E ⟨lo, hi⟩ jr n ms G us hr jm ⟨e, h1, h2⟩ q
  subst e
  have h1 : lo ≤ hi := h1
  have h2 : hi ≤ 8 := h2
  refine b_cons (s_setJ (n := n + 9) (k := 0) 3 sc_tags.nd (ej_new (ds := [.str "a", .str "b", .str "ab", .str "c", .str "ld", .str "mul", .str "use", .str "zzzzzzzz"]) (evN_lst (lits_ev _ _ rfl) (by simp)) (by simp [tupDs, tupD])) jm fun nv F1 H1 s1 j1 rn => ?_)
  have rn : Rp F1 nv (.list (lawNames.map .str)) := rn
  refine b_one (s_retW (EvJ.go (k := 9) (ej_tupSort (α := Str) (Z := fun as => as.Nodup ∧ (∀ y ∈ as, y ∈ lawNames) ∧ lo ≤ as.length ∧ as.length ≤ hi) hr B.tuple B.sorted (ej_callD (k2 := 1) c2 hr (fun H => at_name 0 rfl) (T := fun us F' => ∃ v r, us = [v, .int r] ∧ Rp F' v (.list (lawNames.map .str)) ∧ (lo : Int) ≤ r ∧ r ≤ hi)
    (EvAJ.weak (eaj_cons (k := 0) (k2 := 1) (ej_name 3 (R := Is (.list (lawNames.map .str))) rfl rn) fun F2 s2 => eaj_one (ej_add (k := 0) (k2 := 1) (P1 := fun i => i = lo) (P2 := fun r => 0 ≤ r ∧ r < (hi : Int) - lo + 1) (P3 := fun r => (lo : Int) ≤ r ∧ r ≤ hi) (ej_intOf (ev_name 1 (R := Is (.int (lo : Nat))) rfl (.int _)) rfl) (fun F3 s3 => ej_call (k2 := 0) c1 hr ((hi : Int) - lo + 1) (fun H => at_name 0 rfl) (T := fun us _ => us = [.int ((hi : Int) - lo + 1)])
      (EvAJ.weak (eaj_one (ej_tup (d := .int ((hi : Int) - lo + 1)) (ev_add (ev_sub (ev_name 2 (R := Is (.int (hi : Nat))) rfl (.int _)) (ev_name 1 (R := Is (.int (lo : Nat))) rfl (.int _))) ev_int) rfl)) fun vs H ⟨v, e, r⟩ => by rw [e, is_int r]) fun us F' _ h => ⟨h, by omega, by omega⟩) fun i j e h => by subst e; omega)) fun vs H ⟨v, us, e, r, u, e2, i, e3, h⟩ => ⟨v, i, by rw [e, e2, e3], r, h⟩)
    fun us F' _ ⟨v, r, e, rv, r0, r1⟩ => ⟨(lawNames, r.toNat), ⟨v, by rw [e]; congr 3; omega, .inl rv, (by show lawNames.length ≤ 8; decide)⟩, fun u F2 ⟨ys, rest, ry, ly, pm⟩ => ⟨ys, .inl ry, (sub_of_perm pm lawNames_nd).1, (sub_of_perm pm lawNames_nd).2, ?_, ?_⟩⟩)) j1 fun v F2 H2 s2 j2 ⟨as, rv, nd, sb, l1, l2⟩ => q v F2 H2 (s1.trans s2) j2 ⟨sortL ltK as, rv, ?_, fun x hx => sb x (sortL_perm.subset hx), by rw [sortL_perm.length_eq]; exact l1, by rw [sortL_perm.length_eq]; exact l2⟩))
  · have e8 : lawNames.length = 8 := by decide
    have ly : ys.length = min r.toNat lawNames.length := ly
    omega
  · have e8 : lawNames.length = 8 := by decide
    have ly : ys.length = min r.toNat lawNames.length := ly
    omega
  · rw [sortL_set ordK nd]
    exact setL_asc ordK
end
end My
/-! L4 -/
namespace My
open PySem L2
section
variable {X : Cx} {jr : Addr} {σ : L2.St} {F : Hp} {scope : Scope} {d : PyData} {e1 e2 elt : Expr} {p pos1 pos2 p3 : Pos} {jj kk : Nat} {z : Int}
/-- the test that keeps an item: _law_take(jar, z) == 0 -/
theorem turn_take (c : CTake X.prog X.w X.K X.mg X.base) (hr : Room kk X.A) (hk : 1 ≤ kk) (h0 : 0 < z) (h1 : z < 1073741824) (hj : ∀ j H, At (BX X scope j) e1 σ H jr) (h2 : ∀ j F', Same F F' → Ev (BX X scope j) e2 σ F' (Is (.int z)))
    (helt : ∀ j ms m F', Same F F' → EvJ (BX X scope j) jr elt σ ms m 0 F' (Is d)) (hg : ∀ j, Gl (BX X scope j) "_law_take" := by intro _; rfl)
    (he : ∀ j, starEach [e1, e2] (BX X scope j).env = (false, eval e1 (BX X scope j).env) :: starEach [e2] (BX X scope j).env := by intro _; rfl) (he2 : ∀ j, starEach [e2] (BX X scope j).env = (false, eval e2 (BX X scope j).env) :: starEach [] (BX X scope j).env := by intro _; rfl) (hpl : ∀ j, (backTo pos1 (starEach [e2] (BX X scope j).env)).any (·.1) = false := by intro _; rfl) :
    TurnJ X jr scope [.Compare (.Call (.Name "_law_take" p) [e1, e2] [] pos1) [.Eq] [.Constant (.int 0) jj p3] pos2] elt σ 1 F d := fun ms m H jm K0 K1 k0 k1 j =>
  wts (pts_one (pt_w _)) (wt (pt_cmpR (op_eqP (n := 0) (by decide) (room_u65 (k := kk) hr)) (pe_w _) (pe_w _) (nomark _)) (EvJ.go (k := 1) (ej_call (X := BX X scope j) (k2 := 0) c hr z (hj j) (T := fun us _ => us = [.int z]) (EvAJ.weak (eaj_one (ej_tup (h2 j F (Same.refl F)) rfl) (he2 j)) fun vs H ⟨v, e, r⟩ => by rw [e, is_int r]) (fun us F' _ h => ⟨h, h0, h1⟩) hk (hg j) (by decide) (he j) (hpl j)) jm fun v F' H' s' j' ⟨r, e, _⟩ =>
    (ev_int (X := BX X scope j) (i := 0)).go fun u H2 s2 r2 => ⟨.int r, .int 0, by rw [e]; exact .int _, r2, shp_int, shp_int, _, rfl, by
      cases PyData.eqv (.int r) (.int 0) with
      | true => exact iteT fun jb => EvJ.go (helt jb ms m F' s') (j'.eval s2) fun w F2 H3 s3 j3 r3 => k1 w F2 H3 (s'.trans s3) j3 r3
      | false => exact iteF (k0 F' H2 s' (j'.eval s2))⟩))
end
end My
/-! L5 -/
namespace My
open PySem L2
theorem num_strs (o : List Str) : numbered (o.map PyData.str) = o.zipIdx.map fun p => .tuple [.int (p.2 : Nat), .str p.1] := by
  unfold numbered
  rw [List.zipIdx_map, List.map_map]
  rfl
theorem rows_enc (rows : List Row) : rows.map eR = rows.map Kd.enc := rfl
section
variable {P : Program} {w : World} {K : PySem.W.Frag} {mg : Str → Option Value} {base : Heap}
/-! ### _law_kit -/
abbrev sKit : Stmt := top 53
abbrev NKit : List Str := ["_law_jar", "_law_low_so", "_law_high_so", "_law_live_so", "_law_tags_so", "_law_found", "_law_line_so", "_law_size_so", "_law_k", "_law_tag", "_law_reads_so", "_law_own"]
theorem sc_kit : FnScope NKit ["_law_jar", "_law_low_so", "_law_high_so"] (defScope sKit) := ⟨rfl, rfl, rfl, by decide +kernel, rfl, by decide +kernel, by decide +kernel⟩
abbrev AKit : Nat × Nat → RelA := fun p us H => us = [.int (p.1 : Nat), .int (p.2 : Nat)] ∧ p.1 ≤ p.2 ∧ p.2 ≤ 5
abbrev BKit : Nat × Nat → Rel := fun p v H => ∃ b, Rp H v (eB b) ∧ Drawn b
abbrev CKit (P : Program) (w : World) (K : PySem.W.Frag) (mg : Str → Option Value) (base : Heap) : Prop := C8.Cal P w K mg base 4 "_law_kit" (PJ AKit BKit 60) []
theorem cal_kit (F : Df K mg "_law_kit" sKit) (B : Blt mg) (c1 : CTake P w K mg base) (c2 : CPick P w K mg base) (c3 : CTags P w K mg base) : CKit P w K mg base := by
  refine cal_pj (A := AKit) (B := BKit) F sc_kit (fun _ _ _ _ _ _ us hl => match us, hl with | [_, _, _], _ => rfl) (fun t us H h => by rw [h.1]; rfl) ?_
  intro f cdv Ar outer s H Q E ⟨lo, hi⟩ jr n ms G us hr jm ⟨e, h1, h2⟩ q
  subst e
  have h1 : lo ≤ hi := h1
  have h2 : hi ≤ 5 := h2
  have q : ∀ (v : V) (F' H' : Hp), Same G F' → JM jr n ms F' H' → (∃ b, Rp F' v (eB b) ∧ Drawn b) → Q v H' := q
  refine b_cons (s_par 4 5 sc_kit.nd (wa (pa_cons (pe_w _) (pa_cons (pe_w _) pa_nil)) ?_))
  refine EvJ.go (n := n + 51) (k := 9) (ej_call (k2 := 0) c3 hr (lo, hi) (fun H => at_name 0 rfl) (T := fun us _ => us = [.int (lo : Nat), .int (hi : Nat)]) (EvAJ.weak (eaj_cons (k := 0) (k2 := 0) (ej_tup (d := .int (lo : Nat)) (ev_name 1 (R := Is (.int (lo : Nat))) rfl (.int _)) rfl) fun F2 s2 => eaj_one (ej_tup (d := .int (hi : Nat)) (ev_name 2 (R := Is (.int (hi : Nat))) rfl (.int _)) rfl)) fun vs H ⟨v, us, e, r, u, e2, r2⟩ => by rw [e, e2, is_int r, is_int r2]) fun us F' _ h => ⟨h, h1, by show hi ≤ 8; omega⟩) jm fun tv F1 H1 s1 j1 ⟨tags, rt, ta, tn, t1, t2⟩ => ?_
  have t2 : tags.length ≤ hi := t2
  refine (evN_lst (ds := []) ea_isNil (by simp)) H1 (Sm.refl _) _ fun fd ys H2 s2 f2 h2' hx2 => ?_
  cases hx2
  refine ⟨_, _, rfl, ?_⟩
  have j2 : JM jr (n + 51) ((fd, .lst []) :: ms) F1 H2 := j1.add s2 f2 h2' (by intro _ z; cases z)
  have ndt : tags.Nodup := asc_nodup ordK ta
  -- line, size
  refine b_cons (s_parT (σ' := fun v u => [some (.ref jr), some (.int (lo : Nat)), some (.int (hi : Nat)), none, some tv, some (.ref fd), some v, some u, none, none, none, none]) (wa (pa_cons (pe_w _) (pa_cons (pe_w _) pa_nil)) ?_))
  refine EvJ.go (n := n + 43) (k := 8) (ej_callD (k2 := 0) (R := fun v H => ∃ line : List Str, Rp H v (.list (line.map .str)) ∧ line.Perm tags) c2 hr (fun H => at_name 0 rfl) (T := fun us F' => us = [tv, .int (tags.length : Nat)]) (EvAJ.weak (eaj_cons (k := 0) (k2 := 0) (ej_name 4 (R := Eqv tv) rfl rfl) fun F2 s2 => eaj_one (ej_tup (d := .int (tags.length : Nat)) (Ev.is (ev_len B.len (sq_t (ev_name 4 (R := Is (eN tags)) rfl (Rp.mono (sm_of s2) _ _ rt)))) (by rw [List.length_map])) rfl)) fun vs H ⟨v, us, e, r, u, e2, r2⟩ => by rw [e, e2, is_int r2, show v = tv from r]) fun us F' sF h => ⟨(tags, tags.length), ⟨tv, h, .inr (Rp.mono (sm_of sF) _ _ rt), by show tags.length ≤ 8; omega⟩, fun v F2 ⟨ys, rest, ry, ly, pm⟩ => ⟨ys, ry, ?_⟩⟩) j2 fun lv F3 H3 s3 j3 ⟨line, rl, pm⟩ => ?_
  · have ly : ys.length = min tags.length tags.length := ly
    have pm : (ys ++ rest).Perm tags := pm
    have z := pm.length_eq
    rw [List.length_append] at z
    have e : rest = [] := List.length_eq_zero_iff.mp (by omega)
    rw [e, List.append_nil] at pm
    exact pm
  refine EvJ.go (n := n + 42) (k := 1) (ej_add (k := 0) (k2 := 1) (P1 := fun i => i = 2) (P2 := fun r => 0 ≤ r ∧ r < 3) (P3 := fun r => 0 < r ∧ r < 1073741824) (ej_int rfl) (fun F4 s4 => ej_call (k2 := 0) c1 hr (3 : Int) (fun H => at_name 0 rfl) (T := fun us _ => us = [.int 3]) (EvAJ.weak (eaj_one (ej_tup (d := .int 3) ev_int rfl)) fun vs H ⟨v, e, r⟩ => by rw [e, is_int r]) fun us F' _ h => ⟨h, by decide, by decide⟩) fun i j e h => by subst e; omega) j3 fun zv F5 H5 s5 j5 ⟨z, ez, z0, z1⟩ => ?_
  subst ez
  refine ⟨_, _, rfl, fun p hp => ⟨egs_cons (eg_name 6 sc_kit.nd) (egs_cons (eg_name 7 sc_kit.nd) egs_nil), ?_⟩⟩
  have j6 : JM jr (n + 42) ((fd, .lst []) :: ms) F5 (upd H5 p (.tup [lv, .int z])) := j5.eval (same_new hp)
  generalize upd H5 p (.tup [lv, .int z]) = H6 at j6
  have rl5 : Rp F5 lv (.list (line.map .str)) := Rp.mono (sm_of s5) _ _ rl
  have ll : line.length ≤ 5 := by rw [pm.length_eq]; omega
  have rt5 : Rp F5 tv (eN tags) := Rp.mono (sm_of (s3.trans s5)) _ _ rt
  -- the rows
  refine b_cons (s_for (F := F5) (ps := jr :: ((fd, HO.lst []) :: ms).map (·.1)) (l := line.zipIdx) (enc := fun q => .tuple [.int (q.2 : Nat), .str q.1]) (by rw [← num_strs]; exact srcF_enum (evF_name 6 (R := Is (.list (line.map .str))) rfl rl5) B.enum) j6.sam j6.cond fun G7 H7 f7 tp7 np7 s7 g7 => ?_)
  have j7 : JM jr (n + 42) ((fd, .lst []) :: ms) G7 H7 := j6.from s7 g7 np7
  refine ⟨fun i σ H => ∃ (rows : List Row) (xs : List V) (G' : Hp) (o1 o2 o3 : Option V), σ = [some (.ref jr), some (.int (lo : Nat)), some (.int (hi : Nat)), none, some tv, some (.ref fd), some lv, some (.int z), o1, o2, o3, none] ∧ Same G7 G' ∧ JM jr (n + 6 + (6 * (5 - i))) ((fd, .lst xs) :: ms) G' H ∧ RpA G' xs (rows.map eR) ∧ Made (line.take i) rows,
    ⟨[], [], G7, none, none, none, rfl, Same.refl _, j7.le (by omega), .nil, ⟨rfl, fun i r h => by simp at h, fun r h => by cases h⟩⟩, fun i σ H ⟨_, _, G', _, _, _, _, s, j, _⟩ => s.trans j.sam, ?_, ?_⟩
  · rintro i ⟨x, k⟩ σ H8 H9 xv hx ⟨rows, xs, G8, o1, o2, o3, rfl, s8, j8, rr, md⟩ s9 rx
    have hz : line[i]? = some x ∧ k = i := by
      rw [List.getElem?_zipIdx] at hx
      obtain ⟨y, hy, e⟩ := Option.map_eq_some_iff.mp hx
      cases e
      exact ⟨hy, by omega⟩
    obtain ⟨hx1, e⟩ := hz
    subst e
    have ki : k < line.length := (List.getElem?_eq_some_iff.mp hx1).1
    have j9 := j8.eval s9
    obtain ⟨G9, w1, w2, w3⟩ := j9.wide
    have rx9 := Rp.tps w3 _ _ (by simp [tupD, tupDs]) rx
    obtain ⟨a, v1, v2, rfl, ha, e1, e2⟩ := tup2 rx
    have ex := is_int e1
    have ey := is_str e2
    subst ex ey
    have rl9 : Rp G9 lv (.list (line.map .str)) := Rp.mono (sm_of (f7.trans (s8.trans w1))) _ _ rl5
    refine g_go (eg_tup (egs_cons (eg_name 8 sc_kit.nd) (egs_cons (eg_name 9 sc_kit.nd) egs_nil)) ha) ?_
    have cst : n + 6 + 6 * (5 - k) = (n + 6 + 6 * (5 - (k + 1)) + 1) + 5 := by omega
    rw [cst] at w2
    have tkl : (line.take k).length * 1 ≤ 5 := by rw [List.length_take, Nat.mul_one]; omega
    refine b_cons (s_setLcJ 10 (n := n + 6 + 6 * (5 - (k + 1)) + 1) (c := 1) (ms := (fd, .lst xs) :: ms) (F := G9) (l := line.take k) (enc := PyData.str) (g := PyData.str) (i := 11) (defScope sKit) sc_kit.nd (srcF_list (evF_new (EvN.is (evN_slice (j := some (k : Int)) (ev_name 6 (R := Is (.list (line.map .str))) rfl rl9) eo_none (eo_some (ev_name 8 (R := Is (.int (k : Nat))) rfl (.int _)))) (by rw [cutD_map, cutD_take])) (tup_map (fun a => by simp [tupD]) _))) (w2.le (by omega)) (fun y _ => by simp [tupD]) (fun y hy v F' sF rv => ?_) (fun v reads F10 H10 s10 j10 sub r10 => ?_) (by rfl))
    · exact turn_take c1 hr (by decide) z0 z1 (fun j H => at_name 0 rfl) (fun j F' s => ev_name 7 (R := Is (.int z)) rfl (.int _)) fun j ms m F' s => ej_tup (ev_name 11 (R := Is (.str y)) rfl (Rp.mono (sm_of s) _ _ rv)) rfl
    have rs : Rp F10 v (.list (reads.map .str)) := r10
    refine b_one (s_expr (e_appendW (at_name 5 rfl) j10.one (we (pe_tup (pa_w _)) (wa (pa_cons (pe_w _) (pa_cons (pe_w _) (pa_cons (pe_w _) pa_nil))) ?_))))
    refine EvJ.go (n := n + 6 + 6 * (5 - (k + 1)) + 1) (k := 0) (ej_tup (ev_name 9 (R := Is (.str x)) rfl (.str x)) rfl) j10 fun u1 F11 H11 s11 j11 r11 => ?_
    refine EvJ.go (n := n + 6 + 6 * (5 - (k + 1)) + 1) (k := 0) (ej_tupSort (α := Str) (Z := fun as => as = reads) hr B.tuple B.sorted ((ej_name 10 (R := Is (.list (reads.map .str))) rfl (Rp.mono (sm_of s11) _ _ rs)).weak fun v H r => ⟨reads, .inl r, rfl⟩)) j11 fun u2 F12 H12 s12 j12 ⟨as, r12, ea⟩ => ?_
    subst ea
    refine we (pe_cmpR op_gt (pe_w _) (pe_w _) (nomark _)) (EvJ.go (n := n + 6 + 6 * (5 - (k + 1))) (k := 1) (ej_call (k2 := 0) c1 hr (3 : Int) (fun H => at_name 0 rfl) (T := fun us _ => us = [.int 3]) (EvAJ.weak (eaj_one (ej_tup (d := .int 3) ev_int rfl)) fun vs H ⟨v, e, r⟩ => by rw [e, is_int r]) fun us F' _ h => ⟨h, by decide, by decide⟩) j12 fun u3 F13 H13 s13 j13 ⟨r, er, _⟩ => (ev_int (i := 0)).go fun u4 H14 s14 r14 => ⟨r, 0, er, is_int r14, ?_⟩)
    refine ⟨by show 3 ≤ sizeLine; decide, fun p hp => ?_⟩
    have j14 := (j13.eval s14).eval (same_new (o := .tup [u1, u2, .bl (decide (r > 0))]) hp)
    have hh : (upd H14 p (.tup [u1, u2, .bl (decide (r > 0))])) p = some (.tup [u1, u2, .bl (decide (r > 0))]) := upd_same
    generalize upd H14 p (.tup [u1, u2, .bl (decide (r > 0))]) = H15 at j14 hh
    obtain ⟨G15, v1, v2, v3⟩ := j14.wide
    have lx : xs.length = rows.length := by rw [rr.length, List.length_map]
    have lr : rows.length = k := by
      have z := congrArg List.length md.nms
      rw [List.length_map, List.length_take] at z
      omega
    refine ⟨xs, j14.one, by omega, rows ++ [⟨x, sortL ltK as, decide (r > 0)⟩], _, G15, _, _, _, rfl, s8.trans (w1.trans (s10.trans (s11.trans (s12.trans (s13.trans v1))))), v2.put (by intro _ z; cases z), ?_, ?_⟩
    · rw [List.map_append]
      refine RpA.snoc (RpA.mono (sm_of (w1.trans (s10.trans (s11.trans (s12.trans (s13.trans v1)))))) _ _ rr) ?_
      refine .tup (v3 _ _ hh) (.cons (Rp.mono (sm_of (s12.trans (s13.trans v1))) _ _ r11) (.cons (Rp.mono (sm_of (s13.trans v1)) _ _ r12) (.cons (.bl _) .nil)))
    · have tks : line.take (k + 1) = line.take k ++ [x] := take_snoc hx1
      refine ⟨by rw [List.map_append, md.nms, tks]; rfl, fun i r' hr' y hy => ?_, fun r' hr' => ?_⟩
      · rcases Nat.lt_or_ge i rows.length with lt | ge
        · rw [List.getElem?_append_left lt] at hr'
          have z := md.rd i r' hr' y hy
          rw [List.take_take] at z ⊢
          rwa [Nat.min_eq_left (by omega)] at z ⊢
        · rw [List.getElem?_append_right ge] at hr'
          have e0 : i - rows.length = 0 := by
            rcases Nat.eq_zero_or_pos (i - rows.length) with h | h
            · exact h
            · rw [List.getElem?_eq_none (by simp only [List.length_cons, List.length_nil]; omega)] at hr'
              cases hr'
          rw [e0] at hr'
          cases hr'
          have hy2 : y ∈ as := sortL_perm.subset hy
          have ei : i = k := by omega
          rw [ei, List.take_take, Nat.min_eq_left (by omega)]
          exact sub.subset hy2
      · rcases List.mem_append.mp hr' with h | h
        · exact md.rl r' h
        · rw [List.mem_singleton.mp h]
          show (sortL ltK as).length ≤ 6
          rw [sortL_perm.length_eq]
          have := sub.length_le
          rw [List.length_take] at this
          omega
  · rintro σ H8 ⟨rows, xs, G8, o1, o2, o3, rfl, s8, j8, rr, md⟩
    have el : line.zipIdx.length = line.length := List.length_zipIdx
    rw [el, List.take_length] at md
    have rt8 : Rp G8 tv (eN tags) := Rp.mono (sm_of (f7.trans s8)) _ _ rt5
    have j8' : JM jr (n + 0 + 6) ((fd, .lst xs) :: ms) G8 H8 := j8.le (by omega)
    have tl : tags.length * 1 ≤ 6 := by omega
    refine b_cons (s_setLcJ 3 (n := n) (c := 1) (ms := (fd, .lst xs) :: ms) (F := G8) (l := tags) (enc := PyData.str) (g := PyData.str) (i := 9) (defScope sKit) sc_kit.nd (srcF_tup (evF_tup (ev_name 4 (R := Is (eN tags)) rfl rt8) (tupD_names tags))) (j8'.le (by omega)) (fun y _ => by simp [tupD]) (fun y hy v F' sF rv => ?_) (fun v live F10 H10 s10 j10 sub r10 => ?_) (by rfl))
    · exact turn_take c1 hr (by decide) (z := 3) (by decide) (by decide) (fun j H => at_name 0 rfl) (fun j F' s => ev_int) fun j ms m F' s => ej_tup (ev_name 9 (R := Is (.str y)) rfl (Rp.mono (sm_of s) _ _ rv)) rfl
    have rs : Rp F10 v (.list (live.map .str)) := r10
    obtain ⟨F11, w1, w2, w3, w4⟩ := j10.done
    have rr11 : Rp F11 (.ref fd) (.list (rows.map eR)) := .lst (.inl w4) (RpA.mono (sm_of (s10.trans w1)) _ _ rr)
    refine b_one (s_retW (we (pe_tup (pa_w _)) (wa (pa_cons (pe_w _) (pa_cons (pe_w _) pa_nil)) ?_)))
    refine EvJ.go (n := n) (k := 0) (ej_tupSort (α := Row) (Z := fun as => as = rows) hr B.tuple B.sorted ((ej_name 5 (R := Is (.list (rows.map eR))) rfl rr11).weak fun v H r => ⟨rows, .inl r, rfl⟩)) w2 fun u1 F12 H12 s12 j12 ⟨as, r12, ea⟩ => ?_
    subst ea
    refine EvJ.go (n := n) (k := 0) (ej_tuple (Z := fun ds => ds = live.map .str) B.tuple ((ej_name 3 (R := Is (.list (live.map .str))) rfl (Rp.mono (sm_of (w1.trans s12)) _ _ rs)).weak fun v H r => ⟨live.map .str, .inl r, tup_map (fun a => by simp [tupD]) _, rfl⟩)) j12 fun u2 F13 H13 s13 j13 ⟨ds, r13, ed⟩ => ?_
    subst ed
    refine ⟨by show 2 ≤ sizeLine; decide, fun p hp => ?_⟩
    have j14 := j13.eval (same_new (o := .tup [u1, u2]) hp)
    have hh : (upd H13 p (.tup [u1, u2])) p = some (.tup [u1, u2]) := upd_same
    generalize upd H13 p (.tup [u1, u2]) = H15 at j14 hh
    obtain ⟨G15, v1, v2, v3⟩ := j14.wide
    refine q (.ref p) G15 H15 ?_ v2 ⟨⟨sortL ltK as, live⟩, .tup (v3 _ _ hh) (.cons (Rp.mono (sm_of (s13.trans v1)) _ _ r12) (.cons (Rp.mono (sm_of v1) _ _ r13) .nil)), made_wf ta tn (by omega) pm md sub⟩
    exact s1.trans (s3.trans (s5.trans (f7.trans (s8.trans (s10.trans (w1.trans (s12.trans (s13.trans v1))))))))
end
end My
/-! L6 -/
namespace My
open PySem L2
section
variable {P : Program} {w : World} {K : PySem.W.Frag} {mg : Str → Option Value} {base : Heap}
/-! ### _law_pairs -/
abbrev sPairs : Stmt := top 57
abbrev NPairs : List Str := ["_law_jar", "_law_some_so", "_law_most_so", "_law_found", "_law_turn"]
theorem sc_pairs : FnScope NPairs ["_law_jar", "_law_some_so", "_law_most_so"] (defScope sPairs) := ⟨rfl, rfl, rfl, by decide +kernel, rfl, by decide +kernel, by decide +kernel⟩
abbrev APr : List Str → RelA := fun xs us F => ∃ v, us = [v, .int 3] ∧ Rp F v (.list (xs.map .str)) ∧ xs.length ≤ 8 ∧ xs.Nodup
/-- at most three pairs of different ones -/
def PairsIn (xs : List Str) (ps : List (Str × Str)) : Prop := ps.length ≤ 3 ∧ ∀ p ∈ ps, p.1 ∈ xs ∧ p.2 ∈ xs ∧ p.1 ≠ p.2
abbrev BPr : List Str → Rel := fun xs v F => ∃ ps, Rp F v (eM ps) ∧ PairsIn xs ps
abbrev CPairs (P : Program) (w : World) (K : PySem.W.Frag) (mg : Str → Option Value) (base : Heap) : Prop := C8.Cal P w K mg base 3 "_law_pairs" (PJ APr BPr 25) []
theorem cal_pairs (F : Df K mg "_law_pairs" sPairs) (B : Blt mg) (c1 : CTake P w K mg base) (c2 : CPick P w K mg base) : CPairs P w K mg base := by
  refine cal_pj (A := APr) (B := BPr) F sc_pairs (fun _ _ _ _ _ _ us hl => match us, hl with | [_, _, _], _ => rfl) (fun t us H h => by obtain ⟨v, e, _⟩ := h; rw [e]; rfl) ?_
  intro f cdv Ar outer s H Q E xs jr n ms G us hr jm ⟨v, e, hv, hz, hd⟩ q
  subst e
  refine b_cons (s_setW 3 sc_pairs.nd ((evN_lst (ds := []) ea_isNil (by simp)) H (Sm.refl _) _ fun fd ys H2 s2 f2 h2 hx2 => ?_))
  cases hx2
  have j2 : JM jr (n + 25) ((fd, .lst []) :: ms) G H2 := jm.add s2 f2 h2 (by intro _ z; cases z)
  let Inv3 : Nat → L2.St → Hp → Prop := fun i σ H => ∃ (ps : List (Str × Str)) (vs : List V) (G' : Hp) (o : Option V), σ = [some (.ref jr), some v, some (.int 3), some (.ref fd), o] ∧ Same G G' ∧ JM jr (n + 8 * (3 - i)) ((fd, .lst vs) :: ms) G' H ∧ RpA G' vs (ps.map eP) ∧ ps.length = i ∧ ∀ p ∈ ps, p.1 ∈ xs ∧ p.2 ∈ xs ∧ p.1 ≠ p.2
  have fin : ∀ m σ H', m ≤ 3 → Inv3 m σ H' → wB (XF P w K mg base NPairs "_law_pairs" (defScope sPairs) f cdv Ar outer s H E) ((defBody sPairs).drop 2) { nx := fun _ H' => Q .non H', rt := Q } σ H' := by
    rintro m σ H' hm ⟨ps, vs, G', o, rfl, sG, jG, rr, lp, hp⟩
    obtain ⟨F1, w1, w2, w3, w4⟩ := jG.done
    have rf : Rp F1 (.ref fd) (.list (ps.map eP)) := .lst (.inl w4) (RpA.mono (sm_of w1) _ _ rr)
    exact b_one (s_retW (EvJ.go (n := n) (k := 8 * (3 - m)) (ej_tuple (Z := fun ds => ds = ps.map eP) B.tuple ((ej_name 3 (R := Is (.list (ps.map eP))) rfl rf).weak fun v H r => ⟨ps.map eP, .inl r, tup_kd ps, rfl⟩)) w2 fun z F2 H4 s4 j4 ⟨ds, r4, e⟩ => by
      subst e
      exact q z F2 H4 (sG.trans (w1.trans s4)) j4 ⟨ps, r4, by omega, hp⟩))
  refine b_cons (s_forRW (we (pe_ifExp (pt_w _) (pe_w _) (pe_w _)) ((et_gt (i := ((xs.map PyData.str).length : Int)) (j := 1) (ev_len B.len (sq_l (ev_name 1 (R := Is (.list (xs.map .str))) rfl (Rp.mono j2.sm _ _ hv)))) ev_int) H2 (Sm.refl _) _ fun H3 s3 => ?_)) B.range)
  have j3 := j2.eval s3
  by_cases h2x : 1 < xs.length
  · rw [decide_eq_true (by rw [List.length_map]; omega)]
    refine iteT (EvJ.go (n := n + 24) (k := 1) (ej_call (k2 := 0) c1 hr (4 : Int) (fun H => at_name 0 rfl) (T := fun us _ => us = [.int 4]) (EvAJ.weak (eaj_one (ej_tup (d := .int 4) (Ev.is (ev_add (ev_name 2 (R := Is (.int 3)) rfl (.int _)) ev_int) rfl) rfl)) fun vs H ⟨v, e, r⟩ => by rw [e, is_int r]) fun us F' _ h => ⟨h, by decide, by decide⟩) j3 fun u F4 H4 s4 j4 ⟨r, e, r0, r1⟩ => ?_)
    refine ⟨r.toNat, Inv3, by rw [e]; congr 1; omega, by omega, ⟨[], [], F4, none, rfl, s4, j4.le (by omega), .nil, rfl, fun _ h => (by cases h)⟩, ?_, fun σ H' h => fin _ σ H' (by omega) h⟩
    rintro i σ H5 hi ⟨ps, vs, G', o, rfl, sG, jG, rr, lp, hp⟩
    refine g_name 4 sc_pairs.nd ?_
    have cst : n + 8 * (3 - i) = (n + 8 * (3 - (i + 1))) + 8 := by omega
    rw [cst] at jG
    refine b_one (s_expr (e_appendW (at_name 3 rfl) jG.one (EvJ.go (n := n + 8 * (3 - (i + 1))) (k := 8) (ej_tuple (Z := fun ds => ∃ p : Str × Str, ds = [.str p.1, .str p.2] ∧ p.1 ∈ xs ∧ p.2 ∈ xs ∧ p.1 ≠ p.2) B.tuple (ej_callD (k2 := 0) (R := fun v H => ∃ ds, Sq ds v H ∧ tupDs ds = true ∧ ∃ p : Str × Str, ds = [.str p.1, .str p.2] ∧ p.1 ∈ xs ∧ p.2 ∈ xs ∧ p.1 ≠ p.2) c2 hr (fun H => at_name 0 rfl) (T := fun us F' => us = [v, .int 2])
      (EvAJ.weak (eaj_cons (k := 0) (k2 := 0) (ej_name 1 (R := Eqv v) rfl rfl) fun F2 s2 => eaj_one (ej_tup (d := .int 2) ev_int rfl)) fun vs H ⟨v', us, e, r, u, e2, r2⟩ => by rw [e, e2, is_int r2, show v' = v from r]) fun us F' sF h => ⟨(xs, 2), ⟨v, h, .inl (Rp.mono (sm_of (sG.trans sF)) _ _ hv), hz⟩, fun v F2 ⟨ys, rest, ry, ly, pm⟩ => ?_⟩)) jG fun z F5 H6 s6 j6 ⟨ds, rz, p, ep, p1, p2, p3⟩ => ?_)))
    · have ly : ys.length = min 2 xs.length := ly
      have pm : (ys ++ rest).Perm xs := pm
      obtain ⟨nd, sb⟩ := sub_of_perm pm hd
      match ys, ly with
      | [y1, y2], _ =>
        refine ⟨[.str y1, .str y2], .inl ry, by simp [tupDs, tupD], (y1, y2), rfl, sb y1 (by simp), sb y2 (by simp), ?_⟩
        intro e
        have e : y1 = y2 := e
        simp [e] at nd
      | [], h => exfalso; simp only [List.length_nil] at h; omega
      | [_], h => exfalso; simp only [List.length_cons, List.length_nil] at h; omega
      | _ :: _ :: _ :: _, h => exfalso; simp only [List.length_cons] at h; omega
    · subst ep
      have lv : vs.length = ps.length := by rw [rr.length, List.length_map]
      refine ⟨vs, j6.one, by omega, ps ++ [p], vs ++ [z], F5, _, rfl, sG.trans s6, j6.put (by intro _ z; cases z), ?_, by rw [List.length_append, lp]; rfl, fun p' hp' => ?_⟩
      · rw [List.map_append]
        exact RpA.snoc (RpA.mono (sm_of s6) _ _ rr) rz
      · rcases List.mem_append.mp hp' with h | h
        · exact hp p' h
        · rw [List.mem_singleton.mp h]; exact ⟨p1, p2, p3⟩
  · rw [decide_eq_false (by rw [List.length_map]; omega)]
    refine iteF ((ev_int (i := 0)).go fun u H4 s4 r4 => ⟨0, Inv3, is_int r4, by omega, ⟨[], [], G, none, rfl, Same.refl _, (j3.eval s4).le (by omega), .nil, rfl, fun _ h => (by cases h)⟩, fun i _ _ h => absurd h (by omega), fun σ H' h => fin _ σ H' (by omega) h⟩)
end
end My
/-! E3 -/
/-! plain tuples of data; dict(pairs) -/
namespace My
open PySem L2 PySem.W
def PTy (ds : List PyData) : Rel := fun v H => ∃ a o xs, v = .ref a ∧ H a = some (.frz o (.tup xs)) ∧ o.dict = none ∧ RpA H xs ds
instance {ds : List PyData} : Mono (PTy ds) := ⟨fun e ⟨a, o, xs, h1, h2, h3, h4⟩ => ⟨a, o, xs, h1, e.fz _ _ _ h2, h3, RpA.mono e _ _ h4⟩⟩
section
variable {X : Cx} {σ : L2.St} {H : Hp} {a e o : Expr} {p pos apos kpos : Pos}
theorem ev_tuplePlD {ds : List PyData} (hm : X.mg "tuple" = none) (h : Ev X a σ H (Is (.list ds))) (hg : Gl X "tuple" := by rfl) (he : starEach [a] X.env = (false, eval a X.env) :: starEach [] X.env := by rfl) (hpl : (backTo pos (starEach [] X.env)).any (·.1) = false := by rfl) :
    Ev X (.Call (.Name "tuple" p) [a] [] pos) σ H (PTy ds) := fun H1 m Q z =>
  we (pe_callTy cr_tupPl hg hm b_tuple (pa_w [a]) (by decide) (by decide) he hpl) (wa_one (h H1 m _ fun v H2 s2 r2 => by
    cases r2 with
    | @lst q ys _ ha hx => exact ⟨q, _, rfl, .inl ha, fun l o hl ho => z _ _ (s2.trans (same_new hl)) ⟨l, o, ys, rfl, upd_same, ho, RpA.mono (sm_of (same_new hl)) _ _ hx⟩⟩) he)
abbrev dL (p : Str × Int) : PyData := .tuple [.str p.1, .int p.2]
theorem pairs_rel : ∀ {ls : List (Str × Int)} {H : Hp} {xs : List V}, RpA H xs (ls.map dL) → ∃ ps : List Addr, xs = ps.map V.ref ∧ Paired (fun p (kv : Key × V) => SqT X.K H p [kV kv.1, kv.2]) ps (ls.map fun p : Str × Int => ((Sum.inr p.1 : Key), V.int p.2))
  | [], H, xs, h => by cases h; exact ⟨[], rfl, .nil⟩
  | l :: ls, H, xs, h => by
    cases h with
    | cons h1 h2 =>
      obtain ⟨ps, rfl, hp⟩ := pairs_rel h2
      cases h1 with
      | @tup a ys _ g1 g2 =>
        cases g2 with
        | cons r1 t => cases t with
          | cons r2 t =>
            cases t
            cases r1
            cases r2
            exact ⟨a :: ps, rfl, .cons (SqT.of g1) hp⟩
theorem kvA_ints {H : Hp} : ∀ ls : List (Str × Int), KvA H (ls.map fun p : Str × Int => ((Sum.inr p.1 : Key), V.int p.2)) (ls.map fun p => (p.1, .int p.2))
  | [] => .nil
  | l :: ls => .cons (.int _) (kvA_ints ls)
theorem valV_none {kvs : List (Key × V)} {k : Key} (h : k ∉ kvs.map (·.1)) : valV kvs k = none := by
  induction kvs with
  | nil => rfl
  | cons p kvs ih =>
    rw [List.map_cons, List.mem_cons, not_or] at h
    rw [valV_neg (p := p) (fun e => h.1 e.symm)]
    exact ih h.2
theorem mergeK_nd : ∀ {more kvs : List (Key × V)}, ((kvs ++ more).map (·.1)).Nodup → mergeK kvs more = kvs ++ more
  | [], kvs, _ => by rw [List.append_nil]; rfl
  | p :: more, kvs, h => by
    have hn : p.1 ∉ kvs.map (·.1) := fun hm => by
      rw [List.map_append, List.map_cons] at h
      exact (List.nodup_append.mp h).2.2 _ hm _ List.mem_cons_self rfl
    show mergeK (putK kvs p.1 p.2) more = _
    rw [putK_new _ (valV_none hn), mergeK_nd (kvs := kvs ++ [(p.1, p.2)]) (by rw [List.append_assoc]; exact h), List.append_assoc]
    rfl
theorem cr_dictT (hcalm : X.calm = true) : CallR X (.type "dict") (fun vs H Q => ∃ (v : V) (ls : List (Str × Int)), vs = [v] ∧ PTy (ls.map dL) v H ∧ (ls.map (·.1)).Nodup ∧ ∀ p H', Same H H' → DK (ls.map fun p => (p.1, .int p.2)) (.ref p) H' → Q (.ref p) H') := by
  intro pins s σ H xs us Q I r h
  obtain ⟨v, ls, rfl, ⟨a, ob, ys, rfl, ha, hd, hx⟩, hn, q⟩ := h
  rw [Vals.ref1 r]
  have hok := I.hok a _ ha
  obtain ⟨ps, rfl, hp⟩ := pairs_rel (X := X) hx
  obtain ⟨its, rv, tp, hz⟩ := I.tuple (a := a) (.inl (.inr ⟨ob, ha⟩))
  have ei := refs_at rv
  subst ei
  rw [List.length_map] at hz
  obtain ⟨prs, rel, hl, hpr⟩ := pairs_of I hp
  obtain ⟨o2, ho2, hc2, n2, hd2⟩ := id tp
  have e : o2 = ob := Option.some.inj (ho2.symm.trans hok.1)
  subst e
  let Ts : Nat → Addr := fun j => ps.getD j 0
  have main : ∀ kvals : List (Value × Value), kvals.length = ps.length → (∀ (j : Nat) (k v : Value), kvals[j]? = some (k, v) → ∃ q : Key × Value, prs[j]? = some q ∧ v = q.2 ∧ keyIs q.1 k = true ∧ ∃ b, ps[j]? = some b ∧ PyProof.Rows.IsTup s.heap b #[k, v]) →
      wpAny (model X.prog X.w) X.A (call (.type "dict") [.ref a]) (EP X pins σ Q) X.xe s := by
    intro kvals hkl hkv
    refine PySem.call_dict_pairs (knd := mixKind X.prog X.w) (kvs := prs) (PairArg.tuple a (ps.map Value.ref).toArray Ts kvals) (I.ok.hd hcalm) ⟨⟨o2, n2, ho2, hc2, hd, hd2⟩, ?_, fun j k v e => ?_⟩ ⟨?_, fun i key v e => ?_⟩ (by rw [hkl]; exact hz) fun h' tk hdo hk => ?_
    · simp [hkl]
    · obtain ⟨q, h1, h2, h3, b, h4, h5⟩ := hkv j k v e
      refine ⟨?_, .inl ?_⟩
      · show (ps.map Value.ref).toArray[j]? = some (.ref (Ts j))
        have : Ts j = b := by show ps.getD j 0 = b; rw [List.getD_eq_getElem?_getD, h4]; rfl
        rw [this]
        simp [h4]
      · have : Ts j = b := by show ps.getD j 0 = b; rw [List.getD_eq_getElem?_getD, h4]; rfl
        rw [this]
        exact h5
    · rw [hl, hkl]
    · obtain ⟨q, h1, h2, h3, _⟩ := hkv i key v e
      exact ⟨q.1, by rw [h1, h2], h3⟩
    · have hm : (s.heap.objs.size == sysModules) = false := beq_eq_false_iff_ne.mpr (Nat.ne_of_gt I.big)
      have nd : ((([] : List (Key × V)) ++ ls.map fun p : Str × Int => ((Sum.inr p.1 : Key), V.int p.2)).map (·.1)).Nodup := by
        rw [List.nil_append, List.map_map]
        have : (ls.map ((·.1) ∘ fun p : Str × Int => ((Sum.inr p.1 : Key), V.int p.2))) = (ls.map (·.1)).map Sum.inr := by rw [List.map_map]; rfl
        rw [this]
        exact List.Pairwise.map _ (fun a b h e => h (Sum.inr.inj e)) hn
      have em := mergeK_nd nd
      rw [List.nil_append] at em
      have hlen : (mergeK [] (ls.map fun p : Str × Int => ((Sum.inr p.1 : Key), V.int p.2))).length ≤ sizeLine := by
        rw [em, rel.length, hl]
        exact hz
      have hfr : H s.heap.objs.size = none := I.hok.fresh (Nat.le_refl _)
      refine ⟨.ref s.heap.objs.size, upd H s.heap.objs.size (.dK (mergeK [] (ls.map fun p : Str × Int => ((Sum.inr p.1 : Key), V.int p.2)))), I.laid (t' := tk) (fun b o e => hk b o (by simp) e) (Nat.le_refl _) (show ObjOk X.prog X.w _ _ _ (.dK _) from ⟨hlen, hm, merged [] prs, KV.merge rel .nil, hdo⟩), rfl, q _ _ (same_new hfr) ⟨_, _, rfl, .inl upd_same, ?_⟩⟩
      rw [em]
      exact kvA_ints ls
  -- the values of the pairs
  have ex : ∃ kvals : List (Value × Value), kvals.length = ps.length ∧ ∀ (j : Nat) (k v : Value), kvals[j]? = some (k, v) → ∃ q : Key × Value, prs[j]? = some q ∧ v = q.2 ∧ keyIs q.1 k = true ∧ ∃ b, ps[j]? = some b ∧ PyProof.Rows.IsTup s.heap b #[k, v] := by
    have go : ∀ n, n ≤ prs.length → ∃ kvals : List (Value × Value), kvals.length = n ∧ ∀ (j : Nat) (k v : Value), kvals[j]? = some (k, v) → ∃ q : Key × Value, prs[j]? = some q ∧ v = q.2 ∧ keyIs q.1 k = true ∧ ∃ b, ps[j]? = some b ∧ PyProof.Rows.IsTup s.heap b #[k, v] := by
      intro n
      induction n with
      | zero => intro _; exact ⟨[], rfl, fun j k v e => by simp at e⟩
      | succ n ih =>
        intro hn'
        obtain ⟨kv, h1, h2⟩ := ih (by omega)
        have hq : prs[n]? = some prs[n] := List.getElem?_eq_getElem (by omega)
        obtain ⟨b, u, e1, e2, e3⟩ := hpr n prs[n] hq
        refine ⟨kv ++ [(u, prs[n].2)], by rw [List.length_append, h1]; rfl, fun j k v e => ?_⟩
        rcases Nat.lt_or_ge j kv.length with c | c
        · rw [List.getElem?_append_left c] at e
          exact h2 j k v e
        · rw [List.getElem?_append_right c] at e
          have hj : j - kv.length = 0 := by
            rcases Nat.eq_zero_or_pos (j - kv.length) with z | z
            · exact z
            · rw [List.getElem?_eq_none (by simp; omega)] at e
              cases e
          rw [hj] at e
          simp only [List.getElem?_cons_zero, Option.some.injEq, Prod.mk.injEq] at e
          have ej : j = n := by omega
          subst ej
          exact ⟨prs[j], hq, e.2.symm, by rw [← e.1]; exact e3, b, e1, by rw [← e.1, ← e.2]; exact e2⟩
    obtain ⟨kv, h1, h2⟩ := go prs.length (Nat.le_refl _)
    exact ⟨kv, by rw [h1, hl], h2⟩
  obtain ⟨kv, h1, h2⟩ := ex
  exact main kv h1 h2
theorem ev_dictT {ls : List (Str × Int)} (hc : X.calm = true) (hm : X.mg "dict" = none) (h : Ev X a σ H (PTy (ls.map dL))) (hn : (ls.map (·.1)).Nodup) (hg : Gl X "dict" := by rfl) (he : starEach [a] X.env = (false, eval a X.env) :: starEach [] X.env := by rfl) (hpl : (backTo pos (starEach [] X.env)).any (·.1) = false := by rfl) :
    Ev X (.Call (.Name "dict" p) [a] [] pos) σ H (DK (ls.map fun p => (p.1, .int p.2))) :=
  ev_callTy (cr_dictT hc) b_dict hm (ea_cons h ea_nil he) (fun vs H1 _ t Q z => by
    obtain ⟨v, rfl, r1⟩ := one_of t
    exact ⟨v, ls, rfl, r1, hn, fun p H' s r => z _ H' s r⟩) hg (by decide) (by decide) he hpl
end
section
variable {P : Program} {w : World} {K : PySem.W.Frag} {mg : Str → Option Value} {base : Heap}
abbrev CTupY (P : Program) (w : World) (K : PySem.W.Frag) (mg : Str → Option Value) (base : Heap) : Prop := C8.Cal P w K mg base 4 "tupled" (PF (fun (ds : List PyData) vs H => RpA H vs [.tuple ds] ∧ tupDs ds = true ∧ PyData.depthAll ds ≤ 2) PTy) []
theorem cal_tupledY (F : Df K mg "tupled" sTupled) (zt : mg "tuple" = none) (zl : mg "list" = none) (zi : mg "isinstance" = none) : CTupY P w K mg base := by
  refine cal_pf (A := fun (ds : List PyData) vs H => RpA H vs [.tuple ds] ∧ tupDs ds = true ∧ PyData.depthAll ds ≤ 2) F sc_tupled (fun _ _ _ _ _ _ us hl => match us, hl with | [_], _ => rfl) (fun d vs H h => by obtain ⟨v, rfl, _⟩ := bl1 h.1; rfl) ?_
  intro f cdv Ar outer s H vs Q E ds hr ⟨h1, ht, hd⟩ q
  obtain ⟨v, rfl, hv⟩ := bl1 h1
  refine b_one (s_ret (R := PTy ds) (ev_if (k := true) (et_val (ev_isiT zi (ev_name 0 (R := Is (.tuple ds)) rfl hv) (ev_tyTup (ev_ty zl b_list) (ev_ty zt b_tuple)) (kt_seq hv))) (fun _ => ?_) fun z => nomatch z) q)
  refine ev_tuplePlD zt (Ev.is (ev_lcA (i := 1) (l := ds) (enc := fun d => d) (g := fun d => d) (defScope sTupled) sc_tupled.nd (src_tup ?_) (fun x hx => mem_tupD ht hx) fun x hx v H1 m r j => ?_) ?_)
  · rw [List.map_id']
    exact ev_name 0 (R := Is (.tuple ds)) rfl hv
  · exact ev_pf (B := Is) x (cal_tupled F zt zl zi 2) hr (ea_is (ev_name 1 rfl r) ea_isNil) (fun vs H1 _ t => ⟨t, mem_tupD ht hx, mem_depth hd hx⟩)
  · rw [List.map_id']
end
end My
/-! D10 -/
namespace My
open PySem L2
abbrev tkD (f : List Tk) : List (Str × PyData) := f.map fun t => (t.1, .tuple [.int t.2.1, .int t.2.2])
theorem look_tk {f : List Tk} {x : Str} : look (tkD f) x = (lkT f x).map fun d => .tuple [.int d.1, .int d.2] := by
  induction f with
  | nil => rfl
  | cons p f ih =>
    obtain ⟨k, d⟩ := p
    show (if k = x then some _ else look (tkD f) x) = _
    unfold lkT
    by_cases e : k = x
    · rw [if_pos e, if_pos e]
      rfl
    · rw [if_neg e, if_neg e]
      exact ih
theorem look_li {f : List (Str × Int)} {x : Str} : look (f.map fun p => (p.1, PyData.int p.2)) x = (lkI f x).map PyData.int := by
  induction f with
  | nil => rfl
  | cons p f ih =>
    obtain ⟨k, d⟩ := p
    show (if k = x then some _ else look _ x) = _
    unfold lkI
    by_cases e : k = x
    · rw [if_pos e, if_pos e]
      rfl
    · rw [if_neg e, if_neg e]
      exact ih
theorem slow_mem {b : Blk} (w : WF b) {x : Str} (h : slowOf b x = true) : x ∈ slows b := by
  unfold slowOf at h
  cases e : rowOf b x with
  | none => rw [e] at h; cases h
  | some r =>
    rw [e] at h
    obtain ⟨h1, h2⟩ := rowOf_mem e
    exact List.mem_map.mpr ⟨r, List.mem_filter.mpr ⟨h1, h⟩, h2⟩
theorem slows_nodup {b : Blk} (w : WF b) : (slows b).Nodup := by
  have : (slows b).Sublist (names b) := List.Sublist.map _ (List.filter_sublist)
  exact w.nd.sublist this
theorem slows_len {b : Blk} (w : WF b) : (slows b).length ≤ 6 := by
  rw [slows, List.length_map]
  exact Nat.le_trans (List.length_filter_le _ _) w.few
theorem depL (ls : List (Str × Int)) : PyData.depthAll (ls.map dL) ≤ 1 := dep_map (fun a => by simp [PyData.depth, PyData.depthAll]) ls
theorem tupL (ls : List (Str × Int)) : tupDs (ls.map dL) = true := tup_map (fun a => by simp [tupD, tupDs]) ls
section
variable {P : Program} {w : World} {K : PySem.W.Frag} {mg : Str → Option Value} {base : Heap}
abbrev sTicks : Stmt := top 44
theorem sc_ticks : FnScope ["block", "order", "latencies", "name", "table", "known", "found", "tick", "reads", "slow", "own"] ["block", "order", "latencies"] (defScope sTicks) := ⟨rfl, rfl, rfl, by decide +kernel, rfl, by decide +kernel, by decide +kernel⟩
abbrev ATk : Blk × List Str × List (Str × Int) → RelA := fun p vs H => RpA H vs [eB p.1, eN p.2.1, .tuple (p.2.2.map dL)] ∧ WF p.1 ∧ IsOrd p.1 p.2.1 ∧ p.2.2.map (·.1) = slows p.1
abbrev CTicks (P : Program) (w : World) (K : PySem.W.Frag) (mg : Str → Option Value) (base : Heap) : Prop := C8.Cal P w K mg base 7 "ticks_of" (PF ATk fun p => DK (tkD (tkRun p.1 p.2.2 p.2.1).1)) []
theorem cal_ticks (F : Df K mg "ticks_of" sTicks) (B : Blt mg) (c1 : CTab P w K mg base) (c2 : CTupY P w K mg base) : CTicks P w K mg base := by
  refine cal_pf (A := ATk) F sc_ticks (fun _ _ _ _ _ _ us hl => match us, hl with | [_, _, _], _ => rfl) (fun d vs H h => by obtain ⟨v, w, u, rfl, _⟩ := bl3 h.1; rfl) ?_
  intro f cdv Ar outer s H vs Q E ⟨b, o, ls⟩ hr ⟨h1, wf, ho, hls⟩ q
  have wf : WF b := wf
  have ho : IsOrd b o := ho
  have hls : ls.map (·.1) = slows b := hls
  obtain ⟨v, u, t, rfl, hv, hu, ht⟩ := bl3 h1
  have nl : (ls.map (·.1)).Nodup := by rw [hls]; exact slows_nodup wf
  let N : List Str := ["block", "order", "latencies", "name", "table", "known", "found", "tick", "reads", "slow", "own"]
  refine b_cons (s_parN (sg := fun vs => match vs with | [a, b, c, d] => ((((start N [v, u, t]).set 4 (some a)).set 5 (some b)).set 6 (some c)).set 7 (some d) | _ => []) (wa (pa_cons (pe_w _) (pa_cons (pe_w _) (pa_cons (pe_w _) (pa_cons (pe_w _) pa_nil)))) ?_))
  refine (ev_table c1 hr (ev_name 0 (R := Is (eB b)) rfl hv) wf).go fun tb H1 s1 rt => ?_
  refine (ev_dictT rfl B.dict (ev_pf (ls.map dL) c2 hr (ea_is (ev_name 2 (R := Is (.tuple (ls.map dL))) rfl (Rp.mono (sm_of s1) _ _ ht)) ea_isNil) fun vs H2 _ t => ⟨t, tupL ls, Nat.le_trans (depL ls) (by decide)⟩) nl).go fun kn H2 s2 rk => ?_
  refine e_dict0 fun p hp => ?_
  refine (ev_neg ev_int).go fun tk H3 s3 rtk => ?_
  refine ⟨by simp, rfl, fun pp hpp => ⟨egs_cons (eg_name 4 sc_ticks.nd) (egs_cons (eg_name 5 sc_ticks.nd) (egs_cons (eg_name 6 sc_ticks.nd) (egs_cons (eg_name 7 sc_ticks.nd) egs_nil))), ?_⟩⟩
  have mu : Mu H2 [(p, .dK [])] (upd H3 pp (.tup [tb, kn, .ref p, tk])) := ((Mu.new (o := .dK []) (Mu.nil H2) hp (by intro _ z; cases z)).eval s3).eval (same_new hpp)
  generalize upd H3 pp (.tup [tb, kn, .ref p, tk]) = H4 at mu
  have rt2 : DK (tabD b) tb H2 := Mono.up (sm_of s2) rt
  have etk : tk = .int (-1) := is_int rtk
  subst etk
  have hu2 : Rp H2 u (eN o) := Rp.mono (sm_of (s1.trans s2)) _ _ hu
  refine b_cons (s_for (F := H2) (ps := [p]) (l := o) (enc := PyData.str) (srcF_tup (evF_name 1 (R := Is (eN o)) rfl hu2)) mu.sam mu.cond fun G H5 fg tp np s5 g5 => ?_)
  have muG : Mu G [(p, .dK [])] H5 := ⟨g5, fun q hq => ⟨np _ (List.mem_map.mpr ⟨q, hq, rfl⟩), ((mu.eval s5).at_ q hq).2⟩, mu.nd⟩
  refine ⟨fun i σ H => ∃ nm rd sl kvs, σ = [some v, some u, some t, nm, some tb, some kn, some (.ref p), some (.int (tkRun b ls (o.take i)).2), rd, sl, none] ∧ Mu G [(p, .dK kvs)] H ∧ KvA H kvs (tkD (tkRun b ls (o.take i)).1), ⟨none, none, none, [], rfl, muG, .nil⟩, fun i σ H ⟨_, _, _, _, _, m, _⟩ => m.sam, ?_, ?_⟩
  · rintro i x σ H6 H7 y hi ⟨nm, rd, sl, kvs, rfl, m6, hk6⟩ s7 ry
    refine g_name 3 sc_ticks.nd ?_
    have hx : x ∈ names b := ho.mem.mp (List.mem_of_getElem? hi)
    have m7 := m6.eval s7
    have hk7 : KvA H7 kvs (tkD (tkRun b ls (o.take i)).1) := hk6.mono (sm_of s7)
    have smG : Sm H2 H7 := (sm_of fg).trans m7.sm
    refine b_cons (s_unpack (ds := [eN (readsOf b x), .bool (slowOf b x)]) (ev_dk hr (ev_name 4 (R := DK (tabD b)) rfl (Mono.up smG rt2)) (ev_name 3 rfl ry) (look_tab wf hx)) fun vs H8 s8 rv => ?_)
    obtain ⟨r1, r2, rfl, hr1, hr2⟩ := bl2 rv
    refine ⟨_, egs_cons (eg_name 8 sc_ticks.nd) (egs_cons (eg_name 9 sc_ticks.nd) egs_nil), ?_⟩
    have m8 := m7.eval s8
    have hk8 : KvA H8 kvs (tkD (tkRun b ls (o.take i)).1) := hk7.mono (sm_of s8)
    have df : DK (tkD (tkRun b ls (o.take i)).1) (.ref p) H8 := ⟨p, kvs, rfl, .inl m8.one, hk8⟩
    have fnd : ∀ y ∈ readsOf b x, ∃ d, lkT (tkRun b ls (o.take i)).1 y = some d := fun y hy => lkT_mem (by rw [tkRun_keys]; exact ho.ahead i x hi y hy)
    have mx := maxL_le ((tkRun b ls (o.take i)).2 + 1) ((readsOf b x).map (come (tkRun b ls (o.take i)).1))
    refine b_cons (s_set 7 sc_ticks.nd (ev_max (m := tickAt b (tkRun b ls (o.take i)).1 (tkRun b ls (o.take i)).2 x) (ns := ((tkRun b ls (o.take i)).2 + 1) :: (readsOf b x).map (come (tkRun b ls (o.take i)).1)) B.max (Ev.is (ev_lst (ea_is (ev_add (ev_name 7 (R := Is (.int (tkRun b ls (o.take i)).2)) rfl (.int _)) ev_int) (ea_star (sq_l (ev_lcA (i := 10) (l := readsOf b x) (enc := PyData.str) (g := fun y => .int (come (tkRun b ls (o.take i)).1 y)) (defScope sTicks) sc_ticks.nd (src_tup (ev_name 8 (R := Is (eN (readsOf b x))) rfl hr1)) (fun y _ => by simp [tupD]) fun y hy z H9 m9 rz j => ?_)) ea_isNil)) ?_) ?_) ?_ ?_) fun tk2 H9 s9 r9 => ?_)
    · obtain ⟨d, hd⟩ := fnd y hy
      refine ev_ixT (i := 1) (ev_dk hr (ev_name 6 (R := DK (tkD (tkRun b ls (o.take i)).1)) rfl (Mono.up m9 df)) (ev_name 10 rfl rz) (by rw [look_tk, hd]; rfl)) ev_int ?_
      show some (PyData.int d.2) = _
      unfold come
      rw [hd]
      rfl
    · simp only [List.length_cons, List.length_append, List.length_map, List.length_nil]
      have := readsOf_len wf x
      omega
    · rw [List.map_cons, List.map_map, List.append_nil]
      rfl
    · rcases maxL_mem ((tkRun b ls (o.take i)).2 + 1) ((readsOf b x).map (come (tkRun b ls (o.take i)).1)) with h | h
      · rw [tickAt, h]
        exact List.mem_cons_self
      · exact List.mem_cons_of_mem _ h
    · intro y hy
      rcases List.mem_cons.mp hy with e | hy
      · rw [e]
        exact mx.1
      · exact mx.2 y hy
    have m9 := m8.eval s9
    have hk9 : KvA H9 kvs (tkD (tkRun b ls (o.take i)).1) := hk8.mono (sm_of s9)
    have rk9 : DK (ls.map fun p => (p.1, .int p.2)) kn H9 := Mono.up ((sm_of fg).trans m9.sm) rk
    have ry9 : Rp H9 y (.str x) := Rp.mono (sm_of (s8.trans s9)) _ _ ry
    have etk2 : tk2 = .int (tickAt b (tkRun b ls (o.take i)).1 (tkRun b ls (o.take i)).2 x) := is_int r9
    subst etk2
    have fresh : x ∉ (tkD (tkRun b ls (o.take i)).1).map (·.1) := by
      have e : (tkD (tkRun b ls (o.take i)).1).map (·.1) = o.take i := by
        rw [tkD, List.map_map]
        exact tkRun_keys b ls (o.take i)
      rw [e]
      intro hm
      obtain ⟨j, hj, e2⟩ := List.getElem_of_mem hm
      rw [List.length_take] at hj
      have nd : o.Nodup := ho.perm.nodup_iff.mpr wf.nd
      have h1 : o[j]? = some x := by
        rw [List.getElem_take] at e2
        rw [List.getElem?_eq_getElem (by omega), e2]
      have hi' := (List.getElem?_eq_some_iff.mp hi).1
      have := (List.getElem?_inj (by omega) nd).mp (h1.trans hi.symm)
      omega
    have lk : kvs.length < 100000 := by
      have e1 := hk9.length
      have e2 : (tkD (tkRun b ls (o.take i)).1).length ≤ 6 := by
        have z := congrArg List.length (tkRun_keys b ls (o.take i))
        rw [List.length_map] at z
        rw [tkD, List.length_map, z, List.length_take]
        have := ho.len wf
        omega
      omega
    refine b_one (s_dput (kvs := kvs) (x := x) hr (R := Is (.tuple [.int (tickAt b (tkRun b ls (o.take i)).1 (tkRun b ls (o.take i)).2 x), .int (tickAt b (tkRun b ls (o.take i)).1 (tkRun b ls (o.take i)).2 x + lat b ls x)])) (fun H => at_name 6 rfl) m9.one (ev_tup (ea_is (ev_name 7 rfl (.int _)) (ea_is (ev_add (ev_name 7 (R := Is (.int (tickAt b (tkRun b ls (o.take i)).1 (tkRun b ls (o.take i)).2 x))) rfl (.int _)) (ev_if (k := slowOf b x) (R := Is (.int (lat b ls x))) (et_val (ev_name 9 (R := Is (.bool (slowOf b x))) rfl (Rp.mono (sm_of s9) _ _ hr2))) (fun hs => ?_) fun hs => ?_)) ea_isNil)) (by simp)) (fun H10 s10 => ev_name 3 rfl (Rp.mono (sm_of s10) _ _ ry9)) lk fun z H10 s10 rz => ?_)
    · have hm : x ∈ ls.map (·.1) := by rw [hls]; exact slow_mem wf hs
      obtain ⟨d, hd⟩ := lkI_mem hm
      refine ev_dk hr (ev_name 5 (R := DK (ls.map fun p => (p.1, .int p.2))) rfl rk9) (ev_name 3 rfl ry9) ?_
      rw [look_li, hd]
      unfold lat
      rw [hs, if_pos rfl, hd]
      rfl
    · refine Ev.is ev_int ?_
      unfold lat
      rw [hs, if_neg Bool.false_ne_true]
    · have m10 := m9.eval s10
      have hk10 : KvA H10 kvs (tkD (tkRun b ls (o.take i)).1) := hk9.mono (sm_of s10)
      have tpu : Tp H10 (upd H10 p (.dK (putK kvs (.inr x) z))) := tp_upd m10.one fun _ e => nomatch e
      have e1 : o.take (i + 1) = o.take i ++ [x] := take_snoc hi
      have put : putK kvs (Sum.inr x) z = kvs ++ [(Sum.inr x, z)] := putK_new _ (hk10.fresh fresh)
      dsimp only
      rw [e1, tkRun_snoc]
      refine ⟨some y, some r1, some r2, putK kvs (.inr x) z, rfl, m10.put (by intro _ z; cases z), ?_⟩
      have td : ∀ q ∈ tkD (tkRun b ls (o.take i)).1, tupD q.2 = true := fun q hq => by
        obtain ⟨t, _, rfl⟩ := List.mem_map.mp hq
        simp [tupD, tupDs]
      rw [put] at tpu ⊢
      have := (hk10.tps tpu td).snoc (k := x) (Rp.tps tpu _ _ (by simp [tupD, tupDs]) rz)
      rw [show tkD (tkStep b ls (tkRun b ls (o.take i)) x).1 = tkD (tkRun b ls (o.take i)).1 ++ [(x, .tuple [.int (tickAt b (tkRun b ls (o.take i)).1 (tkRun b ls (o.take i)).2 x), .int (tickAt b (tkRun b ls (o.take i)).1 (tkRun b ls (o.take i)).2 x + lat b ls x)])] from by
        rw [tkD, tkStep, List.map_append]
        rfl]
      exact this
  · rintro σ H6 ⟨nm, rd, sl, kvs, rfl, m6, hk6⟩
    rw [List.take_length] at hk6
    refine b_one (s_ret (R := DK (tkD (tkRun b ls o).1)) (ev_name 6 (R := DK (tkD (tkRun b ls o).1)) rfl ⟨p, kvs, rfl, .inl m6.one, hk6⟩) fun z H7 s7 r7 => q z H7 (((s1.trans s2).trans (fg.trans m6.sam)).trans s7) r7)
end
end My
/-! L7 -/
namespace My
open PySem L2
theorem drop_head {α : Type} {l : List α} {i : Nat} {x : α} (h : l[i]? = some x) : l.drop i = x :: l.drop (i + 1) := by
  obtain ⟨lt, e⟩ := List.getElem?_eq_some_iff.mp h
  rw [List.drop_eq_getElem_cons lt, e]
theorem At.go {X : Cx} {o : Expr} {σ : L2.St} {H : Hp} {p : Addr} {Q : VK} (h : At X o σ H p) (q : Q (.ref p) H) : wE X o σ H Q := h Q q
section
variable {P : Program} {w : World} {K : PySem.W.Frag} {mg : Str → Option Value} {base : Heap}
/-! ### _law_twos -/
abbrev sTwos : Stmt := top 55
abbrev NTwos : List Str := ["_law_some_so", "_law_found", "_law_k", "_law_own", "_law_its"]
theorem sc_twos : FnScope NTwos ["_law_some_so"] (defScope sTwos) := ⟨rfl, rfl, rfl, by decide +kernel, rfl, by decide +kernel, by decide +kernel⟩
abbrev ATwos : List Str → RelA := fun xs vs H => RpA H vs [.list (xs.map .str)] ∧ xs.length ≤ 8
abbrev CTwos (P : Program) (w : World) (K : PySem.W.Frag) (mg : Str → Option Value) (base : Heap) : Prop := C8.Cal P w K mg base 1 "_law_twos" (PL ATwos fun xs => (twos xs).map eP) []
theorem twos_le {α : Type} : ∀ l : List α, (twos l).length ≤ l.length * l.length
  | [] => Nat.le_refl _
  | x :: l => by
    have := twos_le l
    show (l.map (fun y => (x, y)) ++ twos l).length ≤ _
    rw [List.length_append, List.length_map, List.length_cons, Nat.mul_succ, Nat.succ_mul]
    omega
theorem cal_twos (F : Df K mg "_law_twos" sTwos) (B : Blt mg) : CTwos P w K mg base := by
  refine cal_pl (A := ATwos) F sc_twos (fun _ _ _ _ _ _ us hl => match us, hl with | [_], _ => rfl) (fun d vs H h => by obtain ⟨v, e, _⟩ := bl1 h.1; rw [e]; rfl) ?_
  intro f cdv Ar outer s H vs Q E xs hr ⟨h1, hz⟩ q
  obtain ⟨v, e, hv⟩ := bl1 h1
  subst e
  have hz : xs.length ≤ 8 := hz
  have hv : Rp H v (.list (xs.map .str)) := hv
  refine b_cons (s_setW 1 sc_twos.nd ((evN_lst (ds := []) ea_isNil (by simp)) H (Sm.refl _) _ fun p0 ys H2 s2 f2 h2 hx2 => ?_))
  cases hx2
  refine b_cons (s_for (F := H2) (ps := []) (l := xs.zipIdx) (enc := fun q => .tuple [.int (q.2 : Nat), .str q.1]) (by rw [← num_strs]; exact srcF_enum (evF_name 0 (R := Is (.list (xs.map .str))) rfl (Rp.mono (sm_of s2) _ _ hv)) B.enum) (Same.refl _) (by intro _ h; cases h) fun G H3 f3 tp3 np3 s3 g3 => ?_)
  refine ⟨fun i σ H' => ∃ (p : Addr) (vs : List V) (acc : List (Str × Str)) (o1 o2 : Option V), σ = [some v, some (.ref p), o1, o2, none] ∧ Same G H' ∧ Same H H' ∧ H p = none ∧ H' p = some (.lst vs) ∧ RpA H' vs (acc.map eP) ∧ acc ++ twos (xs.drop i) = twos xs,
    ⟨p0, [], [], none, none, rfl, g3, s2.trans s3, f2, s3 _ _ h2, .nil, rfl⟩, fun i σ H ⟨_, _, _, _, _, _, s, _⟩ => s, ?_, ?_⟩
  · rintro i ⟨x, k⟩ σ H4 H5 xv hx ⟨p, vs, acc, o1, o2, rfl, sg, sh, fp, hp, rr, ea⟩ s5 rx
    have hz : xs[i]? = some x ∧ k = i := by
      rw [List.getElem?_zipIdx] at hx
      obtain ⟨y, hy, e⟩ := Option.map_eq_some_iff.mp hx
      cases e
      exact ⟨hy, by omega⟩
    obtain ⟨hx1, e⟩ := hz
    subst e
    obtain ⟨a, v1, v2, rfl, ha, e1, e2⟩ := tup2 rx
    have ex := is_int e1
    have ey := is_str e2
    subst ex ey
    have hv5 : Rp H5 v (.list (xs.map .str)) := Rp.mono (sm_of (sh.trans s5)) _ _ hv
    refine g_go (eg_tup (egs_cons (eg_name 2 sc_twos.nd) (egs_cons (eg_name 3 sc_twos.nd) egs_nil)) ha) ?_
    have rr5 : RpA H5 vs (acc.map eP) := RpA.mono (sm_of s5) _ _ rr
    refine b_one (s_setW 1 sc_twos.nd (we (pe_op op_cat (pe_w _) (pe_w _)) (At.go (at_name 1 rfl) ?_)))
    refine (evN_lc (i := 4) (l := xs.drop (k + 1)) (enc := PyData.str) (f := fun _ => true) (g := fun y => eP (x, y)) (defScope sTwos) sc_twos.nd (src_list (Ev.is (evN_slice (i := some ((k : Int) + 1)) (ev_name 0 (R := Is (.list (xs.map .str))) rfl hv5) (eo_some (ev_add (ev_name 2 (R := Is (.int (k : Nat))) rfl (.int _)) ev_int)) eo_none).ev (by rw [cutD_map, show ((k : Int) + 1) = ((k + 1 : Nat) : Int) from rfl, cutD_drop]))) (fun y _ _ => by simp [tupD, tupDs]) fun y hy v6 H6 m6 r6 => ⟨fun j => ets_nil, fun _ j => ev_tup (ea_is (ev_name 3 (R := Is (.str x)) rfl (.str x)) (ea_is (ev_name 4 rfl r6) ea_isNil)) (by simp)⟩) H5 (Sm.refl _) _ fun p2 ys H6 s6 f6 h6 hx6 => ?_
    rw [List.filter_eq_self.mpr (fun _ _ => rfl)] at hx6
    have l1 : acc.length + (xs.drop (k + 1)).length ≤ 64 := by
      have z := congrArg List.length ea
      rw [drop_head hx1] at z
      have z2 : (twos (x :: xs.drop (k + 1))).length = (xs.drop (k + 1)).length + (twos (xs.drop (k + 1))).length := by
        show ((xs.drop (k + 1)).map (fun y => (x, y)) ++ twos (xs.drop (k + 1))).length = _
        rw [List.length_append, List.length_map]
      rw [List.length_append, z2] at z
      have z3 := twos_le xs
      have z4 : xs.length * xs.length ≤ 8 * 8 := Nat.mul_le_mul hz hz
      omega
    refine ⟨p, p2, vs, ys, rfl, rfl, (s5.trans s6) _ _ hp, h6, by rw [rr5.length, hx6.length, List.length_map, List.length_map, sizeLine_eq]; omega, fun p3 hp3 => ?_⟩
    have s7 := s6.trans (same_new (o := .lst (vs ++ ys)) hp3)
    refine ⟨p3, vs ++ ys, acc ++ (xs.drop (k + 1)).map (fun y => (x, y)), _, _, rfl, sg.trans (s5.trans s7), sh.trans (s5.trans s7), ?_, upd_same, ?_, ?_⟩
    · exact ((sh.trans s5).trans s6).free hp3
    · rw [List.map_append, List.map_map]
      exact RpA.mono (sm_of (same_new hp3)) _ _ (RpA.append (RpA.mono (sm_of s6) _ _ rr5) hx6)
    · rw [← ea, drop_head hx1, List.append_assoc]
      rfl
  · rintro σ H4 ⟨p, vs, acc, o1, o2, rfl, sg, sh, fp, hp, rr, ea⟩
    have el : xs.zipIdx.length = xs.length := List.length_zipIdx
    rw [el, List.drop_length] at ea
    have ea : acc = twos xs := by rw [← ea]; exact (List.append_nil acc).symm
    subst ea
    exact b_one (s_retW (At.go (at_name 1 rfl) (q p vs H4 sh fp hp rr)))
end
end My
/-! L8 -/
namespace My
open PySem L2
theorem linesIn_len {b : Blk} (w : WF b) (l : List Str) : (linesIn b l).length ≤ 6 := by
  unfold linesIn
  rw [List.length_map]
  exact Nat.le_trans (List.length_filter_le _ _) w.few
theorem linesN_len {b : Blk} (w : WF b) : ∀ n, (linesN b n).length ≤ 6 ^ n
  | 0 => Nat.le_refl _
  | n + 1 => by
    have h := flat_len (linesIn_len w) (linesN b n)
    have h2 := linesN_len w n
    show ((linesN b n).flatMap (linesIn b)).length ≤ _
    rw [Nat.pow_succ]
    omega
theorem linesN_line {b : Blk} (w : WF b) {n : Nat} {l : List Str} (h : l ∈ linesN b n) : l.length = n := by
  rw [linesN_ords w] at h
  exact ((mem_ordsN n l).mp h).len
theorem eqv_nil {α : Type} [DecidableEq (List α)] (f : α → PyData) (l : List α) : PyData.eqv (.list (l.map f)) (.list []) = decide (l = []) := by
  cases l with
  | nil => simp [PyData.eqv, PyData.eqvAll]
  | cons x xs => simp [PyData.eqv, PyData.eqvAll]
theorem tupDs_append : ∀ {ds es : List PyData}, tupDs ds = true → tupDs es = true → tupDs (ds ++ es) = true
  | [], _, _, h => h
  | d :: ds, es, h1, h2 => by
    rw [List.cons_append]
    simp only [tupDs, Bool.and_eq_true] at h1 ⊢
    exact ⟨h1.1, tupDs_append h1.2 h2⟩
section
variable {P : Program} {w : World} {K : PySem.W.Frag} {mg : Str → Option Value} {base : Heap}
/-! ### _law_lines -/
abbrev sLines : Stmt := top 54
abbrev NLines : List Str := ["_law_kit_here", "_law_found", "_law_turn", "_law_later_so", "_law_line_so", "_law_tag", "_law_reads_so", "_law_is_slow", "_law_own"]
theorem sc_lines : FnScope NLines ["_law_kit_here"] (defScope sLines) := ⟨rfl, rfl, rfl, by decide +kernel, rfl, by decide +kernel, by decide +kernel⟩
abbrev ABlkW : Blk → RelA := fun b vs H => RpA H vs [eB b] ∧ WF b
abbrev CLines (P : Program) (w : World) (K : PySem.W.Frag) (mg : Str → Option Value) (base : Heap) : Prop := C8.Cal P w K mg base 1 "_law_lines" (PL ABlkW fun b => (lines b).map eN) []
theorem cal_lines (F : Df K mg "_law_lines" sLines) (B : Blt mg) : CLines P w K mg base := by
  refine cal_pl (A := ABlkW) F sc_lines (fun _ _ _ _ _ _ us hl => match us, hl with | [_], _ => rfl) (fun d vs H h => by obtain ⟨v, e, _⟩ := bl1 h.1; rw [e]; rfl) ?_
  intro f cdv Ar outer s H vs Q E b hr ⟨h1, wf⟩ q
  obtain ⟨v, e, hv⟩ := bl1 h1
  subst e
  have wf : WF b := wf
  have hv : Rp H v (eB b) := hv
  have few := wf.few
  have tR : tupD (.tuple (b.rows.map eR)) = true := by rw [tupD]; exact tup_kd b.rows
  refine b_cons (s_setW 1 sc_lines.nd ((evN_lst (ds := [eN []]) (ea_is (ev_tup (ds := [].map PyData.str) ea_isNil (by simp)) ea_isNil) (by simp)) H (Sm.refl _) _ fun p0 ys H2 s2 f2 h2 hx2 => ?_))
  refine b_cons (s_for (F := H2) (ps := []) (l := b.rows) (enc := eR) (srcF_tup (evF_tup (ev_tup0 (k1 := default) (ev_name 0 (R := Is (eB b)) rfl (Rp.mono (sm_of s2) _ _ hv))) tR)) (Same.refl _) (by intro _ h; cases h) fun G H3 f3 tp3 np3 s3 g3 => ?_)
  refine ⟨fun i σ H' => ∃ (p : Addr) (vs : List V) (o2 o3 o4 o5 o6 o7 : Option V), σ = [some v, some (.ref p), o2, o3, o4, o5, o6, o7, none] ∧ Same G H' ∧ Same H H' ∧ H p = none ∧ H' p = some (.lst vs) ∧ RpA H' vs ((linesN b i).map eN),
    ⟨p0, ys, none, none, none, none, none, none, rfl, g3, s2.trans s3, f2, s3 _ _ h2, RpA.mono (sm_of s3) _ _ hx2⟩, fun i σ H ⟨_, _, _, _, _, _, _, _, _, s, _⟩ => s, ?_, ?_⟩
  · rintro i x σ H4 H5 xv hx ⟨p, vs, o2, o3, o4, o5, o6, o7, rfl, sg, sh, fp, hp, rr⟩ s5 rx
    have hi : i < b.rows.length := (List.getElem?_eq_some_iff.mp hx).1
    have l6 : (linesN b i).length ≤ 7776 := Nat.le_trans (linesN_len wf i) (Nat.le_trans (Nat.pow_le_pow_right (n := 6) (by decide) (show i ≤ 5 by omega)) (by decide))
    refine g_name 2 sc_lines.nd ?_
    refine b_cons (s_setW 3 sc_lines.nd ((evN_lst (ds := []) ea_isNil (by simp)) H5 (Sm.refl _) _ fun p2 ws H6 s6 f6 h6 hx6 => ?_))
    cases hx6
    have mu6 : Mu H5 [(p2, .lst [])] H6 := Mu.add (Mu.nil H5) s6 f6 h6 (by intro _ z; cases z)
    have hp5 : H5 p = some (.lst vs) := s5 _ _ hp
    have rr5 : RpA H5 vs ((linesN b i).map eN) := RpA.mono (sm_of s5) _ _ rr
    have hv5 : Rp H5 v (eB b) := Rp.mono (sm_of (sh.trans s5)) _ _ hv
    refine b_cons (s_for (F := H5) (ps := [p2]) (l := linesN b i) (enc := eN) (srcF_list (evF_name 1 (R := Is (.list ((linesN b i).map eN))) rfl (.lst (.inl hp5) rr5))) mu6.sam mu6.cond fun G2 H7 f7 tp7 np7 s7 g7 => ?_)
    have mu7 : Mu G2 [(p2, .lst [])] H7 := ⟨g7, fun q hq => ⟨np7 _ (List.mem_map.mpr ⟨q, hq, rfl⟩), s7 _ _ (mu6.at_ q hq).2.1, (mu6.at_ q hq).2.2⟩, mu6.nd⟩
    refine ⟨fun k σ H' => ∃ (ws : List V) (o4 o5 o6 o7 : Option V), σ = [some v, some (.ref p), some xv, some (.ref p2), o4, o5, o6, o7, none] ∧ Mu G2 [(p2, .lst ws)] H' ∧ RpA H' ws ((((linesN b i).take k).flatMap (linesIn b)).map eN),
      ⟨[], o4, o5, o6, o7, rfl, mu7, .nil⟩, fun k σ H ⟨_, _, _, _, _, _, m, _⟩ => m.sam, ?_, ?_⟩
    · rintro k line σ H8 H9 lv hline ⟨ws, o4, o5, o6, o7, rfl, mu8, rw8⟩ s9 rl
      have hk : k < (linesN b i).length := (List.getElem?_eq_some_iff.mp hline).1
      have ll : line.length ≤ 6 := by rw [linesN_line wf (List.mem_of_getElem? hline)]; omega
      refine g_name 4 sc_lines.nd ?_
      have mu9 := mu8.eval s9
      obtain ⟨w1, w2, w3⟩ := mu9.wide
      have rl2 : Rp (Mu.rest [(p2, .lst ws)] H9) lv (eN line) := Rp.tps w3 _ _ (tupD_names line) rl
      have hv9 : Rp (Mu.rest [(p2, .lst ws)] H9) v (eB b) := Rp.mono (sm_of (f7.trans w1)) _ _ hv5
      refine b_one (s_for (F := Mu.rest [(p2, .lst ws)] H9) (ps := [p2]) (l := b.rows) (enc := eR) (srcF_tup (evF_tup (ev_tup0 (k1 := default) (ev_name 0 (R := Is (eB b)) rfl hv9)) tR)) w2.sam w2.cond fun G3 H10 f10 tp10 np10 s10 g10 => ?_)
      have mu10 : Mu G3 [(p2, .lst ws)] H10 := ⟨g10, fun q hq => ⟨np10 _ (List.mem_map.mpr ⟨q, hq, rfl⟩), s10 _ _ (w2.at_ q hq).2.1, (w2.at_ q hq).2.2⟩, w2.nd⟩
      refine ⟨fun j σ H' => ∃ (ws : List V) (o5 o6 o7 : Option V), σ = [some v, some (.ref p), some xv, some (.ref p2), some lv, o5, o6, o7, none] ∧ Mu G3 [(p2, .lst ws)] H' ∧ RpA H' ws ((((linesN b i).take k).flatMap (linesIn b) ++ ((b.rows.take j).filter (lineOk line)).map fun r => line ++ [r.name]).map eN),
        ⟨ws, o5, o6, o7, rfl, mu10, by rw [List.take_zero]; simp only [List.filter_nil, List.map_nil, List.append_nil]; exact RpA.mono (sm_of (s9.trans s10)) _ _ rw8⟩, fun j σ H ⟨_, _, _, _, _, m, _⟩ => m.sam, ?_, ?_⟩
      · rintro j r σ H11 H12 rv hrow ⟨ws, o5, o6, o7, rfl, mu11, rw11⟩ s12 rr12
        have hj : j < b.rows.length := (List.getElem?_eq_some_iff.mp hrow).1
        have mu12 := mu11.eval s12
        have rw12 := RpA.mono (sm_of s12) _ _ rw11
        obtain ⟨a, v1, v2, v3, rfl, ha, e1, e2, e3⟩ := tup3 rr12
        have ev1 := is_str e1
        subst ev1
        have rl12 : Rp H12 lv (eN line) := Rp.mono (sm_of (f10.trans mu12.sam)) _ _ rl2
        refine g_go (eg_tup (egs_cons (eg_name 5 sc_lines.nd) (egs_cons (eg_name 6 sc_lines.nd) (egs_cons (eg_name 7 sc_lines.nd) egs_nil))) ha) ?_
        refine b_one (s_if (k := lineOk line r) (ew_t (ew_and (k := !decide (r.name ∈ line)) (l := decide ((r.reads.filter fun y => !decide (y ∈ line)) = [])) (et_notInN hr (ev_name 5 (R := Is (.str r.name)) rfl (.str _)) (sq_t (ev_name 4 (R := Is (eN line)) rfl rl12))) fun _ => ew_and1 (EvT.is (et_eqD (n := 2) hr
          (ev_lcN (i := 8) (l := r.reads) (enc := PyData.str) (f := fun y => !decide (y ∈ line)) (g := PyData.str) (defScope sLines) sc_lines.nd (src_tup (ev_name 6 (R := Is (eN r.reads)) rfl e2)) (fun y _ _ => by simp [tupD]) fun y hy z H13 m13 rz => ⟨fun j => ets_one (et_notInN hr (ev_name 8 rfl rz) (sq_t (ev_name 4 (R := Is (eN line)) rfl (Rp.mono m13 _ _ rl12)))), fun _ j => ev_name 8 rfl rz⟩)
          (ev_lst ea_isNil (by simp)) (shp_lst (shpA_strs _)) (shp_lst shpA_nil)) ?_))) (fun hok H13 s13 => ?_) fun hok H13 s13 => b_nil ?_)
        · rw [eqv_nil]
        · have mu13 := mu12.eval s13
          have rw13 := RpA.mono (sm_of s13) _ _ rw12
          have hw : ws.length < 100000 := by
            rw [rw13.length, List.length_map, List.length_append, List.length_map]
            have z1 := flat_len (linesIn_len wf) ((linesN b i).take k)
            rw [List.length_take] at z1
            have z2 := List.length_filter_le (lineOk line) (b.rows.take j)
            rw [List.length_take] at z2
            omega
          refine b_one (s_expr (e_append (at_name 3 rfl) mu13.one (R := Is (eN (line ++ [r.name]))) (Ev.is (ev_addT (ev_name 4 (R := Is (eN line)) rfl (Rp.mono (sm_of s13) _ _ rl12)) (ev_tup (ds := [.str r.name]) (ea_is (ev_name 5 (R := Is (.str r.name)) rfl (.str _)) ea_isNil) (by simp)) (by rw [List.length_map, List.length_singleton]; omega)) (by rw [eN, List.map_append]; rfl)) hw fun u H14 s14 ru => ?_))
          have mu14 := mu13.eval s14
          refine ⟨_, _, _, _, rfl, mu14.put (by intro _ z; cases z), ?_⟩
          have z := (RpA.mono (sm_of s14) _ _ rw13).snoc ru
          have e : ((b.rows.take (j + 1)).filter (lineOk line)).map (fun r => line ++ [r.name]) = ((b.rows.take j).filter (lineOk line)).map (fun r => line ++ [r.name]) ++ [line ++ [r.name]] := by
            rw [take_snoc hrow, List.filter_append, List.map_append, List.filter_cons, if_pos hok]
            rfl
          rw [e, ← List.append_assoc, List.map_append]
          exact RpA.tps (tp_upd mu14.one (by intro _ z; cases z)) _ _ (tupDs_append (tup_kd _) (tup_kd [line ++ [r.name]])) z
        · refine ⟨ws, _, _, _, rfl, mu12.eval s13, ?_⟩
          have e : ((b.rows.take (j + 1)).filter (lineOk line)).map (fun r => line ++ [r.name]) = ((b.rows.take j).filter (lineOk line)).map (fun r => line ++ [r.name]) := by
            rw [take_snoc hrow, List.filter_append, List.map_append, List.filter_cons, if_neg (by rw [hok]; simp)]
            exact List.append_nil _
          rw [e]
          exact RpA.mono (sm_of s13) _ _ rw12
      · rintro σ H11 ⟨ws, o5, o6, o7, rfl, mu11, rw11⟩
        rw [List.take_length] at rw11
        refine ⟨ws, _, _, _, _, rfl, mu11.low (w1.trans f10), ?_⟩
        rw [take_snoc hline, List.flatMap_append]
        simp only [List.flatMap_cons, List.flatMap_nil, List.append_nil]
        exact rw11
    · rintro σ H8 ⟨ws, o4, o5, o6, o7, rfl, mu8, rw8⟩
      rw [List.take_length] at rw8
      have hp2 : H5 p2 = none := f6
      refine b_one (s_setW 1 sc_lines.nd (At.go (at_name 3 rfl) ⟨p2, ws, _, _, _, _, _, _, rfl, (sg.trans s5).trans (f7.trans mu8.sam), (sh.trans s5).trans (f7.trans mu8.sam), ((sh.trans s5)).free f6, mu8.one, rw8⟩))
  · rintro σ H4 ⟨p, vs, o2, o3, o4, o5, o6, o7, rfl, sg, sh, fp, hp, rr⟩
    exact b_one (s_retW (At.go (at_name 1 rfl) (q p vs H4 sh fp hp rr)))
end
end My
/-! D11 -/
namespace My
open PySem L2
theorem tkRun_len {b : Blk} {ls : List (Str × Int)} {o : List Str} : (tkRun b ls o).1.length = o.length := by
  have z := congrArg List.length (tkRun_keys b ls o)
  rwa [List.length_map] at z
section
variable {P : Program} {w : World} {K : PySem.W.Frag} {mg : Str → Option Value} {base : Heap}
abbrev sEnd : Stmt := top 45
theorem sc_end : FnScope ["block", "order", "latencies", "found", "own", "name"] ["block", "order", "latencies"] (defScope sEnd) := ⟨rfl, rfl, rfl, by decide +kernel, rfl, by decide +kernel, by decide +kernel⟩
abbrev CEnd (P : Program) (w : World) (K : PySem.W.Frag) (mg : Str → Option Value) (base : Heap) : Prop := C8.Cal P w K mg base 9 "end_of" (PF ATk fun p => Is (.int (endOf p.1 p.2.1 p.2.2))) []
theorem cal_end (F : Df K mg "end_of" sEnd) (B : Blt mg) (c0 : CTup P w K mg base) (c1 : CCheckO P w K mg base) (c2 : CTicks P w K mg base) : CEnd P w K mg base := by
  refine cal_pf (A := ATk) F sc_end (fun _ _ _ _ _ _ us hl => match us, hl with | [_, _, _], _ => rfl) (fun d vs H h => by obtain ⟨v, w, u, rfl, _⟩ := bl3 h.1; rfl) ?_
  intro f cdv Ar outer s H vs Q E ⟨b, o, ls⟩ hr ⟨h1, wf, ho, hls⟩ q
  have wf : WF b := wf
  have ho : IsOrd b o := ho
  have hls : ls.map (·.1) = slows b := hls
  obtain ⟨v, u, t, rfl, hv, hu, ht⟩ := bl3 h1
  refine b_cons (s_expr ((ev_pf (b, o) c1 hr (ea_is (ev_name 0 (R := Is (eB b)) rfl hv) (ea_is (ev_name 1 (R := Is (eN o)) rfl hu) ea_isNil)) fun vs H1 _ t => ⟨t, wf, ho⟩).go fun _ H1 s1 _ => ?_))
  refine b_cons (s_set 3 sc_end.nd (ev_pf (b, o, ls) c2 hr (ea_is (ev_name 0 (R := Is (eB b)) rfl (Rp.mono (sm_of s1) _ _ hv)) (ea_is (ev_name 1 (R := Is (eN o)) rfl (Rp.mono (sm_of s1) _ _ hu)) (ea_is (ev_name 2 (R := Is (.tuple (ls.map dL))) rfl (Rp.mono (sm_of s1) _ _ ht)) ea_isNil))) fun vs H2 _ t => ⟨t, wf, ho, hls⟩) fun fd H2 s2 rf => ?_)
  have rf2 : DK (tkD (tkRun b ls o).1) fd H2 := rf
  have hv2 : Rp H2 v (eB b) := Rp.mono (sm_of (s1.trans s2)) _ _ hv
  obtain ⟨d, kvs0, e, _, _⟩ := id rf2
  subst e
  have mx := maxL_le 0 (((tkRun b ls o).1.map fun t => t.2.1 + 1) ++ b.live.map (come (tkRun b ls o).1))
  have fnd : ∀ y ∈ b.live, ∃ d, lkT (tkRun b ls o).1 y = some d := fun y hy => lkT_mem (by rw [tkRun_keys]; exact ho.mem.mpr (wf.lv y hy))
  refine b_one (s_ret (R := Is (.int (endOf b o ls))) (ev_max (m := endOf b o ls) (ns := 0 :: (((tkRun b ls o).1.map fun t => t.2.1 + 1) ++ b.live.map (come (tkRun b ls o).1))) B.max (Ev.is (ev_lst (ea_is ev_int (ea_star (sq_l (ds := (tkRun b ls o).1.map fun t => .int (t.2.1 + 1)) (evAt_lock rf2 fun Hl oo kvs sm hf hk => ?_)) (ea_star (sq_l (ev_lcA (i := 5) (l := b.live) (enc := PyData.str) (g := fun y => .int (come (tkRun b ls o).1 y)) (defScope sEnd) sc_end.nd (src_tup (ev_tup1 (ev_tupB c0 hr (ev_name 0 (R := Is (eB b)) rfl hv2) (tupD_B b) (depth_B b)))) (fun y _ => by simp [tupD]) fun y hy z H3 m3 rz j => ?_)) ea_isNil))) ?_) ?_) ?_ ?_) fun z H3 s3 r3 => q z H3 ((s1.trans s2).trans s3) r3)
  · refine evAt_lcA' (i := 4) (l := (tkRun b ls o).1) (enc := fun t => .tuple [.int t.2.1, .int t.2.2]) (g := fun t => .int (t.2.1 + 1)) (defScope sEnd) sc_end.nd (src_valsN ?_ (evAt_of (ev_name 3 (R := Eqv (.ref d)) rfl rfl)) hf hk) (fun y _ => by simp [tupD]) fun t ht z H3 s3 rz j => ?_
    · rw [tkD, List.map_map]
      rfl
    · exact ev_add (ev_ixT (i := 0) (d := .int t.2.1) (ev_name 4 rfl rz) ev_int rfl) ev_int
  · obtain ⟨dd, hd⟩ := fnd y hy
    refine ev_ixT (i := 1) (ev_dk hr (ev_name 3 (R := DK (tkD (tkRun b ls o).1)) rfl (Mono.up m3 rf2)) (ev_name 5 rfl rz) (by rw [look_tk, hd]; rfl)) ev_int ?_
    show some (PyData.int dd.2) = _
    unfold come
    rw [hd]
    rfl
  · simp only [List.length_cons, List.length_append, List.length_map, List.length_nil, tkRun_len]
    have := ho.len wf
    have := wf.ll
    omega
  · rw [List.map_cons, List.map_append, List.map_map, List.map_map, List.append_nil]
    rfl
  · rcases maxL_mem 0 (((tkRun b ls o).1.map fun t => t.2.1 + 1) ++ b.live.map (come (tkRun b ls o).1)) with h | h
    · rw [endOf, h]
      exact List.mem_cons_self
    · exact List.mem_cons_of_mem _ h
  · intro y hy
    rcases List.mem_cons.mp hy with e | hy
    · rw [e]
      exact mx.1
    · exact mx.2 y hy
end
end My
/-! L9 -/
namespace My
open PySem L2
abbrev iD (m : List (Str × Int)) : List (Str × PyData) := m.map fun p => (p.1, PyData.int p.2)
section
variable {X : Cx} {σ : L2.St} {H : Hp} {k v k2 v2 : Expr} {pos : Pos} {x y : Str} {n m : Int}
theorem ev_dd1 (hk : Ev X k σ H (Is (.str x))) (hv : Ev X v σ H (Is (.int n))) : Ev X (.Dict [some k] [v] pos) σ H (DK (iD [(x, n)])) := fun H1 mm Q z =>
  we (pe_disp (pps_cons (pe_w k) (pe_w v) pps_nil) (by rfl) (by rfl) (fun z => by cases z) (by simp)) fun p hp => by
    have m0 : Sm H (upd H1 p (.dK [])) := mm.trans (sm_of (same_new hp))
    refine hk _ m0 _ fun kx H2 s2 r2 => hv H2 (m0.trans (sm_of s2)) _ fun vx H3 s3 r3 => ?_
    have ek := is_str r2
    have ev := is_int r3
    subst ek ev
    refine ⟨(s2.trans s3) _ _ upd_same, [(.inr x, .int n)], rfl, by simp, ?_⟩
    exact z _ _ (same_mut ((same_new hp).trans (s2.trans s3)) hp) ⟨p, [(.inr x, .int n)], rfl, .inl upd_same, .cons (.int n) .nil⟩
theorem ev_dd2 (ne : x ≠ y) (hk : Ev X k σ H (Is (.str x))) (hv : Ev X v σ H (Is (.int n))) (hk2 : Ev X k2 σ H (Is (.str y))) (hv2 : Ev X v2 σ H (Is (.int m))) : Ev X (.Dict [some k, some k2] [v, v2] pos) σ H (DK (iD [(x, n), (y, m)])) := fun H1 mm Q z =>
  we (pe_disp (pps_cons (pe_w k) (pe_w v) (pps_cons (pe_w k2) (pe_w v2) pps_nil)) (by rfl) (by rfl) (fun z => by cases z) (by simp)) fun p hp => by
    have m0 : Sm H (upd H1 p (.dK [])) := mm.trans (sm_of (same_new hp))
    refine hk _ m0 _ fun kx H2 s2 r2 => hv H2 (m0.trans (sm_of s2)) _ fun vx H3 s3 r3 => ?_
    have ek := is_str r2
    have ev := is_int r3
    subst ek ev
    have m3 := m0.trans (sm_of (s2.trans s3))
    refine hk2 _ m3 _ fun kx H4 s4 r4 => hv2 H4 (m3.trans (sm_of s4)) _ fun vx H5 s5 r5 => ?_
    have ek := is_str r4
    have ev := is_int r5
    subst ek ev
    have ss := s2.trans (s3.trans (s4.trans s5))
    refine ⟨ss _ _ upd_same, [(.inr x, .int n), (.inr y, .int m)], rfl, by simp, ?_⟩
    have e : mergeK [] [((Sum.inr x : Key), V.int n), (Sum.inr y, V.int m)] = [((Sum.inr x : Key), V.int n), (Sum.inr y, V.int m)] := mergeK_nd (by
      simp only [List.nil_append, List.map_cons, List.map_nil, List.nodup_cons, List.mem_singleton, List.not_mem_nil, not_false_eq_true, List.nodup_nil, and_true]
      exact fun h => ne (Sum.inr.inj h))
    rw [e]
    exact z _ _ (same_mut ((same_new hp).trans ss) hp) ⟨p, _, rfl, .inl upd_same, .cons (.int n) (.cons (.int m) .nil)⟩
end
section
variable {P : Program} {w : World} {K : PySem.W.Frag} {mg : Str → Option Value} {base : Heap}
/-! ### _law_slowed -/
abbrev sSlowed : Stmt := top 58
abbrev NSlowed : List Str := ["_law_kit_here", "_law_slows_so", "_law_row_so"]
theorem sc_slowed : FnScope NSlowed ["_law_kit_here", "_law_slows_so"] (defScope sSlowed) := ⟨rfl, rfl, rfl, by decide +kernel, rfl, by decide +kernel, by decide +kernel⟩
abbrev ASlowed : Blk × List (Str × Int) → RelA := fun p vs H => ∃ v u, vs = [v, u] ∧ Rp H v (eB p.1) ∧ DK (iD p.2) u H
abbrev CSlowed (P : Program) (w : World) (K : PySem.W.Frag) (mg : Str → Option Value) (base : Heap) : Prop := C8.Cal P w K mg base 1 "_law_slowed" (PF ASlowed fun p => Is (.tuple ((slowed p.1 p.2).map dL))) []
theorem cal_slowed (F : Df K mg "_law_slowed" sSlowed) (B : Blt mg) : CSlowed P w K mg base := by
  refine cal_pf (A := ASlowed) F sc_slowed (fun _ _ _ _ _ _ us hl => match us, hl with | [_, _], _ => rfl) (fun d vs H h => by obtain ⟨v, u, e, _⟩ := h; rw [e]; rfl) ?_
  intro f cdv Ar outer s H vs Q E ⟨b, m⟩ hr ⟨v, u, e, hv, hu⟩ q
  subst e
  have hv : Rp H v (eB b) := hv
  have hu : DK (iD m) u H := hu
  refine b_one (s_ret (ev_tuple B.tuple (sq_l (Ev.is (ev_lcN (i := 2) (l := b.rows) (enc := eR) (f := fun r => r.slow) (g := fun r => dL (r.name, 1 + (lkI m r.name).getD 0)) (defScope sSlowed) sc_slowed.nd (src_tup (ev_tup0 (k1 := default) (ev_name 0 (R := Is (eB b)) rfl hv))) (fun r _ _ => by simp [tupD, tupDs]) fun r hrw y H1 m1 ry => ⟨fun j => ets_one (et_val (ev_ixT (i := 2) (ev_name 2 (R := Is (eR r)) rfl ry) ev_int rfl)), fun _ j => ?_⟩) ?_))) fun z H' s' r => q z H' s' r)
  · exact ev_tup (ea_is (ev_ixT (i := 0) (ev_name 2 (R := Is (eR r)) rfl ry) ev_int rfl) (ea_is (ev_add ev_int (Ev.is (ev_dget2 (m := iD m) (x := r.name) hr (ev_name 1 (R := DK (iD m)) rfl (Mono.up m1 hu)) (ev_ixT (i := 0) (ev_name 2 (R := Is (eR r)) rfl ry) ev_int rfl) ev_int ⟨rfl, rfl, rfl, rfl⟩) (by rw [look_li]; cases lkI m r.name <;> rfl))) ea_isNil)) (by simp)
  · unfold slowed
    rw [List.map_map]
    rfl
theorem ev_slowed {X : Cx} {σ : L2.St} {H : Hp} {e e2 : Expr} {p pos : Pos} {j : Nat} {b : Blk} {m : List (Str × Int)} (c : CSlowed X.prog X.w X.K X.mg X.base) (hr : Room j X.A) (h : Ev X e σ H (Is (eB b))) (h2 : Ev X e2 σ H (DK (iD m))) (hk : 1 ≤ j := by decide) (hg : Gl X "_law_slowed" := by rfl)
    (he : starEach [e, e2] X.env = (false, eval e X.env) :: starEach [e2] X.env := by rfl) (he2 : starEach [e2] X.env = (false, eval e2 X.env) :: starEach [] X.env := by rfl) (hpl : (backTo pos (starEach [e2] X.env)).any (·.1) = false := by rfl) : Ev X (.Call (.Name "_law_slowed" p) [e, e2] [] pos) σ H (Is (.tuple ((slowed b m).map dL))) :=
  ev_pf (b, m) c hr (ea_cons h (ea_cons h2 ea_nil he2) he) (fun vs H1 _ t => by
    obtain ⟨v, u, rfl, r1, r2⟩ := two_of t
    exact ⟨v, u, rfl, r1, r2⟩) hk hg (by decide) he hpl
theorem ev_end {X : Cx} {σ : L2.St} {H : Hp} {e e2 e3 : Expr} {p pos : Pos} {j : Nat} {b : Blk} {o : List Str} {ls : List (Str × Int)} (c : CEnd X.prog X.w X.K X.mg X.base) (hr : Room j X.A) (wf : WF b) (ho : IsOrd b o) (hls : ls.map (·.1) = slows b) (h : Ev X e σ H (Is (eB b))) (h2 : Ev X e2 σ H (Is (eN o))) (h3 : Ev X e3 σ H (Is (.tuple (ls.map dL)))) (hk : 9 ≤ j := by decide) (hg : Gl X "end_of" := by rfl)
    (he : starEach [e, e2, e3] X.env = (false, eval e X.env) :: starEach [e2, e3] X.env := by rfl) (he2 : starEach [e2, e3] X.env = (false, eval e2 X.env) :: starEach [e3] X.env := by rfl) (he3 : starEach [e3] X.env = (false, eval e3 X.env) :: starEach [] X.env := by rfl) (hpl : (backTo pos (starEach [e2, e3] X.env)).any (·.1) = false := by rfl) : Ev X (.Call (.Name "end_of" p) [e, e2, e3] [] pos) σ H (Is (.int (endOf b o ls))) :=
  ev_pf (b, o, ls) c hr (ea_is h (ea_is h2 (ea_is h3 ea_isNil he3) he2) he) (fun vs H1 _ t => ⟨t, wf, ho, hls⟩) hk hg (by decide) he hpl
/-! ### _law_apart -/
abbrev sApart : Stmt := top 59
abbrev NApart : List Str := ["_law_kit_here", "_law_line_so", "_law_pair_so", "_law_much", "_law_lasts_so"]
theorem sc_apart : FnScope NApart ["_law_kit_here", "_law_line_so", "_law_pair_so", "_law_much"] (defScope sApart) := ⟨rfl, rfl, rfl, by decide +kernel, rfl, by decide +kernel, by decide +kernel⟩
def apartB (b : Blk) (o : List Str) (p : Str × Str) (M : Int) : Bool := decide (2 * M - 2 * (b.rows.length : Int) < endOf b o (slowed b [(p.1, M), (p.2, M)]))
abbrev AApart : Blk × List Str × (Str × Str) × Int → RelA := fun p vs H => RpA H vs [eB p.1, eN p.2.1, eP p.2.2.1, .int p.2.2.2] ∧ WF p.1 ∧ IsOrd p.1 p.2.1 ∧ p.2.2.1.1 ≠ p.2.2.1.2
abbrev CApart (P : Program) (w : World) (K : PySem.W.Frag) (mg : Str → Option Value) (base : Heap) : Prop := C8.Cal P w K mg base 10 "_law_apart" (PF AApart fun p => Is (.bool (apartB p.1 p.2.1 p.2.2.1 p.2.2.2))) []
theorem bl4 {A B C D : PyData} {vs : List V} {H : Hp} (h : RpA H vs [A, B, C, D]) : ∃ v w u t, vs = [v, w, u, t] ∧ Rp H v A ∧ Rp H w B ∧ Rp H u C ∧ Rp H t D := by
  cases h with
  | cons a h =>
    obtain ⟨w, u, t, rfl, h1, h2, h3⟩ := bl3 h
    exact ⟨_, w, u, t, rfl, a, h1, h2, h3⟩
theorem cal_apart (F : Df K mg "_law_apart" sApart) (B : Blt mg) (c1 : CSlowed P w K mg base) (c2 : CEnd P w K mg base) : CApart P w K mg base := by
  refine cal_pf (A := AApart) F sc_apart (fun _ _ _ _ _ _ us hl => match us, hl with | [_, _, _, _], _ => rfl) (fun d vs H h => by obtain ⟨v, w, u, t, e, _⟩ := bl4 h.1; rw [e]; rfl) ?_
  intro f cdv Ar outer s H vs Q E ⟨b, o, ⟨x, y⟩, M⟩ hr ⟨h1, wf, ho, ne⟩ q
  have wf : WF b := wf
  have ho : IsOrd b o := ho
  have ne : x ≠ y := ne
  obtain ⟨v, l, p, t, e, hv, hl, hp, ht⟩ := bl4 h1
  subst e
  have hv : Rp H v (eB b) := hv
  have hl : Rp H l (eN o) := hl
  have hp : Rp H p (eP (x, y)) := hp
  have et : t = .int M := is_int ht
  subst et
  refine b_cons (s_set 4 sc_apart.nd (ev_slowed (m := [(x, M), (y, M)]) c1 hr (ev_name 0 (R := Is (eB b)) rfl hv) (ev_dd2 ne (ev_ixT (i := 0) (ev_name 2 (R := Is (eP (x, y))) rfl hp) ev_int rfl) (ev_name 3 (R := Is (.int M)) rfl (.int M)) (ev_ixT (i := 1) (ev_name 2 (R := Is (eP (x, y))) rfl hp) ev_int rfl) (ev_name 3 (R := Is (.int M)) rfl (.int M)))) fun ls H1 s1 rl => ?_)
  have hv1 := Rp.mono (sm_of s1) _ _ hv
  refine b_one (s_ret (Ev.is (ev_gt (ev_end c2 hr wf ho (slowed_keys b _) (ev_name 0 (R := Is (eB b)) rfl hv1) (ev_name 1 (R := Is (eN o)) rfl (Rp.mono (sm_of s1) _ _ hl)) (ev_name 4 rfl rl)) (ev_sub (ev_mul ev_int (ev_name 3 (R := Is (.int M)) rfl (.int M)) (.inl ⟨by decide, by decide⟩)) (ev_mul ev_int (ev_len B.len (sq_t (ev_tup0 (k1 := default) (ev_name 0 (R := Is (eB b)) rfl hv1)))) (.inl ⟨by decide, by decide⟩)))) ?_) fun z H' s' r => q z H' (s1.trans s') r)
  unfold apartB
  rw [List.length_map]
theorem ev_apart {X : Cx} {σ : L2.St} {H : Hp} {e e2 e3 e4 : Expr} {p pos : Pos} {j : Nat} {b : Blk} {o : List Str} {pr : Str × Str} {M : Int} (c : CApart X.prog X.w X.K X.mg X.base) (hr : Room j X.A) (wf : WF b) (ho : IsOrd b o) (ne : pr.1 ≠ pr.2) (h : Ev X e σ H (Is (eB b))) (h2 : Ev X e2 σ H (Is (eN o))) (h3 : Ev X e3 σ H (Is (eP pr))) (h4 : Ev X e4 σ H (Is (.int M))) (hk : 10 ≤ j := by decide) (hg : Gl X "_law_apart" := by rfl)
    (he : starEach [e, e2, e3, e4] X.env = (false, eval e X.env) :: starEach [e2, e3, e4] X.env := by rfl) (he2 : starEach [e2, e3, e4] X.env = (false, eval e2 X.env) :: starEach [e3, e4] X.env := by rfl) (he3 : starEach [e3, e4] X.env = (false, eval e3 X.env) :: starEach [e4] X.env := by rfl) (he4 : starEach [e4] X.env = (false, eval e4 X.env) :: starEach [] X.env := by rfl) (hpl : (backTo pos (starEach [e2, e3, e4] X.env)).any (·.1) = false := by rfl) : Ev X (.Call (.Name "_law_apart" p) [e, e2, e3, e4] [] pos) σ H (Is (.bool (apartB b o pr M))) :=
  ev_pf (b, o, pr, M) c hr (ea_is h (ea_is h2 (ea_is h3 (ea_is h4 ea_isNil he4) he3) he2) he) (fun vs H1 _ t => ⟨t, wf, ho, ne⟩) hk hg (by decide) he hpl
end
end My
/-! L10 -/
namespace My
open PySem L2
def twin (ds : List PyData) : List PyData := ds.map fun d => .tuple [d, d]
section
variable {X : Cx} {σ : L2.St} {H : Hp} {a b : Expr} {ds : List PyData} {p pos tpos : Pos} {elts : List Expr} {kk : Nat} {tg iter : Expr}
theorem twin_get {i : Nat} {d : PyData} (h : ds[i]? = some d) : (twin ds)[i]? = some (.tuple [d, d]) := by
  unfold twin
  rw [List.getElem?_map, h]
  rfl
theorem src_twinL (h1 : Ev X a σ H (Is (.list ds))) (h2 : Ev X b σ H (Is (.list ds))) (hm : X.mg "zip" = none) (hg : Gl X "zip" := by rfl)
    (hs : starEach [a, b] X.env = (false, eval a X.env) :: starEach [b] X.env := by rfl) (hs2 : starEach [b] X.env = (false, eval b X.env) :: starEach [] X.env := by rfl) (hpl : (backTo pos (starEach [b] X.env)).any (·.1) = false := by rfl) :
    Src X (.Tuple elts kk tpos) (.Call (.Name "zip" p) [a, b] [] pos) σ H (twin ds) := fun H1 m R k => by
  refine wi (RZ.pi_zipA hg hm (pa_cons (pe_w a) (pa_cons (pe_w b) pa_nil hs2) hs) hs hpl) ?_
  refine h1 H1 m _ fun v H2 s2 r2 => we_inv (h2 H2 (m.trans (sm_of s2)) _ fun u H3 s3 r3 pins s I => ?_)
  have r2 : Rp H3 v (.list ds) := Rp.mono (sm_of s3) _ _ r2
  cases r2 with
  | @lst q xs _ ha hx =>
    cases r3 with
    | @lst q2 ys _ hb hy =>
      obtain ⟨_, _, _, hz⟩ := I.list (a := q) (xs := xs) (.inl ha)
      have upa : ∀ {H'}, Same H3 H' → SqL X.K H' q xs := fun s => .inl ((sm_of s).rd _ _ True.intro ha)
      have upb : ∀ {H'}, Same H3 H' → SqL X.K H' q2 ys := fun s => .inl ((sm_of s).rd _ _ True.intro hb)
      have lx := hx.length
      have ly := hy.length
      have lt : (twin ds).length = ds.length := List.length_map _
      refine ⟨q, q2, xs, ys, rfl, .inl ⟨.inl ha, .inl hb, k _ H3 (s2.trans s3) ⟨by rw [lt, ← lx]; exact hz, fun i H' s hi => ⟨xs, ys, xs[i]'(by omega), ys[i]'(by omega), upa s, upb s, by simp, by simp⟩, fun H' s => ⟨xs, ys, upa s, upb s, .inl (by omega)⟩, fun i H' x H'' s y hi => ?_⟩⟩⟩
      obtain ⟨T, x1, y1, e1, hT, e2, q3, q4⟩ := y
      subst e1 e2
      obtain ⟨d, hd, hr⟩ := hx.get (q3 xs (upa s))
      obtain ⟨d2, hd2, hr2⟩ := hy.get (q4 ys (upb s))
      rw [hd] at hd2
      cases hd2
      exact ⟨same_new hT, _, twin_get hd, .tup upd_same (.cons (Rp.mono ((sm_of s).trans (sm_of (same_new hT))) _ _ hr) (.cons (Rp.mono ((sm_of s).trans (sm_of (same_new hT))) _ _ hr2) .nil))⟩
theorem src_twinT (h1 : Ev X a σ H (Is (.tuple ds))) (h2 : Ev X b σ H (Is (.tuple ds))) (hm : X.mg "zip" = none) (hg : Gl X "zip" := by rfl)
    (hs : starEach [a, b] X.env = (false, eval a X.env) :: starEach [b] X.env := by rfl) (hs2 : starEach [b] X.env = (false, eval b X.env) :: starEach [] X.env := by rfl) (hpl : (backTo pos (starEach [b] X.env)).any (·.1) = false := by rfl) :
    Src X (.Tuple elts kk tpos) (.Call (.Name "zip" p) [a, b] [] pos) σ H (twin ds) := fun H1 m R k => by
  refine wi (RZ.pi_zipA hg hm (pa_cons (pe_w a) (pa_cons (pe_w b) pa_nil hs2) hs) hs hpl) ?_
  refine h1 H1 m _ fun v H2 s2 r2 => we_inv (h2 H2 (m.trans (sm_of s2)) _ fun u H3 s3 r3 pins s I => ?_)
  have r2 : Rp H3 v (.tuple ds) := Rp.mono (sm_of s3) _ _ r2
  cases r2 with
  | @tup q xs _ ha hx =>
    cases r3 with
    | @tup q2 ys _ hb hy =>
      obtain ⟨_, _, _, hz⟩ := I.tuple (a := q) (xs := xs) (SqT.of ha)
      have upa : ∀ {H'}, Same H3 H' → SqT X.K H' q xs := fun s => SqT.of ((sm_of s).tp _ _ ha)
      have upb : ∀ {H'}, Same H3 H' → SqT X.K H' q2 ys := fun s => SqT.of ((sm_of s).tp _ _ hb)
      have lx := hx.length
      have ly := hy.length
      have lt : (twin ds).length = ds.length := List.length_map _
      refine ⟨q, q2, xs, ys, rfl, .inr ⟨SqT.of ha, SqT.of hb, k _ H3 (s2.trans s3) ⟨by rw [lt, ← lx]; exact hz, fun i H' s hi => ⟨xs, ys, xs[i]'(by omega), ys[i]'(by omega), upa s, upb s, by simp, by simp⟩, fun H' s => ⟨xs, ys, upa s, upb s, .inl (by omega)⟩, fun i H' x H'' s y hi => ?_⟩⟩⟩
      obtain ⟨T, x1, y1, e1, hT, e2, q3, q4⟩ := y
      subst e1 e2
      obtain ⟨d, hd, hr⟩ := hx.get (q3 xs (upa s))
      obtain ⟨d2, hd2, hr2⟩ := hy.get (q4 ys (upb s))
      rw [hd] at hd2
      cases hd2
      exact ⟨same_new hT, _, twin_get hd, .tup upd_same (.cons (Rp.mono ((sm_of s).trans (sm_of (same_new hT))) _ _ hr) (.cons (Rp.mono ((sm_of s).trans (sm_of (same_new hT))) _ _ hr2) .nil))⟩
theorem et_eqB {k l : Bool} {j : Nat} (hr : Room j X.A) (ha : Ev X a σ H (Is (.bool k))) (hb : Ev X b σ H (Is (.bool l))) : EvT X (.Compare a [.NotEq] [b] pos) σ H (!decide (k = l)) :=
  EvT.is (et_neD (n := 0) hr ha hb shp_bool shp_bool) (by cases k <;> cases l <;> simp [PyData.eqv])
theorem ev_eqB {k l : Bool} {j : Nat} (hr : Room j X.A) (ha : Ev X a σ H (Is (.bool k))) (hb : Ev X b σ H (Is (.bool l))) : Ev X (.Compare a [.Eq] [b] pos) σ H (Is (.bool (decide (k = l)))) :=
  Ev.is (ev_eq (n := 0) hr ha hb shp_bool shp_bool) (by cases k <;> cases l <;> simp [PyData.eqv])
end
/-- what the law compares: no list but at the top -/
def flatD : PyData → Bool
  | .list ds => tupDs ds
  | d => tupD d
theorem flat_tup {d : PyData} (h : tupD d = true) : flatD d = true := by
  cases d with
  | list ds => simp [tupD] at h
  | _ => exact h
theorem eqv_flat {d : PyData} (h : flatD d = true) : PyData.eqv d d = true := by
  cases d with
  | list ds =>
    have h : tupDs ds = true := h
    simp only [PyData.eqv]
    exact eqvAll_rfl ds h
  | _ => exact eqv_rfl _ h
mutual
theorem plain_tup : ∀ d : PyData, tupD d = true → d.plain = true
  | .none, _ => by simp [PyData.plain]
  | .bool b, _ => by simp [PyData.plain]
  | .int i, _ => by simp [PyData.plain]
  | .str x, _ => by simp [PyData.plain]
  | .list ds, h => by simp [tupD] at h
  | .tuple ds, h => by
    simp only [PyData.plain]
    exact plains_tup ds (by simpa [tupD] using h)
  | .dict _, h => by simp [tupD] at h
theorem plains_tup : ∀ ds : List PyData, tupDs ds = true → PyData.plainAll ds = true
  | [], _ => by simp [PyData.plainAll]
  | d :: ds, h => by
    simp only [tupDs, Bool.and_eq_true] at h
    simp only [PyData.plainAll, Bool.and_eq_true]
    exact ⟨plain_tup d h.1, plains_tup ds h.2⟩
end
theorem eqv_ints (i j : Int) : PyData.eqv (.int i) (.int j) = decide (i = j) := by
  simp only [PyData.eqv]
  rfl
def isD (T : String) (d : PyData) : Bool := (kitB (tyD d) T).getD false
theorem kt_of {T : String} (h : ∀ t ∈ ["NoneType", "bool", "int", "str", "list", "tuple"], ∃ k, kitB t T = some k) {d : PyData} {v : V} {H : Hp} (r : Rp H v d) : kitB (tyD d) T = some (isD T d) := by
  have key : ∃ k, kitB (tyD d) T = some k := by
    cases r with
    | non => exact h _ (by simp [tyD])
    | bl b => exact h _ (by simp [tyD])
    | int i => exact h _ (by simp [tyD])
    | str x => exact h _ (by simp [tyD])
    | lst => exact h _ (by simp [tyD])
    | tup => exact h _ (by simp [tyD])
  obtain ⟨k, hk⟩ := key
  unfold isD
  rw [hk]
  rfl
theorem kits_of {T U : String} {d : PyData} {k l : Bool} (h1 : kitB (tyD d) T = some k) (h2 : kitB (tyD d) U = some l) : kitsB (tyD d) [T, U] = some (k || l) := by
  simp only [kitsB, h1, h2]
  cases k <;> cases l <;> rfl
theorem kt6 : ∀ T ∈ ["list", "tuple", "bool", "str", "int"], ∀ t ∈ ["NoneType", "bool", "int", "str", "list", "tuple"], (kitB t T).isSome = true := by decide +kernel
theorem kt7 {T : String} (hT : T ∈ ["list", "tuple", "bool", "str", "int"]) : ∀ t ∈ ["NoneType", "bool", "int", "str", "list", "tuple"], ∃ k, kitB t T = some k := fun t ht => Option.isSome_iff_exists.mp (kt6 T hT t ht)
section
variable {P : Program} {w : World} {K : PySem.W.Frag} {mg : Str → Option Value} {base : Heap}
/-! ### _law_same -/
abbrev sSame : Stmt := top 50
abbrev NSame : List Str := ["_law_got", "_law_goal", "_law_mine", "_law_own"]
theorem sc_same : FnScope NSame ["_law_got", "_law_goal"] (defScope sSame) := ⟨rfl, rfl, rfl, by decide +kernel, rfl, by decide +kernel, by decide +kernel⟩
abbrev ASame (n : Nat) : PyData → RelA := fun d vs H => RpA H vs [d, d] ∧ flatD d = true ∧ d.depth ≤ n
abbrev CSame (n : Nat) (P : Program) (w : World) (K : PySem.W.Frag) (mg : Str → Option Value) (base : Heap) : Prop := C8.Cal P w K mg base (n + 1) "_law_same" (PF (ASame n) fun _ => Is (.bool true)) []
theorem ev_same {X : Cx} {σ : L2.St} {H : Hp} {e e2 : Expr} {p pos : Pos} {j m : Nat} {d : PyData} (c : CSame m X.prog X.w X.K X.mg X.base) (hr : Room j X.A) (fl : flatD d = true) (dp : d.depth ≤ m) (h : Ev X e σ H (Is d)) (h2 : Ev X e2 σ H (Is d)) (hk : m + 1 ≤ j := by decide) (hg : Gl X "_law_same" := by rfl)
    (he : starEach [e, e2] X.env = (false, eval e X.env) :: starEach [e2] X.env := by rfl) (he2 : starEach [e2] X.env = (false, eval e2 X.env) :: starEach [] X.env := by rfl) (hpl : (backTo pos (starEach [e2] X.env)).any (·.1) = false := by rfl) : Ev X (.Call (.Name "_law_same" p) [e, e2] [] pos) σ H (Is (.bool true)) :=
  ev_pf d c hr (ea_is h (ea_is h2 ea_isNil he2) he) (fun vs H1 _ t => ⟨t, fl, dp⟩) hk hg (by decide) he hpl
theorem same_go (B : Blt mg) {f : Addr} {cdv : Value} {Ar : Around} {outer : List Env} {s : Shared} {H : Hp} {Q : VK} {E : XK} {k : Nat} {d : PyData} {v u : V} (hr : Room k (XF P w K mg base NSame "_law_same" (defScope sSame) f cdv Ar outer s H E).A) (hv : Rp H v d) (hu : Rp H u d) (fl : flatD d = true) (dp : d.depth ≤ 60)
    (kids : ∀ ds, d = .list ds ∨ d = .tuple ds → ∃ m, m + 1 ≤ k ∧ CSame m P w K mg base ∧ PyData.depthAll ds ≤ m) (q : ∀ (v : V) (H' : Hp), Same H H' → Is (.bool true) v H' → Q v H') :
    wB (XF P w K mg base NSame "_law_same" (defScope sSame) f cdv Ar outer s H E) (defBody sSame) { nx := fun _ H' => Q .non H', rt := Q } (start NSame [v, u]) H := by
  have mL : "list" ∈ ["list", "tuple", "bool", "str", "int"] := by decide
  have mT : "tuple" ∈ ["list", "tuple", "bool", "str", "int"] := by decide
  have mB : "bool" ∈ ["list", "tuple", "bool", "str", "int"] := by decide
  have mS : "str" ∈ ["list", "tuple", "bool", "str", "int"] := by decide
  have mI : "int" ∈ ["list", "tuple", "bool", "str", "int"] := by decide
  have hn : ∀ {H'} (_ : Same H H'), Rp H' v d ∧ Rp H' u d := fun s => ⟨Rp.mono (sm_of s) _ _ hv, Rp.mono (sm_of s) _ _ hu⟩
  refine b_cons (s_if (k := seqD d) (et_val (ev_isiT B.isi (ev_name 1 (R := Is d) rfl hu) (ev_tyTup (ev_ty B.list b_list) (ev_ty B.tuple b_tuple)) (kt_seq hu))) (fun z H1 s1 => ?_) fun z H1 s1 => b_nil ?_)
  · obtain ⟨hv1, hu1⟩ := hn s1
    refine b_cons (s_if (k := false) (EvT.is (ew_t (ew_or (et_eqB hr (ev_isi B.isi (ev_name 0 (R := Is d) rfl hv1) (ev_ty B.list b_list) (kt_of (kt7 mL) hv1)) (ev_isi B.isi (ev_name 1 (R := Is d) rfl hu1) (ev_ty B.list b_list) (kt_of (kt7 mL) hu1))) fun _ => ew_or1 (et_eqB hr (ev_isi B.isi (ev_name 0 (R := Is d) rfl hv1) (ev_ty B.tuple b_tuple) (kt_of (kt7 mT) hv1)) (ev_isi B.isi (ev_name 1 (R := Is d) rfl hu1) (ev_ty B.tuple b_tuple) (kt_of (kt7 mT) hu1))))) (by simp)) (fun z => by cases z) fun _ H2 s2 => b_nil ?_)
    have s12 := s1.trans s2
    obtain ⟨hv2, hu2⟩ := hn s12
    have elt : ∀ (ds : List PyData), (d = .list ds ∨ d = .tuple ds) → tupDs ds = true := fun ds e => by
      rcases e with e | e
      · subst e; exact fl
      · subst e
        have fl : tupD (.tuple ds) = true := fl
        simpa [tupD] using fl
    have lc : ∀ (ds : List PyData), (d = .list ds ∨ d = .tuple ds) → ∃ m, m + 1 ≤ k ∧ CSame m P w K mg base ∧ (∀ x ∈ ds, flatD x = true ∧ x.depth ≤ m) := fun ds e => by
      obtain ⟨m, h1, h2, h3⟩ := kids ds e
      exact ⟨m, h1, h2, fun x hx => ⟨flat_tup (mem_tupD (elt ds e) hx), mem_depth h3 hx⟩⟩
    have al : ∀ ds : List PyData, (ds.map fun _ => true).all (fun k => k) = true := fun ds => by
      rw [List.all_map, List.all_eq_true]
      intro _ _
      rfl
    have fin : ∀ (v : V) (H' : Hp), Same H2 H' → Is (.bool true) v H' → Q v H' := fun v H' s r => q v H' (s12.trans s) r
    cases d with
    | list ds =>
      obtain ⟨m, hm, cm, hx⟩ := lc ds (.inl rfl)
      refine b_one (s_ret (R := Is (.bool true)) (Ev.is (ev_and (k := true) (l := true) (Ev.is (ev_eq (n := 0) hr (ev_len B.len (sq_l (ev_name 0 (R := Is (.list ds)) rfl hv2))) (ev_len B.len (sq_l (ev_name 1 (R := Is (.list ds)) rfl hu2))) shp_int shp_int) (by rw [eqv_ints]; simp)) fun _ => ev_one (Ev.is (ev_all (bs := ds.map fun _ => true) B.all (Ev.is (ev_lc (own := [("_law_mine", 2), ("_law_own", 3)]) (l := ds) (enc := fun d => .tuple [d, d]) (f := fun _ => true) (g := fun _ => .bool true) (defScope sSame) sc_same.nd
        (src_twinL (ev_name 0 (R := Is (.list ds)) rfl hv2) (ev_name 1 (R := Is (.list ds)) rfl hu2) B.zip) (fun _ _ _ => by simp [tupD]) fun x hxm y H3 m3 ry => ?_) ?_)) ?_)) rfl) fin)
      · obtain ⟨a, y1, y2, rfl, ha, e1, e2⟩ := tup2 ry
        refine ⟨_, ?_, fun j => eg_tup (egs_cons (eg_name 2 sc_same.nd) (egs_cons (eg_name 3 sc_same.nd) egs_nil)) ha, fun j => ets_nil, fun _ j => ev_same cm hr (hx x hxm).1 (hx x hxm).2 (ev_name 2 rfl e1) (ev_name 3 rfl e2) (hk := hm)⟩
        rfl
      · rw [List.filter_eq_self.mpr (fun _ _ => rfl), List.map_map]
        rfl
      · rw [al]
    | tuple ds =>
      obtain ⟨m, hm, cm, hx⟩ := lc ds (.inr rfl)
      refine b_one (s_ret (R := Is (.bool true)) (Ev.is (ev_and (k := true) (l := true) (Ev.is (ev_eq (n := 0) hr (ev_len B.len (sq_t (ev_name 0 (R := Is (.tuple ds)) rfl hv2))) (ev_len B.len (sq_t (ev_name 1 (R := Is (.tuple ds)) rfl hu2))) shp_int shp_int) (by rw [eqv_ints]; simp)) fun _ => ev_one (Ev.is (ev_all (bs := ds.map fun _ => true) B.all (Ev.is (ev_lc (own := [("_law_mine", 2), ("_law_own", 3)]) (l := ds) (enc := fun d => .tuple [d, d]) (f := fun _ => true) (g := fun _ => .bool true) (defScope sSame) sc_same.nd
        (src_twinT (ev_name 0 (R := Is (.tuple ds)) rfl hv2) (ev_name 1 (R := Is (.tuple ds)) rfl hu2) B.zip) (fun _ _ _ => by simp [tupD]) fun x hxm y H3 m3 ry => ?_) ?_)) ?_)) rfl) fin)
      · obtain ⟨a, y1, y2, rfl, ha, e1, e2⟩ := tup2 ry
        refine ⟨_, ?_, fun j => eg_tup (egs_cons (eg_name 2 sc_same.nd) (egs_cons (eg_name 3 sc_same.nd) egs_nil)) ha, fun j => ets_nil, fun _ j => ev_same cm hr (hx x hxm).1 (hx x hxm).2 (ev_name 2 rfl e1) (ev_name 3 rfl e2) (hk := hm)⟩
        rfl
      · rw [List.filter_eq_self.mpr (fun _ _ => rfl), List.map_map]
        rfl
      · rw [al]
    | _ => cases z
  · obtain ⟨hv1, hu1⟩ := hn s1
    have td : tupD d = true := by
      cases d with
      | list ds => cases z
      | _ => exact fl
    have shp : Shp 60 d := ⟨plain_tup d td, dp⟩
    refine b_cons (s_if (k := isNone d || (isD "bool" d || isD "str" d)) (ew_t (ew_or (et_isN (ev_name 1 (R := Is d) rfl hu1)) fun _ => ew_or1 (et_val (ev_isiT B.isi (ev_name 1 (R := Is d) rfl hu1) (ev_tyTup (ev_ty B.bool b_bool) (ev_ty B.str b_str)) (kits_of (kt_of (kt7 mB) hu1) (kt_of (kt7 mS) hu1)))))) (fun z2 H2 s2 => ?_) fun z2 H2 s2 => b_nil ?_)
    · have s12 := s1.trans s2
      obtain ⟨hv2, hu2⟩ := hn s12
      refine b_one (s_ret (R := Is (.bool true)) (Ev.is (ev_and (k := true) (l := true) (Ev.is (ev_eq hr (ev_name 0 (R := Is d) rfl hv2) (ev_name 1 (R := Is d) rfl hu2) shp shp) (by rw [eqv_flat fl])) fun _ => ev_and (k := true) (l := true) (Ev.is (ev_eqB hr (ev_isi B.isi (ev_name 0 (R := Is d) rfl hv2) (ev_ty B.bool b_bool) (kt_of (kt7 mB) hv2)) (ev_isi B.isi (ev_name 1 (R := Is d) rfl hu2) (ev_ty B.bool b_bool) (kt_of (kt7 mB) hu2))) (by simp)) fun _ => ev_one (Ev.is (ev_eqB hr (ev_isNone (ev_name 0 (R := Is d) rfl hv2)) (ev_isNone (ev_name 1 (R := Is d) rfl hu2))) (by simp))) rfl) fun z H' s r => q z H' (s12.trans s) r)
    · have s12 := s1.trans s2
      obtain ⟨hv2, hu2⟩ := hn s12
      have ki : isD "int" d = true ∧ isD "bool" d = false := by
        cases hu with
        | int i => exact ⟨show (kitB "int" "int").getD false = true from by decide +kernel, show (kitB "int" "bool").getD false = false from by decide +kernel⟩
        | non => simp [isNone] at z2
        | bl b =>
          have e : isD "bool" (.bool b) = true := by
            show (kitB "bool" "bool").getD false = true
            decide +kernel
          rw [e] at z2
          simp at z2
        | str x =>
          have e : isD "str" (.str x) = true := by
            show (kitB "str" "str").getD false = true
            decide +kernel
          rw [e] at z2
          simp at z2
        | lst => cases z
        | tup => cases z
      refine b_one (s_ret (R := Is (.bool true)) (Ev.is (ev_and (k := true) (l := true) (Ev.is (ev_isi B.isi (ev_name 0 (R := Is d) rfl hv2) (ev_ty B.int b_int) (kt_of (kt7 mI) hv2)) (by rw [ki.1])) fun _ => ev_and (k := true) (l := true) (Ev.is (ev_not (ev_isi B.isi (ev_name 0 (R := Is d) rfl hv2) (ev_ty B.bool b_bool) (kt_of (kt7 mB) hv2))) (by rw [ki.2]; rfl)) fun _ => ev_one (Ev.is (ev_eq hr (ev_name 0 (R := Is d) rfl hv2) (ev_name 1 (R := Is d) rfl hu2) shp shp) (by rw [eqv_flat fl]))) rfl) fun z H' s r => q z H' (s12.trans s) r)
theorem cal_same (F : Df K mg "_law_same" sSame) (B : Blt mg) : ∀ n : Nat, n ≤ 60 → CSame n P w K mg base := by
  intro n
  induction n with
  | zero =>
    intro hn
    refine cal_pf (A := ASame 0) F sc_same (fun _ _ _ _ _ _ us hl => match us, hl with | [_, _], _ => rfl) (fun d vs H h => by obtain ⟨v, u, rfl, _⟩ := bl2 h.1; rfl) ?_
    intro f cdv Ar outer s H vs Q E d hr ⟨h1, fl, dp⟩ q
    obtain ⟨v, u, rfl, hv, hu⟩ := bl2 h1
    have dp : d.depth ≤ 0 := dp
    refine same_go B hr hv hu fl (by omega) (fun ds e => ?_) q
    rcases e with e | e
    · subst e; simp [PyData.depth] at dp
    · subst e; simp [PyData.depth] at dp
  | succ n ih =>
    intro hn
    refine cal_pf (A := ASame (n + 1)) F sc_same (fun _ _ _ _ _ _ us hl => match us, hl with | [_, _], _ => rfl) (fun d vs H h => by obtain ⟨v, u, rfl, _⟩ := bl2 h.1; rfl) ?_
    intro f cdv Ar outer s H vs Q E d hr ⟨h1, fl, dp⟩ q
    obtain ⟨v, u, rfl, hv, hu⟩ := bl2 h1
    have dp : d.depth ≤ n + 1 := dp
    refine same_go B hr hv hu fl (by omega) (fun ds e => ⟨n, Nat.le_refl _, ih (by omega), ?_⟩) q
    rcases e with e | e
    · subst e; simp only [PyData.depth] at dp; omega
    · subst e; simp only [PyData.depth] at dp; omega
end
end My
/-! L11 -/
namespace My
open PySem L2
section
variable {X : Cx} {scope0 : Scope} {j : BI} {σ : L2.St} {H B : Hp} {iter elt : Expr} {ifs : List Expr} {scope : Scope} {pos : Pos} {α : Type} {l : List α} {enc : α → PyData} {f : α → Bool} {g : α → PyData} {xs0 : List V} {a : Addr}
theorem ev_lcV' {N : List Str} {i : Nat} {x : Str} {px : Pos} (sc0 : Scope) (nd : N.Nodup) (sm : Sm B H) (hiter : Ev (BX X scope0 j) iter σ H (Eqv (.ref a))) (ha : Rd B a (.lst xs0)) (hx0 : RpA B xs0 (l.map enc))
    (turn : ∀ y ∈ l, ∀ v H1, Sm H H1 → Rp B v (enc y) → (∀ k, EvTs (BX (BX X scope0 j) scope k) ifs (σ.set i (some v)) H1 (f y)) ∧ (f y = true → ∀ k, Ev (BX (BX X scope0 j) scope k) elt (σ.set i (some v)) H1 (fun u _ => Rp B u (g y))))
    (hN : X.N = N := by rfl) (hsc : X.env.scope = sc0 := by rfl) (ok : blkC N (relS scope0 sc0) scope [(x, i)] = true := by decide +kernel) (hi : N[i]? = some x := by rfl)
    (hx : (relS scope (relS scope0 sc0)).names.lookup x = some .local ∨ ((relS scope (relS scope0 sc0)).names.lookup x = some .cell ∧ (scope.names.lookup x == some .cell) = true) := by first | exact .inl (by rfl) | exact .inr ⟨by rfl, by rfl⟩)
    (hc : X.calm = true := by rfl) (hs : ∀ x, foldedSetIterable iter (BX X scope0 j).env x = pure x := by intro _; rfl) : Ev (BX X scope0 j) (.ListComp elt [⟨.Name x px, iter, ifs, 0⟩] scope pos) σ H (Is (.list ((l.filter f).map g))) :=
  ev_lcV (X := BX X scope0 j) (relS scope0 sc0) nd sm hiter ha hx0 turn hN (by rw [← hsc]; rfl) ok hi hx hc hs
end
theorem range_getD {α : Type} (l : List α) (d : α) : (List.range l.length).map (fun k => l.getD k d) = l := by
  refine List.ext_getElem? fun i => ?_
  rw [List.getElem?_map]
  by_cases h : i < l.length
  · rw [List.getElem?_range h, List.getElem?_eq_getElem h]
    show some (l.getD i d) = _
    rw [List.getD_eq_getElem?_getD, List.getElem?_eq_getElem h]
    rfl
  · rw [List.getElem?_eq_none (by simpa using h), List.getElem?_eq_none (by simpa using h)]
    rfl
section
variable {P : Program} {w : World} {K : PySem.W.Frag} {mg : Str → Option Value} {base : Heap}
/-! ### _law_case_right -/
abbrev sCase : Stmt := top 61
abbrev NCase : List Str := ["_law_jar", "_law_kit_here", "_law_tag", "_law_own", "_law_lap", "_law_sets_so", "_law_great_so", "_law_lines_so", "_law_tags_so", "_law_size_so", "_law_much", "_law_waited_so", "_law_table_so", "_law_ends_so", "_law_due", "_law_pairs_so", "_law_rows_so", "_law_many", "_law_told", "_law_k", "_law_row_so", "_law_line_so", "_law_far", "_law_bit"]
theorem sc_case : FnScope NCase ["_law_jar", "_law_kit_here"] (defScope sCase) := ⟨rfl, rfl, rfl, by decide +kernel, rfl, by decide +kernel, by decide +kernel⟩
abbrev XCase (P : Program) (w : World) (K : PySem.W.Frag) (mg : Str → Option Value) (base : Heap) (f : Addr) (cdv : Value) (A : Around) (outer : List Env) (s : Shared) (H : Hp) (E : XK) : Cx := XF P w K mg base NCase "_law_case_right" (defScope sCase) f cdv A outer s H E
theorem ev_great {X : Cx} {σ : L2.St} {H : Hp} {e : Expr} {p pos : Pos} {j : Nat} {b : Blk} (c : CGreat X.prog X.w X.K X.mg X.base) (hr : Room j X.A) (dr : Drawn b) (h : Ev X e σ H (Is (eB b))) (hk : 12 ≤ j := by decide) (hg : Gl X "great_meetings" := by rfl) (he : starEach [e] X.env = (false, eval e X.env) :: starEach [] X.env := by rfl) (hpl : (backTo pos (starEach [] X.env)).any (·.1) = false := by rfl) :
    Ev X (.Call (.Name "great_meetings" p) [e] [] pos) σ H (Is (.list ((greatL b).map eM))) := ev_pf b c hr (ea_is h ea_isNil he) (fun vs H1 _ t => ⟨t, dr.wf, fun l hn hl => few_meetings dr.wf dr.le l hn hl⟩) hk hg (by decide) he hpl
abbrev kGreat (b : Blk) (own : List (Str × Str)) : Bool := decide ((((ords b).map (meeting b)).filter fun far => !decide (far = own) && decide ((own.filter fun bit => !decide (bit ∈ far)) = [])) = [])
theorem greatL_eq (b : Blk) : (setL ltK ((ords b).map (meeting b))).filter (kGreat b) = greatL b := by
  unfold greatL
  refine List.filter_congr fun own _ => ?_
  have z := great_eq (S := meetsAll b) (sets := (ords b).map (meeting b)) (fun z => setL_mem ordK) own
  rw [Bool.eq_iff_iff] at z ⊢
  simp only [kGreat, decide_eq_true_eq, Bool.not_eq_true', List.any_eq_false, Bool.and_eq_true, List.all_eq_true, List.filter_eq_nil_iff, decide_eq_false_iff_not] at z ⊢
  exact z.symm
theorem fewO {b : Blk} (dr : Drawn b) : FewL ((ords b).map (meeting b)) 70 := fun l hn hl => few_meetings dr.wf dr.le l hn hl
theorem case_tail (B : Blt mg) (c1 : CGreat P w K mg base) (c2 : CSame 4 P w K mg base) {f : Addr} {cdv : Value} {Ar : Around} {outer : List Env} {s : Shared} {H0 H F : Hp} {Q : VK} {E : XK} {b : Blk} {jr : Addr} {n : Nat} {ms : List (Addr × HO)} {kv ln tb : V} {o2 o3 o4 o5 o6 o8 o9 o10 o11 o13 o14 o15 o16 o17 o18 o19 o20 o21 o22 o23 : Option V}
    (hr : Room 40 (XCase P w K mg base f cdv Ar outer s H0 E).A) (dr : Drawn b) (j : JM jr n ms F H) (hk : Rp F kv (eB b)) (hl : Rp F ln (.list ((ords b).map eN))) (ht : DT (tabM b (twos (awaited b))) tb F) (q : ∀ v F' H', Same F F' → JM jr n ms F' H' → Is (.bool true) v F' → Q v H') :
    wB (XCase P w K mg base f cdv Ar outer s H0 E) ((defBody sCase).drop 5) { nx := fun _ H' => Q .non H', rt := Q } [some (.ref jr), some kv, o2, o3, o4, o5, o6, some ln, o8, o9, o10, o11, some tb, o13, o14, o15, o16, o17, o18, o19, o20, o21, o22, o23] H := by
  have wf := dr.wf
  have smJ := j.sm
  have hkH := Rp.mono smJ _ _ hk
  have hlH := Rp.mono smJ _ _ hl
  have htH : DT (tabM b (twos (awaited b))) tb H := Mono.up smJ ht
  have lo : ((ords b).map eN).length = (ords b).length := List.length_map _
  have l6 : (ords b).length ≤ 46656 := by
    rw [← lines_ords wf]
    exact Nat.le_trans (linesN_len wf _) (Nat.le_trans (Nat.pow_le_pow_right (n := 6) (by decide) wf.few) (by decide))
  refine b_cons (s_setLcN 5 (i := 19) (l := List.range (ords b).length) (enc := fun k => .int (k : Nat)) (f := fun _ => true) (g := fun k => eM (meeting b ((ords b).getD k []))) (defScope sCase) sc_case.nd (src_range (Ev.is (ev_len B.len (sq_l (ev_name 7 (R := Is (.list ((ords b).map eN))) rfl hlH))) (by rw [lo])) (by omega) B.range) (fun k _ _ => Kd.tup (meeting b _)) (fun k hk0 y H1 m1 ry => ⟨fun jj => ets_nil, fun _ jj => ?_⟩) (fun p xs H2 s2 f2 h2 hx2 => ?_) (by rfl))
  · have hkl : k < (ords b).length := List.mem_range.mp hk0
    have ek : (ords b)[k]? = some ((ords b).getD k []) := by rw [List.getD_eq_getElem?_getD, List.getElem?_eq_getElem hkl]; rfl
    refine ev_tuple B.tuple (sq_l (Ev.is (ev_lcN' (i := 3) (l := twos (awaited b)) (enc := eP) (f := fun p => meets b ((ords b).getD k []) p.1 p.2) (g := eP) (defScope sCase) sc_case.nd (src_list (Ev.is (ev_sortedT hr B.sorted (ev_name 12 (R := DT (tabM b (twos (awaited b)))) rfl (Mono.up m1 htH))) (by rw [tab_sorted wf, List.map_map]; rfl))) (fun p _ _ => Kd.tup p) fun p hp z H3 m3 rz => ⟨fun jj2 => ?_, fun _ jj2 => ev_name 3 rfl rz⟩) rfl))
    refine ets_one (et_val (ev_ixL (i := (k : Int)) (ds := (ords b).map fun o => .bool (meets b o p.1 p.2)) (ev_dt (m := tabM b (twos (awaited b))) (x := kP p) hr (ev_name 12 rfl (Mono.up (m1.trans m3) htH)) (ev_name 3 (R := Is (eP p)) rfl rz) (look_tabM hp)) (ev_name 19 (R := Is (.int (k : Nat))) rfl (Rp.mono m3 _ _ ry)) (atI_of (by rw [List.getElem?_map, ek]; rfl))))
  have es : ((List.range (ords b).length).filter fun _ => true).map (fun k => eM (meeting b ((ords b).getD k []))) = ((ords b).map (meeting b)).map eM := by
    rw [List.filter_eq_self.mpr (fun _ _ => rfl)]
    conv => rhs; rw [← range_getD (ords b) []]
    rw [List.map_map, List.map_map]
    rfl
  rw [es] at hx2
  obtain ⟨F2, w1, j2, t2, hp2⟩ := (j.add s2 f2 h2 (by intro _ z; cases z)).done
  have rs : Rp F2 (.ref p) (.list (((ords b).map (meeting b)).map eM)) := .lst (.inl hp2) (RpA.tps t2 _ _ (tup_kd _) hx2)
  refine b_cons (s_setW 6 sc_case.nd ((evN_lst (ds := []) ea_isNil (by simp)) H2 (Sm.refl _) _ fun gp ys H3 s3 f3 h3 hx3 => ?_))
  cases hx3
  have j3 : JM jr n ((gp, .lst []) :: ms) F2 H3 := j2.add s3 f3 h3 (by intro _ z; cases z)
  have hkF := Rp.mono (sm_of w1) _ _ hk
  refine b_cons (s_for (F := F2) (ps := jr :: ((gp, HO.lst []) :: ms).map (·.1)) (l := setL ltK ((ords b).map (meeting b))) (enc := eM) (srcF_list (evF_new (evN_sortSet (α := List (Str × Str)) hr rfl B.sorted (ev_set (α := List (Str × Str)) hr rfl B.set (fewO dr) (sq_l (ev_name 5 (R := Is (.list (((ords b).map (meeting b)).map eM))) rfl rs)))) (tup_kd _))) j3.sam j3.cond fun G H4 f4 tp4 np4 s4 g4 => ?_)
  have j4 := j3.from s4 g4 np4
  refine ⟨fun i σ H' => ∃ (ys : List V) (o3 : Option V), σ = [some (.ref jr), some kv, o2, o3, o4, some (.ref p), some (.ref gp), some ln, o8, o9, o10, o11, some tb, o13, o14, o15, o16, o17, o18, o19, o20, o21, o22, o23] ∧ JM jr n ((gp, .lst ys) :: ms) G H' ∧ RpA H' ys ((((setL ltK ((ords b).map (meeting b))).take i).filter (kGreat b)).map eM),
    ⟨[], o3, rfl, j4, .nil⟩, fun i σ H' ⟨_, _, _, jj, _⟩ => jj.sam, ?_, ?_⟩
  · rintro i own σ H5 H6 ov hi ⟨ys, o3, rfl, j5, ry⟩ s6 ro
    have j6 := j5.eval s6
    have ry6 := RpA.mono (sm_of s6) _ _ ry
    have rs6 : Rp H6 (.ref p) (.list (((ords b).map (meeting b)).map eM)) := Rp.mono (sm_of (f4.trans j6.sam)) _ _ rs
    refine g_name 3 sc_case.nd ?_
    refine b_one (s_if (k := kGreat b own) (EvT.is (et_eqD (n := 4) hr (ev_lcN (i := 22) (l := (ords b).map (meeting b)) (enc := eM) (f := fun far => !decide (far = own) && decide ((own.filter fun bit => !decide (bit ∈ far)) = [])) (g := eM) (defScope sCase) sc_case.nd (src_list (ev_name 5 (R := Is (.list (((ords b).map (meeting b)).map eM))) rfl rs6)) (fun m _ _ => Kd.tup m) fun far hf z H7 m7 rz => ⟨fun jj => ?_, fun _ jj => ev_name 22 rfl rz⟩) (ev_lst ea_isNil (by simp)) (shp_lst (shpA_map fun m _ => (shp_eM m).le (by decide))) (shp_lst shpA_nil)) ?_) (fun hok H7 s7 => ?_) fun hok H7 s7 => b_nil ?_)
    · have ro7 : Rp H7 ov (eM own) := Rp.mono m7 _ _ ro
      refine ets_one (ew_t (ew_and (k := !decide (far = own)) (l := decide ((own.filter fun bit => !decide (bit ∈ far)) = [])) (EvT.is (et_neD (n := 2) hr (ev_name 22 (R := Is (eM far)) rfl rz) (ev_name 3 (R := Is (eM own)) rfl ro7) (shp_eM far) (shp_eM own)) ?_) fun _ => ew_and1 (EvT.is (et_eqD (n := 2) hr (ev_lcN' (i := 23) (l := own) (enc := eP) (f := fun bit => !decide (bit ∈ far)) (g := eP) (defScope sCase) sc_case.nd (src_tup (ev_name 3 (R := Is (eM own)) rfl ro7)) (fun m _ _ => Kd.tup m) fun bit hb z2 H8 m8 rz2 => ⟨fun jj2 => ?_, fun _ jj2 => ev_name 23 rfl rz2⟩) (ev_lst ea_isNil (by simp)) (shp_lst (shpA_map fun p _ => shp_tup (shpA_cons shp_str (shpA_cons shp_str shpA_nil)))) (shp_lst shpA_nil)) ?_)))
      · rw [show PyData.eqv (eM far) (eM own) = decide (far = own) from eqv_enc (α := List (Str × Str)) far own]
      · refine ets_one (EvT.is (et_notInD (n := 1) hr (ev_name 23 rfl rz2) (sq_t (ev_name 22 (R := Is (eM far)) rfl (Rp.mono m8 _ _ rz))) (shp_tup (shpA_cons shp_str (shpA_cons shp_str shpA_nil))) (plain_eM far)) ?_)
        exact congrArg (fun k => !k) ((any_enc (α := Str × Str) far bit).trans (decide_eq_decide.mpr Iff.rfl))
      · rw [eqv_nil]
    · rw [eqv_nil]
    · have j7 := j6.eval s7
      have ry7 := RpA.mono (sm_of s7) _ _ ry6
      have yl : ys.length < 100000 := by
        rw [ry7.length, List.length_map]
        have z1 := List.length_filter_le (kGreat b) ((setL ltK ((ords b).map (meeting b))).take i)
        rw [List.length_take] at z1
        have z2 : (setL ltK ((ords b).map (meeting b))).length ≤ ((ords b).map (meeting b)).length := nd_le _ _ (asc_nodup ordK (setL_asc ordK)) fun x h => (setL_mem ordK).mp h
        rw [List.length_map] at z2
        omega
      refine b_one (s_expr (e_append (at_name 6 rfl) j7.one (R := Is (eM own)) (ev_name 3 rfl (Rp.mono (sm_of s7) _ _ ro)) yl fun u H8 s8 ru => ?_))
      have j8 := j7.eval s8
      refine ⟨ys ++ [u], _, rfl, j8.put (by intro _ z; cases z), ?_⟩
      rw [take_snoc hi, List.filter_append, List.filter_cons, if_pos hok, List.map_append]
      exact RpA.tps (tp_upd j8.one (by intro _ z; cases z)) _ _ (tupDs_append (tup_kd _) (tup_kd [own])) ((RpA.mono (sm_of s8) _ _ ry7).snoc ru)
    · refine ⟨ys, _, rfl, j6.eval s7, ?_⟩
      rw [take_snoc hi, List.filter_append, List.filter_cons, if_neg (by rw [hok]; simp), List.filter_nil, List.append_nil]
      exact RpA.mono (sm_of s7) _ _ ry6
  · rintro σ H5 ⟨ys, o3, rfl, j5, ry⟩
    rw [List.take_length, greatL_eq] at ry
    obtain ⟨F3, v1, j6, t6, hp6⟩ := j5.done
    have hkE := Rp.mono (sm_of (f4.trans v1)) _ _ hkF
    have rg : Rp F3 (.ref gp) (.list ((greatL b).map eM)) := .lst (.inl hp6) (RpA.tps t6 _ _ (tup_kd _) ry)
    have dd : PyData.depth (.list ((greatL b).map eM)) ≤ 4 := by
      have z := (shp_lst (n := 3) (shpA_map (l := greatL b) (f := eM) fun m _ => (shp_eM m).le (by decide))).2
      exact z
    refine b_one (s_ret (ev_same c2 hr (d := .list ((greatL b).map eM)) (tup_kd _) dd (ev_great c1 hr dr (ev_name 1 (R := Is (eB b)) rfl (Rp.mono j6.sm _ _ hkE))) (ev_name 6 (R := Is (.list ((greatL b).map eM))) rfl (Rp.mono j6.sm _ _ rg))) fun z H7 s7 r7 => ?_)
    obtain ⟨F4, u1, j7, t7⟩ := (j6.eval s7).wide
    exact q z F4 H7 (w1.trans (f4.trans (v1.trans u1))) j7 (Rp.tps t7 _ _ rfl r7)
end
end My
/-! L12 -/
namespace My
open PySem L2
instance {F : Hp} {d : PyData} : Mono (fun u _ => Rp F u d) := ⟨fun _ h => h⟩
section
variable {X : Cx} {σ : L2.St} {H B : Hp} {iter elt : Expr} {ifs : List Expr} {scope : Scope} {pos : Pos} {α : Type} {l : List α} {enc : α → PyData} {f : α → Bool} {g : α → PyData}
theorem e_lcF {N : List Str} {i : Nat} {x : Str} {px : Pos} {Q : VK} (sc : Scope) (nd : N.Nodup) (src : SrcAt X (.Name x px) iter σ H (l.map enc))
    (turn : ∀ y ∈ l, ∀ v H1, Same H H1 → Rp H1 v (enc y) → (∀ j, EvTs (BX X scope j) ifs (σ.set i (some v)) H1 (f y)) ∧ (f y = true → ∀ j, Ev (BX X scope j) elt (σ.set i (some v)) H1 (fun u _ => Rp B u (g y))))
    (k : ∀ p xs H2, Same H H2 → H p = none → H2 p = some (.lst xs) → RpA B xs ((l.filter f).map g) → Q (.ref p) H2)
    (hN : X.N = N := by rfl) (hsc : X.env.scope = sc := by rfl) (ok : blkC N sc scope [(x, i)] = true := by decide +kernel) (hi : N[i]? = some x := by rfl)
    (hx : (relS scope sc).names.lookup x = some .local ∨ ((relS scope sc).names.lookup x = some .cell ∧ (scope.names.lookup x == some .cell) = true) := by first | exact .inl (by rfl) | exact .inr ⟨by rfl, by rfl⟩)
    (hc : X.calm = true := by rfl) (hs : ∀ x, foldedSetIterable iter X.env x = pure x := by intro _; rfl) : wE X (.ListComp elt [⟨.Name x px, iter, ifs, 0⟩] scope pos) σ H Q :=
  we (pe_lc (own := [(x, i)]) hc (by rw [hN]; exact nd) (pi_w _ iter) (blkOk_by (by rw [hN, hsc]; exact ok)) (tt := jTs X scope ifs) (te := jE X scope elt) (g := jG X scope (.Name x px)) (fun s H C cl fp => ⟨fun pins s' σ H v u Q I r h => h (s, _, C, cl, fp) pins s' u I r⟩) (fun s H C cl fp => ⟨fun pins s' σ H Q I h => h (s, _, C, cl, fp) pins s' I⟩)
    (fun s H C cl fp => ⟨fun pins s' σ H Q I h => h (s, _, C, cl, fp) pins s' I⟩) hs) (lc_atF src (fun y hy v H1 s r => lt_name nd hN hi hsc hx (turn y hy v H1 s r).1 (turn y hy v H1 s r).2) Q k)
end
theorem allMeet_nil (b : Blk) (ps : List (Str × Str)) (o : List Str) : decide ((ps.filter fun p => !meets b o p.1 p.2) = []) = allMeet b ps o := by
  unfold allMeet
  rw [Bool.eq_iff_iff, decide_eq_true_eq, List.filter_eq_nil_iff, List.all_eq_true]
  simp
theorem range_count {α : Type} (l : List α) (d : α) (P : α → Bool) : ((List.range l.length).filter fun k => P (l.getD k d)).length = (l.filter P).length := by
  conv => rhs; rw [← range_getD l d]
  rw [List.filter_map, List.length_map]
  rfl
theorem apart_meets {b : Blk} (dr : Drawn b) {o : List Str} (ho : IsOrd b o) {p : Str × Str} (h1 : p.1 ∈ awaited b) (h2 : p.2 ∈ awaited b) (ne : p.1 ≠ p.2) : apartB b o p 1000 = !meets b o p.1 p.2 := by
  have z := end_two dr.wf ho h1 h2 ne (M := 1000) (by rw [ho.size]; have := dr.le; omega)
  rw [ho.size] at z
  exact z
theorem rows_same {b : Blk} {p q : Str × Str} (h : ∀ o, meets b o q.1 q.2 = meets b o p.1 p.2) : rowD b q = rowD b p := by
  unfold rowD
  simp only [h]
theorem eqv_strs (a c : List Str) : PyData.eqv (eN a) (eN c) = decide (a = c) := eqv_enc (α := List Str) a c
section
variable {P : Program} {w : World} {K : PySem.W.Frag} {mg : Str → Option Value} {base : Heap}
theorem ev_CAM {X : Cx} {σ : L2.St} {H : Hp} {e e2 : Expr} {p pos : Pos} {j : Nat} {b : Blk} {ps : List (Str × Str)} (c : CCAM X.prog X.w X.K X.mg X.base) (hr : Room j X.A) (wf : WF b) (hps : PairsOk b ps) (h : Ev X e σ H (Is (eB b))) (h2 : Ev X e2 σ H (Is (eM ps))) (hk : 11 ≤ j := by decide) (hg : Gl X "can_all_meet" := by rfl)
    (he : starEach [e, e2] X.env = (false, eval e X.env) :: starEach [e2] X.env := by rfl) (he2 : starEach [e2] X.env = (false, eval e2 X.env) :: starEach [] X.env := by rfl) (hpl : (backTo pos (starEach [e2] X.env)).any (·.1) = false := by rfl) : Ev X (.Call (.Name "can_all_meet" p) [e, e2] [] pos) σ H (Is (.bool (orderM b ps).isSome)) :=
  ev_pf (b, ps) c hr (ea_is h (ea_is h2 ea_isNil he2) he) (fun vs H1 _ t => ⟨t, wf, hps⟩) hk hg (by decide) he hpl
theorem ev_how {X : Cx} {σ : L2.St} {H : Hp} {e e2 : Expr} {p pos : Pos} {j : Nat} {b : Blk} {ps : List (Str × Str)} (c : CHow X.prog X.w X.K X.mg X.base) (hr : Room j X.A) (wf : WF b) (hps : PairsOk b ps) (h : Ev X e σ H (Is (eB b))) (h2 : Ev X e2 σ H (Is (eM ps))) (hk : 10 ≤ j := by decide) (hg : Gl X "how_many_meeting" := by rfl)
    (he : starEach [e, e2] X.env = (false, eval e X.env) :: starEach [e2] X.env := by rfl) (he2 : starEach [e2] X.env = (false, eval e2 X.env) :: starEach [] X.env := by rfl) (hpl : (backTo pos (starEach [e2] X.env)).any (·.1) = false := by rfl) : Ev X (.Call (.Name "how_many_meeting" p) [e, e2] [] pos) σ H (Is (.int (howM b ps))) :=
  ev_pf (b, ps) c hr (ea_is h (ea_is h2 ea_isNil he2) he) (fun vs H1 _ t => ⟨t, wf, hps⟩) hk hg (by decide) he hpl
theorem tup_orderMD (b : Blk) (ps : List (Str × Str)) : tupD (orderMD b ps) = true := by
  unfold orderMD
  split
  · exact tupD_names _
  · rfl
theorem case_laps (B : Blt mg) (c1 : CGreat P w K mg base) (c2 : CSame 4 P w K mg base) (c3 : CPairs P w K mg base) (c4 : COM P w K mg base) (c5 : CCAM P w K mg base) (c6 : CHow P w K mg base) (c7 : CApart P w K mg base) {f : Addr} {cdv : Value} {Ar : Around} {outer : List Env} {s : Shared} {H0 H F : Hp} {Q : VK} {E : XK} {b : Blk} {jr : Addr} {n : Nat} {ms : List (Addr × HO)} {kv ln tb wv : V} {o2 o3 o4 o5 o6 o8 o9 o13 o14 o15 o16 o17 o18 o19 o20 o21 o22 o23 : Option V}
    (hr : Room 40 (XCase P w K mg base f cdv Ar outer s H0 E).A) (dr : Drawn b) (j : JM jr (n + 50) ms F H) (hk : Rp F kv (eB b)) (hl : Rp F ln (.list ((ords b).map eN))) (hw : Rp F wv (.list ((awaited b).map .str))) (ht : DT (tabM b (twos (awaited b))) tb F) (q : ∀ v F' H', Same F F' → JM jr n ms F' H' → Is (.bool true) v F' → Q v H') :
    wB (XCase P w K mg base f cdv Ar outer s H0 E) ((defBody sCase).drop 4) { nx := fun _ H' => Q .non H', rt := Q } [some (.ref jr), some kv, o2, o3, o4, o5, o6, some ln, o8, o9, some (.int 1000), some wv, some tb, o13, o14, o15, o16, o17, o18, o19, o20, o21, o22, o23] H := by
  have wf := dr.wf
  have asc := awaited_asc wf
  have nda : (awaited b).Nodup := asc_nodup ordK asc
  have aw8 : (awaited b).length ≤ 8 := by
    have z := (awaited_sublist b).length_le
    rw [List.length_map] at z
    have := dr.le
    omega
  have lo : ((ords b).map eN).length = (ords b).length := List.length_map _
  have l6 : (ords b).length ≤ 46656 := by
    rw [← lines_ords wf]
    exact Nat.le_trans (linesN_len wf _) (Nat.le_trans (Nat.pow_le_pow_right (n := 6) (by decide) wf.few) (by decide))
  refine b_cons (s_forR (n := 2) ev_int (by decide) B.range
    (fun i σ H' => ∃ (F' : Hp) (o3 o4 o15 o16 o17 o18 o19 : Option V), σ = [some (.ref jr), some kv, o2, o3, o4, o5, o6, some ln, o8, o9, some (.int 1000), some wv, some tb, o13, o14, o15, o16, o17, o18, o19, o20, o21, o22, o23] ∧ Same F F' ∧ JM jr (n + 25 * (2 - i)) ms F' H')
    (fun H1 s1 => ⟨F, o3, o4, o15, o16, o17, o18, o19, rfl, Same.refl _, j.eval s1⟩) ?_ ?_)
  · rintro i σ H1 hi ⟨F1, o3, o4, o15, o16, o17, o18, o19, rfl, sF, j1⟩
    refine g_name 4 sc_case.nd ?_
    have cst : n + 25 * (2 - i) = (n + 25 * (2 - (i + 1))) + 25 := by omega
    rw [cst] at j1
    generalize n + 25 * (2 - (i + 1)) = n1 at j1
    refine b_cons (s_setJ (n := n1) (k := 25) 15 sc_case.nd (ej_call (k2 := 0) c3 hr (awaited b) (fun H => at_name 0 rfl) (T := fun us F' => us = [wv, .int 3])
      (EvAJ.weak (eaj_cons (k := 0) (k2 := 0) (ej_name 11 (R := Eqv wv) rfl rfl) fun F2 s2 => eaj_one (ej_tup (d := .int 3) ev_int rfl)) fun vs H ⟨v', us, e, r, u, e2, r2⟩ => by rw [e, e2, is_int r2, show v' = wv from r]) (fun us F' sF' h => ⟨wv, h, Rp.mono (sm_of (sF.trans sF')) _ _ hw, aw8, nda⟩)) j1 fun pv F2 H2 s2 j2 ⟨ps, rp, hp3, hps⟩ => ?_)
    have rp : Rp F2 pv (eM ps) := rp
    have nms : ∀ p ∈ ps, p.1 ∈ names b ∧ p.2 ∈ names b := fun p hp => ⟨awaited_in (hps p hp).1, awaited_in (hps p hp).2.1⟩
    have pok : PairsOk b ps := ⟨by omega, nms⟩
    have sF2 := sF.trans s2
    have ht2 : DT (tabM b (twos (awaited b))) tb F2 := Mono.up (sm_of sF2) ht
    refine b_cons (s_setW 16 sc_case.nd (e_lcF (B := F2) (i := 3) (l := ps) (enc := eP) (f := fun _ => true) (g := rowD b) (defScope sCase) sc_case.nd (srcAt_of (src_tup (ev_name 15 (R := Is (eM ps)) rfl (Rp.mono j2.sm _ _ rp)))) (fun p hp v H3 s3 rv => ⟨fun jj => ets_nil, fun _ jj => ?_⟩) fun rw0 xs H3 s3 f3 h3 hx3 => ?_))
    · obtain ⟨a1, a2, a3⟩ := hps p hp
      obtain ⟨q0, hq, e1, e2⟩ := pair_sorted wf a1 a2 a3
      rw [← rows_same e2]
      refine ev_dtF (x := kP q0) hr (j2.sm.trans (sm_of s3)) ht2 (ev_name 12 (R := Eqv tb) rfl rfl) (Ev.is (ev_tuple B.tuple (sq_l (ev_sorted (as := [p.1, p.2]) hr B.sorted (sq_t (ev_name 3 (R := Is (eP p)) rfl rv))))) ?_) (look_tabM hq)
      rw [e1]
      rfl
    rw [List.filter_eq_self.mpr (fun _ _ => rfl)] at hx3
    obtain ⟨F3, v1, j3, t3, hp3'⟩ := (j2.add s3 f3 h3 (by intro _ z; cases z)).done
    have hx3F : RpA F3 xs (ps.map (rowD b)) := RpA.mono (sm_of v1) _ _ hx3
    have sF3 := sF2.trans v1
    have hl3 : Rp F3 ln (.list ((ords b).map eN)) := Rp.mono (sm_of sF3) _ _ hl
    have rp3 : Rp F3 pv (eM ps) := Rp.mono (sm_of v1) _ _ rp
    generalize hm : ((ords b).filter (allMeet b ps)).length = m
    refine b_cons (s_setJ (n := n1) (k := 0) 17 sc_case.nd (ej_tup (d := .int (m : Nat)) (Ev.is (ev_len B.len (sq_l (ev_lcN (i := 19) (l := List.range (ords b).length) (enc := fun k => .int (k : Nat)) (f := fun k => decide ((ps.filter fun p => !meets b ((ords b).getD k []) p.1 p.2) = [])) (g := fun k => .int (k : Nat)) (defScope sCase) sc_case.nd (src_range (Ev.is (ev_len B.len (sq_l (ev_name 7 (R := Is (.list ((ords b).map eN))) rfl hl3))) (by rw [lo])) (by omega) B.range) (fun k _ _ => by simp [tupD]) fun k hk0 y H4 m4 ry => ⟨fun jj => ?_, fun _ jj => ev_name 19 rfl ry⟩))) ?_) rfl) (j3.le (by omega)) fun mv F4 H4 s4 j4 rm => ?_)
    · have hkl : k < (ords b).length := List.mem_range.mp hk0
      have ek : (ords b)[k]? = some ((ords b).getD k []) := by rw [List.getD_eq_getElem?_getD, List.getElem?_eq_getElem hkl]; rfl
      refine ets_one (EvT.is (et_eqD (n := 4) hr (ev_lcV' (B := F3) (i := 3) (l := ps) (enc := rowD b) (f := fun p => !meets b ((ords b).getD k []) p.1 p.2) (g := rowD b) (defScope sCase) sc_case.nd m4 (ev_name 16 (R := Eqv (.ref rw0)) rfl rfl) (.inl hp3') hx3F fun p hp v H5 m5 rv => ⟨fun jj2 => ?_, fun _ jj2 => ev_name 3 rfl rv⟩) (ev_lst ea_isNil (by simp)) (shp_lst (shpA_map fun p _ => (shp_lst (n := 2) (shpA_map fun o _ => shp_bool)).le (by decide))) (shp_lst shpA_nil)) (by rw [eqv_nil]))
      exact ets_one (et_not (et_val (ev_ixL (i := (k : Int)) (ds := (ords b).map fun o => .bool (meets b o p.1 p.2)) (ev_name 3 (R := Is (rowD b p)) rfl (Rp.mono (m4.trans m5) _ _ rv)) (ev_name 19 (R := Is (.int (k : Nat))) rfl (Rp.mono m5 _ _ ry)) (atI_of (by rw [List.getElem?_map, ek]; rfl)))))
    · rw [List.length_map, ← hm, ← range_count (ords b) [] (allMeet b ps)]
      simp only [allMeet_nil]
    have em : mv = .int (m : Nat) := is_int rm
    subst em
    have sF4 := sF3.trans s4
    have hk4 : Rp F4 kv (eB b) := Rp.mono (sm_of sF4) _ _ hk
    have rp4 : Rp F4 pv (eM ps) := Rp.mono (sm_of s4) _ _ rp3
    refine b_cons (s_setJ (n := n1) (k := 0) 18 sc_case.nd (ej_tup (ev_OM c4 hr wf pok (ev_name 1 (R := Is (eB b)) rfl hk4) (ev_name 15 (R := Is (eM ps)) rfl rp4)) (tup_orderMD b ps)) (j4.le (by omega)) fun tv F5 H5 s5 j5 rt => ?_)
    have rt : Rp F5 tv (orderMD b ps) := rt
    have sF5 := sF4.trans s5
    have hk5 : Rp H5 kv (eB b) := Rp.mono ((sm_of sF5).trans j5.sm) _ _ hk
    have rp5 : Rp H5 pv (eM ps) := Rp.mono ((sm_of s5).trans j5.sm) _ _ rp4
    have rt5 : Rp H5 tv (orderMD b ps) := Rp.mono j5.sm _ _ rt
    have hl5 : Rp H5 ln (.list ((ords b).map eN)) := Rp.mono ((sm_of sF5).trans j5.sm) _ _ hl
    have some_eq := orderM_isSome wf nms
    rw [hm] at some_eq
    have how_eq := howM_eq wf nms
    rw [hm] at how_eq
    refine b_cons (s_if (k := false) (et_not (et_val (ev_same c2 hr (d := .list [.bool (decide (0 < m)), .int (m : Nat), .bool (decide (m = 0))]) (by simp [flatD, tupDs, tupD]) (by simp [PyData.depth, PyData.depthAll])
      (Ev.is (ev_lst (ea_is (ev_CAM c5 hr wf pok (ev_name 1 (R := Is (eB b)) rfl hk5) (ev_name 15 (R := Is (eM ps)) rfl rp5)) (ea_is (ev_how c6 hr wf pok (ev_name 1 (R := Is (eB b)) rfl hk5) (ev_name 15 (R := Is (eM ps)) rfl rp5)) (ea_is (ev_isNone (ev_name 18 (R := Is (orderMD b ps)) rfl rt5)) ea_isNil))) (by simp)) ?_)
      (Ev.is (ev_lst (ea_is (ev_gt (ev_name 17 (R := Is (.int (m : Nat))) rfl (.int _)) ev_int) (ea_is (ev_name 17 (R := Is (.int (m : Nat))) rfl (.int _)) (ea_is (ev_eq (n := 0) hr (ev_name 17 (R := Is (.int (m : Nat))) rfl (.int _)) ev_int shp_int shp_int) ea_isNil))) (by simp)) ?_)))) (fun z => by cases z) fun _ H6 s6 => b_nil ?_)
    · rw [orderMD_none, some_eq, how_eq]
      have e : (!decide (0 < m)) = decide (m = 0) := by
        rw [Bool.eq_iff_iff]
        simp
      rw [e]
    · rw [eqv_ints]
      have e1 : decide ((0 : Int) < (m : Int)) = decide (0 < m) := by
        rw [decide_eq_decide]
        omega
      have e2 : decide ((m : Int) = 0) = decide (m = 0) := by
        rw [decide_eq_decide]
        omega
      rw [e1, e2]
    have j6 := j5.eval s6
    have rt6 : Rp H6 tv (orderMD b ps) := Rp.mono (sm_of s6) _ _ rt5
    have hk6 := Rp.mono (sm_of s6) _ _ hk5
    have rp6 := Rp.mono (sm_of s6) _ _ rp5
    have hl6 := Rp.mono (sm_of s6) _ _ hl5
    refine b_one (s_if (k := false) ?_ (fun z => by cases z) fun _ H7 s7 => b_nil ⟨F5, _, _, _, _, _, _, _, rfl, sF5, j6.eval s7⟩)
    cases eo : orderM b ps with
    | none =>
      have e : orderMD b ps = .none := by unfold orderMD; rw [eo]
      rw [e] at rt6
      exact EvT.is (ew_t (ew_and (k := false) (l := false) (et_notN (ev_name 18 (R := Is .none) rfl rt6)) fun z => by cases z)) rfl
    | some o =>
      have e : orderMD b ps = eN o := by unfold orderMD; rw [eo]
      rw [e] at rt6
      obtain ⟨ho1, ho2⟩ := List.mem_filter.mp (orderM_mem wf nms eo)
      have io := (mem_ords wf).mp ho1
      refine EvT.is (ew_t (ew_and (k := true) (l := false) (et_notN (ev_name 18 (R := Is (eN o)) rfl rt6)) fun _ => ew_and1 (EvT.is (ew_t (ew_or (k := false) (l := false) (EvT.is (et_notInD (n := 4) hr (ev_name 18 (R := Is (eN o)) rfl rt6) (sq_l (ev_name 7 (R := Is (.list ((ords b).map eN))) rfl hl6)) ((shp_names (n := 0) o).le (by decide)) (shpA_map (n := 1) fun o _ => shp_names o).1) ?_) fun _ => ew_or1 (EvT.is (et_neD (n := 4) hr (ev_lcN (i := 3) (l := ps) (enc := eP) (f := fun p => apartB b o p 1000) (g := eP) (defScope sCase) sc_case.nd (src_tup (ev_name 15 (R := Is (eM ps)) rfl rp6)) (fun p _ _ => Kd.tup p) fun p hp v H7 m7 rv => ⟨fun jj => ?_, fun _ jj => ev_name 3 rfl rv⟩) (ev_lst ea_isNil (by simp)) (shp_lst (shpA_map fun p _ => (shp_tup (n := 0) (shpA_cons shp_str (shpA_cons shp_str shpA_nil))).le (by decide))) (shp_lst shpA_nil)) ?_))) rfl))) rfl
      · have z : (((ords b).map eN).any fun z => PyData.eqv z (eN o)) = true := by
          rw [List.any_map]
          exact List.any_eq_true.mpr ⟨o, ho1, by show PyData.eqv (eN o) (eN o) = true; rw [eqv_strs]; simp⟩
        rw [z]
        rfl
      · have a3 := (hps p hp).2.2
        exact ets_one (et_val (ev_apart c7 hr wf io a3 (ev_name 1 (R := Is (eB b)) rfl (Rp.mono m7 _ _ hk6)) (ev_name 18 (R := Is (eN o)) rfl (Rp.mono m7 _ _ rt6)) (ev_name 3 (R := Is (eP p)) rfl rv) (ev_name 10 (R := Is (.int 1000)) rfl (.int _))))
      · rw [eqv_nil]
        have z : (ps.filter fun p => apartB b o p 1000) = [] := List.filter_eq_nil_iff.mpr fun p hp => by
          obtain ⟨a1, a2, a3⟩ := hps p hp
          rw [apart_meets dr io a1 a2 a3]
          have := List.all_eq_true.mp ho2 p hp
          rw [this]
          simp
        rw [z]
        rfl
  · rintro σ H1 ⟨F1, o3, o4, o15, o16, o17, o18, o19, rfl, sF, j1⟩
    refine case_tail B c1 c2 hr dr (n := n) (j1.le (by omega)) (Rp.mono (sm_of sF) _ _ hk) (Rp.mono (sm_of sF) _ _ hl) (Mono.up (sm_of sF) ht) fun v F' H' sf jj r => q v F' H' (sF.trans sf) jj r
end
end My
/-! L13 -/
namespace My
open PySem L2
theorem exists_maxI : ∀ ns : List Int, ns ≠ [] → ∃ m ∈ ns, ∀ y ∈ ns, y ≤ m
  | [], h => absurd rfl h
  | [x], _ => ⟨x, List.mem_cons_self, fun y hy => by rw [List.mem_singleton.mp hy]; exact Int.le_refl _⟩
  | x :: z :: l, _ => by
    obtain ⟨m, hm, h⟩ := exists_maxI (z :: l) (by simp)
    rcases Int.le_total x m with c | c
    · refine ⟨m, List.mem_cons_of_mem _ hm, fun y hy => ?_⟩
      rcases List.mem_cons.mp hy with e | hy
      · rw [e]; exact c
      · exact h y hy
    · refine ⟨x, List.mem_cons_self, fun y hy => ?_⟩
      rcases List.mem_cons.mp hy with e | hy
      · rw [e]; exact Int.le_refl _
      · exact Int.le_trans (h y hy) c
section
variable {P : Program} {w : World} {K : PySem.W.Frag} {mg : Str → Option Value} {base : Heap}
theorem ev_gap {X : Cx} {σ : L2.St} {H : Hp} {e e2 : Expr} {p pos : Pos} {j : Nat} {b : Blk} {x : Str} (c : CGap X.prog X.w X.K X.mg X.base) (hr : Room j X.A) (wf : WF b) (hx : x ∈ names b) (h : Ev X e σ H (Is (eB b))) (h2 : Ev X e2 σ H (Is (.str x))) (hk : 10 ≤ j := by decide) (hg : Gl X "greatest_gap" := by rfl)
    (he : starEach [e, e2] X.env = (false, eval e X.env) :: starEach [e2] X.env := by rfl) (he2 : starEach [e2] X.env = (false, eval e2 X.env) :: starEach [] X.env := by rfl) (hpl : (backTo pos (starEach [e2] X.env)).any (·.1) = false := by rfl) : Ev X (.Call (.Name "greatest_gap" p) [e, e2] [] pos) σ H (Is (gapD b x)) :=
  ev_pf (b, x) c hr (ea_is h (ea_is h2 ea_isNil he2) he) (fun vs H1 _ t => ⟨t, wf, hx⟩) hk hg (by decide) he hpl
theorem ev_canM {X : Cx} {σ : L2.St} {H : Hp} {e e2 e3 : Expr} {p pos : Pos} {j : Nat} {b : Blk} {x y : Str} (c : CCanM X.prog X.w X.K X.mg X.base) (hr : Room j X.A) (wf : WF b) (hx : x ∈ names b) (hy : y ∈ names b) (h : Ev X e σ H (Is (eB b))) (h2 : Ev X e2 σ H (Is (.str x))) (h3 : Ev X e3 σ H (Is (.str y))) (hk : 11 ≤ j := by decide) (hg : Gl X "can_meet" := by rfl)
    (he : starEach [e, e2, e3] X.env = (false, eval e X.env) :: starEach [e2, e3] X.env := by rfl) (he2 : starEach [e2, e3] X.env = (false, eval e2 X.env) :: starEach [e3] X.env := by rfl) (he3 : starEach [e3] X.env = (false, eval e3 X.env) :: starEach [] X.env := by rfl) (hpl : (backTo pos (starEach [e2, e3] X.env)).any (·.1) = false := by rfl) : Ev X (.Call (.Name "can_meet" p) [e, e2, e3] [] pos) σ H (Is (.bool (canM b x y))) :=
  ev_pf (b, x, y) c hr (ea_is h (ea_is h2 (ea_is h3 ea_isNil he3) he2) he) (fun vs H1 _ t => ⟨t, wf, hx, hy⟩) hk hg (by decide) he hpl
theorem evN_twos {X : Cx} {σ : L2.St} {H : Hp} {e : Expr} {p pos : Pos} {j : Nat} {xs : List Str} (c : CTwos X.prog X.w X.K X.mg X.base) (hr : Room j X.A) (hz : xs.length ≤ 8) (h : Ev X e σ H (Is (.list (xs.map .str)))) (hk : 1 ≤ j := by decide) (hg : Gl X "_law_twos" := by rfl) (he : starEach [e] X.env = (false, eval e X.env) :: starEach [] X.env := by rfl) (hpl : (backTo pos (starEach [] X.env)).any (·.1) = false := by rfl) :
    EvN X (.Call (.Name "_law_twos" p) [e] [] pos) σ H ((twos xs).map eP) := ev_pl xs c hr (ea_is h ea_isNil he) (fun vs H1 _ t => ⟨t, hz⟩) hk hg (by decide) he hpl
theorem evN_lines {X : Cx} {σ : L2.St} {H : Hp} {e : Expr} {p pos : Pos} {j : Nat} {b : Blk} (c : CLines X.prog X.w X.K X.mg X.base) (hr : Room j X.A) (wf : WF b) (h : Ev X e σ H (Is (eB b))) (hk : 1 ≤ j := by decide) (hg : Gl X "_law_lines" := by rfl) (he : starEach [e] X.env = (false, eval e X.env) :: starEach [] X.env := by rfl) (hpl : (backTo pos (starEach [] X.env)).any (·.1) = false := by rfl) :
    EvN X (.Call (.Name "_law_lines" p) [e] [] pos) σ H ((ords b).map eN) := (ev_pl b c hr (ea_is h ea_isNil he) (fun vs H1 _ t => ⟨t, wf⟩) hk hg (by decide) he hpl).is (by rw [lines_ords wf])
theorem tabM_take {b : Blk} {ps : List (Str × Str)} {i : Nat} {p : Str × Str} (h : ps[i]? = some p) (nd : ps.Nodup) : putT (tabM b (ps.take i)) (kP p) (rowD b p) = tabM b (ps.take (i + 1)) := by
  rw [take_snoc h]
  refine putT_new fun hm => ?_
  obtain ⟨k, hk, e⟩ := List.mem_take_iff_getElem.mp hm
  have h1 : ps[k]? = some p := by rw [List.getElem?_eq_getElem (by omega), e]
  have := (List.getElem?_inj (by omega) nd).mp (h1.trans h.symm)
  omega
/-- the fourth statement on -/
theorem case_pairs (B : Blt mg) (c1 : CGreat P w K mg base) (c2 : CSame 4 P w K mg base) (c3 : CPairs P w K mg base) (c4 : COM P w K mg base) (c5 : CCAM P w K mg base) (c6 : CHow P w K mg base) (c7 : CApart P w K mg base) (c8 : CTwos P w K mg base) (c9 : CCanM P w K mg base) {f : Addr} {cdv : Value} {Ar : Around} {outer : List Env} {s : Shared} {H0 H F : Hp} {Q : VK} {E : XK} {b : Blk} {jr tp : Addr} {n : Nat} {ms : List (Addr × HO)} {kv ln wv : V} {o2 o3 o4 o5 o6 o8 o9 o13 o14 o15 o16 o17 o18 o19 o20 o21 o22 o23 : Option V}
    (hr : Room 40 (XCase P w K mg base f cdv Ar outer s H0 E).A) (dr : Drawn b) (j : JM jr (n + 50) ((tp, .dT []) :: ms) F H) (hk : Rp F kv (eB b)) (hl : Rp F ln (.list ((ords b).map eN))) (hw : Rp F wv (.list ((awaited b).map .str))) (q : ∀ v F' H', Same F F' → JM jr n ms F' H' → Is (.bool true) v F' → Q v H') :
    wB (XCase P w K mg base f cdv Ar outer s H0 E) ((defBody sCase).drop 3) { nx := fun _ H' => Q .non H', rt := Q } [some (.ref jr), some kv, o2, o3, o4, o5, o6, some ln, o8, o9, some (.int 1000), some wv, some (.ref tp), o13, o14, o15, o16, o17, o18, o19, o20, o21, o22, o23] H := by
  have wf := dr.wf
  have aw8 : (awaited b).length ≤ 8 := by
    have z := (awaited_sublist b).length_le
    rw [List.length_map] at z
    have := dr.le
    omega
  have t64 : (twos (awaited b)).length ≤ 64 := Nat.le_trans (twos_le _) (Nat.mul_le_mul aw8 aw8)
  refine b_cons (s_for (F := F) (ps := jr :: ((tp, HO.dT []) :: ms).map (·.1)) (l := twos (awaited b)) (enc := eP) (srcF_list (evF_new (evN_twos c8 hr aw8 (ev_name 11 (R := Is (.list ((awaited b).map .str))) rfl hw)) (tup_kd _))) j.sam j.cond fun G H1 f1 tp1 np1 s1 g1 => ?_)
  have j1 := j.from s1 g1 np1
  refine ⟨fun i σ H' => ∃ (F' : Hp) (kvs : List (List Key × V)) (o3 : Option V), σ = [some (.ref jr), some kv, o2, o3, o4, o5, o6, some ln, o8, o9, some (.int 1000), some wv, some (.ref tp), o13, o14, o15, o16, o17, o18, o19, o20, o21, o22, o23] ∧ Same G F' ∧ JM jr (n + 50) ((tp, .dT kvs) :: ms) F' H' ∧ KtA F' kvs (tabM b ((twos (awaited b)).take i)),
    ⟨G, [], o3, rfl, Same.refl _, j1, .nil⟩, fun i σ H' ⟨_, _, _, _, sg, jj, _⟩ => sg.trans jj.sam, ?_, ?_⟩
  · rintro i p σ H2 H3 pv hp ⟨F2, kvs, o3, rfl, sg, j2, kt⟩ s3 rp
    have hpm : p ∈ twos (awaited b) := List.mem_of_getElem? hp
    obtain ⟨a1, a2⟩ := twosMem hpm
    have ne := lt_ne (twos_lt (awaited_asc wf) hpm)
    obtain ⟨F3, w3, j3, t3⟩ := (j2.eval s3).wide
    have rp3 : Rp F3 pv (eP p) := Rp.tps t3 _ _ (Kd.tup p) rp
    have kt3 := kt.mono (sm_of w3)
    have sF3 : Same F F3 := f1.trans (sg.trans w3)
    have hk3 := Rp.mono (sm_of sF3) _ _ hk
    have hl3 := Rp.mono (sm_of sF3) _ _ hl
    have kl : kvs.length < 100000 := by
      have z := kt.length
      unfold tabM at z
      rw [List.length_map, List.length_take] at z
      omega
    refine g_name 3 sc_case.nd ?_
    refine b_cons (s_dputTW (x := kP p) hr (fun H => at_name 12 rfl) (EvJ.go (n := n + 50) (k := 0) (ej_new (evN_lc (i := 21) (l := ords b) (enc := eN) (f := fun _ => true) (g := fun o => .bool (meets b o p.1 p.2)) (defScope sCase) sc_case.nd (src_list (ev_name 7 (R := Is (.list ((ords b).map eN))) rfl hl3)) (fun _ _ _ => by simp [tupD]) fun o ho v H4 m4 rv => ⟨fun jj => ets_nil, fun _ jj => Ev.is (ev_not (ev_apart (o := o) (pr := p) (M := 1000) c7 hr wf ((mem_ords wf).mp ho) ne (ev_name 1 (R := Is (eB b)) rfl (Rp.mono m4 _ _ hk3)) (ev_name 21 rfl rv) (ev_name 3 (R := Is (eP p)) rfl (Rp.mono m4 _ _ rp3)) (ev_name 10 (R := Is (.int 1000)) rfl (.int _)))) (by rw [apart_meets dr ((mem_ords wf).mp ho) a1 a2 ne, Bool.not_not])⟩)
      (tupDs_map fun _ _ => by simp [tupD])) (j3.le (by omega)) fun rv F4 H4 s4 j4 rr => ⟨kvs, j4.one, kl, ev_name 3 (R := Is (eP p)) rfl (Rp.mono ((sm_of s4).trans j4.sm) _ _ rp3), fun H5 s5 => ?_⟩))
    have rr : Rp F4 rv (.list (((ords b).filter fun _ => true).map fun o => .bool (meets b o p.1 p.2))) := rr
    rw [List.filter_eq_self.mpr (fun _ _ => rfl)] at rr
    have rr : Rp F4 rv (rowD b p) := rr
    have j6 := (j4.eval s5).put (o' := .dT (putK kvs ((kP p).map .inr) rv)) (by intro _ z; cases z)
    generalize hH6 : upd H5 tp (HO.dT (putK kvs ((kP p).map .inr) rv)) = H6 at j6
    have kt6 : KtA F4 (putK kvs ((kP p).map .inr) rv) (tabM b ((twos (awaited b)).take (i + 1))) := by
      rw [← tabM_take hp (twos_nodup wf)]
      exact (kt3.mono (sm_of s4)).put (kP p) rr
    have hk6 : Rp H6 kv (eB b) := Rp.mono ((sm_of s4).trans j6.sm) _ _ hk3
    have rp6 : Rp H6 pv (eP p) := Rp.mono ((sm_of s4).trans j6.sm) _ _ rp3
    have dt6 : DT (tabM b ((twos (awaited b)).take (i + 1))) (.ref tp) H6 := ⟨tp, _, rfl, .inl j6.one, kt6.mono j6.sm⟩
    have hin : p ∈ (twos (awaited b)).take (i + 1) := by
      rw [take_snoc hp]
      exact List.mem_append_right _ (List.mem_singleton.mpr rfl)
    refine b_one (s_if (k := false) (et_not (et_val (ev_same c2 hr (d := .bool (canM b p.2 p.1)) rfl (by simp [PyData.depth]) (ev_canM c9 hr wf (awaited_in a2) (awaited_in a1) (ev_name 1 (R := Is (eB b)) rfl hk6) (ev_ixT (i := 1) (ev_name 3 (R := Is (eP p)) rfl rp6) ev_int rfl) (ev_ixT (i := 0) (ev_name 3 (R := Is (eP p)) rfl rp6) ev_int rfl))
      (Ev.is (ev_inD (n := 0) (ds := (ords b).map fun o => .bool (meets b o p.1 p.2)) hr ev_bl (sq_l (ev_dt (m := tabM b ((twos (awaited b)).take (i + 1))) (x := kP p) (d := rowD b p) hr (ev_name 12 rfl dt6) (ev_name 3 (R := Is (eP p)) rfl rp6) (look_tabM hin))) shp_bool (shpA_map (n := 0) fun o _ => shp_bool).1) ?_)))) (fun z => by cases z) fun _ H7 s7 => b_nil ⟨F4, _, _, rfl, sg.trans (w3.trans s4), j6.eval s7, kt6⟩)
    rw [can_told wf hpm, List.any_map, List.any_map]
    congr 2
    funext o
    show PyData.eqv (.bool (meets b o p.1 p.2)) (.bool true) = meets b o p.1 p.2
    cases meets b o p.1 p.2 <;> simp [PyData.eqv]
  · rintro σ H2 ⟨F2, kvs, o3, rfl, sg, j2, kt⟩
    rw [List.take_length] at kt
    obtain ⟨F3, w3, j3, t3, hp3⟩ := j2.done
    have sF3 : Same F F3 := f1.trans (sg.trans w3)
    exact case_laps B c1 c2 c3 c4 c5 c6 c7 hr dr j3 (Rp.mono (sm_of sF3) _ _ hk) (Rp.mono (sm_of sF3) _ _ hl) (Rp.mono (sm_of sF3) _ _ hw) ⟨tp, kvs, rfl, .inl hp3, kt.mono (sm_of w3)⟩ fun v F' H' sf jj r => q v F' H' (sF3.trans sf) jj r
end
end My
/-! D19 -/
namespace My
open PySem L2
section
variable {X : Cx} {σ : L2.St} {H : Hp} {D : Ends} {pos : Pos}
theorem s_brk (q : D.bk σ H) : wS X (.Break pos) D σ H := ws ps_break q
end
theorem EvN.go {X : Cx} {σ : L2.St} {H : Hp} {e : Expr} {ds : List PyData} {Q : VK} (h : EvN X e σ H ds) (k : ∀ p xs H2, Same H H2 → H p = none → H2 p = some (.lst xs) → RpA H2 xs ds → Q (.ref p) H2) : wE X e σ H Q := h H (Sm.refl _) Q k
theorem leastN_len {b : Blk} : ∀ k, (leastN b k).length = k
  | 0 => rfl
  | k + 1 => by
    show (leastN b k ++ [_]).length = _
    rw [List.length_append, leastN_len k]
    rfl
section
variable {P : Program} {w : World} {K : PySem.W.Frag} {mg : Str → Option Value} {base : Heap}
/-! ### order_at, least_order -/
abbrev sOAt : Stmt := top 25
abbrev NOAt : List Str := ["block", "number", "ways", "table", "rest", "found", "own", "many"]
theorem sc_OAt : FnScope NOAt ["block", "number"] (defScope sOAt) := ⟨rfl, rfl, rfl, by decide +kernel, rfl, by decide +kernel, by decide +kernel⟩
abbrev AOAt : Blk → RelA := fun b vs H => RpA H vs [eB b, .int 0] ∧ WF b ∧ OkL b
abbrev COAt (P : Program) (w : World) (K : PySem.W.Frag) (mg : Str → Option Value) (base : Heap) : Prop := C8.Cal P w K mg base 7 "order_at" (PF AOAt fun b => Is (eN (leastO b))) []
theorem ev_ways {X : Cx} {σ : L2.St} {H : Hp} {e : Expr} {p pos : Pos} {j : Nat} {b : Blk} (c : CWays X.prog X.w X.K X.mg X.base) (hr : Room j X.A) (wf : WF b) (ok : OkW b) (h : Ev X e σ H (DK (tabD b))) (hk : 2 ≤ j := by decide) (hg : Gl X "ways_by" := by rfl) (he : starEach [e] X.env = (false, eval e X.env) :: starEach [] X.env := by rfl) (hpl : (backTo pos (starEach [] X.env)).any (·.1) = false := by rfl) :
    Ev X (.Call (.Name "ways_by" p) [e] [] pos) σ H (DT (mW (waysM b))) := ev_pf b c hr (ea_cons h ea_nil he) (fun vs H1 _ t => by
    obtain ⟨v, e, r1⟩ := one_of t
    exact ⟨v, e, r1, wf, ok⟩) hk hg (by decide) he hpl
theorem waysM_nd {b : Blk} : ((waysM b).map (·.1)).Nodup := by
  have key : ∀ (Ls : List (List (List Str))) (m : Ways), (m.map (·.1)).Nodup → ((Ls.foldl (fun m L => wLvl b L m) m).map (·.1)).Nodup := by
    intro Ls
    induction Ls with
    | nil => intro m h; exact h
    | cons L Ls ih => intro m h; exact ih _ (wLvl_nd L m h)
  exact key _ _ (by simp)
theorem cal_OAt (Fd : Df K mg "order_at" sOAt) (B : Blt mg) (c1 : CTab P w K mg base) (c2 : CWays P w K mg base) (c3 : CFree P w K mg base) (c4 : CSetS P w K mg base) : COAt P w K mg base := by
  refine cal_pf (A := AOAt) Fd sc_OAt (fun _ _ _ _ _ _ us hl => match us, hl with | [_, _], _ => rfl) (fun d vs H h => by obtain ⟨v, u, e, _⟩ := bl2 h.1; rw [e]; rfl) ?_
  intro f cdv Ar outer s H vs Q E b hr ⟨h1, wf, ok⟩ q
  obtain ⟨v, u, e, hv, hu⟩ := bl2 h1
  subst e
  have eu : u = .int 0 := is_int hu
  subst eu
  have wf : WF b := wf
  have ok : OkL b := ok
  have hv : Rp H v (eB b) := hv
  have few := wf.few
  have tl : (tabD b).length = b.rows.length := by rw [tabD, List.length_map]
  refine b_cons (s_par3 3 4 5 sc_OAt.nd (wa (pa_cons (pe_w _) (pa_cons (pe_w _) (pa_cons (pe_w _) pa_nil))) ?_))
  refine (ev_table c1 hr (ev_name 0 (R := Is (eB b)) rfl hv) wf).go fun tb H1 s1 rt => ?_
  refine (ev_name (X := XF P w K mg base NOAt "order_at" (defScope sOAt) f cdv Ar outer s H E) 1 (R := Is (.int 0)) rfl (.int 0)).go fun n0 H2 s2 r2 => ?_
  have en0 : n0 = .int 0 := is_int r2
  subst en0
  refine (evN_lst (ds := []) ea_isNil (by simp)) H2 (Sm.refl _) _ fun p ys H3 s3 f3 h3 hx3 => ?_
  cases hx3
  refine ⟨_, _, _, rfl, ?_⟩
  have mu3 : Mu H2 [(p, .lst (([] : List Str).map V.str))] H3 := Mu.add (Mu.nil H2) s3 f3 h3 (by intro _ z; cases z)
  have rt2 : DK (tabD b) tb H2 := Mono.up (sm_of s2) rt
  refine b_cons (s_set 2 sc_OAt.nd (ev_ways c2 hr wf ok.w (ev_name 3 (R := DK (tabD b)) rfl (Mono.up mu3.sm rt2))) fun wv H4 s4 rw4 => ?_)
  have mu4 := mu3.eval s4
  obtain ⟨dp, dkvs, edp, hdp, hdk⟩ := id rw4
  have F5 : ∃ F, Same H2 F ∧ Mu F [(p, .lst (([] : List Str).map V.str))] H4 ∧ DT (mW (waysM b)) wv F := by
    obtain ⟨w1, w2, w3⟩ := mu4.wide
    refine ⟨_, w1, w2, ?_⟩
    have ne : dp ∉ [p] := fun hm => by
      rw [List.mem_singleton.mp hm] at hdp
      rw [show Rd H4 p (.dT dkvs) = (H4 p = some (.dT dkvs) ∨ ∃ o, H4 p = some (.frz o (.dT dkvs))) from rfl, mu4.one] at hdp
      rcases hdp with z | ⟨o, z⟩
      · cases z
      · cases z
    refine ⟨dp, dkvs, edp, ?_, ktA_move hdk⟩
    rcases hdp with z | ⟨o, z⟩
    · exact .inl (by show cut [p] H4 dp = _; rw [cut_out ne]; exact z)
    · exact .inr ⟨o, by show cut [p] H4 dp = _; rw [cut_out ne]; exact z⟩
  obtain ⟨F, sF, muF, dtF⟩ := F5
  have rtF : DK (tabD b) tb F := Mono.up (sm_of sF) rt2
  refine b_cons (s_if (k := false) (EvT.is (et_not (et_leLt (ev_int (i := 0)) (ev_name 1 (R := Is (.int 0)) rfl (.int 0)) (ev_dt (m := mW (waysM b)) (x := []) hr (ev_name 2 (R := DT (mW (waysM b))) rfl (Mono.up muF.sm dtF)) (ev_tup (ds := [].map PyData.str) ea_isNil (by simp)) (lookT_in waysM_nd (lookW_in ok.p0.1))))) (by rw [decide_eq_true ok.p0.2]; rfl)) (fun z => by cases z) fun _ H5 s5 => b_nil ?_)
  have mu5 := muF.eval s5
  refine b_cons (s_while (W := fun m σ H' => ∃ (k : Nat) (o6 o7 : Option V), m = b.rows.length - k ∧ k ≤ b.rows.length ∧ σ = [some v, some (.int 0), some wv, some tb, some (.int 0), some (.ref p), o6, o7] ∧ Mu F [(p, .lst ((leastN b k).map V.str))] H') b.rows.length ⟨0, none, none, rfl, Nat.zero_le _, rfl, mu5⟩ ?_)
  rintro m σ H6 ⟨k, o6, o7, rfl, hk, rfl, mu6⟩
  have rf6 : Rp H6 (.ref p) (.list ((leastN b k).map .str)) := .lst (.inl mu6.one) (rpA_strs _)
  have rt6 : DK (tabD b) tb H6 := Mono.up mu6.sm rtF
  refine ⟨decide (k < b.rows.length), EvT.is (et_lt (ev_len B.len (sq_l (ev_name 5 (R := Is (.list ((leastN b k).map .str))) rfl rf6))) (ev_lenD B.len (ev_name 3 (R := DK (tabD b)) rfl rt6))) ?_, fun hd H7 s7 => ?_, fun hd H7 s7 => ?_⟩
  · rw [List.length_map, leastN_len, tl, decide_eq_decide]
    omega
  · have hlt := of_decide_eq_true hd
    have mu7 := mu6.eval s7
    have rf7 := Rp.mono (sm_of s7) _ _ rf6
    have rt7 : DK (tabD b) tb H7 := Mono.up (sm_of s7) rt6
    have ne := ok.ne k hlt
    obtain ⟨ps1, ps2⟩ := ok.ps k hlt
    refine b_one (s_for (F := H7) (ps := []) (l := freeL b (leastN b k)) (enc := PyData.str) (srcF_list (evF_new (evN_free (b := b) (done := leastN b k) c3 hr wf (ev_name 3 (R := DK (tabD b)) rfl rt7) (sq_l (ev_name 5 (R := Is (.list ((leastN b k).map .str))) rfl rf7))) (tup_map (fun a => by simp [tupD]) _))) (Same.refl _) (by intro _ h; cases h) fun G H8 f8 tp8 np8 s8 g8 => ?_)
    refine ⟨fun i σ H' => i = 0 ∧ σ = [some v, some (.int 0), some wv, some tb, some (.int 0), some (.ref p), o6, o7] ∧ Same G H' ∧ Mu F [(p, .lst ((leastN b k).map V.str))] H', ⟨rfl, rfl, g8, mu7.eval s8⟩, fun i σ H' h => h.2.2.1, ?_, ?_⟩
    · rintro i x σ H9 H10 xv hx ⟨rfl, rfl, sg, mu9⟩ s10 rx
      have ex := is_str rx
      subst ex
      have hx0 : (freeL b (leastN b k)).headD ⟨#[]⟩ = x := by
        cases e : freeL b (leastN b k) with
        | nil => rw [e] at hx; simp at hx
        | cons y l => rw [e] at hx; simpa using hx
      have elN : leastN b (k + 1) = leastN b k ++ [x] := by
        show leastN b k ++ [(freeL b (leastN b k)).headD ⟨#[]⟩] = _
        rw [hx0]
      rw [elN] at ps1 ps2
      have mu10 := mu9.eval s10
      have rf10 : Rp H10 (.ref p) (.list ((leastN b k).map .str)) := .lst (.inl mu10.one) (rpA_strs _)
      refine g_name 6 sc_OAt.nd ?_
      refine b_cons (s_set 7 sc_OAt.nd (ev_dt (m := mW (waysM b)) (x := setL ltK (leastN b k ++ [x])) hr (ev_name 2 (R := DT (mW (waysM b))) rfl (Mono.up mu10.sm dtF)) (ev_setS (xs := leastN b k ++ [x]) c4 hr (sq_t (Ev.is (ev_tup (ea_star (sq_l (ev_name 5 (R := Is (.list ((leastN b k).map .str))) rfl rf10)) (ea_is (ev_name 6 (R := Is (.str x)) rfl (.str x)) ea_isNil)) ?_) ?_)) ?_) (lookT_in waysM_nd (lookW_in ps1))) fun nv H11 s11 rn => ?_)
      · rw [List.length_append, List.length_map, leastN_len, List.length_cons, List.length_nil]
        omega
      · rw [List.map_append]
        rfl
      · rw [List.length_append, leastN_len, List.length_cons, List.length_nil]
        omega
      have mu11 := mu10.eval s11
      have en := is_int rn
      subst en
      refine b_cons (s_if (k := true) (EvT.is (et_lt (ev_name 4 (R := Is (.int 0)) rfl (.int 0)) (ev_name 7 (R := Is (.int (lookW (waysM b) (setL ltK (leastN b k ++ [x]))))) rfl (.int _))) (decide_eq_true ps2)) (fun _ H12 s12 => ?_) fun z => by cases z)
      have mu12 := mu11.eval s12
      refine b_cons (s_expr (e_append (at_name 5 rfl) mu12.one (R := Is (.str x)) (ev_name 6 rfl (.str x)) (by rw [List.length_map, leastN_len]; omega) fun w13 H13 s13 r13 => ?_))
      have e13 := is_str r13
      subst e13
      refine b_one (s_brk ⟨b.rows.length - (k + 1), by omega, k + 1, _, _, rfl, hlt, rfl, ?_⟩)
      have z := (mu12.eval s13).put (o' := .lst ((leastN b k).map V.str ++ [.str x])) (by intro _ z; cases z)
      rw [elN, List.map_append]
      exact z
    · rintro σ H9 ⟨h0, _⟩
      exact absurd (List.length_eq_zero_iff.mp h0) ne
  · have hge : k = b.rows.length := by
      have := of_decide_eq_false hd
      omega
    subst hge
    refine b_one (s_ret (R := Is (eN (leastO b))) (ev_tuple B.tuple (sq_l (ev_name 5 (R := Is (.list ((leastO b).map .str))) rfl (Rp.mono (sm_of s7) _ _ rf6)))) fun z H8 s8 r8 => q z H8 ?_ r8)
    exact s1.trans (s2.trans (sF.trans ((mu6.eval s7).eval s8).sam))
abbrev sLO : Stmt := top 24
abbrev NLO : List Str := ["block"]
theorem sc_LO : FnScope NLO ["block"] (defScope sLO) := ⟨rfl, rfl, rfl, by decide +kernel, rfl, by decide +kernel, by decide +kernel⟩
abbrev ALO : Blk → RelA := fun b vs H => RpA H vs [eB b] ∧ WF b ∧ OkL b
abbrev CLO (P : Program) (w : World) (K : PySem.W.Frag) (mg : Str → Option Value) (base : Heap) : Prop := C8.Cal P w K mg base 8 "least_order" (PF ALO fun b => Is (eN (leastO b))) []
theorem cal_LO (Fd : Df K mg "least_order" sLO) (c1 : COAt P w K mg base) : CLO P w K mg base := by
  refine cal_pf (A := ALO) Fd sc_LO (fun _ _ _ _ _ _ us hl => match us, hl with | [_], _ => rfl) (fun d vs H h => by obtain ⟨v, e, _⟩ := bl1 h.1; rw [e]; rfl) ?_
  intro f cdv Ar outer s H vs Q E b hr ⟨h1, wf, ok⟩ q
  obtain ⟨v, e, hv⟩ := bl1 h1
  subst e
  exact b_one (s_ret (ev_pf b c1 hr (ea_is (ev_name 0 (R := Is (eB b)) rfl hv) (ea_is ev_int ea_isNil)) fun vs H1 _ t => ⟨t, wf, ok⟩) q)
theorem ev_LO {X : Cx} {σ : L2.St} {H : Hp} {e : Expr} {p pos : Pos} {j : Nat} {b : Blk} (c : CLO X.prog X.w X.K X.mg X.base) (hr : Room j X.A) (wf : WF b) (ok : OkL b) (h : Ev X e σ H (Is (eB b))) (hk : 8 ≤ j := by decide) (hg : Gl X "least_order" := by rfl) (he : starEach [e] X.env = (false, eval e X.env) :: starEach [] X.env := by rfl) (hpl : (backTo pos (starEach [] X.env)).any (·.1) = false := by rfl) :
    Ev X (.Call (.Name "least_order" p) [e] [] pos) σ H (Is (eN (leastO b))) := ev_pf b c hr (ea_is h ea_isNil he) (fun vs H1 _ t => ⟨t, wf, ok⟩) hk hg (by decide) he hpl
/-! ### order_with_gap -/
abbrev sOwg : Stmt := top 34
abbrev NOwg : List Str := ["block", "name", "gap", "most", "free", "many", "ahead", "behind", "row", "first", "last", "own"]
theorem sc_Owg : FnScope NOwg ["block", "name", "gap"] (defScope sOwg) := ⟨rfl, rfl, rfl, by decide +kernel, rfl, by decide +kernel, by decide +kernel⟩
def freeO (b : Blk) (x : Str) : List Str := (leastO b).filter fun y => !decide (y = x) && (!decide (y ∈ needs b x) && !decide (y ∈ neededBy b x))
abbrev AOwg : Blk × Str × Nat → RelA := fun p vs H => RpA H vs [eB p.1, .str p.2.1, .int (p.2.2 : Nat)] ∧ WF p.1 ∧ OkL p.1 ∧ p.2.1 ∈ awaited p.1 ∧ (p.2.2 : Int) ≤ gapI p.1 p.2.1 ∧ p.2.2 ≤ (freeO p.1 p.2.1).length
abbrev COwg (P : Program) (w : World) (K : PySem.W.Frag) (mg : Str → Option Value) (base : Heap) : Prop := C8.Cal P w K mg base 11 "order_with_gap" (PF AOwg fun p => Is (eN (owg p.1 p.2.1 p.2.2))) []
theorem cal_Owg (Fd : Df K mg "order_with_gap" sOwg) (B : Blt mg) (c1 : CGap P w K mg base) (c2 : CNeedsOf P w K mg base) (c3 : CNeededBy P w K mg base) (c4 : CLO P w K mg base) : COwg P w K mg base := by
  refine cal_pf (A := AOwg) Fd sc_Owg (fun _ _ _ _ _ _ us hl => match us, hl with | [_, _, _], _ => rfl) (fun d vs H h => by obtain ⟨v, u, t, e, _⟩ := bl3 h.1; rw [e]; rfl) ?_
  intro f cdv Ar outer s H vs Q E ⟨b, x, g⟩ hr ⟨h1, wf, ok, ha, hg1, hg2⟩ q
  obtain ⟨v, u, t, e, hv, hu, ht⟩ := bl3 h1
  subst e
  have eu : u = .str x := is_str hu
  have et : t = .int (g : Nat) := is_int ht
  subst eu et
  have wf : WF b := wf
  have ok : OkL b := ok
  have ha : x ∈ awaited b := ha
  have hg1 : (g : Int) ≤ gapI b x := hg1
  have hg2 : g ≤ (freeO b x).length := hg2
  have hv : Rp H v (eB b) := hv
  have hn := awaited_in ha
  have lrow : (leastO b).length = b.rows.length := leastN_len _
  have few := wf.few
  have upB : ∀ {H'}, Same H H' → Rp H' v (eB b) := fun s => Rp.mono (sm_of s) _ _ hv
  refine b_cons (s_set 3 sc_Owg.nd (R := Is (.int (gapI b x))) (Ev.is (ev_gap c1 hr wf hn (ev_name 0 (R := Is (eB b)) rfl hv) (ev_name 1 (R := Is (.str x)) rfl (.str x))) (if_pos ha)) fun gv H1 s1 r1 => ?_)
  have eg := is_int r1
  subst eg
  refine b_cons (s_if (k := false) (EvT.is (ew_t (ew_or (et_isN (d := .int (gapI b x)) (ev_name 3 (R := Is (.int (gapI b x))) rfl (.int _))) fun _ => ew_or1 (et_not (et_leLe (ev_int (i := 0)) (ev_name 2 (R := Is (.int (g : Nat))) rfl (.int _)) (ev_name 3 (R := Is (.int (gapI b x))) rfl (.int _)))))) (by rw [decide_eq_true hg1, decide_eq_true (Int.natCast_nonneg g)]; rfl)) (fun z => by cases z) fun _ H2 s2 => b_nil ?_)
  have s12 := s1.trans s2
  refine b_cons (s_parN (sg := fun vs => match vs with | [a, c, d] => [some v, some (.str x), some (.int (g : Nat)), some (.int (gapI b x)), none, none, some a, some c, some d, none, none, none] | _ => []) (wa (pa_cons (pe_w _) (pa_cons (pe_w _) (pa_cons (pe_w _) pa_nil))) ?_))
  refine (ev_needsOf c2 hr wf hn (ev_name 0 (R := Is (eB b)) rfl (upB s12)) (ev_name 1 (R := Is (.str x)) rfl (.str x))).go fun av H3 s3 ra => ?_
  refine (ev_neededBy c3 hr wf hn (ev_name 0 (R := Is (eB b)) rfl (upB (s12.trans s3))) (ev_name 1 (R := Is (.str x)) rfl (.str x))).go fun bv H4 s4 rb => ?_
  refine (ev_LO c4 hr wf ok (ev_name 0 (R := Is (eB b)) rfl (upB (s12.trans (s3.trans s4))))).go fun rv H5 s5 rr => ?_
  refine ⟨by simp, rfl, fun pp hpp => ⟨egs_cons (eg_name 6 sc_Owg.nd) (egs_cons (eg_name 7 sc_Owg.nd) (egs_cons (eg_name 8 sc_Owg.nd) egs_nil)), ?_⟩⟩
  have sn := same_new (o := .tup [av, bv, rv]) hpp
  have ra5 : Rp _ av (eN (needs b x)) := Rp.mono (sm_of ((s4.trans s5).trans sn)) _ _ ra
  have rb5 : Rp _ bv (eN (neededBy b x)) := Rp.mono (sm_of (s5.trans sn)) _ _ rb
  have rr5 : Rp _ rv (eN (leastO b)) := Rp.mono (sm_of sn) _ _ rr
  have s15 := s12.trans ((s3.trans (s4.trans s5)).trans sn)
  generalize upd H5 pp (.tup [av, bv, rv]) = H5 at ra5 rb5 rr5 s15
  refine b_cons (s_setLcN 4 (i := 11) (l := leastO b) (enc := PyData.str) (f := fun y => !decide (y = x) && (!decide (y ∈ needs b x) && !decide (y ∈ neededBy b x))) (g := PyData.str) (defScope sOwg) sc_Owg.nd (src_tup (ev_name 8 (R := Is (eN (leastO b))) rfl rr5)) (fun _ _ _ => by simp [tupD]) (fun y hy z H6 m6 ry => ⟨fun j => ?_, fun _ j => ev_name 11 rfl ry⟩) (fun fp xs H6 s6 f6 h6 hx6 => ?_) (by rfl))
  · exact ets_one (ew_t (ew_and (EvT.is (et_neD (n := 0) hr (ev_name 11 (R := Is (.str y)) rfl ry) (ev_name 1 (R := Is (.str x)) rfl (.str x)) shp_str shp_str) (by rw [eqv_str])) fun _ => ew_and (et_notInN hr (ev_name 11 (R := Is (.str y)) rfl ry) (sq_t (ev_name 6 (R := Is (eN (needs b x))) rfl (Rp.mono m6 _ _ ra5)))) fun _ => ew_and1 (et_notInN hr (ev_name 11 (R := Is (.str y)) rfl ry) (sq_t (ev_name 7 (R := Is (eN (neededBy b x))) rfl (Rp.mono m6 _ _ rb5))))))
  have rf6 : Rp H6 (.ref fp) (.list ((freeO b x).map .str)) := .lst (.inl h6) hx6
  have ra6 := Rp.mono (sm_of s6) _ _ ra5
  have rb6 := Rp.mono (sm_of s6) _ _ rb5
  have rr6 := Rp.mono (sm_of s6) _ _ rr5
  refine b_cons (s_par 9 10 sc_Owg.nd (wa (pa_cons (pe_w _) (pa_cons (pe_w _) pa_nil)) ?_))
  refine EvN.go (evN_lc (i := 11) (l := leastO b) (enc := PyData.str) (f := fun y => decide (y ∈ needs b x)) (g := PyData.str) (defScope sOwg) sc_Owg.nd (src_tup (ev_name 8 (R := Is (eN (leastO b))) rfl rr6)) (fun _ _ _ => by simp [tupD]) fun y hy z H7 m7 ry => ⟨fun j => ets_one (et_inN hr (ev_name 11 (R := Is (.str y)) rfl ry) (sq_t (ev_name 6 (R := Is (eN (needs b x))) rfl (Rp.mono m7 _ _ ra6)))), fun _ j => ev_name 11 rfl ry⟩) fun p1 xs1 H7 s7 f7 h7 hx7 => ?_
  have rr7 := Rp.mono (sm_of s7) _ _ rr6
  have rb7 := Rp.mono (sm_of s7) _ _ rb6
  refine EvN.go (evN_lc (i := 11) (l := leastO b) (enc := PyData.str) (f := fun y => decide (y ∈ neededBy b x)) (g := PyData.str) (defScope sOwg) sc_Owg.nd (src_tup (ev_name 8 (R := Is (eN (leastO b))) rfl rr7)) (fun _ _ _ => by simp [tupD]) fun y hy z H8 m8 ry => ⟨fun j => ets_one (et_inN hr (ev_name 11 (R := Is (.str y)) rfl ry) (sq_t (ev_name 7 (R := Is (eN (neededBy b x))) rfl (Rp.mono m8 _ _ rb7)))), fun _ j => ev_name 11 rfl ry⟩) fun p2 xs2 H8 s8 f8 h8 hx8 => ?_
  refine ⟨_, _, rfl, ?_⟩
  have r1 : Rp H8 (.ref p1) (.list (((leastO b).filter fun y => decide (y ∈ needs b x)).map .str)) := Rp.mono (sm_of s8) _ _ (.lst (.inl h7) hx7)
  have r2 : Rp H8 (.ref p2) (.list (((leastO b).filter fun y => decide (y ∈ neededBy b x)).map .str)) := .lst (.inl h8) hx8
  have rf8 := Rp.mono (sm_of (s7.trans s8)) _ _ rf6
  refine b_cons (s_set 5 sc_Owg.nd (R := Is (.int (((freeO b x).length - g : Nat) : Int))) (Ev.is (ev_sub (ev_len B.len (sq_l (ev_name 4 (R := Is (.list ((freeO b x).map .str))) rfl rf8))) (ev_name 2 (R := Is (.int (g : Nat))) rfl (.int _))) (by rw [List.length_map]; congr 1; omega)) fun mv H9 s9 rm => ?_)
  have em := is_int rm
  subst em
  have r19 := Rp.mono (sm_of s9) _ _ r1
  have r29 := Rp.mono (sm_of s9) _ _ r2
  have rf9 := Rp.mono (sm_of s9) _ _ rf8
  refine b_one (s_ret (R := Is (eN (owg b x g))) (Ev.is (ev_tup (ea_star (sq_l (ev_name 9 (R := Is (.list (((leastO b).filter fun y => decide (y ∈ needs b x)).map .str))) rfl r19)) (ea_star (sq_l (EvN.ev (evN_slice (ev_name 4 (R := Is (.list ((freeO b x).map .str))) rfl rf9) eo_none (eo_some (ev_name 5 (R := Is (.int (((freeO b x).length - g : Nat) : Int))) rfl (.int _)))))) (ea_is (ev_name 1 (R := Is (.str x)) rfl (.str x)) (ea_star (sq_l (EvN.ev (evN_slice (ev_name 4 (R := Is (.list ((freeO b x).map .str))) rfl rf9) (eo_some (ev_name 5 (R := Is (.int (((freeO b x).length - g : Nat) : Int))) rfl (.int _))) eo_none))) (ea_star (sq_l (ev_name 10 (R := Is (.list (((leastO b).filter fun y => decide (y ∈ neededBy b x)).map .str))) rfl r29)) ea_isNil))))) ?_) ?_) fun z H10 s10 r10 => q z H10 (s15.trans (s6.trans (s7.trans (s8.trans (s9.trans s10))))) r10)
  · rw [cutD_take, cutD_drop]
    have a1 := List.length_filter_le (fun y => decide (y ∈ needs b x)) (leastO b)
    have a2 := List.length_filter_le (fun y => decide (y ∈ neededBy b x)) (leastO b)
    have a3 : (freeO b x).length ≤ (leastO b).length := List.length_filter_le _ _
    simp only [List.length_append, List.length_map, List.length_take, List.length_drop, List.length_cons, List.length_nil]
    omega
  · rw [cutD_take, cutD_drop]
    show PyData.tuple _ = PyData.tuple ((owg b x g).map .str)
    congr 1
    unfold owg freeO
    simp only [List.map_append, List.map_take, List.map_drop, List.map_cons, List.map_nil, List.append_nil, List.cons_append, List.nil_append]
end
end My
/-! P10 -/
/-! plain: the blocks that the law writes itself -/
namespace My
open PySem
def crossB : Blk := ⟨[⟨"a", [], true⟩, ⟨"b", [], true⟩, ⟨"p", ["r"], true⟩, ⟨"q", ["s"], true⟩, ⟨"r", ["a"], false⟩, ⟨"s", ["b"], false⟩], ["p", "q"]⟩
def fourB : Blk := ⟨[⟨"a", [], true⟩, ⟨"b", [], true⟩, ⟨"u", ["a"], false⟩, ⟨"v", ["b"], false⟩], ["u", "v"]⟩
def loneB : Blk := ⟨[⟨"a", [], true⟩, ⟨"q", [], false⟩, ⟨"u", ["a"], false⟩], ["u"]⟩
def rkH (x : Str) : Nat := if x = "p" ∨ x = "q" then 2 else if x = "r" ∨ x = "s" ∨ x = "u" ∨ x = "v" then 1 else 0
theorem wf_cross : WF crossB := ⟨by decide +kernel, by decide +kernel, by decide +kernel, by decide +kernel, by decide +kernel, by decide +kernel, by decide +kernel, ⟨fun x => if x = "p" ∨ x = "q" then 2 else if x = "r" ∨ x = "s" then 1 else 0, by decide +kernel⟩⟩
theorem wf_four : WF fourB := ⟨by decide +kernel, by decide +kernel, by decide +kernel, by decide +kernel, by decide +kernel, by decide +kernel, by decide +kernel, ⟨fun x => if x = "u" ∨ x = "v" then 1 else 0, by decide +kernel⟩⟩
theorem wf_lone : WF loneB := ⟨by decide +kernel, by decide +kernel, by decide +kernel, by decide +kernel, by decide +kernel, by decide +kernel, by decide +kernel, ⟨fun x => if x = "u" then 1 else 0, by decide +kernel⟩⟩
theorem okW_cross : OkW crossB := ⟨by decide +kernel, by decide +kernel, by decide +kernel⟩
theorem okW_four : OkW fourB := ⟨by decide +kernel, by decide +kernel, by decide +kernel⟩
theorem okL_cross : OkL crossB := ⟨okW_cross, by decide +kernel, by decide +kernel, by decide +kernel⟩
theorem okL_four : OkL fourB := ⟨okW_four, by decide +kernel, by decide +kernel, by decide +kernel⟩
def FAR : Int := 10 ^ 39
def tagsH : List Str := ["a", "b", "p", "q"]
/-- all that the hand part asks of a slow one of cross -/
def handT (x : Str) : Bool := decide (x ∈ awaited crossB) && decide (3 ≤ gapI crossB x) && decide (3 ≤ (freeO crossB x).length) && decide (owg crossB x 3 ∈ ords crossB) && decide (owg crossB x 0 ∈ ords crossB) && decide (endOf crossB (owg crossB x 3) (slowed crossB [(x, FAR)]) - FAR = 3) && decide (endOf crossB (owg crossB x 0) (slowed crossB [(x, FAR)]) - FAR = 6)
theorem handT_all : ∀ x ∈ tagsH, handT x = true := by decide +kernel
theorem four_a : ("a" : Str) ∈ awaited fourB ∧ 2 ≤ gapI fourB "a" ∧ 2 ≤ (freeO fourB "a").length ∧ owg fourB "a" 2 ∈ ords fourB ∧ endOf fourB (owg fourB "a" 2) (slowed fourB [("a", FAR), ("b", 7)]) = FAR + 2 := by decide +kernel
theorem lone_q : (["q", "a", "u"] : List Str) ∈ ords loneB ∧ endOf loneB ["q", "a", "u"] [("a", 5)] = 7 ∧ slows loneB = (["a"] : List Str) := by decide +kernel
def psH : List (Str × Str) := [("a", "q"), ("a", "b")]
def lineH : List Str := (orderM crossB psH).getD []
def prsH : List (Str × Str) := [("a", "q"), ("a", "b"), ("p", "q"), ("a", "p"), ("b", "q")]
theorem line_ok : orderM crossB psH = some lineH ∧ lineH ∈ ords crossB := by decide +kernel
theorem ap_ok : prsH.map (fun p => apartB crossB lineH p FAR) = [false, false, false, true, true] ∧ ∀ p ∈ prsH, p.1 ≠ p.2 := by decide +kernel
theorem psH_ok : PairsOk crossB psH := ⟨by decide, by decide +kernel⟩
end My
/-! L14 -/
namespace My
open PySem L2
theorem gapD_of {b : Blk} {x : Str} (h : x ∈ awaited b) : gapD b x = .int (gapI b x) := if_pos h
theorem gapD_no {b : Blk} {x : Str} (h : x ∉ awaited b) : gapD b x = .none := if_neg h
theorem gapD_none (b : Blk) (x : Str) : (!isNone (gapD b x)) = decide (x ∈ awaited b) := by
  by_cases h : x ∈ awaited b
  · rw [gapD_of h, decide_eq_true h]; rfl
  · rw [gapD_no h, decide_eq_false h]; rfl
theorem gapD_dep (b : Blk) (x : Str) : (gapD b x).depth ≤ 4 := by
  unfold gapD
  split <;> simp [PyData.depth]
theorem gapD_flat (b : Blk) (x : Str) : flatD (gapD b x) = true := by
  unfold gapD
  split <;> rfl
theorem gapD_tup (b : Blk) (x : Str) : tupD (gapD b x) = true := by
  unfold gapD
  split <;> rfl
section
variable {P : Program} {w : World} {K : PySem.W.Frag} {mg : Str → Option Value} {base : Heap}
abbrev ACase : Blk → RelA := fun b us F => ∃ v, us = [v] ∧ Rp F v (eB b) ∧ Drawn b
abbrev CCase (P : Program) (w : World) (K : PySem.W.Frag) (mg : Str → Option Value) (base : Heap) : Prop := C8.Cal P w K mg base 41 "_law_case_right" (PJ ACase (fun _ => Is (.bool true)) 50) []
theorem cal_case (Fd : Df K mg "_law_case_right" sCase) (B : Blt mg) (c1 : CGreat P w K mg base) (c2 : CSame 4 P w K mg base) (c3 : CPairs P w K mg base) (c4 : COM P w K mg base) (c5 : CCAM P w K mg base) (c6 : CHow P w K mg base) (c7 : CApart P w K mg base) (c8 : CTwos P w K mg base) (c9 : CCanM P w K mg base) (c10 : CLines P w K mg base) (c11 : CEnd P w K mg base) (c12 : CSlowed P w K mg base) (c13 : CGap P w K mg base) : CCase P w K mg base := by
  refine cal_pj (A := ACase) (B := fun _ => Is (.bool true)) Fd sc_case (fun _ _ _ _ _ _ us hl => match us, hl with | [_, _], _ => rfl) (fun t us H h => by obtain ⟨v, e, _⟩ := h; rw [e]; rfl) ?_
  intro f cdv Ar outer s H Q E b jr n ms G us hr jm ⟨kv, e, hk, dr⟩ q
  subst e
  have wf := dr.wf
  have hk : Rp G kv (eB b) := hk
  have hsl : (slows b).length ≤ 5 := by
    rw [slows, List.length_map]
    exact Nat.le_trans (List.length_filter_le _ _) dr.le
  have tstr : ∀ l : List Str, tupDs (l.map PyData.str) = true := fun l => tup_map (fun a => by simp [tupD]) l
  refine b_cons (s_par 7 8 sc_case.nd (wa (pa_cons (pe_w _) (pa_cons (pe_w _) pa_nil)) ?_))
  refine EvJ.go (n := n + 50) (k := 0) (ej_new (evN_lines c10 hr wf (ev_name 1 (R := Is (eB b)) rfl hk)) (tup_kd _)) jm fun ln F1 H1 s1 j1 rl => ?_
  have hk1 : Rp F1 kv (eB b) := Rp.mono (sm_of s1) _ _ hk
  refine EvJ.go (n := n + 50) (k := 0) (ej_new (ds := (slows b).map .str) ((evN_lc (i := 20) (l := b.rows) (enc := eR) (f := fun r => r.slow) (g := fun r => .str r.name) (defScope sCase) sc_case.nd (src_tup (ev_tup0 (k1 := default) (ev_name 1 (R := Is (eB b)) rfl hk1))) (fun _ _ _ => by simp [tupD]) fun r _ y H3 m3 ry => ⟨fun jj => ets_one (et_val (ev_ixT (i := 2) (ev_name 20 (R := Is (eR r)) rfl ry) ev_int rfl)), fun _ jj => ev_ixT (i := 0) (ev_name 20 (R := Is (eR r)) rfl ry) ev_int rfl⟩).is (by unfold slows; rw [List.map_map]; rfl)) (tstr _)) j1 fun tg F2 H2 s2 j2 rt => ?_
  refine ⟨ln, tg, rfl, ?_⟩
  have rt : Rp F2 tg (.list ((slows b).map .str)) := rt
  have hk2 : Rp F2 kv (eB b) := Rp.mono (sm_of s2) _ _ hk1
  have hl2 : Rp F2 ln (.list ((ords b).map eN)) := Rp.mono (sm_of s2) _ _ rl
  refine b_cons (s_parN (sg := fun vs => match vs with | [a, c, d, e] => [some (.ref jr), some kv, none, none, none, none, none, some ln, some tg, some a, some c, some d, some e, none, none, none, none, none, none, none, none, none, none, none] | _ => []) (wa (pa_cons (pe_w _) (pa_cons (pe_w _) (pa_cons (pe_w _) (pa_cons (pe_w _) pa_nil)))) ?_))
  refine EvJ.go (n := n + 50) (k := 0) (ej_tup (d := .int (b.rows.length : Nat)) (Ev.is (ev_len B.len (sq_t (ev_tup0 (k1 := default) (ev_name 1 (R := Is (eB b)) rfl hk2)))) (by rw [List.length_map])) rfl) j2 fun sz F3 H3 s3 j3 r3 => ?_
  refine EvJ.go (n := n + 50) (k := 0) (ej_tup (d := .int 1000) ev_int rfl) j3 fun mu F4 H4 s4 j4 r4 => ?_
  refine (evN_lst (ds := []) ea_isNil (by simp)) H4 (Sm.refl _) _ fun wp0 ys5 H5 t5 u5 v5 hx5 => ?_
  cases hx5
  obtain ⟨F5, s5, j5, _, hp5⟩ := (j4.add t5 u5 v5 (by intro _ z; cases z)).done
  refine e_dict0T fun tp htp => ?_
  have esz : sz = .int (b.rows.length : Nat) := is_int r3
  have emu : mu = .int 1000 := is_int r4
  subst esz emu
  have j6 := j5.new (o := .dT []) htp (by intro _ z; cases z)
  refine ⟨by simp, rfl, fun pp hpp => ⟨egs_cons (eg_name 9 sc_case.nd) (egs_cons (eg_name 10 sc_case.nd) (egs_cons (eg_name 11 sc_case.nd) (egs_cons (eg_name 12 sc_case.nd) egs_nil))), ?_⟩⟩
  have j7 := j6.eval (same_new (o := .tup [.int (b.rows.length : Nat), .int 1000, .ref wp0, .ref tp]) hpp)
  generalize upd (upd H5 tp (.dT [])) pp (.tup [.int (b.rows.length : Nat), .int 1000, .ref wp0, .ref tp]) = H7 at j7
  have s25 : Same F2 F5 := s3.trans (s4.trans s5)
  have hk5 := Rp.mono (sm_of s25) _ _ hk2
  have hl5 := Rp.mono (sm_of s25) _ _ hl2
  have rt5 := Rp.mono (sm_of s25) _ _ rt
  refine b_cons (s_for (F := F5) (ps := jr :: ((tp, HO.dT []) :: ms).map (·.1)) (l := slows b) (enc := PyData.str) (srcF_list (evF_name 8 (R := Is (.list ((slows b).map .str))) rfl rt5)) j7.sam j7.cond fun G8 H8 f8 tp8 np8 s8 g8 => ?_)
  have j8 := j7.from s8 g8 np8
  refine ⟨fun i σ H' => ∃ (F' : Hp) (wp : Addr) (wvs : List V) (o2 o13 o14 : Option V), σ = [some (.ref jr), some kv, o2, none, none, none, none, some ln, some tg, some (.int (b.rows.length : Nat)), some (.int 1000), some (.ref wp), some (.ref tp), o13, o14, none, none, none, none, none, none, none, none, none] ∧ Same G8 F' ∧ JM jr (n + 50) ((tp, .dT []) :: ms) F' H' ∧ F' wp = some (.lst wvs) ∧ RpA F' wvs ((((slows b).take i).filter fun x => decide (x ∈ awaited b)).map .str),
    ⟨G8, wp0, [], none, none, none, rfl, Same.refl _, j8, f8 _ _ hp5, .nil⟩, fun i σ H' ⟨_, _, _, _, _, _, _, sg, jj, _⟩ => sg.trans jj.sam, ?_, ?_⟩
  · rintro i x σ H9 H10 xv hx ⟨F9, wp, wvs, o2, o13, o14, rfl, sg, j9, hw9, rw9⟩ s10 rx
    have ex := is_str rx
    subst ex
    have hxs : x ∈ slows b := List.mem_of_getElem? hx
    have hxn := slows_in hxs
    have sF : Same F5 F9 := f8.trans sg
    have hk9 := Rp.mono (sm_of sF) _ _ hk5
    have hl9 := Rp.mono (sm_of sF) _ _ hl5
    refine g_name 2 sc_case.nd ?_
    have j10 := j9.eval s10
    obtain ⟨ga, gn⟩ := gap_told wf hxs (M := 1000) (by have := dr.le; omega)
    generalize hes : (ords b).map (fun o => endOf b o (slowed b [(x, 1000)])) = es at ga gn
    have es0 : es ≠ [] := by
      rw [← hes]
      intro e
      exact ords_ne wf (List.map_eq_nil_iff.mp e)
    refine b_cons (s_setLcN 13 (i := 21) (l := ords b) (enc := eN) (f := fun _ => true) (g := fun o => .int (endOf b o (slowed b [(x, 1000)]))) (defScope sCase) sc_case.nd (src_list (ev_name 7 (R := Is (.list ((ords b).map eN))) rfl (Rp.mono j10.sm _ _ hl9))) (fun _ _ _ => by simp [tupD]) (fun o ho v H11 m11 rv => ⟨fun jj => ets_nil, fun _ jj => ?_⟩) (fun ep xs H11 s11 f11 h11 hx11 => ?_) (by rfl))
    · have hkk := Rp.mono (j10.sm.trans m11) _ _ hk9
      exact ev_end c11 hr wf ((mem_ords wf).mp ho) (slowed_keys b _) (ev_name 1 (R := Is (eB b)) rfl hkk) (ev_name 21 (R := Is (eN o)) rfl rv) (ev_slowed (m := [(x, 1000)]) c12 hr (ev_name 1 (R := Is (eB b)) rfl hkk) (ev_dd1 (ev_name 2 (R := Is (.str x)) rfl (.str x)) (ev_name 10 (R := Is (.int 1000)) rfl (.int _))))
    rw [List.filter_eq_self.mpr (fun _ _ => rfl)] at hx11
    have hxe : RpA H11 xs (es.map .int) := by
      rw [← hes, List.map_map]
      exact hx11
    obtain ⟨F11, w11, j11, t11, hp11⟩ := (j10.add s11 f11 h11 (by intro _ z; cases z)).done
    have re : Rp F11 (.ref ep) (.list (es.map .int)) := .lst (.inl hp11) (RpA.tps t11 _ _ (tupDs_map fun _ _ => by simp [tupD]) hxe)
    have hk11 := Rp.mono (sm_of w11) _ _ hk9
    have rw11 := RpA.mono (sm_of w11) _ _ rw9
    have hw11 := w11 _ _ hw9
    obtain ⟨mx, mx1, mx2⟩ := exists_maxI es es0
    refine b_cons (s_setJ (n := n + 50) (k := 0) 14 sc_case.nd (ej_tup (d := gapD b x) (ev_if (k := decide (x ∈ awaited b)) (EvT.is (et_gt (ev_max (m := mx) B.max (ev_name 13 (R := Is (.list (es.map .int))) rfl re) mx1 mx2) (ev_name 9 (R := Is (.int (b.rows.length : Nat))) rfl (.int _))) ?_) (fun hd => ?_) fun hd => ?_) (gapD_tup b x)) j11 fun dv F12 H12 s12 j12 rd => ?_)
    · rw [decide_eq_decide]
      constructor
      · intro h
        refine Classical.byContradiction fun hn => ?_
        have := gn hn mx mx1
        omega
      · intro h
        exact (ga h).2.2 mx mx1 (by have := dr.le; omega)
    · have hd := of_decide_eq_true hd
      obtain ⟨g1, g2, g3⟩ := ga hd
      refine Ev.is (ev_sub (ev_add (ev_name 9 (R := Is (.int (b.rows.length : Nat))) rfl (.int _)) (ev_name 10 (R := Is (.int 1000)) rfl (.int _))) (ev_min (m := (b.rows.length : Int) + 1000 - gapI b x) B.min (ev_name 13 (R := Is (.list (es.map .int))) rfl re) g1 g2)) ?_
      rw [gapD_of hd]
      congr 1
      omega
    · have hd := of_decide_eq_false hd
      rw [gapD_no hd]
      exact ev_non
    have rd : Rp F12 dv (gapD b x) := rd
    have rw12 := RpA.mono (sm_of s12) _ _ rw11
    have hw12 : F12 wp = some (.lst wvs) := s12 _ _ hw11
    have wl : ((((slows b).take i).filter fun x => decide (x ∈ awaited b)).map PyData.str).length ≤ 5 := by
      rw [List.length_map]
      refine Nat.le_trans (List.length_filter_le _ _) ?_
      rw [List.length_take]
      omega
    have hk12 := Rp.mono (sm_of s12) _ _ hk11
    have hwl : wvs.length ≤ 5 := by rw [rw12.length]; exact wl
    refine b_cons (s_setW 11 sc_case.nd (we (pe_op op_cat (pe_w _) (pe_w _)) (At.go (at_name 11 rfl) (w_rep (n := if decide (x ∈ awaited b) = true then 1 else 0) (evN_lst (ds := [.str x]) (ea_is (ev_name 2 (R := Is (.str x)) rfl (.str x)) ea_isNil) (by simp)) (Ev.is (ev_intB B.int (Ev.is (ev_notNone (ev_name 14 (R := Is (gapD b x)) rfl (Rp.mono j12.sm _ _ rd))) (by rw [gapD_none]))) (by split <;> rfl)) (by split <;> omega) (by simp) fun p2 ys H13 f13 s13 h13 hy13 => ?_))))
    have yl : ys.length ≤ 1 := by
      rw [hy13.length]
      split <;> simp
    refine ⟨wp, p2, wvs, ys, rfl, rfl, s13 _ _ (j12.sam _ _ hw12), h13, by rw [sizeLine_eq]; omega, fun p3 hp3 => ?_⟩
    have rwn : RpA H13 (wvs ++ ys) ((((slows b).take (i + 1)).filter fun x => decide (x ∈ awaited b)).map .str) := by
      rw [take_snoc hx, List.filter_append, List.map_append]
      refine RpA.append (RpA.mono ((sm_of s13).trans (Sm.refl _)) _ _ (RpA.mono j12.sm _ _ rw12)) ?_
      by_cases ha : x ∈ awaited b
      · rw [List.filter_cons, if_pos (decide_eq_true ha)]
        rw [if_pos (decide_eq_true ha)] at hy13
        simpa using hy13
      · rw [List.filter_cons, if_neg (by simpa using ha)]
        rw [if_neg (by simpa using ha)] at hy13
        simpa using hy13
    obtain ⟨F13, w13, j13, t13, hp13⟩ := ((j12.eval s13).add (same_new (o := .lst (wvs ++ ys)) hp3) hp3 upd_same (by intro _ z; cases z)).done
    generalize upd H13 p3 (.lst (wvs ++ ys)) = H14 at j13 t13
    have rwF : RpA F13 (wvs ++ ys) ((((slows b).take (i + 1)).filter fun x => decide (x ∈ awaited b)).map .str) := by
      have e := rwn.strs
      rw [e]
      exact rpA_strs _
    have hk13 := Rp.mono (sm_of w13) _ _ hk12
    have rd13 := Rp.mono (sm_of w13) _ _ rd
    refine b_one (s_if (k := false) (et_not (et_val (ev_same c2 hr (d := gapD b x) (gapD_flat b x) (gapD_dep b x) (ev_gap c13 hr wf hxn (ev_name 1 (R := Is (eB b)) rfl (Rp.mono j13.sm _ _ hk13)) (ev_name 2 (R := Is (.str x)) rfl (.str x))) (ev_name 14 (R := Is (gapD b x)) rfl (Rp.mono j13.sm _ _ rd13))))) (fun z => by cases z) fun _ H15 s15 => b_nil ⟨F13, p3, _, _, _, _, rfl, sg.trans (w11.trans (s12.trans w13)), j13.eval s15, hp13, rwF⟩)
  · rintro σ H9 ⟨F9, wp, wvs, o2, o13, o14, rfl, sg, j9, hw9, rw9⟩
    rw [List.take_length, waited_filter] at rw9
    have sF : Same F5 F9 := f8.trans sg
    have rw9 : Rp F9 (.ref wp) (.list ((awaited b).map .str)) := .lst (.inl hw9) rw9
    have sG : Same G F9 := s1.trans (s2.trans (s25.trans sF))
    exact case_pairs B c1 c2 c3 c4 c5 c6 c7 c8 c9 hr dr j9 (Rp.mono (sm_of sF) _ _ hk5) (Rp.mono (sm_of sF) _ _ hl5) rw9 fun v F' H' sf jj r => q v F' H' (sG.trans sf) jj r
end
end My
/-! L15 -/
namespace My
open PySem L2
abbrev RKit : Rel := fun v F2 => ∃ b, Rp F2 v (eB b) ∧ Drawn b
instance : Mono RKit := ⟨fun e ⟨b, h1, h2⟩ => ⟨b, Rp.mono e _ _ h1, h2⟩⟩
section
variable {X : Cx} {jr : Addr} {σ : L2.St} {ms : List (Addr × HO)} {n k2 j : Nat} {F : Hp} {e e2 : Expr} {es : List Expr} {p pos : Pos}
theorem ej_take {t : Int} (c : CTake X.prog X.w X.K X.mg X.base) (hr : Room j X.A) (hj : ∀ H, At X e σ H jr) (h2 : Ev X e2 σ F (Is (.int t))) (h0 : 0 < t) (h1 : t < 1073741824) (hk : 1 ≤ j := by decide) (hg : Gl X "_law_take" := by rfl)
    (he : starEach [e, e2] X.env = (false, eval e X.env) :: starEach [e2] X.env := by rfl) (he2 : starEach [e2] X.env = (false, eval e2 X.env) :: starEach [] X.env := by rfl) (hpl : (backTo pos (starEach [e2] X.env)).any (·.1) = false := by rfl) :
    EvJ X jr (.Call (.Name "_law_take" p) [e, e2] [] pos) σ ms n 1 F (IntP fun r => 0 ≤ r ∧ r < t) :=
  ej_call (k2 := 0) c hr t hj (T := fun us _ => us = [.int t]) (EvAJ.weak (eaj_one (ej_tup h2 rfl) he2) fun vs H ⟨v, e, r⟩ => by rw [e, is_int r]) (fun us F' _ h => ⟨h, h0, h1⟩) hk hg (by decide) he hpl
theorem ej_kit (c : CKit X.prog X.w X.K X.mg X.base) (hr : Room j X.A) (hj : ∀ H, At X e σ H jr) (args : EvAJ X jr es σ ms (n + 60) k2 F (fun us F2 => ∃ r : Int, us = [.int 1, .int r] ∧ 4 ≤ r ∧ r < 6)) (hk : 4 ≤ j := by decide) (hg : Gl X "_law_kit" := by rfl)
    (he : starEach (e :: es) X.env = (false, eval e X.env) :: starEach es X.env := by rfl) (hpl : (backTo pos (starEach es X.env)).any (·.1) = false := by rfl) :
    EvJ X jr (.Call (.Name "_law_kit" p) (e :: es) [] pos) σ ms n (60 + k2) F RKit :=
  ej_callD c hr hj args (fun us F2 _ ⟨r, e, r0, r1⟩ => ⟨(1, r.toNat), ⟨by rw [e]; congr 3; omega, by show 1 ≤ r.toNat; omega, by show r.toNat ≤ 5; omega⟩, fun v F3 h => h⟩) hk hg (by decide) he hpl
theorem ej_case (c : CCase X.prog X.w X.K X.mg X.base) (hr : Room j X.A) (hj : ∀ H, At X e σ H jr) (args : EvJ X jr e2 σ ms (n + 50) k2 F RKit) (hk : 41 ≤ j := by decide) (hg : Gl X "_law_case_right" := by rfl)
    (he : starEach [e, e2] X.env = (false, eval e X.env) :: starEach [e2] X.env := by rfl) (he2 : starEach [e2] X.env = (false, eval e2 X.env) :: starEach [] X.env := by rfl) (hpl : (backTo pos (starEach [e2] X.env)).any (·.1) = false := by rfl) :
    EvJ X jr (.Call (.Name "_law_case_right" p) [e, e2] [] pos) σ ms n (50 + k2) F (Is (.bool true)) :=
  ej_callD c hr hj (eaj_one args he2) (fun us F2 _ ⟨v, e, b, r, d⟩ => ⟨b, ⟨v, e, r, d⟩, fun v F3 h => h⟩) hk hg (by decide) he hpl
end
section
variable {P : Program} {w : World} {K : PySem.W.Frag} {mg : Str → Option Value} {base : Heap}
/-! ### _law_right -/
abbrev sRight : Stmt := top 62
abbrev NRight : List Str := ["_law_jar", "_law_turn"]
theorem sc_right : FnScope NRight ["_law_jar"] (defScope sRight) := ⟨rfl, rfl, rfl, by decide +kernel, rfl, by decide +kernel, by decide +kernel⟩
abbrev ARight : Unit → RelA := fun _ us _ => us = []
abbrev CRight (P : Program) (w : World) (K : PySem.W.Frag) (mg : Str → Option Value) (base : Heap) : Prop := C8.Cal P w K mg base 42 "_law_right" (PJ ARight (fun _ => Is (.bool true)) 333) []
theorem cal_right (Fd : Df K mg "_law_right" sRight) (B : Blt mg) (c1 : CTake P w K mg base) (c2 : CKit P w K mg base) (c3 : CCase P w K mg base) : CRight P w K mg base := by
  refine cal_pj (A := ARight) (B := fun _ => Is (.bool true)) Fd sc_right (fun _ _ _ _ _ _ us hl => match us, hl with | [_], _ => rfl) (fun t us H h => by rw [show us = [] from h]; rfl) ?_
  intro f cdv Ar outer s H Q E _ jr n ms G us hr jm e q
  have e : us = [] := e
  subst e
  have jm : JM jr (n + (List.range 3).length * 111) ms G H := jm
  refine b_one (s_retW (we (pe_callB (cr_all rfl) (by rfl) B.all b_all (pa_w _) (by decide) (by decide) (by rfl) (by rfl)) (wa_one (e_lcJ (n := n) (c := 111) (ms := ms) (F := G) (l := List.range 3) (enc := fun k => .int (k : Nat)) (g := fun _ => .bool true) (i := 1) (defScope sRight) sc_right.nd (srcF_range (n := 3) ev_int (by decide) B.range) jm (fun _ _ => by simp [tupD]) (fun y hy v F' sF rv => ?_) fun v l' F' H' sF jF sub rv => ?_))))
  · intro ms2 m H2 j2 K0 K1 k0 k1 jj
    refine wts pts_nil ?_
    simp only [tYes, if_true]
    intro jj2
    exact (EvJ.go (n := m) (k := 111) (ej_case (k2 := 61) c3 hr (fun H => at_name 0 rfl) (ej_kit (k2 := 1) c2 hr (fun H => at_name 0 rfl) (EvAJ.weak (eaj_cons (k := 0) (k2 := 1) (ej_tup (d := .int 1) ev_int rfl) fun F2 s2 => eaj_one (ej_add (k := 0) (k2 := 1) (P1 := fun i => i = 4) (P2 := fun r => 0 ≤ r ∧ r < 2) (P3 := fun r => 4 ≤ r ∧ r < 6) (ej_int rfl) (fun F3 s3 => ej_take c1 hr (fun H => at_name 0 rfl) ev_int (by decide) (by decide)) fun i j e h => by subst e; omega)) fun vs H ⟨v, us, e, r, u, e2, i, e3, h⟩ => ⟨i, by rw [e, e2, e3, is_int r], h⟩))) j2 fun u F4 H4 s4 j4 r4 => k1 u F4 H4 s4 j4 r4)
  · have rH : Rp H' v (.list (l'.map fun _ => .bool true)) := Rp.mono jF.sm _ _ rv
    cases rH with
    | @lst a xs _ ha hx =>
      have hx : RpA H' xs ((l'.map fun _ => true).map .bool) := by rw [List.map_map]; exact hx
      have e := hx.bls
      subst e
      refine ⟨a, l'.map fun _ => true, rfl, .inl ha, q _ F' H' sF jF ?_⟩
      have al : ((l'.map fun _ => true).all id) = true := by
        rw [List.all_map, List.all_eq_true]
        intro _ _
        rfl
      rw [al]
      exact .bl true
end
end My
/-! L16 -/
namespace My
open PySem L2
section
variable {X : Cx} {σ : L2.St} {H : Hp} {e a b : Expr} {lo hi : Option Expr} {p2 pos : Pos}
/-- the script: a list of ints, ours or the caller's -/
def RScr (xs : List Int) (K : PySem.W.Frag) : Rel := fun v H => ∃ a, v = .ref a ∧ SqL K H a (xs.map V.int)
instance {xs : List Int} {K : PySem.W.Frag} : Mono (RScr xs K) := ⟨fun e ⟨a, h1, h2⟩ => ⟨a, h1, h2.elim (fun h => .inl (e.rd _ _ True.intro h)) .inr⟩⟩
theorem evN_sliceS {xs : List Int} {i j : Option Int} (h : Ev X e σ H (RScr xs X.K)) (hl : EvO X lo σ H i) (hh : EvO X hi σ H j) : EvN X (.Subscript e (.Slice lo hi none p2) pos) σ H ((cutD xs i j).map .int) := fun H1 m Q k =>
  we (pe_slice sl_list (pe_w e) (po_w lo) (po_w hi)) (h H1 m _ fun v H2 s2 r2 => hl H2 (m.trans (sm_of s2)) _ fun H3 s3 => hh H3 (m.trans (sm_of (s2.trans s3))) _ fun H4 s4 => by
    obtain ⟨q, e1, h1⟩ := Mono.up (R := RScr xs X.K) (sm_of (s3.trans s4)) r2
    subst e1
    refine ⟨q, _, rfl, h1, fun l hl => k l _ _ (((s2.trans s3).trans s4).trans (same_new hl)) ?_ upd_same ?_⟩
    · exact ((s2.trans s3).trans s4).free hl
    · have e : cutV (xs.map V.int) i j = (cutD xs i j).map V.int := cutD_map V.int xs i j
      rw [e]
      exact rpA_ints _)
theorem ev_pow {i j : Int} (ha : Ev X a σ H (Is (.int i))) (hb : Ev X b σ H (Is (.int j))) (h : CPow i j) : Ev X (.BinOp a .Pow b pos) σ H (Is (.int (i ^ j.toNat))) :=
  ev_op op_pow ha hb fun x y H1 _ r1 r2 Q q => ⟨i, j, is_int r1, is_int r2, h, q _ _ (Same.refl _) (.int _)⟩
end
section
variable {P : Program} {w : World} {K : PySem.W.Frag} {mg : Str → Option Value} {base : Heap}
/-! ### _law_box -/
abbrev sBox : Stmt := top 47
abbrev NBox : List Str := ["_law_script", "_law_k", "_law_cell"]
theorem sc_box : FnScope NBox ["_law_script", "_law_k"] (defScope sBox) := ⟨rfl, rfl, rfl, by decide +kernel, rfl, by decide +kernel, by decide +kernel⟩
abbrev ABox : List Int × Nat → RelA := fun p us H => ∃ v, us = [v, .int (p.2 : Nat)] ∧ Rp H v (.list (p.1.map .int)) ∧ p.2 < p.1.length ∧ p.1.length ≤ 3
abbrev BBox : List Int × Nat → Rel := fun _ v H => ∃ a b : Int, Rp H v (.list [.int a, .int b, .int 0])
def boxD (c : Int) (k : Nat) : List PyData := [.int ((if c < 0 then -c else c) * (if decide ((10 : Int) ^ 18 ≤ (if c < 0 then -c else c)) = true then 1 else 0)), .int (c % 2305843009213693951 + 39703 * (k : Int) + 1052955), .int 0]
abbrev CBox (P : Program) (w : World) (K : PySem.W.Frag) (mg : Str → Option Value) (base : Heap) : Prop := C8.Cal P w K mg base 1 "_law_box" (PL ABox fun p => boxD (p.1.getD p.2 0) p.2) []
theorem cal_box (F : Df K mg "_law_box" sBox) (B : Blt mg) : CBox P w K mg base := by
  refine cal_pl (A := ABox) F sc_box (fun _ _ _ _ _ _ us hl => match us, hl with | [_, _], _ => rfl) (fun d vs H h => by obtain ⟨v, e, _⟩ := h; rw [e]; rfl) ?_
  intro f cdv Ar outer s H vs Q E ⟨xs, k⟩ hr ⟨v, e, hv, hk, hz⟩ q
  subst e
  have hv : Rp H v (.list (xs.map .int)) := hv
  have hk : k < xs.length := hk
  have ec : xs[k]? = some (xs.getD k 0) := by rw [List.getD_eq_getElem?_getD, List.getElem?_eq_getElem hk]; rfl
  generalize hc : xs.getD k 0 = c at ec
  have q : ∀ (p : Addr) (ys : List V) (H' : Hp), Same H H' → H p = none → H' p = some (.lst ys) → RpA H' ys (boxD c k) → Q (.ref p) H' := by
    rw [← hc]
    exact q
  refine b_cons (s_set 2 sc_box.nd (R := Is (.int c)) (ev_if (k := true) (EvT.is (et_lt (ev_name 1 (R := Is (.int (k : Nat))) rfl (.int _)) (ev_len B.len (sq_l (ev_name 0 (R := Is (.list (xs.map .int))) rfl hv)))) ?_) (fun _ => ev_ixL (i := (k : Int)) (ev_name 0 (R := Is (.list (xs.map .int))) rfl hv) (ev_name 1 (R := Is (.int (k : Nat))) rfl (.int _)) (atI_of (by rw [List.getElem?_map, ec]; rfl))) fun z => by cases z) fun cv H1 s1 rc => ?_)
  · rw [List.length_map, decide_eq_true]
    omega
  have e := is_int rc
  subst e
  refine b_one (s_retN (ds := boxD c k) (evN_lst (ea_is (ev_mul (ev_abs B.abs (ev_name 2 (R := Is (.int c)) rfl (.int _))) (ev_intB B.int (ev_ge (ev_abs B.abs (ev_name 2 (R := Is (.int c)) rfl (.int _))) (ev_pow (i := 10) (j := 18) ev_int ev_int ⟨by decide, by decide, by decide⟩))) ?_) (ea_is (ev_add (ev_add (ev_mod (ev_intI B.int (ev_name 2 (R := Is (.int c)) rfl (.int _))) ev_int (by decide)) (ev_mul ev_int (ev_name 1 (R := Is (.int (k : Nat))) rfl (.int _)) (.inl ⟨by decide, by decide⟩))) ev_int) (ea_is ev_int ea_isNil))) (by unfold boxD; simp)) fun p ys H' s' hp h' hx => q p ys H' (s1.trans s') (s1.free hp) h' hx)
  have h01 : ∀ t : Bool, -(2 ^ 64 : Int) < (if t = true then (1 : Int) else 0) ∧ (if t = true then (1 : Int) else 0) < 2 ^ 64 := by decide
  exact .inr (h01 _)
end
end My
/-! L17 -/
namespace My
open PySem L2
theorem num_ints (o : List Int) : numbered (o.map PyData.int) = o.zipIdx.map fun p => .tuple [.int (p.2 : Nat), .int p.1] := by
  unfold numbered
  rw [List.zipIdx_map, List.map_map]
  rfl
theorem cutD_late {α : Type} {xs : List α} {n : Nat} {j : Option Int} (h : cutD xs (some (n : Int)) j ≠ []) : n < xs.length := by
  unfold cutD at h
  rw [HT.sIx_nat] at h
  refine Classical.byContradiction fun hn => h ?_
  rw [Nat.min_eq_right (by omega), List.drop_length, List.take_nil]
theorem cutD_len {α : Type} {xs : List α} {i j : Option Int} : (cutD xs i j).length ≤ xs.length := by
  unfold cutD
  rw [List.length_take, List.length_drop]
  omega
section
variable {X : Cx} {σ : L2.St} {H : Hp} {p pos : Pos} {x : Str}
/-- f() -/
theorem ev_c0 {k j : Nat} {B : Unit → Rel} (c : C8.Cal X.prog X.w X.K X.mg X.base k x (PF (fun (_ : Unit) vs _ => vs = []) B) []) (hr : Room j X.A) (hk : k ≤ j := by decide) (hg : Gl X x := by rfl) (hdb : (x == ("__debug__" : Str)) = false := by decide) :
    Ev X (.Call (.Name x p) [] [] pos) σ H (B ()) := fun H1 m Q z => by
  obtain ⟨f, fd, ps, ds, F, hm, kp, b, d⟩ := c.ex
  exact we (pe_call0 F (hr.mono hk) hg hm kp b d pass0 hdb) (by
    show PF (fun (_ : Unit) vs _ => vs = []) B ([] ++ []) H1 Q E0
    exact ⟨(), rfl, fun v H' s r => z v H' s r⟩)
end
section
variable {P : Program} {w : World} {K : PySem.W.Frag} {mg : Str → Option Value} {base : Heap}
/-! ### _law_cells -/
abbrev sCells : Stmt := top 49
abbrev NCells : List Str := ["_law_script", "_law_most_so", "_law_cells_here", "_law_k", "_law_cell", "_law_at_so"]
theorem sc_cells : FnScope NCells ["_law_script", "_law_most_so"] (defScope sCells) := ⟨rfl, rfl, rfl, by decide +kernel, rfl, by decide +kernel, by decide +kernel⟩
abbrev ACells (K : PySem.W.Frag) : List Int → RelA := fun xs us H => ∃ v, us = [v, .int 3] ∧ RScr xs K v H ∧ xs.length ≤ 63
abbrev RCells : Rel := fun v H => ∃ ys : List Int, Rp H v (.list (ys.map .int)) ∧ 1 ≤ ys.length ∧ ys.length ≤ 3
abbrev CCells (P : Program) (w : World) (K : PySem.W.Frag) (mg : Str → Option Value) (base : Heap) : Prop := C8.Cal P w K mg base 1 "_law_cells" (PF (ACells K) fun _ => RCells) []
theorem cal_cells (Fd : Df K mg "_law_cells" sCells) (B : Blt mg) : CCells P w K mg base := by
  refine cal_pf (A := ACells K) Fd sc_cells (fun _ _ _ _ _ _ us hl => match us, hl with | [_, _], _ => rfl) (fun d vs H h => by obtain ⟨v, e, _⟩ := h; rw [e]; rfl) ?_
  intro f cdv Ar outer s H vs Q E xs hr ⟨v, e, hv, hz⟩ q
  subst e
  have hz : xs.length ≤ 63 := hz
  have hv : RScr xs K v H := hv
  have step : ∀ {D : Ends}, (∀ (p : Addr) (ys : List Int) (H2 : Hp), H p = none → Same H H2 → H2 p = some (.lst (ys.map V.int)) → 1 ≤ ys.length → ys.length ≤ 3 → (3 < xs.length → ys.length = 3) → D.nx [some v, some (.int 3), some (.ref p), none, none, none] H2) → wS (XF P w K mg base NCells "_law_cells" (defScope sCells) f cdv Ar outer s H E) ((defBody sCells).getD 0 (.Pass ⟨0, 0, 0, 0⟩)) D (start NCells [v, .int 3]) H := by
    intro D kk
    refine s_setW 2 sc_cells.nd (we (pe_orT (pe_w _) (pe_w _)) ((evN_list B.list (sq_l (EvN.ev (evN_sliceS (X := XF P w K mg base NCells "_law_cells" (defScope sCells) f cdv Ar outer s H E) (ev_name 0 (R := RScr xs K) rfl hv) eo_none (eo_some (ev_name 1 (R := Is (.int (3 : Nat))) rfl (.int _)))))) ) H (Sm.refl _) _ fun p ws H2 s2 f2 h2 hx2 => ⟨!ws.isEmpty, .inl ⟨ws, SqL.of h2, rfl⟩, ?_⟩))
    rw [cutD_take] at hx2
    have ew := hx2.ints
    subst ew
    cases ec : xs.take 3 with
    | nil =>
      refine iteF (we (pe_one (pe_w _)) ((evN_lst (ds := [.int 0]) (ea_is ev_int ea_isNil) (by simp)) H2 (Sm.refl _) _ fun p2 ws2 H3 s3 f3 h3 hx3 => ?_))
      have e3 : ws2 = ([0] : List Int).map V.int := RpA.ints (xs := [0]) hx3
      subst e3
      refine kk p2 [0] H3 (s2.free f3) (s2.trans s3) h3 (by simp) (by simp) fun h => ?_
      have := congrArg List.length ec
      rw [List.length_take, List.length_nil] at this
      omega
    | cons y ys =>
      rw [ec] at h2
      have le := congrArg List.length ec
      rw [List.length_take] at le
      refine iteT (kk p (y :: ys) H2 f2 s2 h2 (by simp) (by omega) fun h => by omega)
  refine b_cons (step fun p ys H2 fp s2 hp l1 l3 l4 => ?_)
  have hv2 : RScr xs K v H2 := Mono.up (sm_of s2) hv
  have mu2 : Mu H [(p, .lst (ys.map V.int))] H2 := Mu.add (Mu.nil H) s2 fp hp (by intro _ z; cases z)
  generalize hcut : cutD xs (some ((3 : Nat) : Int)) (some ((63 : Nat) : Int)) = cut
  have cl : cut.length ≤ 63 := by rw [← hcut]; exact Nat.le_trans cutD_len hz
  refine b_cons (s_for (F := H) (ps := [p]) (l := cut.zipIdx) (enc := fun q => .tuple [.int (q.2 : Nat), .int q.1]) (by
    rw [← num_ints, ← hcut]
    exact srcF_enum (evF_new (evN_sliceS (X := XF P w K mg base NCells "_law_cells" (defScope sCells) f cdv Ar outer s H E) (ev_name 0 (R := RScr xs K) rfl hv) (eo_some (ev_name 1 (R := Is (.int (3 : Nat))) rfl (.int _))) (eo_some ev_int)) (tupDs_map fun _ _ => by simp [tupD])) B.enum) mu2.sam mu2.cond fun G H3 f3 tp3 np3 s3 g3 => ?_)
  have mu3 : Mu G [(p, .lst (ys.map V.int))] H3 := ⟨g3, fun q hq => ⟨np3 _ (List.mem_map.mpr ⟨q, hq, rfl⟩), s3 _ _ (mu2.at_ q hq).2.1, (mu2.at_ q hq).2.2⟩, mu2.nd⟩
  refine ⟨fun i σ H' => ∃ (zs : List Int) (o3 o4 o5 : Option V), σ = [some v, some (.int 3), some (.ref p), o3, o4, o5] ∧ Mu G [(p, .lst (zs.map V.int))] H' ∧ zs.length = ys.length,
    ⟨ys, none, none, none, rfl, mu3, rfl⟩, fun i σ H' ⟨_, _, _, _, _, m, _⟩ => m.sam, ?_, ?_⟩
  · rintro i ⟨c, k⟩ σ H4 H5 xv hx ⟨zs, o3, o4, o5, rfl, m4, lz⟩ s5 rx
    have hz2 : cut[i]? = some c ∧ k = i := by
      rw [List.getElem?_zipIdx] at hx
      obtain ⟨y, hy, e⟩ := Option.map_eq_some_iff.mp hx
      cases e
      exact ⟨hy, by omega⟩
    obtain ⟨hc, e⟩ := hz2
    subst e
    have kl : k < 63 := by
      have := (List.getElem?_eq_some_iff.mp hc).1
      omega
    have l33 : zs.length = 3 := by
      rw [lz]
      refine l4 (cutD_late (n := 3) (j := some ((63 : Nat) : Int)) fun e => ?_)
      rw [hcut] at e
      rw [e] at hc
      simp at hc
    have m5 := m4.eval s5
    obtain ⟨a, v1, v2, rfl, ha, e1, e2⟩ := tup2 rx
    have ek := is_int e1
    have ev := is_int e2
    subst ek ev
    refine g_go (eg_tup (egs_cons (eg_name 3 sc_cells.nd) (egs_cons (eg_name 4 sc_cells.nd) egs_nil)) ha) ?_
    have e3 : (k : Int) % 3 = ((k % 3 : Nat) : Int) := by omega
    have lt3 : k % 3 < zs.length := by omega
    refine b_cons (s_set 5 sc_cells.nd (Ev.is (ev_mod (ev_intI B.int (ev_name 3 (R := Is (.int (k : Nat))) rfl (.int _))) (ev_name 1 (R := Is (.int 3)) rfl (.int _)) (by decide)) (by rw [e3])) fun av H6 s6 r6 => ?_)
    have ea := is_int r6
    subst ea
    have m6 := m5.eval s6
    have rc : Rp H6 (.ref p) (.list (zs.map .int)) := .lst (.inl m6.one) (rpA_ints zs)
    have ez : zs[k % 3]? = some (zs.getD (k % 3) 0) := by rw [List.getD_eq_getElem?_getD, List.getElem?_eq_getElem lt3]; rfl
    refine b_one (s_lput (k := ((k % 3 : Nat) : Int)) (j := k % 3) (fun H => at_name 2 rfl) m6.one (ev_add (ev_ixL (i := ((k % 3 : Nat) : Int)) (ev_name 2 (R := Is (.list (zs.map .int))) rfl rc) (ev_name 5 (R := Is (.int ((k % 3 : Nat) : Int))) rfl (.int _)) (atI_of (by rw [List.getElem?_map, ez]; rfl))) (ev_mul (ev_name 4 (R := Is (.int c)) rfl (.int _)) (ev_add (ev_name 3 (R := Is (.int (k : Nat))) rfl (.int _)) ev_int) (.inr ⟨by have e : (2 : Int) ^ 64 = 18446744073709551616 := (by decide); rw [e]; omega, by have e : (2 : Int) ^ 64 = 18446744073709551616 := (by decide); rw [e]; omega⟩))) (fun _ => ev_name 5 (R := Is (.int ((k % 3 : Nat) : Int))) rfl (.int _)) (ixN_nat (by rw [List.length_map]; exact lt3)) fun nv H7 s7 r7 => ?_)
    have en := is_int r7
    subst en
    have m7 := (m6.eval s7).put (o' := .lst ((zs.map V.int).set (k % 3) (.int (zs.getD (k % 3) 0 + c * (↑k + 2))))) (by intro _ z; cases z)
    refine ⟨zs.set (k % 3) (zs.getD (k % 3) 0 + c * (↑k + 2)), _, _, _, rfl, ?_, by rw [List.length_set]; exact lz⟩
    rw [List.map_set]
    exact m7
  · rintro σ H4 ⟨zs, o3, o4, o5, rfl, m4, lz⟩
    refine b_one (s_retW (At.go (at_name 2 rfl) (q _ _ (f3.trans m4.sam) ⟨zs, .lst (.inl m4.one) (rpA_ints zs), by omega, by omega⟩)))
/-! ### law -/
abbrev sLaw : Stmt := top 63
abbrev NLaw : List Str := ["_law_script", "_law_cells_here", "_law_k"]
theorem sc_law : FnScope NLaw ["_law_script"] (defScope sLaw) := ⟨rfl, rfl, rfl, by decide +kernel, rfl, by decide +kernel, by decide +kernel⟩
def spLaw (K : PySem.W.Frag) : Sp := fun vs H Q _ => ∃ (a : Addr) (ns : List Int), vs = [.ref a] ∧ SqL K H a (ns.map V.int) ∧ ns.length ≤ 63 ∧ ∀ H', Q (.bl true) H'
abbrev CHand (P : Program) (w : World) (K : PySem.W.Frag) (mg : Str → Option Value) (base : Heap) : Prop := C8.Cal P w K mg base 30 "_law_hand_right" (PF (fun (_ : Unit) vs _ => vs = []) fun _ => Is (.bool true)) []
theorem evN_box {X : Cx} {σ : L2.St} {H : Hp} {e e2 : Expr} {p pos : Pos} {j : Nat} {xs : List Int} {k : Nat} (c : CBox X.prog X.w X.K X.mg X.base) (hr : Room j X.A) (hk : k < xs.length) (hz : xs.length ≤ 3) (h : Ev X e σ H (Is (.list (xs.map .int)))) (h2 : Ev X e2 σ H (Is (.int (k : Nat)))) (hkk : 1 ≤ j := by decide) (hg : Gl X "_law_box" := by rfl)
    (he : starEach [e, e2] X.env = (false, eval e X.env) :: starEach [e2] X.env := by rfl) (he2 : starEach [e2] X.env = (false, eval e2 X.env) :: starEach [] X.env := by rfl) (hpl : (backTo pos (starEach [e2] X.env)).any (·.1) = false := by rfl) : EvN X (.Call (.Name "_law_box" p) [e, e2] [] pos) σ H (boxD (xs.getD k 0) k) :=
  ev_pl (xs, k) c hr (ea_cons h (ea_cons h2 ea_nil he2) he) (fun vs H1 _ t => by
    obtain ⟨v, u, e, r1, r2⟩ := two_of t
    subst e
    exact ⟨v, by rw [is_int r2], r1, hk, hz⟩) hkk hg (by decide) he hpl
theorem ev_right {X : Cx} {σ : L2.St} {H : Hp} {e : Expr} {p pos : Pos} {j : Nat} {a b : Int} (c : CRight X.prog X.w X.K X.mg X.base) (hr : Room j X.A) (h : EvN X e σ H [.int a, .int b, .int 0]) (hk : 42 ≤ j := by decide) (hg : Gl X "_law_right" := by rfl) (he : starEach [e] X.env = (false, eval e X.env) :: starEach [] X.env := by rfl) (hpl : (backTo pos (starEach [] X.env)).any (·.1) = false := by rfl) :
    Ev X (.Call (.Name "_law_right" p) [e] [] pos) σ H (Is (.bool true)) := fun H1 m Q z =>
  we (C8.pe_c c hr hk hg (pa_w [e]) (by decide) he hpl) (wa_one (h H1 m _ fun q xs H2 s2 f2 h2 hx2 => by
    have ex : xs = ([a, b, 0] : List Int).map V.int := RpA.ints (xs := [a, b, 0]) hx2
    subst ex
    show PJ ARight (fun _ => Is (.bool true)) 333 ([V.ref q] ++ []) H2 Q E0
    exact ⟨(), q, 0, [], H1, [], rfl, ⟨a, b, 0, Int.le_refl _, by decide, Mu.add (Mu.nil H1) s2 f2 h2 (by intro _ z; cases z)⟩, rfl, fun v F' H' sF jF r => z v H' (sF.trans jF.sam) (Rp.mono jF.sm _ _ r)⟩) he)
theorem law_body (B : Blt mg) (c1 : CHand P w K mg base) (c2 : CCells P w K mg base) (c3 : CBox P w K mg base) (c4 : CRight P w K mg base) {f : Addr} {cdv : Value} {Ar : Around} {outer : List Env} {s : Shared} {H : Hp} {vs : List V} {Q : VK} {E : XK} (hr : Room 43 (XF P w K mg base NLaw "law" (defScope sLaw) f cdv Ar outer s H E).A) (h : spLaw K vs H Q E) :
    wB (XF P w K mg base NLaw "law" (defScope sLaw) f cdv Ar outer s H E) (defBody sLaw) { nx := fun _ H' => Q .non H', rt := Q } (start NLaw vs) H := by
  obtain ⟨a, ns, e, hS, hz, q⟩ := h
  subst e
  refine b_cons (s_if (k := false) (EvT.is (et_not (et_val (k := true) (ev_c0 c1 hr))) rfl) (fun z => by cases z) fun _ H1 s1 => b_nil ?_)
  have hS1 : RScr ns K (.ref a) H1 := Mono.up (R := RScr ns K) (sm_of s1) ⟨a, rfl, hS⟩
  refine b_cons (s_set 1 sc_law.nd (R := RCells) (ev_pf ns c2 hr (ea_cons (ev_name 0 (R := RScr ns K) rfl hS1) (ea_cons (ev_int (i := 3)) ea_nil)) (fun vs H2 m2 t => by
    obtain ⟨v, u, e, r1, r2⟩ := two_of t
    subst e
    exact ⟨v, by rw [is_int r2], r1, hz⟩)) fun cv H2 s2 ⟨ys, ry, l1, l3⟩ => ?_)
  refine b_one (s_ret (R := Is (.bool true)) (Ev.is (ev_all (bs := (List.range ys.length).map fun _ => true) B.all (Ev.is (ev_lcA (i := 2) (l := List.range ys.length) (enc := fun k => .int (k : Nat)) (g := fun _ => .bool true) (defScope sLaw) sc_law.nd (src_range (Ev.is (ev_len B.len (sq_l (ev_name 1 (R := Is (.list (ys.map .int))) rfl ry))) (by rw [List.length_map])) (by omega) B.range) (fun _ _ => by simp [tupD]) fun k hk v H3 m3 rv j => ?_) (by rw [List.map_map]; rfl))) ?_) fun z H3 s3 r3 => ?_)
  · exact ev_right c4 hr (evN_box c3 hr (List.mem_range.mp hk) l3 (ev_name 1 (R := Is (.list (ys.map .int))) rfl (Rp.mono m3 _ _ ry)) (ev_name 2 (R := Is (.int (k : Nat))) rfl rv))
  · have al : (((List.range ys.length).map fun _ => true).all fun k => k) = true := by
      rw [List.all_map, List.all_eq_true]
      intro _ _
      rfl
    rw [al]
  · rw [is_bl r3]
    exact q H3
end
end My
/-! C18 -/
namespace My
open PySem L2
theorem swaps_lit {e : Expr} {d : PyData} (h : litD e = some d) (t : Option Expr) (l : Nat) (env : Env) : swapsWith e t l env = pure false := by
  cases e with
  | ListComp => simp [litD] at h
  | SetComp => simp [litD] at h
  | DictComp => simp [litD] at h
  | _ => rfl
theorem folded_lit {e : Expr} {d : PyData} (h : litD e = some d) (env : Env) (x : Value) : foldedSetIterable e env x = pure x := by
  cases e with
  | SetComp => simp [litD] at h
  | Set => simp [litD] at h
  | _ => rfl
/-- .. told by a structure: its type is not unfolded -/
structure WB (X : Cx) (st : List Stmt) (D : Ends) (σ : L2.St) (H : Hp) : Prop where
  go : wB X st D σ H
theorem b_go {X : Cx} {st : List Stmt} {D : Ends} {σ : L2.St} {H : Hp} (h : WB X st D σ H) : wB X st D σ H := h.go
theorem cal_pfW {P : Program} {w : World} {K : PySem.W.Frag} {mg : Str → Option Value} {base : Heap} {α : Type} {A : α → RelA} {B : α → Rel} {x : Str} {st : Stmt} {N ps : List Str} {k : Nat} (F : Df K mg x st) (S : FnScope N ps (defScope st))
    (hb : ∀ (kV doc pm : Value) (an : Option Addr) (cdv ct : Value) (us : List Value), us.length = ps.length → bindArgs (PySem.W.fnOf x x (defArgs st) (defBody st) (defScope st) .none kV doc pm an cdv ct) ⟨us, []⟩ = pure (ps.zip us))
    (len : ∀ x vs H, A x vs H → vs.length = ps.length)
    (body : ∀ (f : Addr) (cdv : Value) (Ar : Around) (outer : List Env) (s : Shared) (H : Hp) (vs : List V) (Q : VK) (E : XK) (a : α), Room k (XF P w K mg base N x (defScope st) f cdv Ar outer s H E).A → A a vs H → (∀ v H', Same H H' → B a v H' → Q v H') →
      WB (XF P w K mg base N x (defScope st) f cdv Ar outer s H E) (defBody st) { nx := fun _ H' => Q .non H', rt := Q } (start N vs) H) : C8.Cal P w K mg base (k + 1) x (PF A B) [] :=
  cal_pf F S hb len fun f cdv Ar outer s H vs Q E a hr h q => b_go (body f cdv Ar outer s H vs Q E a hr h q)
section
variable {X : Cx} {σ : L2.St} {H F : Hp} {ps : List Addr} {D : Ends} {tg iter a b c e e2 : Expr} {body body2 : List Stmt} {p pos : Pos} {ds es : List PyData} {Q : VK}
/-- the signs of a text, beside changing things -/
theorem srcF_str {x : Str} (h : Ev X iter σ F (Is (.str x))) (hz : x.cps.size ≤ 100000) (hd : x.cps.toList.map (fun c => PyData.str ⟨#[c]⟩) = ds) : SrcF X tg iter σ F ps ds := fun H1 m c R k => by
  subst hd
  refine wi (pi_str (pe_w iter)) (h H1 (sm_of m) _ fun v H2 s2 r2 => ?_)
  obtain ⟨w1, w2⟩ := cond_cut c s2 m
  refine ⟨x, is_str r2, k _ (cut ps H2) H2 s2 w1 (cut_same _ _) w2 (fun p hp => cut_in hp) ⟨by rw [List.length_map]; exact Nat.le_trans (by simpa using hz) (by decide), fun i H' s hi => ?_, fun H' s => ?_, fun i H' v H'' s y hi => ?_⟩⟩
  · rw [List.length_map, Array.length_toList] at hi
    exact hi
  · show x.cps.size ≤ _
    rw [List.length_map, Array.length_toList]
    exact Nat.le_refl _
  · obtain ⟨e, c, hc, e2⟩ := y
    subst e e2
    exact ⟨Same.refl _, _, by rw [List.getElem?_map, Array.getElem?_toList, hc]; rfl, .str _⟩
theorem src_strI {x : Str} (h : Ev X iter σ H (Is (.str x))) (hz : x.cps.size ≤ 100000) (hd : x.cps.toList.map (fun c => PyData.str ⟨#[c]⟩) = ds) : Src X tg iter σ H ds := hd ▸ src_str h hz
theorem s_ifW (h : wT X c σ H fun k H1 => if k = true then wB X body D σ H1 else wB X body2 D σ H1) : wS X (.If c body body2 pos) D σ H := ws (ps_if (pt_w c) (pb_w body) (pb_w body2)) h
theorem srcAt_new (h : EvAtN X iter σ H ds) : SrcAt X tg iter σ H ds := fun R k => by
  refine wi (pi_list (pe_w iter)) ?_
  refine we_inv (h _ fun q xs H2 s2 f2 h2 hx pins s I => ?_)
  have ha : Rd H2 q (.lst xs) := .inl h2
  obtain ⟨_, _, _, hz⟩ := I.list (a := q) (xs := xs) (.inl ha)
  have up : ∀ {H'}, Same H2 H' → SqL X.K H' q xs := fun s => .inl ((sm_of s).rd _ _ True.intro ha)
  refine ⟨q, rfl, ⟨xs, .inl ha⟩, k _ H2 s2 ⟨by rw [← hx.length]; exact hz, fun i H' s hi => ⟨xs, xs[i]'(by rw [hx.length]; exact hi), up s, by simp⟩, fun H' s => ⟨xs, up s, by rw [hx.length]; exact Nat.le_refl _⟩, fun i H' x H'' s y hi => ?_⟩⟩
  obtain ⟨e, q2⟩ := y
  subst e
  obtain ⟨d, hd, hr⟩ := hx.get (q2 xs (up s))
  exact ⟨Same.refl _, d, hd, Rp.mono (sm_of s) _ _ hr⟩
/-- xs + [..] -/
theorem evAtN_cat {l : Addr} {xs : List V} (ha : At X a σ H l) (hl : H l = some (.lst xs)) (hx : RpA H xs ds) (hb : EvN X b σ H es) (hz : ds.length + es.length ≤ 1000) : EvAtN X (.BinOp a .Add b pos) σ H (ds ++ es) := fun Q k =>
  we (pe_op op_cat (pe_w a) (pe_w b)) (ha _ (hb H (Sm.refl _) _ fun q ys H2 s2 f2 h2 hy => ⟨l, q, xs, ys, rfl, rfl, s2 _ _ hl, h2, by rw [hx.length, hy.length, sizeLine_eq]; omega, fun p hp => k p _ _ (s2.trans (same_new hp)) (s2.free hp) upd_same (RpA.append (RpA.mono (sm_of (s2.trans (same_new hp))) _ _ hx) (RpA.mono (sm_of (same_new hp)) _ _ hy))⟩))
theorem evAtN_cat2 (ha : EvN X a σ H ds) (hb : EvN X b σ H es) (hz : ds.length + es.length ≤ 1000) : EvAtN X (.BinOp a .Add b pos) σ H (ds ++ es) := fun Q k =>
  we (pe_op op_cat (pe_w a) (pe_w b)) (ha H (Sm.refl _) _ fun l xs H1 s1 f1 h1 hx => hb H1 (sm_of s1) _ fun q ys H2 s2 f2 h2 hy => ⟨l, q, xs, ys, rfl, rfl, s2 _ _ h1, h2, by rw [hx.length, hy.length, sizeLine_eq]; omega, fun p hp => k p _ _ (s1.trans (s2.trans (same_new hp))) ((s1.trans s2).free hp) upd_same (RpA.append (RpA.mono (sm_of (s2.trans (same_new hp))) _ _ hx) (RpA.mono (sm_of (same_new hp)) _ _ hy))⟩)
theorem wt_ne {k n : Nat} {d d' : PyData} {Q : Bool → Hp → Prop} (hr : Room k X.A) (ha : EvAt X a σ H (Is d)) (hb : ∀ H1, Same H H1 → EvAt X b σ H1 (Is d')) (h1 : Shp n d) (h2 : Shp n d') (q : ∀ H1, Same H H1 → Q (!PyData.eqv d d') H1) (hn : n ≤ 64 := by decide) (hm : behindInMarks .NotEq b = false := by first | exact nomark _ | rfl) : wT X (.Compare a [.NotEq] [b] pos) σ H Q :=
  wt (pt_cmpR (op_neP hn (room_u65 hr)) (pe_w a) (pe_w b) hm) (ha _ fun x H2 s2 r2 => hb H2 s2 _ fun y H3 s3 r3 => ⟨d, d', Rp.mono (sm_of s3) _ _ r2, r3, h1, h2, _, rfl, q H3 (s2.trans s3)⟩)
theorem w_same {m j : Nat} {d : PyData} (c : CSame m X.prog X.w X.K X.mg X.base) (hr : Room j X.A) (fl : flatD d = true) (dp : d.depth ≤ m) (h : wE X e σ H fun v H1 => wE X e2 σ H1 fun u H2 => Rp H2 v d ∧ Rp H2 u d ∧ ∀ H3, Same H2 H3 → Q (.bl true) H3) (hk : m + 1 ≤ j := by decide) (hg : Gl X "_law_same" := by rfl)
    (he : starEach [e, e2] X.env = (false, eval e X.env) :: starEach [e2] X.env := by rfl) (he2 : starEach [e2] X.env = (false, eval e2 X.env) :: starEach [] X.env := by rfl) (hpl : (backTo pos (starEach [e2] X.env)).any (·.1) = false := by rfl) : wE X (.Call (.Name "_law_same" p) [e, e2] [] pos) σ H Q :=
  we (C8.pe_c c hr hk hg (pa_w [e, e2]) (by decide) he hpl) (wa (pa_cons (pe_w e) (pa_cons (pe_w e2) pa_nil he2) he) fun pins s I => thn (h pins s I) fun u s' ⟨v, H1, I1, r1, q1⟩ => ⟨v, H1, I1, r1, fun pins s I => thn (q1 pins s I) fun u s' ⟨v2, H2, I2, r2, q2, q3, q4⟩ => ⟨v2, H2, I2, r2, by
    show PF (ASame m) (fun _ => Is (.bool true)) ([v, v2] ++ []) H2 Q E0
    exact ⟨d, ⟨.cons q2 (.cons q3 .nil), fl, dp⟩, fun z H3 s3 r3 => by rw [is_bl r3]; exact q4 H3 s3⟩⟩⟩)
theorem EvAtN.go (h : EvAtN X e σ H ds) (k : ∀ p xs H2, Same H H2 → H p = none → H2 p = some (.lst xs) → RpA H2 xs ds → Q (.ref p) H2) : wE X e σ H Q := h Q k
end
end My
/-! L18 -/
namespace My
open PySem L2
section
variable {P : Program} {w : World} {K : PySem.W.Frag} {mg : Str → Option Value} {base : Heap}
/-! ### _law_four -/
abbrev sFour : Stmt := top 56
abbrev NFour : List Str := ["_law_four_so", "_law_cross_so"]
theorem sc_four : FnScope NFour [] (defScope sFour) := ⟨rfl, rfl, rfl, by decide +kernel, rfl, by decide +kernel, by decide +kernel⟩
abbrev CFour (P : Program) (w : World) (K : PySem.W.Frag) (mg : Str → Option Value) (base : Heap) : Prop := C8.Cal P w K mg base 1 "_law_four" (PF (fun (_ : Unit) vs _ => vs = []) fun _ => Is (.tuple [eB fourB, eB crossB, eB loneB])) []
abbrev p0 : Pos := ⟨0, 0, 0, 0⟩
def asgE (st : Stmt) : Expr := match st with | .Assign _ e _ => e | _ => .Constant .none 0 p0
def stF (i : Nat) : Stmt := (defBody sFour).getD i (.Pass p0)
def e1F : Expr := asgE (stF 0)
def e2F : Expr := asgE (stF 1)
def e3F : Expr := match asgE (stF 2) with | .BinOp _ _ b _ => b | e => e
def e4F : Expr := match stF 3 with | .Return (some (.Tuple [_, .Tuple [_, e] _ _, _] _ _)) _ => e | _ => .Constant .none 0 p0
def e5F : Expr := match stF 3 with | .Return (some (.Tuple [_, _, e] _ _)) _ => e | _ => .Constant .none 0 p0
def bodyF (e1 e2 e3 e4 e5 : Expr) : List Stmt := match defBody sFour with
  | [.Assign t1 _ q1, .Assign t2 _ q2, .Assign t3 (.BinOp a3 o3 _ r3) q3, .Return (some (.Tuple [a, .Tuple [b, _] x1 x2, _] x3 x4)) q4] => [.Assign t1 e1 q1, .Assign t2 e2 q2, .Assign t3 (.BinOp a3 o3 e3 r3) q3, .Return (some (.Tuple [a, .Tuple [b, e4] x1 x2, e5] x3 x4)) q4]
  | l => l
theorem bodyF_eq : bodyF e1F e2F e3F e4F e5F = defBody sFour := by kernel_rfl
theorem lit1 : litD e1F = some (eB fourB) := by kernel_rfl
theorem lit2 : litD e2F = some (.tuple ((crossB.rows.take 4).map eR)) := by kernel_rfl
theorem lit3 : litD e3F = some (.tuple ((crossB.rows.drop 4).map eR)) := by kernel_rfl
theorem lit4 : litD e4F = some (eN crossB.live) := by kernel_rfl
theorem lit5 : litD e5F = some (eB loneB) := by kernel_rfl
theorem cross_cat : (crossB.rows.take 4).map eR ++ (crossB.rows.drop 4).map eR = crossB.rows.map eR := by
  rw [← List.map_append, List.take_append_drop]
theorem four_body {e1 e2 e3 e4 e5 : Expr} {d1 d4 d5 : PyData} {ds2 ds3 : List PyData} (h1 : litD e1 = some d1) (h2 : litD e2 = some (.tuple ds2)) (h3 : litD e3 = some (.tuple ds3)) (h4 : litD e4 = some d4) (h5 : litD e5 = some d5) (hz : ds2.length + ds3.length ≤ 100)
    {f : Addr} {cdv : Value} {Ar : Around} {outer : List Env} {s : Shared} {H : Hp} {E : XK} {Q : VK} (q : ∀ (v : V) (H' : Hp), Same H H' → Is (.tuple [d1, .tuple [.tuple (ds2 ++ ds3), d4], d5]) v H' → Q v H') :
    WB (XF P w K mg base NFour "_law_four" (defScope sFour) f cdv Ar outer s H E) (bodyF e1 e2 e3 e4 e5) { nx := fun _ H' => Q .non H', rt := Q } (start NFour []) H := by
  refine ⟨?_⟩
  refine b_cons (s_set 0 sc_four.nd (R := Is d1) (lit_ev _ _ h1) (fun v1 H1 s1 r1 => ?_) (hs := swaps_lit h1 _ _ _))
  refine b_cons (s_set 1 sc_four.nd (R := Is (.tuple ds2)) (lit_ev _ _ h2) (fun v2 H2 s2 r2 => ?_) (hs := swaps_lit h2 _ _ _))
  refine b_cons (s_set 1 sc_four.nd (R := Is (.tuple (ds2 ++ ds3))) (ev_addT (ev_name 1 (R := Is (.tuple ds2)) rfl r2) (lit_ev _ _ h3) (by omega)) fun v3 H3 s3 r3 => ?_)
  have r13 : Rp H3 v1 d1 := Rp.mono (sm_of (s2.trans s3)) _ _ r1
  refine b_one (s_ret (R := Is (.tuple [d1, .tuple [.tuple (ds2 ++ ds3), d4], d5])) (ev_tup (ea_is (ev_name 0 (R := Is d1) rfl r13) (ea_is (ev_tup (ea_is (ev_name 1 (R := Is (.tuple (ds2 ++ ds3))) rfl r3) (ea_is (lit_ev _ _ h4) ea_isNil (star_lit h4))) (by simp)) (ea_is (lit_ev _ _ h5) ea_isNil (star_lit h5)))) (by simp)) fun z H4 s4 r4 => q z H4 (s1.trans (s2.trans (s3.trans s4))) r4)
theorem hbF (kV doc pm : Value) (an : Option Addr) (cdv ct : Value) (us : List Value) (hl : us.length = ([] : List Str).length) : bindArgs (PySem.W.fnOf "_law_four" "_law_four" (defArgs sFour) (defBody sFour) (defScope sFour) .none kV doc pm an cdv ct) ⟨us, []⟩ = pure (([] : List Str).zip us) := by
  match us, hl with
  | [], _ => rfl
theorem cal_four (Fd : Df K mg "_law_four" sFour) : CFour P w K mg base := by
  refine cal_pfW (A := fun (_ : Unit) vs _ => vs = []) Fd sc_four hbF (fun d vs H h => by rw [show vs = [] from h]; rfl) (fun f cdv Ar outer s H vs Q E u hr e q => ?_)
  have e : vs = [] := e
  subst e
  rw [← bodyF_eq]
  refine four_body lit1 lit2 lit3 lit4 lit5 (by decide +kernel) fun v H' s' r => ?_
  rw [cross_cat] at r
  exact q v H' s' r
end
end My
/-! L19 -/
namespace My
open PySem L2
theorem tag_ok {x : Str} (h : x ∈ tagsH) : x ∈ awaited crossB ∧ 3 ≤ gapI crossB x ∧ 3 ≤ (freeO crossB x).length ∧ IsOrd crossB (owg crossB x 3) ∧ IsOrd crossB (owg crossB x 0) ∧ endOf crossB (owg crossB x 3) (slowed crossB [(x, FAR)]) - FAR = 3 ∧ endOf crossB (owg crossB x 0) (slowed crossB [(x, FAR)]) - FAR = 6 := by
  have z := handT_all x h
  unfold handT at z
  simp only [Bool.and_eq_true, decide_eq_true_eq] at z
  obtain ⟨⟨⟨⟨⟨⟨h1, h2⟩, h3⟩, h4⟩, h5⟩, h6⟩, h7⟩ := z
  exact ⟨h1, h2, h3, (mem_ords wf_cross).mp h4, (mem_ords wf_cross).mp h5, h6, h7⟩
theorem tags_cps : (("abpq" : Str).cps.toList.map fun c => PyData.str ⟨#[c]⟩) = tagsH.map PyData.str := by kernel_rfl
section
variable {P : Program} {w : World} {K : PySem.W.Frag} {mg : Str → Option Value} {base : Heap}
theorem ev_owg {X : Cx} {σ : L2.St} {H : Hp} {e e2 e3 : Expr} {p pos : Pos} {j : Nat} {b : Blk} {x : Str} {g : Nat} (c : COwg X.prog X.w X.K X.mg X.base) (hr : Room j X.A) (wf : WF b) (ok : OkL b) (ha : x ∈ awaited b) (h1 : (g : Int) ≤ gapI b x) (h2 : g ≤ (freeO b x).length) (he1 : Ev X e σ H (Is (eB b))) (he2 : Ev X e2 σ H (Is (.str x))) (he3 : Ev X e3 σ H (Is (.int (g : Nat)))) (hk : 11 ≤ j := by decide) (hg : Gl X "order_with_gap" := by rfl)
    (he : starEach [e, e2, e3] X.env = (false, eval e X.env) :: starEach [e2, e3] X.env := by rfl) (hee : starEach [e2, e3] X.env = (false, eval e2 X.env) :: starEach [e3] X.env := by rfl) (heee : starEach [e3] X.env = (false, eval e3 X.env) :: starEach [] X.env := by rfl) (hpl : (backTo pos (starEach [e2, e3] X.env)).any (·.1) = false := by rfl) : Ev X (.Call (.Name "order_with_gap" p) [e, e2, e3] [] pos) σ H (Is (eN (owg b x g))) :=
  ev_pf (b, x, g) c hr (ea_is he1 (ea_is he2 (ea_is he3 ea_isNil heee) hee) he) (fun vs H1 _ t => ⟨t, wf, ok, ha, h1, h2⟩) hk hg (by decide) he hpl
/-! ### _law_hand_right -/
abbrev sHand : Stmt := top 60
abbrev NHand : List Str := ["_law_far_so", "_law_some", "_law_got", "_law_due", "_law_tag", "_law_lasts_so", "_law_four_so", "_law_cross_so", "_law_lone_so", "_law_line_so", "_law_lines_so", "_law_told", "_law_own"]
theorem sc_hand : FnScope NHand [] (defScope sHand) := ⟨rfl, rfl, rfl, by decide +kernel, rfl, by decide +kernel, by decide +kernel⟩
abbrev XHand (P : Program) (w : World) (K : PySem.W.Frag) (mg : Str → Option Value) (base : Heap) (f : Addr) (cdv : Value) (A : Around) (outer : List Env) (s : Shared) (H : Hp) (E : XK) : Cx := XF P w K mg base NHand "_law_hand_right" (defScope sHand) f cdv A outer s H E
def dueD (k : Nat) : List PyData := [.bool false, .bool false, .bool false, .bool true, .bool true] ++ (List.replicate k [PyData.int 3, .int 6]).flatten
theorem dueD_succ (k : Nat) : dueD (k + 1) = dueD k ++ [.int 3, .int 6] := by
  unfold dueD
  rw [List.replicate_succ', List.flatten_append, List.append_assoc]
  rfl
theorem dueD_len (k : Nat) : (dueD k).length = 5 + 2 * k := by
  induction k with
  | zero => rfl
  | succ k ih =>
    rw [dueD_succ, List.length_append, ih]
    show 5 + 2 * k + 2 = 5 + 2 * (k + 1)
    omega
theorem dueD_tup (k : Nat) : tupDs (dueD k) = true := by
  induction k with
  | zero => simp [dueD, tupDs, tupD]
  | succ k ih =>
    rw [dueD_succ]
    exact tupDs_append ih (by simp [tupDs, tupD])
def Atom (ds : List PyData) : Prop := ∀ d ∈ ds, (∃ k, d = .bool k) ∨ ∃ i, d = .int i
theorem Atom.mv {H H' : Hp} : ∀ {ds : List PyData} {vs : List V}, Atom ds → RpA H vs ds → RpA H' vs ds
  | [], _, _, r => by cases r; exact .nil
  | d :: ds, _, h, r => by
    cases r with
    | cons r1 r2 =>
      refine .cons ?_ (Atom.mv (fun d hd => h d (List.mem_cons_of_mem _ hd)) r2)
      rcases h d List.mem_cons_self with ⟨k, e⟩ | ⟨i, e⟩
      · subst e; cases r1; exact .bl _
      · subst e; cases r1; exact .int _
theorem dueD_atom (k : Nat) : Atom (dueD k) := by
  induction k with
  | zero =>
    intro d hd
    have hd : d ∈ [PyData.bool false, .bool false, .bool false, .bool true, .bool true] := by simpa [dueD] using hd
    simp only [List.mem_cons, List.not_mem_nil, or_false] at hd
    rcases hd with e | e | e | e | e <;> exact .inl ⟨_, e⟩
  | succ k ih =>
    rw [dueD_succ]
    intro d hd
    rcases List.mem_append.mp hd with h | h
    · exact ih d h
    · simp only [List.mem_cons, List.not_mem_nil, or_false] at h
      rcases h with e | e <;> exact .inr ⟨_, e⟩
theorem dueD_dep (k : Nat) : PyData.depthAll (dueD k) ≤ 0 := by
  induction k with
  | zero => simp [dueD, PyData.depthAll, PyData.depth]
  | succ k ih =>
    rw [dueD_succ]
    have ap : ∀ (a c : List PyData), PyData.depthAll a ≤ 0 → PyData.depthAll c ≤ 0 → PyData.depthAll (a ++ c) ≤ 0 := by
      intro a
      induction a with
      | nil => intro c _ h; exact h
      | cons x a ih =>
        intro c h1 h2
        simp only [PyData.depthAll] at h1
        rw [List.cons_append]
        simp only [PyData.depthAll]
        have := ih c (by omega) h2
        omega
    exact ap _ _ ih (by simp [PyData.depthAll, PyData.depth])
def lastD : List PyData := dueD 4 ++ [.int (FAR + 2), .int 7]
theorem lastD_ok : tupDs lastD = true ∧ (PyData.list lastD).depth ≤ 4 := by
  refine ⟨tupDs_append (dueD_tup 4) (by simp [tupDs, tupD]), ?_⟩
  simp [lastD, dueD, PyData.depth, PyData.depthAll]
abbrev restT : List Stmt := (defBody sHand).drop 5
def stT (i : Nat) : Stmt := restT.getD i (.Pass p0)
def e7T : Expr := match stT 1 with | .Assign _ (.ListComp _ [⟨_, e, _, _⟩] _ _) _ => e | _ => .Constant .none 0 p0
def es8T : List Expr := match stT 2 with | .Assign _ (.List es _) _ => es | _ => []
def eaT : Expr := match stT 5 with | .Assign _ (.BinOp _ _ (.List [_, .Call _ [_, e, _] _ _] _) _) _ => e | _ => .Constant .none 0 p0
def ebT : Expr := match stT 5 with | .Assign _ (.BinOp _ _ (.List [_, .Call _ [_, _, e] _ _] _) _) _ => e | _ => .Constant .none 0 p0
def bodyT (e7 : Expr) (es8 : List Expr) (ea eb : Expr) : List Stmt := match (defBody sHand).drop 5 with
  | [s5, .Assign t6 (.ListComp elt [⟨tg, _, ifs, a⟩] sc p) q6, .Assign t7 (.List _ p7) q7, s8, s9, .Assign t10 (.BinOp a10 o10 (.List [x1, .Call fn [l1, _, _] kw pc] pl) p10) q10, s11] => [s5, .Assign t6 (.ListComp elt [⟨tg, e7, ifs, a⟩] sc p) q6, .Assign t7 (.List es8 p7) q7, s8, s9, .Assign t10 (.BinOp a10 o10 (.List [x1, .Call fn [l1, ea, eb] kw pc] pl) p10) q10, s11]
  | l => l
theorem bodyT_eq : bodyT e7T es8T eaT ebT = (defBody sHand).drop 5 := by kernel_rfl
theorem lit7T : litD e7T = some (eM prsH) := by kernel_rfl
theorem lit8T : litDs es8T = some (dueD 0) := by kernel_rfl
theorem litaT : litD eaT = some (eN ["q", "a", "u"]) := by kernel_rfl
theorem litbT : litD ebT = some (.tuple (([("a", 5)] : List (Str × Int)).map dL)) := by kernel_rfl
/-- the fifth statement on -/
theorem hand_tailT {e7 ea eb : Expr} {es8 : List Expr} (h7 : litD e7 = some (eM prsH)) (h8 : litDs es8 = some (dueD 0)) (hea : litD ea = some (eN ["q", "a", "u"])) (heb : litD eb = some (.tuple (([("a", 5)] : List (Str × Int)).map dL))) (B : Blt mg) (c1 : COwg P w K mg base) (c2 : CLines P w K mg base) (c3 : CApart P w K mg base) (c4 : CEnd P w K mg base) (c5 : CSlowed P w K mg base) (c6 : CSame 4 P w K mg base) {f : Addr} {cdv : Value} {Ar : Around} {outer : List Env} {s : Shared} {H0 H : Hp} {Q : VK} {E : XK} {v4 vc vl vn vm : V} {o2 o3 o4 o5 o11 o12 : Option V} {sp : Addr}
    (hr : Room 29 (XHand P w K mg base f cdv Ar outer s H0 E).A) (h4 : Rp H v4 (eB fourB)) (hc : Rp H vc (eB crossB)) (hl : Rp H vl (eB loneB)) (hn : Rp H vn (eN lineH)) (hm : Rp H vm (.list ((ords crossB).map eN)))
    (q : ∀ (H' : Hp), Same H H' → Q (.bl true) H') :
    WB (XHand P w K mg base f cdv Ar outer s H0 E) (bodyT e7 es8 ea eb) { nx := fun _ H' => Q .non H', rt := Q } [some (.int FAR), some (.ref sp), o2, o3, o4, o5, some v4, some vc, some vl, some vn, some vm, o11, o12] H := by
  refine ⟨?_⟩
  have up : ∀ {H'}, Same H H' → Rp H' v4 (eB fourB) ∧ Rp H' vc (eB crossB) ∧ Rp H' vl (eB loneB) ∧ Rp H' vn (eN lineH) ∧ Rp H' vm (.list ((ords crossB).map eN)) := fun s => ⟨Rp.mono (sm_of s) _ _ h4, Rp.mono (sm_of s) _ _ hc, Rp.mono (sm_of s) _ _ hl, Rp.mono (sm_of s) _ _ hn, Rp.mono (sm_of s) _ _ hm⟩
  obtain ⟨f1, f2, f3, f4, f5⟩ := four_a
  have iof := (mem_ords wf_four).mp f4
  have iol := (mem_ords wf_cross).mp line_ok.2
  refine b_cons (s_if (k := false) (EvT.is (et_notInD (n := 4) hr (ev_owg (x := "a") (g := 2) c1 hr wf_four okL_four f1 f2 f3 (ev_name 6 (R := Is (eB fourB)) rfl h4) ev_str ev_int) (sq_l (evN_lines c2 hr wf_four (ev_name 6 (R := Is (eB fourB)) rfl h4)).ev) ((shp_names (n := 0) _).le (by decide)) (shpA_map (n := 1) fun o _ => shp_names o).1) ?_) (fun z => by cases z) fun _ H1 s1 => b_nil ?_)
  · have z : (((ords fourB).map eN).any fun z => PyData.eqv z (eN (owg fourB "a" 2))) = true := by
      rw [List.any_map]
      exact List.any_eq_true.mpr ⟨_, f4, by show PyData.eqv (eN (owg fourB "a" 2)) (eN (owg fourB "a" 2)) = true; rw [eqv_strs]; simp⟩
    rw [z]
    rfl
  obtain ⟨_, c1', _, n1', _⟩ := up s1
  refine b_cons (s_setLcN 2 (i := 12) (l := prsH) (enc := eP) (f := fun _ => true) (g := fun p => .bool (apartB crossB lineH p FAR)) (defScope sHand) sc_hand.nd (src_tup (lit_ev _ (eM prsH) h7)) (fun _ _ _ => by simp [tupD]) (fun p hp v H2 m2 rv => ⟨fun j => ets_nil, fun _ j => ?_⟩) (fun gp gs H2 s2 g2 hg2 hx2 => ?_) (by rfl) (hs := folded_lit h7 _))
  · exact ev_apart c3 hr wf_cross iol (ap_ok.2 p hp) (ev_name 7 (R := Is (eB crossB)) rfl (Rp.mono m2 _ _ c1')) (ev_name 9 (R := Is (eN lineH)) rfl (Rp.mono m2 _ _ n1')) (ev_name 12 (R := Is (eP p)) rfl rv) (ev_name 0 (R := Is (.int FAR)) rfl (.int _))
  have e7 : ((prsH.filter fun _ => true).map fun p => PyData.bool (apartB crossB lineH p FAR)) = dueD 0 := by
    rw [List.filter_eq_self.mpr (fun _ _ => rfl)]
    have z := congrArg (List.map PyData.bool) ap_ok.1
    rw [List.map_map] at z
    exact z
  rw [e7] at hx2
  have mu2 : Mu H1 [(gp, .lst gs)] H2 := Mu.add (Mu.nil H1) s2 g2 hg2 (by intro _ z; cases z)
  refine b_cons (s_setW 3 sc_hand.nd (EvN.go (evN_lst (ds := dueD 0) (lits_ev _ _ h8) (by simp [dueD])) fun dp ds0 H3 s3 d3 hd3 hx3 => ?_))
  obtain ⟨F3, w3, mu3, _, hdF⟩ := (mu2.add s3 d3 hd3 (by intro _ z; cases z)).done
  refine b_cons (s_for (F := F3) (ps := [gp]) (l := tagsH) (enc := PyData.str) (srcF_str ev_str (by decide) tags_cps) mu3.sam mu3.cond fun G H4 f4 tp4 np4 s4 g4 => ?_)
  have mu4 : Mu G [(gp, .lst gs)] H4 := ⟨g4, fun q hq => ⟨np4 _ (List.mem_map.mpr ⟨q, hq, rfl⟩), s4 _ _ (mu3.at_ q hq).2.1, (mu3.at_ q hq).2.2⟩, mu3.nd⟩
  have sHG : Same H G := s1.trans (w3.trans f4)
  refine ⟨fun i σ H' => ∃ (F' : Hp) (gs ds : List V) (dp : Addr) (o4 o11 : Option V), σ = [some (.int FAR), some (.ref sp), some (.ref gp), some (.ref dp), o4, o5, some v4, some vc, some vl, some vn, some vm, o11, o12] ∧ Same G F' ∧ Mu F' [(gp, .lst gs)] H' ∧ RpA F' gs (dueD i) ∧ F' dp = some (.lst ds) ∧ RpA F' ds (dueD i),
    ⟨G, gs, ds0, dp, o4, o11, rfl, Same.refl _, mu4, (dueD_atom 0).mv hx2, f4 _ _ hdF, (dueD_atom 0).mv hx3⟩, fun i σ H' ⟨_, _, _, _, _, _, _, sg, m, _⟩ => sg.trans m.sam, ?_, ?_⟩
  · rintro i x σ H5 H6 xv hx ⟨F5, gs, ds, dp, o4, o11, rfl, sg, mu5, rg, hdp, rd⟩ s6 rx
    have ex := is_str rx
    subst ex
    have hi : i < 4 := (List.getElem?_eq_some_iff.mp hx).1
    obtain ⟨a1, a2, a3, a4, a5, a6, a7⟩ := tag_ok (List.mem_of_getElem? hx)
    refine g_name 4 sc_hand.nd ?_
    have mu6 := mu5.eval s6
    have sX : Same H F5 := sHG.trans sg
    have k6 : Rp H6 vc (eB crossB) := (up (sX.trans mu6.sam)).2.1
    refine b_cons (s_set 11 sc_hand.nd (ev_owg (x := x) (g := 3) c1 hr wf_cross okL_cross a1 a2 a3 (ev_name 7 (R := Is (eB crossB)) rfl k6) (ev_name 4 (R := Is (.str x)) rfl (.str x)) ev_int) fun tv H7 s7 r7 => ?_)
    have mu7 := mu6.eval s7
    have k7 := Rp.mono (sm_of s7) _ _ k6
    have r7 : Rp H7 tv (eN (owg crossB x 3)) := r7
    have gl : gs.length < 1000 := by rw [rg.length, dueD_len]; omega
    refine b_cons (s_expr (e_append (at_name 2 rfl) mu7.one (R := Is (.int 3)) (Ev.is (ev_sub (ev_end c4 hr wf_cross a4 (slowed_keys _ _) (ev_name 7 (R := Is (eB crossB)) rfl k7) (ev_name 11 (R := Is (eN (owg crossB x 3))) rfl r7) (ev_slowed (m := [(x, FAR)]) c5 hr (ev_name 7 (R := Is (eB crossB)) rfl k7) (ev_dd1 (ev_name 4 (R := Is (.str x)) rfl (.str x)) (ev_name 0 (R := Is (.int FAR)) rfl (.int _))))) (ev_name 0 (R := Is (.int FAR)) rfl (.int _))) (by rw [a6])) (by omega) fun v8 H8 s8 r8 => ?_))
    have e8 := is_int r8
    subst e8
    have mu8 := (mu7.eval s8).put (o' := .lst (gs ++ [.int 3])) (by intro _ z; cases z)
    generalize upd H8 gp (.lst (gs ++ [.int 3])) = H9 at mu8
    have k9 : Rp H9 vc (eB crossB) := (up (sX.trans mu8.sam)).2.1
    refine b_cons (s_expr (e_append (at_name 2 rfl) mu8.one (R := Is (.int 6)) (Ev.is (ev_sub (ev_end c4 hr wf_cross a5 (slowed_keys _ _) (ev_name 7 (R := Is (eB crossB)) rfl k9) (ev_owg (x := x) (g := 0) c1 hr wf_cross okL_cross a1 (by omega) (Nat.zero_le _) (ev_name 7 (R := Is (eB crossB)) rfl k9) (ev_name 4 (R := Is (.str x)) rfl (.str x)) ev_int) (ev_slowed (m := [(x, FAR)]) c5 hr (ev_name 7 (R := Is (eB crossB)) rfl k9) (ev_dd1 (ev_name 4 (R := Is (.str x)) rfl (.str x)) (ev_name 0 (R := Is (.int FAR)) rfl (.int _))))) (ev_name 0 (R := Is (.int FAR)) rfl (.int _))) (by rw [a7])) (by rw [List.length_append, List.length_singleton]; omega) fun v10 H10 s10 r10 => ?_))
    have e10 := is_int r10
    subst e10
    have mu10 := (mu8.eval s10).put (o' := .lst (gs ++ [.int 3] ++ [.int 6])) (by intro _ z; cases z)
    generalize upd H10 gp (.lst (gs ++ [.int 3] ++ [.int 6])) = H11 at mu10
    refine b_one (s_setW 3 sc_hand.nd (EvAtN.go (evAtN_cat (at_name 3 rfl) (mu10.sam _ _ hdp) (RpA.mono mu10.sm _ _ rd) (evN_lst (ds := [.int 3, .int 6]) (ea_is ev_int (ea_is ev_int ea_isNil)) (by simp)) (by rw [dueD_len]; simp; omega)) fun dp2 ds2 H12 s12 d12 hd12 hx12 => ?_))
    obtain ⟨F12, w12, mu12, _, hdF2⟩ := (mu10.add s12 d12 hd12 (by intro _ z; cases z)).done
    refine ⟨F12, _, ds2, dp2, _, _, rfl, sg.trans w12, mu12, ?_, hdF2, ?_⟩
    · rw [dueD_succ, List.append_assoc]
      exact RpA.append (RpA.mono (sm_of w12) _ _ rg) (.cons (.int _) (.cons (.int _) .nil))
    · rw [← dueD_succ] at hx12
      exact (dueD_atom (i + 1)).mv hx12
  · rintro σ H5 ⟨F5, gs, ds, dp, o4, o11, rfl, sg, mu5, rg, hdp, rd⟩
    have lt : tagsH.length = 4 := rfl
    rw [lt] at rg rd
    have sX : Same H F5 := sHG.trans sg
    obtain ⟨k4, kc, kl, _, _⟩ := up (sX.trans mu5.sam)
    refine b_cons (s_set 5 sc_hand.nd (ev_slowed (m := [("a", FAR), ("b", 7)]) c5 hr (ev_name 6 (R := Is (eB fourB)) rfl k4) (ev_dd2 (by decide) ev_str (ev_name 0 (R := Is (.int FAR)) rfl (.int _)) ev_str ev_int)) fun lv H6 s6 r6 => ?_)
    have mu6 := mu5.eval s6
    have k46 := Rp.mono (sm_of s6) _ _ k4
    have kl6 := Rp.mono (sm_of s6) _ _ kl
    have r6 : Rp H6 lv (.tuple ((slowed fourB [("a", FAR), ("b", 7)]).map dL)) := r6
    refine b_cons (s_setW 2 sc_hand.nd (EvAtN.go (evAtN_cat (es := [.int (FAR + 2), .int 7]) (at_name 2 rfl) mu6.one (RpA.mono mu6.sm _ _ rg) (evN_lst (ea_is (Ev.is (ev_end c4 hr wf_four iof (slowed_keys _ _) (ev_name 6 (R := Is (eB fourB)) rfl k46) (ev_owg (x := "a") (g := 2) c1 hr wf_four okL_four f1 f2 f3 (ev_name 6 (R := Is (eB fourB)) rfl k46) ev_str ev_int) (ev_name 5 (R := Is (.tuple ((slowed fourB [("a", FAR), ("b", 7)]).map dL))) rfl r6)) (by rw [f5])) (ea_is (Ev.is (ev_end (b := loneB) (o := ["q", "a", "u"]) (ls := [("a", 5)]) c4 hr wf_lone ((mem_ords wf_lone).mp lone_q.1) lone_q.2.2.symm (ev_name 8 (R := Is (eB loneB)) rfl kl6) (lit_ev _ _ hea) (lit_ev _ _ heb) (he2 := star_lit hea) (he3 := star_lit heb) (hpl := by rw [star_lit hea, star_lit heb]; rfl)) (by rw [lone_q.2.1])) ea_isNil)) (by simp)) (by rw [dueD_len]; simp)) fun gp2 gs2 H7 s7 g7 hg7 hx7 => ?_))
    have rg7 : Rp H7 (.ref gp2) (.list lastD) := .lst (.inl hg7) hx7
    have hdp7 : H7 dp = some (.lst ds) := s7 _ _ (mu6.sam _ _ hdp)
    refine b_one (s_retW (w_same c6 hr (d := .list lastD) lastD_ok.1 lastD_ok.2 (At.go (at_name 2 rfl) (EvAtN.go (evAtN_cat (es := [.int (FAR + 2), .int 7]) (at_name 3 rfl) hdp7 ((dueD_atom 4).mv rd) (evN_lst (ea_is (ev_add (ev_name 0 (R := Is (.int FAR)) rfl (.int _)) ev_int) (ea_is ev_int ea_isNil)) (by simp)) (by rw [dueD_len]; simp)) fun dp2 ds2 H8 s8 d8 hd8 hx8 => ⟨Rp.mono (sm_of s8) _ _ rg7, .lst (.inl hd8) hx8, fun H9 s9 => q H9 (sX.trans (mu6.sam.trans (s7.trans (s8.trans s9))))⟩))))
theorem hand_tail (B : Blt mg) (c1 : COwg P w K mg base) (c2 : CLines P w K mg base) (c3 : CApart P w K mg base) (c4 : CEnd P w K mg base) (c5 : CSlowed P w K mg base) (c6 : CSame 4 P w K mg base) {f : Addr} {cdv : Value} {Ar : Around} {outer : List Env} {s : Shared} {H0 H : Hp} {Q : VK} {E : XK} {v4 vc vl vn vm : V} {o2 o3 o4 o5 o11 o12 : Option V} {sp : Addr}
    (hr : Room 29 (XHand P w K mg base f cdv Ar outer s H0 E).A) (h4 : Rp H v4 (eB fourB)) (hc : Rp H vc (eB crossB)) (hl : Rp H vl (eB loneB)) (hn : Rp H vn (eN lineH)) (hm : Rp H vm (.list ((ords crossB).map eN)))
    (q : ∀ (H' : Hp), Same H H' → Q (.bl true) H') :
    WB (XHand P w K mg base f cdv Ar outer s H0 E) ((defBody sHand).drop 5) { nx := fun _ H' => Q .non H', rt := Q } [some (.int FAR), some (.ref sp), o2, o3, o4, o5, some v4, some vc, some vl, some vn, some vm, o11, o12] H := by
  rw [← bodyT_eq]
  exact hand_tailT lit7T lit8T litaT litbT B c1 c2 c3 c4 c5 c6 hr h4 hc hl hn hm q
end
end My
/-! L20 -/
namespace My
open PySem L2
section
variable {P : Program} {w : World} {K : PySem.W.Frag} {mg : Str → Option Value} {base : Heap}
theorem cal_hand (Fd : Df K mg "_law_hand_right" sHand) (B : Blt mg) (c0 : CFour P w K mg base) (cm : COM P w K mg base) (c1 : COwg P w K mg base) (c2 : CLines P w K mg base) (c3 : CApart P w K mg base) (c4 : CEnd P w K mg base) (c5 : CSlowed P w K mg base) (c6 : CSame 4 P w K mg base) : CHand P w K mg base := by
  refine cal_pfW (A := fun (_ : Unit) vs _ => vs = []) Fd sc_hand (fun _ _ _ _ _ _ us hl => match us, hl with | [], _ => rfl) (fun d vs H h => by rw [show vs = [] from h]; rfl) (fun f cdv Ar outer s H vs Q E u hr e q => ⟨?_⟩)
  have e : vs = [] := e
  subst e
  refine b_cons (s_unpack (ds := [eB fourB, eB crossB, eB loneB]) (ev_c0 c0 hr) fun vs H1 s1 rv => ?_)
  obtain ⟨v4, vc, vl, rfl, r4, rc, rl⟩ := bl3 rv
  refine ⟨_, egs_cons (eg_name 6 sc_hand.nd) (egs_cons (eg_name 7 sc_hand.nd) (egs_cons (eg_name 8 sc_hand.nd) egs_nil)), ?_⟩
  refine b_cons (s_set 0 sc_hand.nd (R := Is (.int FAR)) (Ev.is (ev_pow (i := 10) (j := 39) ev_int ev_int ⟨by decide, by decide, by decide⟩) (congrArg PyData.int (by decide +kernel))) fun fv H2 s2 rf => ?_)
  have ef := is_int rf
  subst ef
  have rc2 := Rp.mono (sm_of s2) _ _ rc
  refine b_cons (s_parN (sg := fun vs => match vs with | [a, c] => [some (.int FAR), none, none, none, none, none, some v4, some vc, some vl, some a, some c, none, none] | _ => []) (wa (pa_cons (pe_w _) (pa_cons (pe_w _) pa_nil)) ?_))
  refine Ev.go (R := Is (eN lineH)) (Ev.is (ev_OM (ps := psH) cm hr wf_cross psH_ok (ev_name 7 (R := Is (eB crossB)) rfl rc2) (lit_ev _ (eM psH) (by kernel_rfl))) (by unfold orderMD; rw [line_ok.1])) fun nv H3 s3 r3 => ?_
  have rc3 := Rp.mono (sm_of s3) _ _ rc2
  refine EvN.go (evN_lines c2 hr wf_cross (ev_name 7 (R := Is (eB crossB)) rfl rc3)) fun lp lx H4 s4 f4 h4 hx4 => ?_
  refine ⟨by simp, rfl, fun pp hpp => ⟨egs_cons (eg_name 9 sc_hand.nd) (egs_cons (eg_name 10 sc_hand.nd) egs_nil), ?_⟩⟩
  have sn := same_new (o := .tup [nv, .ref lp]) hpp
  have s15 : Same H (upd H4 pp (.tup [nv, .ref lp])) := s1.trans (s2.trans (s3.trans (s4.trans sn)))
  have k4 := Rp.mono (sm_of (s2.trans (s3.trans (s4.trans sn)))) _ _ r4
  have kc := Rp.mono (sm_of (s4.trans sn)) _ _ rc3
  have kl := Rp.mono (sm_of (s2.trans (s3.trans (s4.trans sn)))) _ _ rl
  have kn : Rp (upd H4 pp (.tup [nv, .ref lp])) nv (eN lineH) := Rp.mono (sm_of (s4.trans sn)) _ _ r3
  have km : Rp (upd H4 pp (.tup [nv, .ref lp])) (.ref lp) (.list ((ords crossB).map eN)) := Rp.mono (sm_of sn) _ _ (.lst (.inl h4) hx4)
  generalize upd H4 pp (.tup [nv, .ref lp]) = H5 at s15 k4 kc kl kn km
  have io : ∀ x ∈ tagsH, IsOrd crossB (owg crossB x 3) ∧ IsOrd crossB (owg crossB x 0) := fun x hx => ⟨(tag_ok hx).2.2.2.1, (tag_ok hx).2.2.2.2.1⟩
  refine b_cons (s_setW 1 sc_hand.nd (EvAtN.go (evAtN_cat2 (ds := tagsH.map fun x => eN (owg crossB x 3)) (es := tagsH.map fun x => eN (owg crossB x 0))
    (EvN.is (evN_lc (i := 4) (l := tagsH) (enc := PyData.str) (f := fun _ => true) (g := fun x => eN (owg crossB x 3)) (defScope sHand) sc_hand.nd (src_strI ev_str (by decide) tags_cps) (fun _ _ _ => tupD_names _) fun x hx v H6 m6 rv => ⟨fun j => ets_nil, fun _ j => ev_owg (x := x) (g := 3) c1 hr wf_cross okL_cross (tag_ok hx).1 (tag_ok hx).2.1 (tag_ok hx).2.2.1 (ev_name 7 (R := Is (eB crossB)) rfl (Rp.mono m6 _ _ kc)) (ev_name 4 (R := Is (.str x)) rfl rv) ev_int⟩) (by rw [List.filter_eq_self.mpr (fun _ _ => rfl)]))
    (EvN.is (evN_lc (i := 4) (l := tagsH) (enc := PyData.str) (f := fun _ => true) (g := fun x => eN (owg crossB x 0)) (defScope sHand) sc_hand.nd (src_strI ev_str (by decide) tags_cps) (fun _ _ _ => tupD_names _) fun x hx v H6 m6 rv => ⟨fun j => ets_nil, fun _ j => ev_owg (x := x) (g := 0) c1 hr wf_cross okL_cross (tag_ok hx).1 (by have := (tag_ok hx).2.1; omega) (Nat.zero_le _) (ev_name 7 (R := Is (eB crossB)) rfl (Rp.mono m6 _ _ kc)) (ev_name 4 (R := Is (.str x)) rfl rv) ev_int⟩) (by rw [List.filter_eq_self.mpr (fun _ _ => rfl)]))
    (by simp [tagsH])) fun sp sx H6 s6 f6 h6 hx6 => ?_))
  have kc6 := Rp.mono (sm_of s6) _ _ kc
  have kn6 := Rp.mono (sm_of s6) _ _ kn
  have km6 := Rp.mono (sm_of s6) _ _ km
  let allO : List (List Str) := tagsH.map (fun x => owg crossB x 3) ++ tagsH.map (fun x => owg crossB x 0) ++ [lineH]
  have inO : ∀ o ∈ allO, o ∈ ords crossB := fun o ho => by
    rcases List.mem_append.mp ho with h | h
    · rcases List.mem_append.mp h with h | h
      · obtain ⟨x, hx, rfl⟩ := List.mem_map.mp h
        exact (mem_ords wf_cross).mpr (io x hx).1
      · obtain ⟨x, hx, rfl⟩ := List.mem_map.mp h
        exact (mem_ords wf_cross).mpr (io x hx).2
    · rw [List.mem_singleton.mp h]
      exact line_ok.2
  have eD : allO.map eN = (tagsH.map (fun x => eN (owg crossB x 3)) ++ tagsH.map (fun x => eN (owg crossB x 0))) ++ [eN lineH] := by
    show (tagsH.map (fun x => owg crossB x 3) ++ tagsH.map (fun x => owg crossB x 0) ++ [lineH]).map eN = _
    rw [List.map_append, List.map_append, List.map_map, List.map_map]
    rfl
  refine b_cons (s_ifW (wt_ne (n := 4) (d := .list ((allO.filter fun o => !decide (o ∈ ords crossB)).map eN)) (d' := .list []) hr (evAt_lcN (i := 12) (l := allO) (enc := eN) (f := fun o => !decide (o ∈ ords crossB)) (g := eN) (defScope sHand) sc_hand.nd (by
      rw [eD]
      exact srcAt_new (evAtN_cat (at_name 1 rfl) h6 hx6 (evN_lst (ds := [eN lineH]) (ea_is (ev_name 9 (R := Is (eN lineH)) rfl kn6) ea_isNil) (by simp)) (by simp [tagsH]))) (fun o _ _ => tupD_names o) fun o ho v H7 s7 rv => ⟨fun j => ?_, fun _ j => ev_name 12 rfl rv⟩) (fun H7 s7 => evAt_of (ev_lst (ds := []) ea_isNil (by simp))) (shp_lst (shpA_map fun o _ => (shp_names (n := 0) o).le (by decide))) (shp_lst shpA_nil) fun H7 s7 => ?_))
  · refine ets_one (EvT.is (et_notInD (n := 4) hr (ev_name 12 (R := Is (eN o)) rfl rv) (sq_l (ev_name 10 (R := Is (.list ((ords crossB).map eN))) rfl (Rp.mono (sm_of s7) _ _ km6))) ((shp_names (n := 0) o).le (by decide)) (shpA_map (n := 1) fun o _ => shp_names o).1) ?_)
    exact congrArg (fun k => !k) ((any_enc (α := List Str) (ords crossB) o).trans (decide_eq_decide.mpr Iff.rfl))
  · have z : (allO.filter fun o => !decide (o ∈ ords crossB)) = [] := List.filter_eq_nil_iff.mpr fun o ho => by
      rw [decide_eq_true (inO o ho)]
      simp
    rw [z]
    refine iteF (b_nil ?_)
    refine b_go ?_
    exact hand_tail B c1 c2 c3 c4 c5 c6 hr (Rp.mono (sm_of (s6.trans s7)) _ _ k4) (Rp.mono (sm_of s7) _ _ kc6) (Rp.mono (sm_of (s6.trans s7)) _ _ kl) (Rp.mono (sm_of s7) _ _ kn6) (Rp.mono (sm_of s7) _ _ km6) fun H' s' => q _ H' (s15.trans (s6.trans (s7.trans s'))) (.bl true)
end
end My
/-! L21 -/
namespace My
open PySem PySem.Spec PyProof.Rows L2
section
variable {P : Program} {w : World} {K : PySem.W.Frag} {mg : Str → Option Value} {base h : Heap}
theorem df (c : He.SaysD fa fn K) (X : K.In h) (G : h.Ns mainGlobals mg) (i : Nat) {x : Str} {n : Nat} (h1 : fn[i]? = some (dd x n) := by rfl) (h2 : fa[i]? = some (.glo x) := by rfl) : Df K mg x (top n) := by
  obtain ⟨fd, F⟩ := c.def_ i (d := dd x n) h1
  exact ⟨_, fd, F, He.glo_ok X G (c.fact i (f := .glo x) h2)⟩
theorem blt_of (c : He.SaysD fa fn K) (X : K.In h) (G : h.Ns mainGlobals mg) : Blt mg where
  tuple := He.free_ok X G (c.fact 54 (f := .free "tuple") rfl)
  list := He.free_ok X G (c.fact 55 (f := .free "list") rfl)
  set := He.free_ok X G (c.fact 56 (f := .free "set") rfl)
  dict := He.free_ok X G (c.fact 57 (f := .free "dict") rfl)
  str := He.free_ok X G (c.fact 58 (f := .free "str") rfl)
  int := He.free_ok X G (c.fact 59 (f := .free "int") rfl)
  bool := He.free_ok X G (c.fact 60 (f := .free "bool") rfl)
  len := He.free_ok X G (c.fact 61 (f := .free "len") rfl)
  sorted := He.free_ok X G (c.fact 62 (f := .free "sorted") rfl)
  all := He.free_ok X G (c.fact 63 (f := .free "all") rfl)
  any := He.free_ok X G (c.fact 64 (f := .free "any") rfl)
  min := He.free_ok X G (c.fact 65 (f := .free "min") rfl)
  max := He.free_ok X G (c.fact 66 (f := .free "max") rfl)
  sum := He.free_ok X G (c.fact 67 (f := .free "sum") rfl)
  abs := He.free_ok X G (c.fact 68 (f := .free "abs") rfl)
  isi := He.free_ok X G (c.fact 69 (f := .free "isinstance") rfl)
  range := He.free_ok X G (c.fact 70 (f := .free "range") rfl)
  enum := He.free_ok X G (c.fact 71 (f := .free "enumerate") rfl)
  zip := He.free_ok X G (c.fact 72 (f := .free "zip") rfl)
theorem law_parts (c : He.SaysD fa fn K) (X : K.In h) (G : h.Ns mainGlobals mg) (base : Heap) : CHand P w K mg base ∧ CCells P w K mg base ∧ CBox P w K mg base ∧ CRight P w K mg base := by
  have B := blt_of c X G
  obtain ⟨t1, hL⟩ := He.str_ok X G (c.fact 52 (f := .str "LETTERS" "abcdefghijklmnopqrstuvwxyz") rfl)
  obtain ⟨t2, hM⟩ := He.int_ok X G (c.fact 53 (f := .int "LONGEST" 8) rfl)
  have iTup : CTup P w K mg base := cal_tupled (df c X G 2) B.tuple B.list B.isi 4
  have iTupX : CTupX P w K mg base := cal_tupledX (df c X G 2) B.tuple B.list B.isi
  have iTupY : CTupY P w K mg base := cal_tupledY (df c X G 2) B.tuple B.list B.isi
  have iSetS : CSetS P w K mg base := cal_setOf (α := Str) (df c X G 1) B
  have iSetL : CSetL P w K mg base := cal_setOf (α := List Str) (df c X G 1) B
  have iSetM : CSetM P w K mg base := cal_setOf (α := List (Str × Str)) (df c X G 1) B
  have iIsN : CIsName P w K mg base := cal_isName (df c X G 0) B hL hM
  have iTab : CTab P w K mg base := cal_table (df c X G 3) iTup
  have iNames : CNames P w K mg base := cal_namesIn (df c X G 5) B iTup
  have iSlow : CSlow P w K mg base := cal_slowIn (df c X G 10) B iTup
  have iChkN : CCheckN P w K mg base := cal_checkN (df c X G 6) iNames
  have iRead : CReaders P w K mg base := cal_readers (df c X G 7) B iTup iChkN
  have iAw : CAwaited P w K mg base := cal_awaited (df c X G 11) B iTup iRead iSlow
  have iFree : CFree P w K mg base := cal_free (df c X G 14) B
  have iIsO : CIsOrder P w K mg base := cal_isOrder (df c X G 12) B iIsN iNames iTab
  have iChkO : CCheckO P w K mg base := cal_checkO (df c X G 13) iTup iIsO
  have iAllO : CAllO P w K mg base := cal_allO (df c X G 18) iTab iFree
  have iRPl : CRPl P w K mg base := cal_rplace (df c X G 19) B iRead
  have iAllW : CAllW P w K mg base := cal_allW (df c X G 20) iChkO iTupX iAw iRPl
  have iAreM : CAreM P w K mg base := cal_areM (df c X G 21)
  have iMeet : CMeeting P w K mg base := cal_meeting (df c X G 22) B iAllW iAreM
  have iTicks : CTicks P w K mg base := cal_ticks (df c X G 33) B iTab iTupY
  have iEnd : CEnd P w K mg base := cal_end (df c X G 34) B iTup iChkO iTicks
  have iNBy : CNeedsBy P w K mg base := cal_needsBy (df c X G 4) B
  have iNOf : CNeedsOf P w K mg base := cal_needsOf (df c X G 8) iChkN iTab iNBy iSetS
  have iNdB : CNeededBy P w K mg base := cal_neededBy (df c X G 9) iChkN iTab iNBy iSetS
  have iGap : CGap P w K mg base := cal_gap (df c X G 23) B iChkN iAw iNames iNOf iNdB
  have iAreA : CAreA P w K mg base := cal_areA (df c X G 25) iChkN iAw
  have iCanM : CCanM P w K mg base := cal_canM (df c X G 26) iAreA iNOf
  have iFol : CFol P w K mg base := cal_fol (df c X G 27) B iTup iNames iRead iSetS
  have iRdy : CReady P w K mg base := cal_ready (df c X G 28) B
  have iOM : COM P w K mg base := cal_OM (df c X G 29) B iFol iRdy
  have iCAM : CCAM P w K mg base := cal_CAM (df c X G 30) iOM
  have iHow : CHow P w K mg base := cal_how (df c X G 31) B iFol iRdy iSetS
  have iGreat : CGreat P w K mg base := cal_great (df c X G 32) B iAllO iMeet iSetM fun b wf o ho => (mem_ords wf).mp ho
  have iTake : CTake P w K mg base := cal_take (df c X G 36) B
  have iPick : CPick P w K mg base := cal_pick (df c X G 39) B iTake
  have iTags : CTags P w K mg base := cal_tags (df c X G 40) B iTake iPick
  have iKit : CKit P w K mg base := cal_kit (df c X G 41) B iTake iPick iTags
  have iLines : CLines P w K mg base := cal_lines (df c X G 42) B
  have iTwos : CTwos P w K mg base := cal_twos (df c X G 43) B
  have iPairs : CPairs P w K mg base := cal_pairs (df c X G 45) B iTake iPick
  have iSlowed : CSlowed P w K mg base := cal_slowed (df c X G 46) B
  have iApart : CApart P w K mg base := cal_apart (df c X G 47) B iSlowed iEnd
  have iSame : CSame 4 P w K mg base := cal_same (df c X G 38) B 4 (by decide)
  have iCase : CCase P w K mg base := cal_case (df c X G 49) B iGreat iSame iPairs iOM iCAM iHow iApart iTwos iCanM iLines iEnd iSlowed iGap
  have iRight : CRight P w K mg base := cal_right (df c X G 50) B iTake iKit iCase
  have iBox : CBox P w K mg base := cal_box (df c X G 35) B
  have iCells : CCells P w K mg base := cal_cells (df c X G 37) B
  have iFour : CFour P w K mg base := cal_four (df c X G 44)
  have iWays : CWays P w K mg base := cal_ways (df c X G 15) B iFree iSetS iSetL
  have iOAt : COAt P w K mg base := cal_OAt (df c X G 17) B iTab iWays iFree iSetS
  have iLO : CLO P w K mg base := cal_LO (df c X G 16) iOAt
  have iOwg : COwg P w K mg base := cal_Owg (df c X G 24) B iGap iNOf iNdB iLO
  have iHand : CHand P w K mg base := cal_hand (df c X G 48) B iFour iOM iOwg iLines iApart iEnd iSlowed iSame
  exact ⟨iHand, iCells, iBox, iRight⟩
theorem facts {f : Addr} (X : K.In h) (G : h.Ns mainGlobals mg) (hfa : mg ("law" : Str) = some (.ref f)) (c : He.SaysD fa fn K) :
    ∃ fd : FuncData, (∀ (s : Shared) (v : Value), BindsTo s fd ⟨[v], []⟩ [("_law_script", v)]) ∧ ∀ base : Heap, K.In base → base.Ns mainGlobals mg → FnOk P w K mg base CX0 44 f fd ["_law_script"] (spLaw K) := by
  obtain ⟨fd, F⟩ := c.def_ 51 (d := dd "law" 63) rfl
  have e := hfa.symm.trans (He.glo_ok X G (c.fact 51 (f := .glo "law") rfl))
  cases e
  have b := FunD.bindsA (ps := ["_law_script"]) F fun _ _ _ _ _ _ us hl => match us, hl with | [_], _ => rfl
  refine ⟨fd, fun s v => b s [v] rfl, fun base _ _ => ?_⟩
  obtain ⟨p1, p2, p3, p4⟩ := law_parts (P := P) (w := w) c X G base
  exact F.ok sc_law (fun vs H Q E ⟨a, ns, e, _⟩ => by rw [e]; rfl) fun cdv A outer s H vs Q E hr hh => ⟨_, (pb_w _).nox, law_body (blt_of c X G) p1 p2 p3 p4 hr hh⟩
end
end My
/-! FIN -/
open PySem PySem.W PySem.Calls PyProof.Rows
theorem PySem.Challenge.cw_anylatency_k55_whole_gaps_and_meetings_b_holds : PySem.Challenge.rw_anylatency_k55_whole_gaps_and_meetings_b.Holds := by
  w_on; o_law
  refine HandSHeadRun.head_any (r := OpenLaw.row PySem.Challenge.rw_anylatency_k55_whole_gaps_and_meetings_b) (q := view (OpenLaw.row PySem.Challenge.rw_anylatency_k55_whole_gaps_and_meetings_b).prog [63]) (H := My.hkk) (ob := My.ob) (M := 3000) (loose := My.loo) (d := HandSHeadRun.topDef (OpenLaw.row PySem.Challenge.rw_anylatency_k55_whole_gaps_and_meetings_b).prog 63) (kwd := []) My.ob_eq
    (by kernel_rfl) (fun s => by kernel_rfl) My.run (by kernel_rfl) (by kernel_rfl) (by kernel_rfl) (by rfl) (by first | assumption | decide +kernel) (by decide +kernel) ⟨rfl, rfl, rfl, rfl, rfl, by decide +kernel⟩ ?hw ?hc
  case hw => w_witness2
  case hc =>
    refine L2.walk_ofE (l := PySem.Challenge.rw_anylatency_k55_whole_gaps_and_meetings_b) (n := 63) (k := 44) (x := "_law_script") (CX := L2.CX0) rfl (by decide) (by kernel_rfl) ⟨rfl, by decide, by decide⟩ ?F (fun _ _ _ _ z => z)
    intro w mg fa h Y G hmg0
    obtain ⟨K, KX, c⟩ := Y
    have hmg : mg ("law" : PySem.Str) = some (.ref fa) := by
      have e : (HandSHeadRun.topDef (OpenLaw.row PySem.Challenge.rw_anylatency_k55_whole_gaps_and_meetings_b).prog 63).name = ("law" : PySem.Str) := by kernel_rfl
      rw [← e]
      exact hmg0
    obtain ⟨fd, hb, hF⟩ := My.facts (P := (PySem.Challenge.rw_anylatency_k55_whole_gaps_and_meetings_b).prog) (w := w) KX G hmg c
    exact ⟨K, fd, My.spLaw K, KX, hb, fun H a ns hl _ hS => ⟨a, ns, rfl, hS, hl, fun _ => rfl⟩, hF⟩
