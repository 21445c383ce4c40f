import PyProof.Rows.All
import Wide.All
import OpenK.AllK
import Wide.FinOn
import HandS.ForMost
import HandS.ForExc
import HandS.Zip
import HandS.TupAny
import HandS.Style
import HandS.IsInst
import HandS.SortInts
import HandS.TupMul
import HandS.Deep
import HandS.HotCalls
import HandS.Defaults
import PyProof.P3Eq
import KE.GoesMore
import PyProof.EnumMake
import HandS.TupSets
import HandS.SetFor
import PyProof.P3In
import KE.KRevSl
import HandS.Conv
import HandS.Iter
import HandS.Strs
import HandS.ExcIs
import HandS.Dict
import HandS.Text
import HandS.RaiseMore
import HandS.StrSplit
import PyProof.CallStr
import HandS.ReplaceLit
import HandS.ReplaceList
import PySem.Challenge.RW_heapround_k09_whole_formatting
set_option Elab.async false
set_option linter.all false
set_option maxRecDepth 100000
set_option maxHeartbeats 4000000
/-! Data over the layer: what an expression is worth, as data, whatever the heap. -/
namespace Hr
open PySem PySem.Spec PyProof.Rows L2

/-- nothing is let out of a call that promises so; a def that may raise (the exception's context is None) -/
theorem passN {X : Cx} : Passes (L2N.CX X.prog X.w) X E0 := fun _ _ _ _ _ _ _ h => by
  obtain ⟨_, _, _, _, _, _, _, _, _, _, _, _, z⟩ := h
  exact z.elim
abbrev D := PyData
/-- a bare address, whatever stands there -/
def rawD (a : Addr) : D := .dict [(.int ((a : Nat) : Int), .none)]
/-- dicts with int keys, with keys that are tuples of ints; instances of the class at C -/
abbrev dkD (ks : List (Int × D)) : D := .dict ((.none, .int 0) :: ks.map fun p => (.int p.1, p.2))
abbrev dtD (ks : List (List Int × D)) : D := .dict ((.none, .int 1) :: ks.map fun p => (.tuple (p.1.map .int), p.2))
abbrev insD (C : Addr) (fs : List (Str × D)) : D := .dict ((.none, .int 2) :: (.none, .int ((C : Nat) : Int)) :: fs.map fun p => (.str p.1, p.2))
mutual
inductive Rp (H : Hp) : V → D → Prop
  | non : Rp H .non .none
  | bl (b : Bool) : Rp H (.bl b) (.bool b)
  | int (i : Int) : Rp H (.int i) (.int i)
  | str (x : Str) : Rp H (.str x) (.str x)
  | lst {a : Addr} {xs : List V} {ds : List D} : H a = some (.lst xs) → RpA H xs ds → Rp H (.ref a) (.list ds)
  | tup {a : Addr} {xs : List V} {ds : List D} : H a = some (.tup xs) → RpA H xs ds → Rp H (.ref a) (.tuple ds)
  | raw (a : Addr) : Rp H (.ref a) (rawD a)
  | dk {a : Addr} {kvs : List (Key × V)} {ks : List (Int × D)} : H a = some (.dK kvs) → kvs.map (·.1) = ks.map (fun p => Sum.inl p.1) → RpA H (kvs.map (·.2)) (ks.map (·.2)) → Rp H (.ref a) (dkD ks)
  | dt {a : Addr} {kvs : List (List Key × V)} {ks : List (List Int × D)} : H a = some (.dT kvs) → kvs.map (·.1) = ks.map (fun p => p.1.map Sum.inl) → RpA H (kvs.map (·.2)) (ks.map (·.2)) → Rp H (.ref a) (dtD ks)
  | ins {a C dx : Addr} {fs : List (Str × V)} {ds : List (Str × D)} : H a = some (.ins C dx fs) → fs.map (·.1) = ds.map (·.1) → RpA H (fs.map (·.2)) (ds.map (·.2)) → Rp H (.ref a) (insD C ds)
inductive RpA (H : Hp) : List V → List D → Prop
  | nil : RpA H [] []
  | cons {v : V} {vs : List V} {d : D} {ds : List D} : Rp H v d → RpA H vs ds → RpA H (v :: vs) (d :: ds)
end

mutual
theorem Rp.dp {K : PySem.W.Frag} {H : Hp} : ∀ {v : V} {d : D}, Rp H v d → d.canLay0 = true → Dp K H v d
  | _, _, .non, _ => .non
  | _, _, .bl b, _ => .bl b
  | _, _, .int i, _ => .int i
  | _, _, .str x, _ => .str x
  | _, _, .lst h r, c => .lst (SqL.of h) (RpA.dp r (by simpa [PyData.canLay0] using c))
  | _, _, .tup h r, c => .tup (SqT.of h) (RpA.dp r (by simpa [PyData.canLay0] using c))
  | _, _, .raw a, c => by simp [rawD, PyData.canLay0] at c
  | _, _, .dk _ _ _, c => by simp [PyData.canLay0] at c
  | _, _, .dt _ _ _, c => by simp [PyData.canLay0] at c
  | _, _, .ins _ _ _, c => by simp [PyData.canLay0] at c
theorem RpA.dp {K : PySem.W.Frag} {H : Hp} : ∀ {vs : List V} {ds : List D}, RpA H vs ds → PyData.canLayAll0 ds = true → DpAll K H vs ds
  | _, _, .nil, _ => .nil
  | _ :: _, d :: ds, .cons h r, c => by
    have c' : d.canLay0 = true ∧ PyData.canLayAll0 ds = true := by simpa [PyData.canLayAll0] using c
    exact .cons (Rp.dp h c'.1) (RpA.dp r c'.2)
end
mutual
theorem Rp.mono {H H' : Hp} (s : Same H H') : ∀ {v : V} {d : D}, Rp H v d → Rp H' v d
  | _, _, .non => .non
  | _, _, .bl b => .bl b
  | _, _, .int i => .int i
  | _, _, .str x => .str x
  | _, _, .lst h r => .lst (s _ _ h) (RpA.mono s r)
  | _, _, .tup h r => .tup (s _ _ h) (RpA.mono s r)
  | _, _, .raw a => .raw a
  | _, _, .dk h e r => .dk (s _ _ h) e (RpA.mono s r)
  | _, _, .dt h e r => .dt (s _ _ h) e (RpA.mono s r)
  | _, _, .ins h e r => .ins (s _ _ h) e (RpA.mono s r)
theorem RpA.mono {H H' : Hp} (s : Same H H') : ∀ {vs : List V} {ds : List D}, RpA H vs ds → RpA H' vs ds
  | _, _, .nil => .nil
  | _, _, .cons h r => .cons (Rp.mono s h) (RpA.mono s r)
end
theorem RpA.length {H : Hp} : ∀ {vs : List V} {ds : List D}, RpA H vs ds → vs.length = ds.length
  | _, _, .nil => rfl
  | _, _, .cons _ r => congrArg (· + 1) (RpA.length r)
theorem RpA.get {H : Hp} : ∀ {vs : List V} {ds : List D}, RpA H vs ds → ∀ {i : Nat} {d : D}, ds[i]? = some d → ∃ v, vs[i]? = some v ∧ Rp H v d
  | _, _, .nil, i, d, e => by simp at e
  | _, _, .cons h r, 0, d, e => by
    have e' := Option.some.inj e
    subst e'
    exact ⟨_, rfl, h⟩
  | _, _, .cons h r, i + 1, d, e => RpA.get r (i := i) (d := d) e
theorem RpA.get' {H : Hp} : ∀ {vs : List V} {ds : List D}, RpA H vs ds → ∀ {i : Nat} {v : V}, vs[i]? = some v → ∃ d, ds[i]? = some d ∧ Rp H v d
  | _, _, .nil, i, d, e => by simp at e
  | _, _, .cons h r, 0, d, e => by
    have e' := Option.some.inj e
    subst e'
    exact ⟨_, rfl, h⟩
  | _, _, .cons h r, i + 1, d, e => RpA.get' r (i := i) (v := d) e
theorem RpA.app {H : Hp} : ∀ {vs ws : List V} {ds es : List D}, RpA H vs ds → RpA H ws es → RpA H (vs ++ ws) (ds ++ es)
  | _, _, _, _, .nil, s => s
  | _, _, _, _, .cons h r, s => .cons h (RpA.app r s)
theorem RpA.take {H : Hp} : ∀ {vs : List V} {ds : List D} (n : Nat), RpA H vs ds → RpA H (vs.take n) (ds.take n)
  | _, _, 0, _ => .nil
  | _, _, n + 1, .nil => .nil
  | _, _, n + 1, .cons h r => .cons h (RpA.take n r)
theorem RpA.drop {H : Hp} : ∀ {vs : List V} {ds : List D} (n : Nat), RpA H vs ds → RpA H (vs.drop n) (ds.drop n)
  | _, _, 0, r => r
  | _, _, n + 1, .nil => .nil
  | _, _, n + 1, .cons h r => RpA.drop n r
theorem RpA.reverse {H : Hp} : ∀ {vs : List V} {ds : List D}, RpA H vs ds → RpA H vs.reverse ds.reverse
  | _, _, .nil => .nil
  | _, _, .cons h r => by
    rw [List.reverse_cons, List.reverse_cons]
    exact (RpA.reverse r).app (.cons h .nil)
theorem RpA.ints {H : Hp} : ∀ {vs : List V} {ns : List Int}, RpA H vs (ns.map PyData.int) → vs = ns.map V.int
  | _, [], h => by cases h; rfl
  | _, n :: ns, h => by
    cases h with
    | cons h r =>
      cases h
      rw [RpA.ints r]
      rfl
theorem rpa_ints {H : Hp} : ∀ ns : List Int, RpA H (ns.map V.int) (ns.map PyData.int)
  | [] => .nil
  | n :: ns => .cons (.int n) (rpa_ints ns)
theorem RpA.bools {H : Hp} : ∀ {vs : List V} {ns : List Bool}, RpA H vs (ns.map PyData.bool) → vs = ns.map V.bl
  | _, [], h => by cases h; rfl
  | _, n :: ns, h => by
    cases h with
    | cons h r =>
      cases h
      rw [RpA.bools r]
      rfl
theorem RpA.strs {H : Hp} : ∀ {vs : List V} {ns : List Str}, RpA H vs (ns.map PyData.str) → vs = ns.map V.str
  | _, [], h => by cases h; rfl
  | _, n :: ns, h => by
    cases h with
    | cons h r =>
      cases h
      rw [RpA.strs r]
      rfl
theorem rpa_strs {H : Hp} : ∀ ns : List Str, RpA H (ns.map V.str) (ns.map PyData.str)
  | [] => .nil
  | n :: ns => .cons (.str n) (rpa_strs ns)

/-! ### heaps: G the part that never changes, H the whole -/
def Mu : HO → Prop
  | .tup _ => False
  | _ => True
structure Ext (G H G' H' : Hp) : Prop where
  g : Same G G'
  h : Same H H'
  s : Same G' H'
  f : ∀ p o, H p = some o → Mu o → G p = none → G' p = none
theorem Ext.refl {G H : Hp} (s : Same G H) : Ext G H G H := ⟨Same.refl G, Same.refl H, s, fun _ _ _ _ h => h⟩
theorem same_ne {H H' : Hp} (s : Same H H') {p : Addr} (h : H p ≠ none) : H' p ≠ none := by
  cases e : H p with
  | none => exact absurd e h
  | some o => rw [s _ _ e]; exact fun z => by cases z
theorem Ext.trans {G H G1 H1 G2 H2 : Hp} (a : Ext G H G1 H1) (b : Ext G1 H1 G2 H2) : Ext G H G2 H2 :=
  ⟨a.g.trans b.g, a.h.trans b.h, b.s, fun p o h m g => b.f p o (a.h _ _ h) m (a.f p o h m g)⟩
theorem same_new {H : Hp} {p : Addr} {o : HO} (h : H p = none) : Same H (upd H p o) := fun b x e => by
  rw [upd_ne (ne_of_none e h)]
  exact e
theorem same_upd2 {G H : Hp} {p : Addr} {o : HO} (s : Same G H) : Same (upd G p o) (upd H p o) := fun b x e => by
  by_cases hb : b = p
  · subst hb
    rw [upd_same] at e ⊢
    exact e
  · rw [upd_ne hb] at e ⊢
    exact s _ _ e
theorem same_keep {G H : Hp} {p : Addr} {o : HO} (s : Same G H) (h : G p = none) : Same G (upd H p o) := fun b x e => by
  rw [upd_ne (ne_of_none e h)]
  exact s _ _ e
/-- a new object that never changes -/
theorem Ext.new {G H : Hp} {p : Addr} {o : HO} (s : Same G H) (h : H p = none) : Ext G H (upd G p o) (upd H p o) :=
  ⟨same_new (s.free h), same_new h, same_upd2 s, fun q o hq _ gq => by
    rw [upd_ne (ne_of_none hq h)]
    exact gq⟩
/-- a new object of our own -/
theorem Ext.own {G H : Hp} {p : Addr} {o : HO} (s : Same G H) (h : H p = none) : Ext G H G (upd H p o) :=
  ⟨Same.refl G, same_new h, same_keep s (s.free h), fun _ _ _ _ g => g⟩
theorem Ext.less {G H G' H' : Hp} (a : Ext G H G' H') : Ext G H G H' := ⟨Same.refl G, a.h, a.g.trans a.s, fun _ _ _ _ g => g⟩

/-! ### slots -/
abbrev Env := List (Option D)
def Sl (G : Hp) (σ : L2.St) (ρ : Env) : Prop := σ.length = ρ.length ∧ ∀ (i : Nat) (d : D), ρ[i]? = some (some d) → ∃ v, σ[i]? = some (some v) ∧ Rp G v d
theorem Sl.mono {G G' : Hp} {σ : L2.St} {ρ : Env} (s : Same G G') (h : Sl G σ ρ) : Sl G' σ ρ := ⟨h.1, fun i d e => by
  obtain ⟨v, e1, r⟩ := h.2 i d e
  exact ⟨v, e1, r.mono s⟩⟩
theorem Sl.set {G : Hp} {σ : L2.St} {ρ : Env} {j : Nat} {v : V} {d : D} (h : Sl G σ ρ) (r : Rp G v d) : Sl G (σ.set j (some v)) (ρ.set j (some d)) := ⟨by simp [h.1], fun i x e => by
  by_cases hi : j = i
  · subst hi
    by_cases hl : j < ρ.length
    · rw [List.getElem?_set_self hl] at e
      have e' : d = x := by simpa using e
      subst e'
      exact ⟨v, List.getElem?_set_self (by rw [h.1]; exact hl), r⟩
    · rw [List.getElem?_eq_none (by simpa using hl)] at e
      cases e
  · rw [List.getElem?_set_ne hi] at e
    obtain ⟨w, e1, r1⟩ := h.2 i x e
    exact ⟨w, by rw [List.getElem?_set_ne hi]; exact e1, r1⟩⟩
/-- a slot forgotten -/
theorem Sl.unset {G : Hp} {σ : L2.St} {ρ : Env} {j : Nat} {o : Option V} (h : Sl G σ ρ) : Sl G (σ.set j o) (ρ.set j none) := ⟨by simp [h.1], fun i x e => by
  by_cases hi : j = i
  · subst hi
    by_cases hl : j < ρ.length
    · rw [List.getElem?_set_self hl] at e
      cases e
    · rw [List.getElem?_eq_none (by simpa using hl)] at e
      cases e
  · rw [List.getElem?_set_ne hi] at e
    obtain ⟨w, e1, r1⟩ := h.2 i x e
    exact ⟨w, by rw [List.getElem?_set_ne hi]; exact e1, r1⟩⟩
def wipeE (ρ : Env) : List Nat → Env
  | [] => ρ
  | v :: vs => (wipeE ρ vs).set v none
theorem Sl.wipe {G : Hp} {σ : L2.St} {ρ : Env} (h : Sl G σ ρ) : ∀ vs : List Nat, Sl G (L2.wipe σ vs) (wipeE ρ vs)
  | [] => h
  | v :: vs => (Sl.wipe h vs).unset

/-! ### the best reading of a piece of syntax -/
structure wE (X : Cx) (e : Expr) (σ : L2.St) (H : Hp) (Q : VK) : Prop where
  run : ∀ (pins : List (Addr × Obj)) (s : Shared), Inv X pins σ H s → wpAny (model X.prog X.w) X.A (eval e X.env) (EP X pins σ Q) X.xe s
structure wT (X : Cx) (e : Expr) (σ : L2.St) (H : Hp) (Q : Bool → Hp → Prop) : Prop where
  run : ∀ (pins : List (Addr × Obj)) (s : Shared), Inv X pins σ H s → wpAny (model X.prog X.w) X.A (isTrue e X.env (eval e X.env)) (TP X pins σ Q) X.xe s
structure wW (X : Cx) (e : Expr) (σ : L2.St) (H : Hp) (Q : Bool → Hp → Prop) : Prop where
  run : ∀ (whole : Sem Value) (pins : List (Addr × Obj)) (s : Shared), Inv X pins σ H s → wpAny (model X.prog X.w) X.A (isTrue e X.env whole) (TP X pins σ Q) X.xe s
structure wA (X : Cx) (es : List Expr) (σ : L2.St) (H : Hp) (Q : List V → Hp → Prop) : Prop where
  run : ∀ (pos : Pos) (pins : List (Addr × Obj)) (s : Shared), Inv X pins σ H s → wpAny (model X.prog X.w) X.A (spliced (backTo pos (starEach es X.env))) (AP X pins σ Q) X.xe s
structure wS (X : Cx) (st : Stmt) (D : Ends) (σ : L2.St) (H : Hp) : Prop where
  run : ∀ (pins : List (Addr × Obj)) (s : Shared), Inv X pins σ H s → wpAny (model X.prog X.w) X.A (exec st X.env) (SP X pins D) X.xe s
structure wB (X : Cx) (st : List Stmt) (D : Ends) (σ : L2.St) (H : Hp) : Prop where
  run : ∀ (pins : List (Addr × Obj)) (s : Shared), Inv X pins σ H s → wpAny (model X.prog X.w) X.A (execs st X.env) (SP X pins D) X.xe s
theorem pe_w {X : Cx} {e : Expr} : PE X e (wE X e) := ⟨fun pins s _ _ _ I h => h.run pins s I⟩
theorem pt_w {X : Cx} {e : Expr} : PT X e (wT X e) := ⟨fun pins s _ _ _ I h => h.run pins s I⟩
theorem pw_w {X : Cx} {e : Expr} : PW X e (wW X e) := ⟨fun wh pins s _ _ _ I h => h.run wh pins s I⟩
theorem pa_w {X : Cx} {es : List Expr} : PA X es (wA X es) := ⟨fun pos pins s _ _ _ I h => h.run pos pins s I⟩
theorem ps_w {X : Cx} {st : Stmt} : PS X st (wS X st) := ⟨fun pins s _ _ _ I h => h.run pins s I⟩
theorem pb_w {X : Cx} {st : List Stmt} : PSs X st (wB X st) := ⟨fun pins s _ _ _ I h => h.run pins s I⟩
theorem we_of {X : Cx} {e : Expr} {t : TE} {σ : L2.St} {H : Hp} {Q : VK} (h : PE X e t) (q : t σ H Q) : wE X e σ H Q := ⟨fun pins s I => h.run pins s σ H Q I q⟩
theorem wt_of {X : Cx} {e : Expr} {t : TT} {σ : L2.St} {H : Hp} {Q : Bool → Hp → Prop} (h : PT X e t) (q : t σ H Q) : wT X e σ H Q := ⟨fun pins s I => h.run pins s σ H Q I q⟩
theorem ww_of {X : Cx} {e : Expr} {t : TT} {σ : L2.St} {H : Hp} {Q : Bool → Hp → Prop} (h : PW X e t) (q : t σ H Q) : wW X e σ H Q := ⟨fun wh pins s I => h.run wh pins s σ H Q I q⟩
theorem wa_of {X : Cx} {es : List Expr} {t : TA} {σ : L2.St} {H : Hp} {Q : List V → Hp → Prop} (h : PA X es t) (q : t σ H Q) : wA X es σ H Q := ⟨fun pos pins s I => h.run pos pins s σ H Q I q⟩
theorem ws_of {X : Cx} {st : Stmt} {t : TS} {σ : L2.St} {H : Hp} {E : Ends} (h : PS X st t) (q : t E σ H) : wS X st E σ H := ⟨fun pins s I => h.run pins s σ H E I q⟩
theorem wb_of {X : Cx} {st : List Stmt} {t : TS} {σ : L2.St} {H : Hp} {E : Ends} (h : PSs X st t) (q : t E σ H) : wB X st E σ H := ⟨fun pins s I => h.run pins s σ H E I q⟩
/-- what is known of the heap may be used -/
theorem we_inv {X : Cx} {e : Expr} {σ : L2.St} {H : Hp} {Q : VK} (h : HOk X.prog X.w H ≠ (fun _ => False) → wE X e σ H Q) : wE X e σ H Q := ⟨fun pins s I => (h (fun z => by
  have := I.hok
  rw [z] at this
  exact this)).run pins s I⟩

/-! ### what an expression is worth -/
def Dv (X : Cx) (e : Expr) (ρ : Env) (d : D) : Prop := ∀ (σ : L2.St) (G H : Hp) (Q : VK), Sl G σ ρ → Same G H → (∀ v G' H', Ext G H G' H' → Rp G' v d → Q v H') → wE X e σ H Q
/-- a new list of our own -/
def Dl (X : Cx) (e : Expr) (ρ : Env) (ds : List D) : Prop := ∀ (σ : L2.St) (G H : Hp) (Q : VK), Sl G σ ρ → Same G H →
  (∀ p vs G' H', Ext G H G' H' → H p = none → G' p = none → H' p = some (.lst vs) → RpA G' vs ds → Q (.ref p) H') → wE X e σ H Q
def Dt (X : Cx) (e : Expr) (ρ : Env) (b : Bool) : Prop := ∀ (σ : L2.St) (G H : Hp) (Q : Bool → Hp → Prop), Sl G σ ρ → Same G H → (∀ H', Ext G H G H' → Q b H') → wT X e σ H Q
def Dw (X : Cx) (e : Expr) (ρ : Env) (b : Bool) : Prop := ∀ (σ : L2.St) (G H : Hp) (Q : Bool → Hp → Prop), Sl G σ ρ → Same G H → (∀ H', Ext G H G H' → Q b H') → wW X e σ H Q
def Da (X : Cx) (es : List Expr) (ρ : Env) (ds : List D) : Prop := ∀ (σ : L2.St) (G H : Hp) (Q : List V → Hp → Prop), Sl G σ ρ → Same G H → (∀ vs G' H', Ext G H G' H' → RpA G' vs ds → Q vs H') → wA X es σ H Q

section
variable {X : Cx} {ρ : Env} {a b c e : Expr} {es : List Expr} {pos : Pos} {d da db : D} {ds : List D}
theorem Dv.to {d' : D} (h : Dv X e ρ d) (q : d = d') : Dv X e ρ d' := q ▸ h
theorem Dl.to {ds' : List D} (h : Dl X e ρ ds) (q : ds = ds') : Dl X e ρ ds' := q ▸ h
theorem Dt.to {b b' : Bool} (h : Dt X e ρ b) (q : b = b') : Dt X e ρ b' := q ▸ h
theorem Dl.dv (h : Dl X e ρ ds) : Dv X e ρ (.list ds) := fun σ G H Q S s q => h σ G H Q S s fun p vs G' H' x n1 n2 hp r => by
  have hG : Same G' (upd G' p (.lst vs)) := same_new n2
  refine q (.ref p) (upd G' p (.lst vs)) H' ⟨x.g.trans hG, x.h, fun b o eb => ?_, fun t o ht m gt => ?_⟩ (.lst upd_same (r.mono hG))
  · by_cases hb : b = p
    · subst hb
      rw [upd_same] at eb
      cases eb
      exact hp
    · rw [upd_ne hb] at eb
      exact x.s _ _ eb
  · rw [upd_ne (ne_of_none ht n1)]
    exact x.f t o ht m gt
theorem dv_var (i : Nat) {x : Str} (hN : X.N[i]? = some x) (hv : Vis X.env.scope x) (h : ρ[i]? = some (some d)) (hd : (x == ("__debug__" : Str)) = false := by decide) (hcd : (x == ("__classdict__" : Str)) = false := by decide) : Dv X (.Name x pos) ρ d := fun σ G H Q S s q => by
  obtain ⟨v, e1, r⟩ := S.2 i d h
  exact we_of (pe_var hN hv hd hcd) ⟨v, e1, q v G H (Ext.refl s) r⟩
theorem dv_c {v : V} (h : PE X e (tC v)) (r : ∀ G, Rp G v d) : Dv X e ρ d := fun σ G H Q S s q => we_of h (q v G H (Ext.refl s) (r G))
theorem dv_int {i : Int} {j : Nat} : Dv X (.Constant (.int i) j pos) ρ (.int i) := dv_c pe_int fun _ => .int i
theorem dv_bl {i : Bool} {j : Nat} : Dv X (.Constant (.bool i) j pos) ρ (.bool i) := dv_c pe_bl fun _ => .bl i
theorem dv_non {j : Nat} : Dv X (.Constant .none j pos) ρ .none := dv_c pe_non fun _ => .non
theorem dv_str {x : Str} {j : Nat} : Dv X (.Constant (.str x) j pos) ρ (.str x) := dv_c pe_str fun _ => .str x
theorem vr (i : Nat) {x : Str} (h : ρ[i]? = some (some d)) (hN : X.N[i]? = some x := by rfl) (hv : Vis X.env.scope x := by first | exact Or.inl rfl | exact Or.inr (Or.inl rfl) | exact Or.inr (Or.inr rfl)) (hd : (x == ("__debug__" : Str)) = false := by decide) (hcd : (x == ("__classdict__" : Str)) = false := by decide) : Dv X (.Name x pos) ρ d := dv_var i hN hv h hd hcd
/-- a module's int or text -/
theorem dv_globI {x : Str} {i : Int} {t : Tok} (hg : Gl X x) (hm : X.mg x = some (.int i t)) (hd : (x == ("__debug__" : Str)) = false := by decide) : Dv X (.Name x pos) ρ (.int i) := dv_c (v := .int i) (pe_glob hg hm ⟨t, rfl⟩ hd) fun _ => .int i
theorem dv_globS {x : Str} {i : Str} {t : Tok} (hg : Gl X x) (hm : X.mg x = some (.str i t)) (hd : (x == ("__debug__" : Str)) = false := by decide) : Dv X (.Name x pos) ρ (.str i) := dv_c (v := .str i) (pe_glob hg hm ⟨t, rfl⟩ hd) fun _ => .str i

/-- a two-place rule, of data -/
def Ro (r : R2) (da db d : D) : Prop := ∀ (G H : Hp) (x y : V) (Q : VK), Same G H → Rp G x da → Rp G y db → (∀ v G' H', Ext G H G' H' → Rp G' v d → Q v H') → r x y H Q
theorem ro_run {t1 : TE} {r : R2} {σ : L2.St} {G H : Hp} {Q : VK} (ha : Dv X a ρ da) (hb : Dv X b ρ db) (hr : Ro r da db d) (S : Sl G σ ρ) (s : Same G H) (q : ∀ v G' H', Ext G H G' H' → Rp G' v d → Q v H') : tOp r (wE X a) (wE X b) σ H Q :=
  ha σ G H _ S s fun x G1 H1 x1 r1 => hb σ G1 H1 _ (S.mono x1.g) x1.s fun y G2 H2 x2 r2 => hr G2 H2 x y Q x2.s (r1.mono x2.g) r2 fun v G3 H3 x3 r3 => q v G3 H3 ((x1.trans x2).trans x3) r3
theorem dv_bin {op : Operator} {r : R2} (ho : OpR X (binaryOp op) r) (hr : Ro r da db d) (ha : Dv X a ρ da) (hb : Dv X b ρ db) : Dv X (.BinOp a op b pos) ρ d := fun σ G H Q S s q =>
  we_of (pe_op ho pe_w pe_w) (ro_run (t1 := wE X a) ha hb hr S s q)
theorem dv_cmp {op : CmpOp} {r : R2} (ho : OpR X (compareOp op) r) (hr : Ro r da db d) (ha : Dv X a ρ da) (hb : Dv X b ρ db) (hm : behindInMarks op b = false) : Dv X (.Compare a [op] [b] pos) ρ d := fun σ G H Q S s q =>
  we_of (pe_cmpR ho pe_w pe_w hm) (ro_run (t1 := wE X a) ha hb hr S s q)
theorem dt_cmp {op : CmpOp} {r : R2} {k : Bool} (ho : OpR X (compareOp op) r) (hr : Ro r da db (.bool k)) (ha : Dv X a ρ da) (hb : Dv X b ρ db) (hm : behindInMarks op b = false) : Dt X (.Compare a [op] [b] pos) ρ k := fun σ G H Q S s q =>
  wt_of (pt_cmpR ho pe_w pe_w hm) (ro_run (t1 := wE X a) (Q := fun x H' => ∃ k, x = .bl k ∧ Q k H') ha hb hr S s fun v G' H' x r => by
    cases r
    exact ⟨k, rfl, q H' x.less⟩)
theorem ro_I {g : Int → Int → D} {h : Int → Int → V} (hg : ∀ i j G, Rp G (h i j) (g i j)) {i j : Int} : Ro (rI0 h) (.int i) (.int j) (g i j) := fun G H x y Q s rx ry q => by
  cases rx
  cases ry
  exact ⟨i, j, rfl, rfl, q _ G H (Ext.refl s) (hg i j G)⟩
theorem ro_IC {C : Int → Int → Prop} {g : Int → Int → D} {h : Int → Int → V} (hg : ∀ i j G, Rp G (h i j) (g i j)) {i j : Int} (hc : C i j) : Ro (rI C h) (.int i) (.int j) (g i j) := fun G H x y Q s rx ry q => by
  cases rx
  cases ry
  exact ⟨i, j, rfl, rfl, hc, q _ G H (Ext.refl s) (hg i j G)⟩
theorem dv_add {i j : Int} (ha : Dv X a ρ (.int i)) (hb : Dv X b ρ (.int j)) : Dv X (.BinOp a .Add b pos) ρ (.int (i + j)) := dv_bin op_add (ro_I (g := fun i j => .int (i + j)) fun _ _ _ => .int _) ha hb
theorem dv_sub {i j : Int} (ha : Dv X a ρ (.int i)) (hb : Dv X b ρ (.int j)) : Dv X (.BinOp a .Sub b pos) ρ (.int (i - j)) := dv_bin op_sub (ro_I (g := fun i j => .int (i - j)) fun _ _ _ => .int _) ha hb
theorem dv_mul {i j : Int} (ha : Dv X a ρ (.int i)) (hb : Dv X b ρ (.int j)) (hc : CMul i j) : Dv X (.BinOp a .Mult b pos) ρ (.int (i * j)) := dv_bin op_mul (ro_IC (g := fun i j => .int (i * j)) (fun _ _ _ => .int _) hc) ha hb
theorem dv_fdiv {i j : Int} (ha : Dv X a ρ (.int i)) (hb : Dv X b ρ (.int j)) (hc : CDiv i j) : Dv X (.BinOp a .FloorDiv b pos) ρ (.int (i / j)) := dv_bin op_fdiv (ro_IC (g := fun i j => .int (i / j)) (fun _ _ _ => .int _) hc) ha hb
theorem dv_mod {i j : Int} (ha : Dv X a ρ (.int i)) (hb : Dv X b ρ (.int j)) (hc : 0 < j) : Dv X (.BinOp a .Mod b pos) ρ (.int (i % j)) := dv_bin op_mod (ro_IC (C := fun _ j => 0 < j) (g := fun i j => .int (i % j)) (fun _ _ _ => .int _) hc) ha hb
theorem dv_pow {i j : Int} (ha : Dv X a ρ (.int i)) (hb : Dv X b ρ (.int j)) (hc : CPow i j) : Dv X (.BinOp a .Pow b pos) ρ (.int (i ^ j.toNat)) := dv_bin op_pow (ro_IC (g := fun i j => .int (i ^ j.toNat)) (fun _ _ _ => .int _) hc) ha hb
end
section
variable {P : Program} {w : World} {K : PySem.W.Frag} {mg : Str → Option Value} {base : Heap}
theorem _root_.L2.Fun.okN {x qual : Str} {st : Stmt} {f : Addr} {fd : FuncData} {N ps : List Str} {k : Nat} {sp : Sp} (F : Fun K x qual st f fd) (S : FnScope N ps (defScope st)) (len : ∀ vs H Q E, sp vs H Q E → vs.length = ps.length)
    (hbody : ∀ (cdv : Value) (A : Around) (outer : List PySem.Env) (s : Shared) (H : Hp) (vs : List V) (Q : VK) (E : XK), Room k (A.deeper (envOfC qual (defScope st) s.heap.objs.size f cdv)) → sp vs H Q E →
      ∃ t, PSs (cxOf (L2N.CX P w) P w K mg base N qual (defScope st) f cdv A outer s H E) (defBody st) t ∧ t { nx := fun _ H' => Q .non H', rt := Q } (L2.start N vs) H) : FnOk P w K mg base (L2N.CX P w) (k + 1) f fd ps sp := by
  obtain ⟨oc, od, kV, doc, pm, an, cdv, ct, osl, rfl, lk, hcd⟩ := F.ex
  exact fn_of lk hcd S len fun A outer s H vs Q E hr hsp => hbody cdv A outer s H vs Q E hr hsp
end
end Hr
/-! The rules by data: comparisons, tests, displays, subscripts, calls of built-ins. -/
namespace Hr
open PySem PySem.Spec PyProof.Rows L2

/-! ### shaped data -/
def Sh (n : Nat) (d : D) : Prop := d.canLay0 = true ∧ d.depth ≤ n
def ShA (n : Nat) (ds : List D) : Prop := PyData.canLayAll0 ds = true ∧ PyData.depthAll ds ≤ n
theorem Sh.shaped {n : Nat} {d : D} (h : Sh n d) (hn : n ≤ 64 := by decide) : SeqAt.shaped d = true := by
  show (d.canLay0 && decide (d.depth ≤ 64)) = true
  rw [Bool.and_eq_true]
  exact ⟨h.1, decide_eq_true (Nat.le_trans h.2 hn)⟩
theorem Sh.mono {n m : Nat} {d : D} (h : Sh n d) (q : n ≤ m := by decide) : Sh m d := ⟨h.1, Nat.le_trans h.2 q⟩
theorem sh_int {i : Int} : Sh 0 (.int i) := ⟨by simp [PyData.canLay0], by simp [PyData.depth]⟩
theorem sh_bl {i : Bool} : Sh 0 (.bool i) := ⟨by simp [PyData.canLay0], by simp [PyData.depth]⟩
theorem sh_non : Sh 0 .none := ⟨by simp [PyData.canLay0], by simp [PyData.depth]⟩
theorem sh_str {x : Str} (h : PyData.strOk x = true) : Sh 0 (.str x) := ⟨by simpa [PyData.canLay0] using h, by simp [PyData.depth]⟩
theorem sha_nil {n : Nat} : ShA n [] := ⟨by simp [PyData.canLayAll0], by simp [PyData.depthAll]⟩
theorem sha_cons {n : Nat} {d : D} {ds : List D} (h : Sh n d) (r : ShA n ds) : ShA n (d :: ds) :=
  ⟨by simp [PyData.canLayAll0, h.1, r.1], by simp only [PyData.depthAll]; exact Nat.max_le.mpr ⟨h.2, r.2⟩⟩
theorem ShA.tup {n : Nat} {ds : List D} (h : ShA n ds) : Sh (n + 1) (.tuple ds) := ⟨by simpa [PyData.canLay0] using h.1, by simp only [PyData.depth]; exact Nat.succ_le_succ h.2⟩
theorem ShA.lst {n : Nat} {ds : List D} (h : ShA n ds) : Sh (n + 1) (.list ds) := ⟨by simpa [PyData.canLay0] using h.1, by simp only [PyData.depth]; exact Nat.succ_le_succ h.2⟩
theorem sha_all {n : Nat} : ∀ {ds : List D}, (∀ d ∈ ds, Sh n d) → ShA n ds
  | [], _ => sha_nil
  | d :: ds, h => sha_cons (h d List.mem_cons_self) (sha_all fun e he => h e (List.mem_cons_of_mem _ he))
theorem sha_map {α : Type} {n : Nat} {f : α → D} {xs : List α} (h : ∀ x, Sh n (f x)) : ShA n (xs.map f) := sha_all fun d hd => by
  obtain ⟨x, _, rfl⟩ := List.mem_map.mp hd
  exact h x
theorem ShA.app {n : Nat} {ds es : List D} (h : ShA n ds) (k : ShA n es) : ShA n (ds ++ es) := by
  induction ds with
  | nil => exact k
  | cons d ds ih =>
    have h1 := h.1
    have h2 := h.2
    simp only [PyData.canLayAll0, Bool.and_eq_true] at h1
    simp only [PyData.depthAll] at h2
    exact sha_cons ⟨h1.1, by omega⟩ (ih ⟨h1.2, by omega⟩)
/-- a state, a row: a tuple of ints -/
abbrev tI (xs : List Int) : D := .tuple (xs.map PyData.int)
/-- a list of them -/
abbrev lT (xss : List (List Int)) : D := .list (xss.map tI)
abbrev lI (xs : List Int) : D := .list (xs.map PyData.int)
theorem sh_tI {xs : List Int} : Sh 1 (tI xs) := (sha_map (n := 0) fun _ => sh_int).tup
theorem sh_lI {xs : List Int} : Sh 1 (lI xs) := (sha_map (n := 0) fun _ => sh_int).lst
theorem sh_lT {xs : List (List Int)} : Sh 2 (lT xs) := (sha_map (n := 1) fun _ => sh_tI).lst

theorem eqvAll_int : ∀ xs ys : List Int, PyData.eqvAll (xs.map PyData.int) (ys.map PyData.int) = decide (xs = ys)
  | [], [] => by simp [PyData.eqvAll]
  | [], y :: ys => by simp [PyData.eqvAll]
  | x :: xs, [] => by simp [PyData.eqvAll]
  | x :: xs, y :: ys => by
    have ih := eqvAll_int xs ys
    simp only [List.map_cons, PyData.eqvAll, PyData.eqv, ih]
    by_cases h : x = y
    · subst h; by_cases h2 : xs = ys
      · subst h2; simp
      · simp [h2]
    · simp [h]
theorem eqv_int {i j : Int} : PyData.eqv (.int i) (.int j) = decide (i = j) := by
  simp only [PyData.eqv]
  by_cases h : i = j
  · subst h; simp
  · simp [h]
theorem eqv_tI {xs ys : List Int} : PyData.eqv (tI xs) (tI ys) = decide (xs = ys) := by
  simp only [PyData.eqv]
  exact eqvAll_int xs ys
theorem eqv_lI {xs ys : List Int} : PyData.eqv (lI xs) (lI ys) = decide (xs = ys) := by
  simp only [PyData.eqv]
  exact eqvAll_int xs ys
theorem eqvAll_tI : ∀ xs ys : List (List Int), PyData.eqvAll (xs.map tI) (ys.map tI) = decide (xs = ys)
  | [], [] => by simp [PyData.eqvAll]
  | [], y :: ys => by simp [PyData.eqvAll]
  | x :: xs, [] => by simp [PyData.eqvAll]
  | x :: xs, y :: ys => by
    have ih := eqvAll_tI xs ys
    have e : PyData.eqv (tI x) (tI y) = decide (x = y) := eqv_tI
    simp only [List.map_cons, PyData.eqvAll, e, ih]
    by_cases h : x = y
    · subst h; by_cases h2 : xs = ys
      · subst h2; simp
      · simp [h2]
    · simp [h]
theorem eqv_lT {xs ys : List (List Int)} : PyData.eqv (lT xs) (lT ys) = decide (xs = ys) := by
  simp only [PyData.eqv]
  exact eqvAll_tI xs ys
theorem eqv_bool {i j : Bool} : PyData.eqv (.bool i) (.bool j) = decide (i = j) := by
  cases i <;> cases j <;> simp [PyData.eqv]

section
variable {X : Cx} {ρ : Env} {a b c e : Expr} {es : List Expr} {pos : Pos} {d da db : D} {ds : List D}
/-! ### == and the like -/
theorem ro_eq (ha : SeqAt.shaped da = true) (hb : SeqAt.shaped db = true) : Ro (rEqD X.K) da db (.bool (PyData.eqv da db)) := fun G H x y Q s rx ry q =>
  ⟨da, db, (rx.mono s).dp (SeqAt.canLay_of_shaped ha), (ry.mono s).dp (SeqAt.canLay_of_shaped hb), ha, hb, q _ G H (Ext.refl s) (.bl _)⟩
theorem ro_ne (ha : SeqAt.shaped da = true) (hb : SeqAt.shaped db = true) : Ro (rNeD X.K) da db (.bool (!PyData.eqv da db)) := fun G H x y Q s rx ry q =>
  ⟨da, db, (rx.mono s).dp (SeqAt.canLay_of_shaped ha), (ry.mono s).dp (SeqAt.canLay_of_shaped hb), ha, hb, q _ G H (Ext.refl s) (.bl _)⟩
theorem dv_eq (hu : X.A.units + 64 < cLine) (ha : Dv X a ρ da) (hb : Dv X b ρ db) (sa : SeqAt.shaped da = true) (sb : SeqAt.shaped db = true) : Dv X (.Compare a [.Eq] [b] pos) ρ (.bool (PyData.eqv da db)) := dv_cmp (op_eqD hu) (ro_eq sa sb) ha hb (nomark _)
theorem dv_ne (hu : X.A.units + 64 < cLine) (ha : Dv X a ρ da) (hb : Dv X b ρ db) (sa : SeqAt.shaped da = true) (sb : SeqAt.shaped db = true) : Dv X (.Compare a [.NotEq] [b] pos) ρ (.bool (!PyData.eqv da db)) := dv_cmp (op_neD hu) (ro_ne sa sb) ha hb (nomark _)
theorem dt_eq (hu : X.A.units + 64 < cLine) (ha : Dv X a ρ da) (hb : Dv X b ρ db) (sa : SeqAt.shaped da = true) (sb : SeqAt.shaped db = true) : Dt X (.Compare a [.Eq] [b] pos) ρ (PyData.eqv da db) := dt_cmp (op_eqD hu) (ro_eq sa sb) ha hb (nomark _)
theorem dt_ne (hu : X.A.units + 64 < cLine) (ha : Dv X a ρ da) (hb : Dv X b ρ db) (sa : SeqAt.shaped da = true) (sb : SeqAt.shaped db = true) : Dt X (.Compare a [.NotEq] [b] pos) ρ (!PyData.eqv da db) := dt_cmp (op_neD hu) (ro_ne sa sb) ha hb (nomark _)
section
variable {i j : Int}
theorem dv_lt (ha : Dv X a ρ (.int i)) (hb : Dv X b ρ (.int j)) : Dv X (.Compare a [.Lt] [b] pos) ρ (.bool (decide (i < j))) := dv_cmp op_lt (ro_I (g := fun i j => .bool (decide (i < j))) fun _ _ _ => .bl _) ha hb (nomark _)
theorem dv_le (ha : Dv X a ρ (.int i)) (hb : Dv X b ρ (.int j)) : Dv X (.Compare a [.LtE] [b] pos) ρ (.bool (decide (i ≤ j))) := dv_cmp op_le (ro_I (g := fun i j => .bool (decide (i ≤ j))) fun _ _ _ => .bl _) ha hb (nomark _)
theorem dv_gt (ha : Dv X a ρ (.int i)) (hb : Dv X b ρ (.int j)) : Dv X (.Compare a [.Gt] [b] pos) ρ (.bool (decide (j < i))) := dv_cmp op_gt (ro_I (g := fun i j => .bool (decide (j < i))) fun _ _ _ => .bl _) ha hb (nomark _)
theorem dv_ge (ha : Dv X a ρ (.int i)) (hb : Dv X b ρ (.int j)) : Dv X (.Compare a [.GtE] [b] pos) ρ (.bool (decide (j ≤ i))) := dv_cmp op_ge (ro_I (g := fun i j => .bool (decide (j ≤ i))) fun _ _ _ => .bl _) ha hb (nomark _)
theorem dt_lt (ha : Dv X a ρ (.int i)) (hb : Dv X b ρ (.int j)) : Dt X (.Compare a [.Lt] [b] pos) ρ (decide (i < j)) := dt_cmp op_lt (ro_I (g := fun i j => .bool (decide (i < j))) fun _ _ _ => .bl _) ha hb (nomark _)
theorem dt_le (ha : Dv X a ρ (.int i)) (hb : Dv X b ρ (.int j)) : Dt X (.Compare a [.LtE] [b] pos) ρ (decide (i ≤ j)) := dt_cmp op_le (ro_I (g := fun i j => .bool (decide (i ≤ j))) fun _ _ _ => .bl _) ha hb (nomark _)
theorem dt_gt (ha : Dv X a ρ (.int i)) (hb : Dv X b ρ (.int j)) : Dt X (.Compare a [.Gt] [b] pos) ρ (decide (j < i)) := dt_cmp op_gt (ro_I (g := fun i j => .bool (decide (j < i))) fun _ _ _ => .bl _) ha hb (nomark _)
theorem dt_ge (ha : Dv X a ρ (.int i)) (hb : Dv X b ρ (.int j)) : Dt X (.Compare a [.GtE] [b] pos) ρ (decide (j ≤ i)) := dt_cmp op_ge (ro_I (g := fun i j => .bool (decide (j ≤ i))) fun _ _ _ => .bl _) ha hb (nomark _)
/-- i <= j <= k -/
theorem dv_chain {k : Int} (ha : Dv X a ρ (.int i)) (hb : Dv X b ρ (.int j)) (hc : Dv X c ρ (.int k)) (hm : lastMarks [.LtE, .LtE] [b, c] = false := by with_unfolding_all rfl) :
    Dv X (.Compare a [.LtE, .LtE] [b, c] pos) ρ (.bool (decide (i ≤ j) && decide (j ≤ k))) := fun σ G H Q S s q => by
  refine we_of (pe_chain op_le op_le pe_w pe_w pe_w hm) ?_
  refine ha σ G H _ S s fun x G1 H1 x1 r1 => hb σ G1 H1 _ (S.mono x1.g) x1.s fun y G2 H2 x2 r2 => ?_
  have r1' := r1.mono x2.g
  cases r1'
  cases r2
  refine ⟨i, j, rfl, rfl, decide (i ≤ j), rfl, ?_⟩
  by_cases h : i ≤ j
  · rw [decide_eq_true h, if_pos rfl]
    rw [decide_eq_true h, Bool.true_and] at q
    refine hc σ G2 H2 _ (S.mono (x1.g.trans x2.g)) x2.s fun z G3 H3 x3 r3 => ?_
    cases r3
    exact ⟨j, k, rfl, rfl, q _ G3 H3 ((x1.trans x2).trans x3) (.bl _)⟩
  · rw [decide_eq_false h, if_neg Bool.false_ne_true]
    rw [decide_eq_false h, Bool.false_and] at q
    exact q _ G2 H2 (x1.trans x2) (.bl _)
end
/-! is None, is True -/
def isN : D → Bool
  | .none => true
  | _ => false
theorem isN_of {G : Hp} {x : V} (r : Rp G x d) : decide (x = .non) = isN d := by
  cases r <;> rfl
theorem ro_isN : Ro (fun x y H Q => y = .non ∧ Q (.bl (decide (x = .non))) H) d .none (.bool (isN d)) := fun G H x y Q s rx ry q => by
  cases ry
  rw [isN_of rx]
  exact ⟨rfl, q _ G H (Ext.refl s) (.bl _)⟩
theorem ro_notN : Ro (fun x y H Q => y = .non ∧ Q (.bl (!decide (x = .non))) H) d .none (.bool (!isN d)) := fun G H x y Q s rx ry q => by
  cases ry
  rw [isN_of rx]
  exact ⟨rfl, q _ G H (Ext.refl s) (.bl _)⟩
theorem dv_isN (ha : Dv X a ρ d) (hb : Dv X b ρ .none) : Dv X (.Compare a [.Is] [b] pos) ρ (.bool (isN d)) := dv_cmp op_isN ro_isN ha hb (nomark _)
theorem dv_notN (ha : Dv X a ρ d) (hb : Dv X b ρ .none) : Dv X (.Compare a [.IsNot] [b] pos) ρ (.bool (!isN d)) := dv_cmp op_notN ro_notN ha hb (nomark _)
theorem dt_isN (ha : Dv X a ρ d) (hb : Dv X b ρ .none) : Dt X (.Compare a [.Is] [b] pos) ρ (isN d) := dt_cmp op_isN ro_isN ha hb (nomark _)
theorem dt_notN (ha : Dv X a ρ d) (hb : Dv X b ρ .none) : Dt X (.Compare a [.IsNot] [b] pos) ρ (!isN d) := dt_cmp op_notN ro_notN ha hb (nomark _)
theorem ro_isB {i j : Bool} : Ro rIsB (.bool i) (.bool j) (.bool (decide (i = j))) := fun G H x y Q s rx ry q => by
  cases rx
  cases ry
  exact ⟨i, j, rfl, rfl, q _ G H (Ext.refl s) (.bl _)⟩
theorem ro_notB {i j : Bool} : Ro rNotB (.bool i) (.bool j) (.bool (!decide (i = j))) := fun G H x y Q s rx ry q => by
  cases rx
  cases ry
  exact ⟨i, j, rfl, rfl, q _ G H (Ext.refl s) (.bl _)⟩
theorem dv_isB {i j : Bool} (ha : Dv X a ρ (.bool i)) (hb : Dv X b ρ (.bool j)) : Dv X (.Compare a [.Is] [b] pos) ρ (.bool (decide (i = j))) := dv_cmp op_isBl ro_isB ha hb (nomark _)
theorem dv_notB {i j : Bool} (ha : Dv X a ρ (.bool i)) (hb : Dv X b ρ (.bool j)) : Dv X (.Compare a [.IsNot] [b] pos) ρ (.bool (!decide (i = j))) := dv_cmp op_notBl ro_notB ha hb (nomark _)
theorem dt_isB {i j : Bool} (ha : Dv X a ρ (.bool i)) (hb : Dv X b ρ (.bool j)) : Dt X (.Compare a [.Is] [b] pos) ρ (decide (i = j)) := dt_cmp op_isBl ro_isB ha hb (nomark _)
theorem dt_notB {i j : Bool} (ha : Dv X a ρ (.bool i)) (hb : Dv X b ρ (.bool j)) : Dt X (.Compare a [.IsNot] [b] pos) ρ (!decide (i = j)) := dt_cmp op_notBl ro_notB ha hb (nomark _)

/-! ### tests -/
theorem dt_val {k : Bool} (h : Dv X e ρ (.bool k)) (he : ∀ whole, isTrue e X.env whole = (do let v ← whole; standAt e.pos; holding [v] (truthy v)) := by intro _; rfl) : Dt X e ρ k := fun σ G H Q S s q =>
  wt_of (pt_val pe_w he) (h σ G H _ S s fun v G' H' x r => by
    cases r
    exact ⟨k, rfl, q H' x.less⟩)
theorem dt_not {k : Bool} (h : Dt X e ρ k) : Dt X (.UnaryOp .Not e pos) ρ (!k) := fun σ G H Q S s q => wt_of (pt_not pt_w) (h σ G H _ S s fun H' x => q H' x)
theorem Dw.dt {k : Bool} (h : Dw X e ρ k) : Dt X e ρ k := fun σ G H Q S s q => wt_of (PW.pt pw_w) (h σ G H Q S s q)
theorem dw_and1 {k : Bool} (h : Dt X e ρ k) : Dw X (.BoolOp .And [e] pos) ρ k := fun σ G H Q S s q => ww_of (pw_and1 pt_w) (h σ G H Q S s q)
theorem dw_or1 {k : Bool} (h : Dt X e ρ k) : Dw X (.BoolOp .Or [e] pos) ρ k := fun σ G H Q S s q => ww_of (pw_or1 pt_w) (h σ G H Q S s q)
theorem dw_and {k k2 : Bool} (h : Dt X a ρ k) (h2 : k = true → Dw X (.BoolOp .And (b :: es) pos) ρ k2) : Dw X (.BoolOp .And (a :: b :: es) pos) ρ (k && k2) := fun σ G H Q S s q =>
  ww_of (pw_and pt_w pw_w) (h σ G H _ S s fun H' x => by
    cases k with
    | true => exact h2 rfl σ G H' Q S x.s fun H'' y => q H'' ⟨x.g, x.h.trans y.h, y.s, fun p _ hp _ g => g⟩
    | false => exact q H' x)
theorem dw_or {k k2 : Bool} (h : Dt X a ρ k) (h2 : k = false → Dw X (.BoolOp .Or (b :: es) pos) ρ k2) : Dw X (.BoolOp .Or (a :: b :: es) pos) ρ (k || k2) := fun σ G H Q S s q =>
  ww_of (pw_or pt_w pw_w) (h σ G H _ S s fun H' x => by
    cases k with
    | true => exact q H' x
    | false => exact h2 rfl σ G H' Q S x.s fun H'' y => q H'' ⟨x.g, x.h.trans y.h, y.s, fun p _ hp _ g => g⟩)
theorem dv_one {op : BoolOp} (h : Dv X e ρ d) : Dv X (.BoolOp op [e] pos) ρ d := fun σ G H Q S s q => we_of (pe_one pe_w) (h σ G H Q S s q)
theorem dv_and {k k2 : Bool} (h : Dv X a ρ (.bool k)) (h2 : k = true → Dv X (.BoolOp .And (b :: es) pos) ρ (.bool k2)) : Dv X (.BoolOp .And (a :: b :: es) pos) ρ (.bool (k && k2)) := fun σ G H Q S s q =>
  we_of (pe_and pe_w pe_w) (h σ G H _ S s fun v G1 H1 x r => by
    cases r
    refine ⟨k, rfl, ?_⟩
    cases k with
    | true => exact h2 rfl σ G1 H1 Q (S.mono x.g) x.s fun v G2 H2 y r => q v G2 H2 (x.trans y) r
    | false => exact q _ G1 H1 x (.bl _))
theorem dv_or {k k2 : Bool} (h : Dv X a ρ (.bool k)) (h2 : k = false → Dv X (.BoolOp .Or (b :: es) pos) ρ (.bool k2)) : Dv X (.BoolOp .Or (a :: b :: es) pos) ρ (.bool (k || k2)) := fun σ G H Q S s q =>
  we_of (pe_or pe_w pe_w) (h σ G H _ S s fun v G1 H1 x r => by
    cases r
    refine ⟨k, rfl, ?_⟩
    cases k with
    | true => exact q _ G1 H1 x (.bl _)
    | false => exact h2 rfl σ G1 H1 Q (S.mono x.g) x.s fun v G2 H2 y r => q v G2 H2 (x.trans y) r)
theorem dv_not {k : Bool} (h : Dv X e ρ (.bool k)) : Dv X (.UnaryOp .Not e pos) ρ (.bool (!k)) := fun σ G H Q S s q =>
  we_of (pe_not pe_w) (h σ G H _ S s fun v G1 H1 x r => by
    cases r
    exact ⟨k, rfl, q _ G1 H1 x (.bl _)⟩)
theorem dv_neg {i : Int} (h : Dv X e ρ (.int i)) : Dv X (.UnaryOp .USub e pos) ρ (.int (-i)) := fun σ G H Q S s q =>
  we_of (pe_un un_neg pe_w) (h σ G H _ S s fun v G1 H1 x r => by
    cases r
    exact ⟨i, rfl, q _ G1 H1 x (.int _)⟩)
theorem dv_if {k : Bool} (h : Dt X c ρ k) (h1 : k = true → Dv X a ρ d) (h2 : k = false → Dv X b ρ d) : Dv X (.IfExp c a b pos) ρ d := fun σ G H Q S s q =>
  we_of (pe_ifExp pt_w pe_w pe_w) (h σ G H _ S s fun H1 x => by
    cases k with
    | true => exact h1 rfl σ G H1 Q S x.s fun v G2 H2 y r => q v G2 H2 ⟨y.g, x.h.trans y.h, y.s, fun p o hp m g => y.f p o (x.h _ _ hp) m g⟩ r
    | false => exact h2 rfl σ G H1 Q S x.s fun v G2 H2 y r => q v G2 H2 ⟨y.g, x.h.trans y.h, y.s, fun p o hp m g => y.f p o (x.h _ _ hp) m g⟩ r)

/-! ### arguments, displays -/
theorem da_nil : Da X [] ρ [] := fun σ G H Q S s q => wa_of pa_nil (q [] G H (Ext.refl s) .nil)
theorem da_cons (h : Dv X e ρ d) (r : Da X es ρ ds) (hs : starEach (e :: es) X.env = (false, eval e X.env) :: starEach es X.env := by rfl) : Da X (e :: es) ρ (d :: ds) := fun σ G H Q S s q =>
  wa_of (pa_cons pe_w pa_w hs) (h σ G H _ S s fun v G1 H1 x1 r1 => r σ G1 H1 _ (S.mono x1.g) x1.s fun vs G2 H2 x2 r2 => q _ G2 H2 (x1.trans x2) (.cons (r1.mono x2.g) r2))
theorem dv_tup {k : Nat} (h : Da X es ρ ds) (hz : ds.length ≤ sizeLine) : Dv X (.Tuple es k pos) ρ (.tuple ds) := fun σ G H Q S s q =>
  we_of (pe_tup pa_w) (h σ G H _ S s fun vs G1 H1 x1 r1 => ⟨by rw [r1.length]; exact hz, fun p hp => q _ _ _ (x1.trans (Ext.new x1.s hp)) (.tup upd_same (r1.mono (same_new (x1.s.free hp))))⟩)
theorem dl_lst (h : Da X es ρ ds) (hz : ds.length ≤ sizeLine) : Dl X (.List es pos) ρ ds := fun σ G H Q S s q =>
  we_of (pe_lst pa_w) (h σ G H _ S s fun vs G1 H1 x1 r1 => ⟨by rw [r1.length]; exact hz, fun p hp => q p vs _ _ (x1.trans (Ext.own x1.s hp)) (x1.h.free hp) (x1.s.free hp) upd_same r1⟩)

/-! ### + and * of lists and tuples -/
theorem dl_cat {xs ys : List D} (ha : Dv X a ρ (.list xs)) (hb : Dv X b ρ (.list ys)) (hz : xs.length + ys.length ≤ sizeLine) : Dl X (.BinOp a .Add b pos) ρ (xs ++ ys) := fun σ G H Q S s q =>
  we_of (pe_op op_cat pe_w pe_w) (ha σ G H _ S s fun x G1 H1 x1 r1 => hb σ G1 H1 _ (S.mono x1.g) x1.s fun y G2 H2 x2 r2 => by
    have r1' := r1.mono x2.g
    cases r1' with
    | lst h1 ra =>
      cases r2 with
      | lst h2 rb =>
        exact ⟨_, _, _, _, rfl, rfl, x2.s _ _ h1, x2.s _ _ h2, by rw [ra.length, rb.length]; exact hz, fun p hp => q p _ _ _ ((x1.trans x2).trans (Ext.own x2.s hp)) (x1.h.free (x2.h.free hp)) (x2.s.free hp) upd_same (ra.app rb)⟩)
theorem dl_rep {xs : List D} {k : Int} (ha : Dv X a ρ (.list xs)) (hb : Dv X b ρ (.int k)) (h1 : -(2 ^ 63) ≤ k) (h2 : k < 2 ^ 63) (hz : xs.length * k.toNat ≤ sizeLine) : Dl X (.BinOp a .Mult b pos) ρ (List.replicate k.toNat xs).flatten := fun σ G H Q S s q =>
  we_of (pe_op op_rep pe_w pe_w) (ha σ G H _ S s fun x G1 H1 x1 r1 => hb σ G1 H1 _ (S.mono x1.g) x1.s fun y G2 H2 x2 r2 => by
    have r1' := r1.mono x2.g
    cases r2
    cases r1' with
    | lst e1 ra =>
      have rr : ∀ n : Nat, RpA G2 (List.replicate n _).flatten (List.replicate n xs).flatten := fun n => by
        induction n with
        | zero => exact .nil
        | succ n ih =>
          rw [List.replicate_succ, List.replicate_succ, List.flatten_cons, List.flatten_cons]
          exact ra.app ih
      exact ⟨_, _, _, rfl, rfl, x2.s _ _ e1, h1, h2, by rw [ra.length]; exact hz, fun p hp => q p _ _ _ ((x1.trans x2).trans (Ext.own x2.s hp)) (x1.h.free (x2.h.free hp)) (x2.s.free hp) upd_same (rr _)⟩)
theorem dv_catT {xs ys : List D} (ha : Dv X a ρ (.tuple xs)) (hb : Dv X b ρ (.tuple ys)) (hz : xs.length + ys.length ≤ sizeLine) : Dv X (.BinOp a .Add b pos) ρ (.tuple (xs ++ ys)) := fun σ G H Q S s q =>
  we_of (pe_op op_catA pe_w pe_w) (ha σ G H _ S s fun x G1 H1 x1 r1 => hb σ G1 H1 _ (S.mono x1.g) x1.s fun y G2 H2 x2 r2 => by
    have r1' := r1.mono x2.g
    cases r1' with
    | tup h1 ra =>
      cases r2 with
      | tup h2 rb =>
        refine ⟨_, _, _, _, rfl, rfl, SqT.of (x2.s _ _ h1), SqT.of (x2.s _ _ h2), by rw [ra.length, rb.length]; exact hz, fun e => ?_, fun _ e => ?_, fun _ _ p hp => ?_⟩
        · subst e
          cases ra
          exact q _ G2 H2 (x1.trans x2) (.tup h2 rb)
        · subst e
          cases rb
          rw [List.append_nil] at q
          exact q _ G2 H2 (x1.trans x2) (.tup h1 ra)
        · exact q _ _ _ ((x1.trans x2).trans (Ext.new x2.s hp)) (.tup upd_same ((ra.app rb).mono (same_new (x2.s.free hp)))))
theorem dv_catS {x y : Str} (ha : Dv X a ρ (.str x)) (hb : Dv X b ρ (.str y)) (hz : x.length + y.length ≤ sizeLine) : Dv X (.BinOp a .Add b pos) ρ (.str (x ++ y)) :=
  dv_bin op_add_str (fun G H u v Q s ru rv q => by
    cases ru
    cases rv
    exact ⟨x, y, rfl, rfl, hz, q _ G H (Ext.refl s) (.str _)⟩) ha hb

/-! ### subscripts -/
theorem atI_map {G : Hp} {vs : List V} {xs : List D} (r : RpA G vs xs) {i : Int} (h : atI xs i = some d) : ∃ v, atI vs i = some v ∧ Rp G v d := by
  unfold atI at h ⊢
  rw [r.length]
  cases e : ixN xs.length i with
  | none => rw [e] at h; cases h
  | some j =>
    rw [e] at h
    exact r.get h
theorem dv_ixL {xs : List D} {i : Int} (ha : Dv X a ρ (.list xs)) (hb : Dv X b ρ (.int i)) (h : atI xs i = some d) (hp : PlainIx b := by exact fun _ _ => rfl) : Dv X (.Subscript a b pos) ρ d := fun σ G H Q S s q =>
  we_of (pe_ix ix_list pe_w pe_w hp) (ro_run (t1 := wE X a) (r := rIxL X.K) (d := d) ha hb (fun G H x y Q s rx ry q => by
    cases ry
    cases rx with
    | lst e1 ra =>
      obtain ⟨v, e2, rv⟩ := atI_map ra h
      exact ⟨_, _, i, v, rfl, rfl, SqL.of (s _ _ e1), e2, q v G H (Ext.refl s) rv⟩) S s q)
theorem dv_ixT {xs : List D} {i : Int} (ha : Dv X a ρ (.tuple xs)) (hb : Dv X b ρ (.int i)) (h : atI xs i = some d) (hp : PlainIx b := by exact fun _ _ => rfl) : Dv X (.Subscript a b pos) ρ d := fun σ G H Q S s q =>
  we_of (pe_ix ix_tup pe_w pe_w hp) (ro_run (t1 := wE X a) (r := rIxT X.K) (d := d) ha hb (fun G H x y Q s rx ry q => by
    cases ry
    cases rx with
    | tup e1 ra =>
      obtain ⟨v, e2, rv⟩ := atI_map ra h
      exact ⟨_, _, i, v, rfl, rfl, SqT.of (s _ _ e1), e2, q v G H (Ext.refl s) rv⟩) S s q)
/-- an optional part of a slice -/
structure wO (X : Cx) (e : Option Expr) (σ : L2.St) (H : Hp) (Q : Option Int → Hp → Prop) : Prop where
  run : ∀ (pins : List (Addr × Obj)) (s : Shared), Inv X pins σ H s → wpAny (model X.prog X.w) X.A (evalPart e X.env) (fun u s' => ∃ o H', Inv X pins σ H' s' ∧ IsPart u o ∧ Q o H') X.xe s
theorem po_w {e : Option Expr} : PO X e (wO X e) := ⟨fun pins s _ _ _ I h => h.run pins s I⟩
theorem wo_of {e : Option Expr} {t : TO} {σ : L2.St} {H : Hp} {Q : Option Int → Hp → Prop} (h : PO X e t) (q : t σ H Q) : wO X e σ H Q := ⟨fun pins s I => h.run pins s σ H Q I q⟩
def Do (X : Cx) (e : Option Expr) (ρ : Env) (o : Option Int) : Prop := ∀ (σ : L2.St) (G H : Hp) (Q : Option Int → Hp → Prop), Sl G σ ρ → Same G H → (∀ G' H', Ext G H G' H' → Q o H') → wO X e σ H Q
theorem do_none : Do X none ρ none := fun σ G H Q S s q => wo_of po_none (q G H (Ext.refl s))
theorem do_some {i : Int} (h : Dv X e ρ (.int i)) : Do X (some e) ρ (some i) := fun σ G H Q S s q => wo_of (po_some pe_w) (h σ G H _ S s fun v G1 H1 x r => by
  cases r
  exact ⟨i, rfl, q G1 H1 x⟩)
def cutD {α : Type} (xs : List α) (lo hi : Option Int) : List α := (xs.drop (HT.sIx xs.length 0 lo)).take (HT.sIx xs.length xs.length hi - HT.sIx xs.length 0 lo)
theorem RpA.cut {G : Hp} {vs : List V} {xs : List D} (r : RpA G vs xs) (lo hi : Option Int) : RpA G (cutV vs lo hi) (cutD xs lo hi) := by
  unfold cutV cutD
  rw [r.length]
  exact RpA.take _ (RpA.drop _ r)
theorem cutD_map {α β : Type} (f : α → β) (xs : List α) (lo hi : Option Int) : cutD (xs.map f) lo hi = (cutD xs lo hi).map f := by
  unfold cutD
  rw [List.length_map, List.map_take, List.map_drop]
theorem dl_slL {xs : List D} {lo hi : Option Expr} {l h : Option Int} {p2 : Pos} (ha : Dv X a ρ (.list xs)) (hl : Do X lo ρ l) (hh : Do X hi ρ h) : Dl X (.Subscript a (.Slice lo hi none p2) pos) ρ (cutD xs l h) := fun σ G H Q S s q =>
  we_of (pe_slice sl_list pe_w po_w po_w) (ha σ G H _ S s fun x G1 H1 x1 r1 => hl σ G1 H1 _ (S.mono x1.g) x1.s fun G2 H2 x2 => hh σ G2 H2 _ (S.mono (x1.g.trans x2.g)) x2.s fun G3 H3 x3 => by
    have r1' := r1.mono (x2.g.trans x3.g)
    cases r1' with
    | lst e1 ra => exact ⟨_, _, rfl, SqL.of (x3.s _ _ e1), fun p hp => q p _ _ _ (((x1.trans x2).trans x3).trans (Ext.own x3.s hp)) (x1.h.free (x2.h.free (x3.h.free hp))) (x3.s.free hp) upd_same (ra.cut l h)⟩)
theorem dv_slT {xs : List D} {lo hi : Option Expr} {l h : Option Int} {p2 : Pos} (ha : Dv X a ρ (.tuple xs)) (hl : Do X lo ρ l) (hh : Do X hi ρ h) : Dv X (.Subscript a (.Slice lo hi none p2) pos) ρ (.tuple (cutD xs l h)) := fun σ G H Q S s q =>
  we_of (pe_slice sl_tupA pe_w po_w po_w) (ha σ G H _ S s fun x G1 H1 x1 r1 => hl σ G1 H1 _ (S.mono x1.g) x1.s fun G2 H2 x2 => hh σ G2 H2 _ (S.mono (x1.g.trans x2.g)) x2.s fun G3 H3 x3 => by
    have r1' := r1.mono (x2.g.trans x3.g)
    cases r1' with
    | tup e1 ra =>
      refine ⟨_, _, rfl, SqT.of (x3.s _ _ e1), fun w => ?_, fun _ p hp => ?_⟩
      · refine q _ G3 H3 ((x1.trans x2).trans x3) (.tup e1 ?_)
        have z := ra.cut l h
        unfold cutV at z
        rw [w.1, w.2, List.drop_zero, Nat.sub_zero, List.take_length] at z
        exact z
      · exact q _ _ _ (((x1.trans x2).trans x3).trans (Ext.new x3.s hp)) (.tup upd_same ((ra.cut l h).mono (same_new (x3.s.free hp)))))
/-- xs[::-1] of a list -/
theorem dl_rev {xs : List D} {k : Nat} {p1 p2 p3 : Pos} (ha : Dv X a ρ (.list xs)) : Dl X (.Subscript a (.Slice none none (some (.UnaryOp .USub (.Constant (.int 1) k p1) p2)) p3) pos) ρ xs.reverse := fun σ G H Q S s q =>
  we_of (pe_revL pe_w) (ha σ G H _ S s fun x G1 H1 x1 r1 => by
    cases r1 with
    | lst e1 ra => exact ⟨_, _, rfl, SqL.of (x1.s _ _ e1), fun p hp => q p _ _ _ (x1.trans (Ext.own x1.s hp)) (x1.h.free hp) (x1.s.free hp) upd_same ra.reverse⟩)
end
end Hr
/-! Calls of built-ins, walks, comprehensions. -/
namespace Hr
open PySem PySem.Spec PyProof.Rows L2

/-! ### sum, max, min of a tuple of ints -/
section
variable {prog : Program} {w : World} {A : Around} {E : Value → Shared → Prop} {s : Shared} {l : Addr} {its : List Value} {ns : List Int} {Q : Value → Shared → Prop}
theorem keptT {l : Addr} {h' : Heap} (hk : ∀ b o, b ∉ [s.heap.objs.size] → (s.heap.push { cls := .type "tuple_iterator", data := .fields #[.ref l, .int 0 0] }).get? b = some o → h'.get? b = some o) :
    ∀ b o, s.heap.get? b = some o → h'.get? b = some o := fun b o e => by
  refine hk b o (fun hm => ?_) (Heap.get?_push_of_some _ e)
  rcases List.mem_cons.mp hm with e1 | hm
  · exact absurd (e1 ▸ Heap.lt_size e) (Nat.lt_irrefl _)
  · cases hm
theorem tup_fp (hl : s.heap.IsTuple l its.toArray) : ∀ b ∈ [s.heap.objs.size, l], b < (s.heap.push { cls := .type "tuple_iterator", data := .fields #[.ref l, .int 0 0] }).objs.size := fun b hb => by
  rw [Heap.size_push]
  rcases List.mem_cons.mp hb with e | hb
  · rw [e]; exact Nat.lt_succ_self _
  · rcases List.mem_cons.mp hb with e | hb
    · rw [e]
      obtain ⟨o, ho, _⟩ := hl
      exact Nat.lt_succ_of_lt (Heap.lt_size ho)
    · cases hb
theorem tup_ne (hl : s.heap.IsTuple l its.toArray) : l ≠ s.heap.objs.size := fun e => by
  obtain ⟨o, ho, _⟩ := hl
  exact absurd (Heap.lt_size ho) (by rw [e]; exact Nat.lt_irrefl _)
theorem sum_rawT (hh : A.handled = none) (hl : s.heap.IsTuple l its.toArray) (hi : IntsAre its ns)
    (h : ∀ h' tk t', (∀ b o, s.heap.get? b = some o → h'.get? b = some o) → Q (.int ns.sum t') { s with heap := h', toks := tk }) : wpAny (model prog w) A (call (.builtin "sum") [.ref l]) Q E s := by
  have hfp := tup_fp hl
  have hne := tup_ne hl
  obtain ⟨xs, e⟩ := hi.allInts.items
  have hn : numsOf (intItems xs).toList = ns := by rw [← e]; exact hi.numsOf
  rw [nums_intItems] at hn
  rw [e] at hl
  refine call_sum_walkG (wpAny_pyIter_tuple hl ?_)
  refine ⟨_, _, _, _, _, _, numAt xs, rfl, Walks.tuple (A := A.in1) hh _ l hne (intItems xs), ⟨⟨_, Heap.get?_push_size _ rfl, rfl, rfl⟩, hl.push _⟩, hfp, (fun _ _ => intItems_at), fun h' tk t' hk => ?_⟩
  have := h h' tk t' (keptT hk)
  have e2 : (intItems xs).size = xs.size := by simp [intItems]
  rw [e2, preSum_eq, List.take_of_length_le (by simp), hn]; exact this
theorem max_rawT (hh : A.handled = none) (hl : s.heap.IsTuple l its.toArray) (hi : IntsAre its ns) (hne0 : 0 < ns.length)
    (h : ∀ h' tk M t', (∀ b o, s.heap.get? b = some o → h'.get? b = some o) → M ∈ ns → (∀ a, a ∈ ns → a ≤ M) → Q (.int M t') { s with heap := h', toks := tk }) : wpAny (model prog w) A (call (.builtin "max") [.ref l]) Q E s := by
  have hfp := tup_fp hl
  have hne := tup_ne hl
  obtain ⟨xs, e⟩ := hi.allInts.items
  have hn : numsOf (intItems xs).toList = ns := by rw [← e]; exact hi.numsOf
  rw [nums_intItems] at hn
  subst hn
  rw [e] at hl
  have hsz : 0 < xs.size := by simpa using hne0
  refine call_max_walk (wpAny_pyIter_tuple hl ?_)
  refine ⟨_, _, _, _, _, _, _, rfl, Walks.tuple (A := A.in1) hh _ l hne (intItems xs), ⟨⟨_, Heap.get?_push_size _ rfl, rfl, rfl⟩, hl.push _⟩, hfp, by simpa [intItems] using hsz, CmpOf.ints_gt (numAt xs) (fun _ _ => intItems_at), fun v h' tk hP hk => ?_⟩
  have hv : (intItems xs)[argBest (fun i j => decide (numAt xs i > numAt xs j)) (xs.size - 1)]? = some v := by simpa [intItems] using hP
  obtain ⟨t, rfl⟩ := intItems_at hv
  obtain ⟨h1, h2⟩ := argBest_gt (numAt xs) (xs.size - 1)
  refine h h' tk _ t (keptT hk) ?_ fun a ha => ?_
  · rw [numAt_eq]; exact PySem.getD_mem (by rw [List.length_map, Array.length_toList]; omega)
  · obtain ⟨j, hj, rfl⟩ := mem_getD ha
    rw [List.length_map, Array.length_toList] at hj
    rw [← numAt_eq]; exact h2 j (by omega)
theorem min_rawT (hh : A.handled = none) (hl : s.heap.IsTuple l its.toArray) (hi : IntsAre its ns) (hne0 : 0 < ns.length)
    (h : ∀ h' tk M t', (∀ b o, s.heap.get? b = some o → h'.get? b = some o) → M ∈ ns → (∀ a, a ∈ ns → M ≤ a) → Q (.int M t') { s with heap := h', toks := tk }) : wpAny (model prog w) A (call (.builtin "min") [.ref l]) Q E s := by
  have hfp := tup_fp hl
  have hne := tup_ne hl
  obtain ⟨xs, e⟩ := hi.allInts.items
  have hn : numsOf (intItems xs).toList = ns := by rw [← e]; exact hi.numsOf
  rw [nums_intItems] at hn
  subst hn
  rw [e] at hl
  have hsz : 0 < xs.size := by simpa using hne0
  refine call_min_walk (wpAny_pyIter_tuple hl ?_)
  refine ⟨_, _, _, _, _, _, _, rfl, Walks.tuple (A := A.in1) hh _ l hne (intItems xs), ⟨⟨_, Heap.get?_push_size _ rfl, rfl, rfl⟩, hl.push _⟩, hfp, by simpa [intItems] using hsz, CmpOf.ints_lt (numAt xs) (fun _ _ => intItems_at), fun v h' tk hP hk => ?_⟩
  have hv : (intItems xs)[argBest (fun i j => decide (numAt xs i < numAt xs j)) (xs.size - 1)]? = some v := by simpa [intItems] using hP
  obtain ⟨t, rfl⟩ := intItems_at hv
  obtain ⟨h1, h2⟩ := argBest_lt (numAt xs) (xs.size - 1)
  refine h h' tk _ t (keptT hk) ?_ fun a ha => ?_
  · rw [numAt_eq]; exact PySem.getD_mem (by rw [List.length_map, Array.length_toList]; omega)
  · obtain ⟨j, hj, rfl⟩ := mem_getD ha
    rw [List.length_map, Array.length_toList] at hj
    rw [← numAt_eq]; exact h2 j (by omega)
end
section
variable {X : Cx}
theorem cr_sumT (hc : X.calm = true) : CallR X (.builtin "sum") (fun vs H Q => ∃ (a : Addr) (ns : List Int), vs = [V.ref a] ∧ SqT X.K H a (ns.map V.int) ∧ Q (.int ns.sum) H) := by
  intro pins s σ H vs us Q I r h
  obtain ⟨a, ns, rfl, hs, q⟩ := h
  obtain ⟨its, rv, hl, _⟩ := I.tuple hs
  rw [Vals.ref1 r]
  exact sum_rawT (I.ok.hd hc) hl rv.ints fun h' tk t' hk => ⟨.int _, H, I.kept hk, ⟨_, rfl⟩, q⟩
theorem cr_maxT (hc : X.calm = true) : CallR X (.builtin "max") (fun vs H Q => ∃ (a : Addr) (ns : List Int), vs = [V.ref a] ∧ SqT X.K H a (ns.map V.int) ∧ 0 < ns.length ∧ ∀ m, m ∈ ns → (∀ y, y ∈ ns → y ≤ m) → Q (.int m) H) := by
  intro pins s σ H vs us Q I r h
  obtain ⟨a, ns, rfl, hs, hne, q⟩ := h
  obtain ⟨its, rv, hl, _⟩ := I.tuple hs
  rw [Vals.ref1 r]
  exact max_rawT (I.ok.hd hc) hl rv.ints hne fun h' tk m t' hk h1 h2 => ⟨.int _, H, I.kept hk, ⟨_, rfl⟩, q m h1 h2⟩
theorem cr_minT (hc : X.calm = true) : CallR X (.builtin "min") (fun vs H Q => ∃ (a : Addr) (ns : List Int), vs = [V.ref a] ∧ SqT X.K H a (ns.map V.int) ∧ 0 < ns.length ∧ ∀ m, m ∈ ns → (∀ y, y ∈ ns → m ≤ y) → Q (.int m) H) := by
  intro pins s σ H vs us Q I r h
  obtain ⟨a, ns, rfl, hs, hne, q⟩ := h
  obtain ⟨its, rv, hl, _⟩ := I.tuple hs
  rw [Vals.ref1 r]
  exact min_rawT (I.ok.hd hc) hl rv.ints hne fun h' tk m t' hk h1 h2 => ⟨.int _, H, I.kept hk, ⟨_, rfl⟩, q m h1 h2⟩
end

/-! ### calls of built-ins, of data -/
section
variable {X : Cx} {ρ : Env} {a b c e : Expr} {es : List Expr} {p pos : Pos} {d da db : D} {ds : List D} {x : Str} {id T : String} {r : List V → Hp → VK → Prop}
def Rc (r : List V → Hp → VK → Prop) (ds : List D) (d : D) : Prop := ∀ (G H : Hp) (vs : List V) (Q : VK), Same G H → RpA G vs ds → (∀ v G' H', Ext G H G' H' → Rp G' v d → Q v H') → r vs H Q
def Rcl (r : List V → Hp → VK → Prop) (ds es : List D) : Prop := ∀ (G H : Hp) (vs : List V) (Q : VK), Same G H → RpA G vs ds → (∀ p ws G' H', Ext G H G' H' → H p = none → G' p = none → H' p = some (.lst ws) → RpA G' ws es → Q (.ref p) H') → r vs H Q
theorem dv_callB (hc : CallR X (.builtin id) r) (hr : Rc r ds d) (hg : Gl X x) (hm : X.mg x = none) (hv : bootBuiltins x = some (.builtin id)) (ha : Da X (e :: es) ρ ds) (hn : x ≠ "__name__" := by decide) (hdb : (x == ("__debug__" : Str)) = false := by decide)
    (he : starEach (e :: es) X.env = (false, eval e X.env) :: starEach es X.env := by rfl) (hpl : (backTo pos (starEach es X.env)).any (·.1) = false := by rfl) : Dv X (.Call (.Name x p) (e :: es) [] pos) ρ d := fun σ G H Q S s q =>
  we_of (pe_callB hc hg hm hv pa_w hn hdb he hpl) (ha σ G H _ S s fun vs G1 H1 x1 r1 => hr G1 H1 vs Q x1.s r1 fun v G2 H2 x2 r2 => q v G2 H2 (x1.trans x2) r2)
theorem dv_callTy (hc : CallR X (.type T) r) (hr : Rc r ds d) (hg : Gl X x) (hm : X.mg x = none) (hv : bootBuiltins x = some (.type T)) (ha : Da X (e :: es) ρ ds) (hn : x ≠ "__name__" := by decide) (hdb : (x == ("__debug__" : Str)) = false := by decide)
    (he : starEach (e :: es) X.env = (false, eval e X.env) :: starEach es X.env := by rfl) (hpl : (backTo pos (starEach es X.env)).any (·.1) = false := by rfl) : Dv X (.Call (.Name x p) (e :: es) [] pos) ρ d := fun σ G H Q S s q =>
  we_of (pe_callTy hc hg hm hv pa_w hn hdb he hpl) (ha σ G H _ S s fun vs G1 H1 x1 r1 => hr G1 H1 vs Q x1.s r1 fun v G2 H2 x2 r2 => q v G2 H2 (x1.trans x2) r2)
theorem dl_callB {fs : List D} (hc : CallR X (.builtin id) r) (hr : Rcl r ds fs) (hg : Gl X x) (hm : X.mg x = none) (hv : bootBuiltins x = some (.builtin id)) (ha : Da X (e :: es) ρ ds) (hn : x ≠ "__name__" := by decide) (hdb : (x == ("__debug__" : Str)) = false := by decide)
    (he : starEach (e :: es) X.env = (false, eval e X.env) :: starEach es X.env := by rfl) (hpl : (backTo pos (starEach es X.env)).any (·.1) = false := by rfl) : Dl X (.Call (.Name x p) (e :: es) [] pos) ρ fs := fun σ G H Q S s q =>
  we_of (pe_callB hc hg hm hv pa_w hn hdb he hpl) (ha σ G H _ S s fun vs G1 H1 x1 r1 => hr G1 H1 vs Q x1.s r1 fun v ws G2 H2 x2 n1 n2 h2 r2 => q v ws G2 H2 (x1.trans x2) (x1.h.free n1) n2 h2 r2)
theorem dl_callTy {fs : List D} (hc : CallR X (.type T) r) (hr : Rcl r ds fs) (hg : Gl X x) (hm : X.mg x = none) (hv : bootBuiltins x = some (.type T)) (ha : Da X (e :: es) ρ ds) (hn : x ≠ "__name__" := by decide) (hdb : (x == ("__debug__" : Str)) = false := by decide)
    (he : starEach (e :: es) X.env = (false, eval e X.env) :: starEach es X.env := by rfl) (hpl : (backTo pos (starEach es X.env)).any (·.1) = false := by rfl) : Dl X (.Call (.Name x p) (e :: es) [] pos) ρ fs := fun σ G H Q S s q =>
  we_of (pe_callTy hc hg hm hv pa_w hn hdb he hpl) (ha σ G H _ S s fun vs G1 H1 x1 r1 => hr G1 H1 vs Q x1.s r1 fun v ws G2 H2 x2 n1 n2 h2 r2 => q v ws G2 H2 (x1.trans x2) (x1.h.free n1) n2 h2 r2)
theorem da1 (h : Dv X e ρ d) (hs : starEach [e] X.env = (false, eval e X.env) :: starEach [] X.env := by rfl) : Da X [e] ρ [d] := da_cons h da_nil hs
theorem RpA.one {G : Hp} {vs : List V} {d : D} (r : RpA G vs [d]) : ∃ v, vs = [v] ∧ Rp G v d := by
  cases r with
  | cons h t => cases t; exact ⟨_, rfl, h⟩
theorem RpA.two {G : Hp} {vs : List V} {d d' : D} (r : RpA G vs [d, d']) : ∃ v w, vs = [v, w] ∧ Rp G v d ∧ Rp G w d' := by
  cases r with
  | cons h t =>
    cases t with
    | cons h' t' => cases t'; exact ⟨_, _, rfl, h, h'⟩
theorem rc_lenL {xs : List D} : Rc (fun vs H Q => ∃ p ys, vs = [.ref p] ∧ (SqL X.K H p ys ∨ SqT X.K H p ys) ∧ Q (.int ys.length) H) [.list xs] (.int xs.length) := fun G H vs Q s r q => by
  obtain ⟨v, rfl, rv⟩ := r.one
  cases rv with
  | lst e ra => exact ⟨_, _, rfl, .inl (SqL.of (s _ _ e)), by rw [ra.length]; exact q _ G H (Ext.refl s) (.int _)⟩
theorem rc_lenT {xs : List D} : Rc (fun vs H Q => ∃ p ys, vs = [.ref p] ∧ (SqL X.K H p ys ∨ SqT X.K H p ys) ∧ Q (.int ys.length) H) [.tuple xs] (.int xs.length) := fun G H vs Q s r q => by
  obtain ⟨v, rfl, rv⟩ := r.one
  cases rv with
  | tup e ra => exact ⟨_, _, rfl, .inr (SqT.of (s _ _ e)), by rw [ra.length]; exact q _ G H (Ext.refl s) (.int _)⟩
theorem bb_len : bootBuiltins "len" = some (.builtin "len") := by decide +kernel
theorem bb_sum : bootBuiltins "sum" = some (.builtin "sum") := by decide +kernel
theorem bb_max : bootBuiltins "max" = some (.builtin "max") := by decide +kernel
theorem bb_min : bootBuiltins "min" = some (.builtin "min") := by decide +kernel
theorem bb_all : bootBuiltins "all" = some (.builtin "all") := by decide +kernel
theorem bb_sorted : bootBuiltins "sorted" = some (.builtin "sorted") := by decide +kernel
theorem bb_isinstance : bootBuiltins "isinstance" = some (.builtin "isinstance") := by decide +kernel
theorem bb_int : bootBuiltins "int" = some (.type "int") := by decide +kernel
theorem bb_bool : bootBuiltins "bool" = some (.type "bool") := by decide +kernel
theorem bb_str : bootBuiltins "str" = some (.type "str") := by decide +kernel
theorem bb_tuple : bootBuiltins "tuple" = some (.type "tuple") := by decide +kernel
theorem bb_list : bootBuiltins "list" = some (.type "list") := by decide +kernel
theorem dv_lenL {xs : List D} (hg : Gl X "len") (hm : X.mg "len" = none) (ha : Dv X e ρ (.list xs)) (hs : starEach [e] X.env = (false, eval e X.env) :: starEach [] X.env := by rfl) : Dv X (.Call (.Name "len" p) [e] [] pos) ρ (.int xs.length) := dv_callB call_len_seq rc_lenL hg hm bb_len (da1 ha hs) (he := hs) (hpl := by rfl)
theorem dv_lenT {xs : List D} (hg : Gl X "len") (hm : X.mg "len" = none) (ha : Dv X e ρ (.tuple xs)) (hs : starEach [e] X.env = (false, eval e X.env) :: starEach [] X.env := by rfl) : Dv X (.Call (.Name "len" p) [e] [] pos) ρ (.int xs.length) := dv_callB call_len_seq rc_lenT hg hm bb_len (da1 ha hs) (he := hs) (hpl := by rfl)
theorem dv_lenS {z : Str} (hg : Gl X "len") (hm : X.mg "len" = none) (ha : Dv X e ρ (.str z)) (hz : z.length ≤ sizeLine) (hs : starEach [e] X.env = (false, eval e X.env) :: starEach [] X.env := by rfl) : Dv X (.Call (.Name "len" p) [e] [] pos) ρ (.int z.length) :=
  dv_callB call_len_str (fun G H vs Q s r q => by
    obtain ⟨v, rfl, rv⟩ := r.one
    cases rv
    exact ⟨z, rfl, hz, q _ G H (Ext.refl s) (.int _)⟩) hg hm bb_len (da1 ha hs) (he := hs) (hpl := by rfl)
theorem dv_sumL {ns : List Int} (hc : X.calm = true) (hg : Gl X "sum") (hm : X.mg "sum" = none) (ha : Dv X e ρ (lI ns)) (hs : starEach [e] X.env = (false, eval e X.env) :: starEach [] X.env := by rfl) : Dv X (.Call (.Name "sum" p) [e] [] pos) ρ (.int ns.sum) :=
  dv_callB (cr_sum hc) (fun G H vs Q s r q => by
    obtain ⟨v, rfl, rv⟩ := r.one
    cases rv with
    | lst e ra =>
      have := ra.ints
      subst this
      exact ⟨_, ns, rfl, SqL.of (s _ _ e), q _ G H (Ext.refl s) (.int _)⟩) hg hm bb_sum (da1 ha hs) (he := hs) (hpl := by rfl)
theorem dv_sumT {ns : List Int} (hc : X.calm = true) (hg : Gl X "sum") (hm : X.mg "sum" = none) (ha : Dv X e ρ (tI ns)) (hs : starEach [e] X.env = (false, eval e X.env) :: starEach [] X.env := by rfl) : Dv X (.Call (.Name "sum" p) [e] [] pos) ρ (.int ns.sum) :=
  dv_callB (cr_sumT hc) (fun G H vs Q s r q => by
    obtain ⟨v, rfl, rv⟩ := r.one
    cases rv with
    | tup e ra =>
      have := ra.ints
      subst this
      exact ⟨_, ns, rfl, SqT.of (s _ _ e), q _ G H (Ext.refl s) (.int _)⟩) hg hm bb_sum (da1 ha hs) (he := hs) (hpl := by rfl)
/-- the greatest, the least of ints -/
def maxI : List Int → Int
  | [] => 0
  | [x] => x
  | x :: y :: r => max x (maxI (y :: r))
def minI : List Int → Int
  | [] => 0
  | [x] => x
  | x :: y :: r => min x (minI (y :: r))
theorem maxI_mem : ∀ {ns : List Int}, 0 < ns.length → maxI ns ∈ ns ∧ ∀ y ∈ ns, y ≤ maxI ns
  | [], h => absurd h (by decide)
  | [x], _ => by simp [maxI]
  | x :: y :: r, _ => by
    obtain ⟨h1, h2⟩ := maxI_mem (ns := y :: r) (by simp)
    have e : maxI (x :: y :: r) = max x (maxI (y :: r)) := rfl
    rw [e]
    constructor
    · by_cases h : x ≤ maxI (y :: r)
      · rw [Int.max_eq_right h]
        exact List.mem_cons_of_mem _ h1
      · rw [Int.max_eq_left (by omega)]
        exact List.mem_cons_self
    · intro z hz
      rcases List.mem_cons.mp hz with rfl | hz
      · exact Int.le_max_left _ _
      · exact Int.le_trans (h2 z hz) (Int.le_max_right _ _)
theorem minI_mem : ∀ {ns : List Int}, 0 < ns.length → minI ns ∈ ns ∧ ∀ y ∈ ns, minI ns ≤ y
  | [], h => absurd h (by decide)
  | [x], _ => by simp [minI]
  | x :: y :: r, _ => by
    obtain ⟨h1, h2⟩ := minI_mem (ns := y :: r) (by simp)
    have e : minI (x :: y :: r) = min x (minI (y :: r)) := rfl
    rw [e]
    constructor
    · by_cases h : x ≤ minI (y :: r)
      · rw [Int.min_eq_left h]
        exact List.mem_cons_self
      · rw [Int.min_eq_right (by omega)]
        exact List.mem_cons_of_mem _ h1
    · intro z hz
      rcases List.mem_cons.mp hz with rfl | hz
      · exact Int.min_le_left _ _
      · exact Int.le_trans (Int.min_le_right _ _) (h2 z hz)
theorem maxI_is {ns : List Int} {m : Int} (h0 : 0 < ns.length) (h1 : m ∈ ns) (h2 : ∀ y ∈ ns, y ≤ m) : m = maxI ns := Int.le_antisymm ((maxI_mem h0).2 m h1) (h2 _ (maxI_mem h0).1)
theorem minI_is {ns : List Int} {m : Int} (h0 : 0 < ns.length) (h1 : m ∈ ns) (h2 : ∀ y ∈ ns, m ≤ y) : m = minI ns := Int.le_antisymm (h2 _ (minI_mem h0).1) ((minI_mem h0).2 m h1)
section
variable {ns : List Int}
theorem dv_maxL (hc : X.calm = true) (hg : Gl X "max") (hm : X.mg "max" = none) (ha : Dv X e ρ (lI ns)) (h0 : 0 < ns.length) (hs : starEach [e] X.env = (false, eval e X.env) :: starEach [] X.env := by rfl) : Dv X (.Call (.Name "max" p) [e] [] pos) ρ (.int (maxI ns)) :=
  dv_callB (cr_max hc) (fun G H vs Q s r q => by
    obtain ⟨v, rfl, rv⟩ := r.one
    cases rv with
    | lst e ra =>
      have := ra.ints
      subst this
      exact ⟨_, ns, rfl, SqL.of (s _ _ e), h0, fun m h1 h2 => by rw [maxI_is h0 h1 h2]; exact q _ G H (Ext.refl s) (.int _)⟩) hg hm bb_max (da1 ha hs) (he := hs) (hpl := by rfl)
theorem dv_maxT (hc : X.calm = true) (hg : Gl X "max") (hm : X.mg "max" = none) (ha : Dv X e ρ (tI ns)) (h0 : 0 < ns.length) (hs : starEach [e] X.env = (false, eval e X.env) :: starEach [] X.env := by rfl) : Dv X (.Call (.Name "max" p) [e] [] pos) ρ (.int (maxI ns)) :=
  dv_callB (cr_maxT hc) (fun G H vs Q s r q => by
    obtain ⟨v, rfl, rv⟩ := r.one
    cases rv with
    | tup e ra =>
      have := ra.ints
      subst this
      exact ⟨_, ns, rfl, SqT.of (s _ _ e), h0, fun m h1 h2 => by rw [maxI_is h0 h1 h2]; exact q _ G H (Ext.refl s) (.int _)⟩) hg hm bb_max (da1 ha hs) (he := hs) (hpl := by rfl)
theorem dv_minL (hc : X.calm = true) (hg : Gl X "min") (hm : X.mg "min" = none) (ha : Dv X e ρ (lI ns)) (h0 : 0 < ns.length) (hs : starEach [e] X.env = (false, eval e X.env) :: starEach [] X.env := by rfl) : Dv X (.Call (.Name "min" p) [e] [] pos) ρ (.int (minI ns)) :=
  dv_callB (cr_min hc) (fun G H vs Q s r q => by
    obtain ⟨v, rfl, rv⟩ := r.one
    cases rv with
    | lst e ra =>
      have := ra.ints
      subst this
      exact ⟨_, ns, rfl, SqL.of (s _ _ e), h0, fun m h1 h2 => by rw [minI_is h0 h1 h2]; exact q _ G H (Ext.refl s) (.int _)⟩) hg hm bb_min (da1 ha hs) (he := hs) (hpl := by rfl)
theorem dv_minT (hc : X.calm = true) (hg : Gl X "min") (hm : X.mg "min" = none) (ha : Dv X e ρ (tI ns)) (h0 : 0 < ns.length) (hs : starEach [e] X.env = (false, eval e X.env) :: starEach [] X.env := by rfl) : Dv X (.Call (.Name "min" p) [e] [] pos) ρ (.int (minI ns)) :=
  dv_callB (cr_minT hc) (fun G H vs Q s r q => by
    obtain ⟨v, rfl, rv⟩ := r.one
    cases rv with
    | tup e ra =>
      have := ra.ints
      subst this
      exact ⟨_, ns, rfl, SqT.of (s _ _ e), h0, fun m h1 h2 => by rw [minI_is h0 h1 h2]; exact q _ G H (Ext.refl s) (.int _)⟩) hg hm bb_min (da1 ha hs) (he := hs) (hpl := by rfl)
theorem max_if {i j : Int} : (if j > i then j else i) = max i j := by
  by_cases h : j > i
  · rw [if_pos h, Int.max_eq_right (by omega)]
  · rw [if_neg h, Int.max_eq_left (by omega)]
theorem min_if {i j : Int} : (if j < i then j else i) = min i j := by
  by_cases h : j < i
  · rw [if_pos h, Int.min_eq_right (by omega)]
  · rw [if_neg h, Int.min_eq_left (by omega)]
theorem dv_max2 {i j : Int} (hc : X.calm = true) (hg : Gl X "max") (hm : X.mg "max" = none) (ha : Dv X a ρ (.int i)) (hb : Dv X b ρ (.int j)) (hs : starEach [a, b] X.env = (false, eval a X.env) :: starEach [b] X.env := by rfl) (hs2 : starEach [b] X.env = (false, eval b X.env) :: starEach [] X.env := by rfl) (hpl : (backTo pos (starEach [b] X.env)).any (·.1) = false := by rfl) : Dv X (.Call (.Name "max" p) [a, b] [] pos) ρ (.int (max i j)) :=
  dv_callB (call_max2 hc) (fun G H vs Q s r q => by
    obtain ⟨v, w, rfl, rv, rw'⟩ := r.two
    cases rv
    cases rw'
    exact ⟨i, j, rfl, by rw [max_if]; exact q _ G H (Ext.refl s) (.int _)⟩) hg hm bb_max (da_cons ha (da1 hb hs2) hs) (he := hs) (hpl := hpl)
theorem dv_min2 {i j : Int} (hc : X.calm = true) (hg : Gl X "min") (hm : X.mg "min" = none) (ha : Dv X a ρ (.int i)) (hb : Dv X b ρ (.int j)) (hs : starEach [a, b] X.env = (false, eval a X.env) :: starEach [b] X.env := by rfl) (hs2 : starEach [b] X.env = (false, eval b X.env) :: starEach [] X.env := by rfl) (hpl : (backTo pos (starEach [b] X.env)).any (·.1) = false := by rfl) : Dv X (.Call (.Name "min" p) [a, b] [] pos) ρ (.int (min i j)) :=
  dv_callB (call_min2 hc) (fun G H vs Q s r q => by
    obtain ⟨v, w, rfl, rv, rw'⟩ := r.two
    cases rv
    cases rw'
    exact ⟨i, j, rfl, by rw [min_if]; exact q _ G H (Ext.refl s) (.int _)⟩) hg hm bb_min (da_cons ha (da1 hb hs2) hs) (he := hs) (hpl := hpl)
theorem dv_all {bs : List Bool} (hc : X.calm = true) (hg : Gl X "all") (hm : X.mg "all" = none) (ha : Dv X e ρ (.list (bs.map PyData.bool))) (hs : starEach [e] X.env = (false, eval e X.env) :: starEach [] X.env := by rfl) : Dv X (.Call (.Name "all" p) [e] [] pos) ρ (.bool (bs.all _root_.id)) :=
  dv_callB (cr_all hc) (fun G H vs Q s r q => by
    obtain ⟨v, rfl, rv⟩ := r.one
    cases rv with
    | lst e ra =>
      have := ra.bools
      subst this
      exact ⟨_, bs, rfl, SqL.of (s _ _ e), q _ G H (Ext.refl s) (.bl _)⟩) hg hm bb_all (da1 ha hs) (he := hs) (hpl := by rfl)
/-- sorted ints, by insertion -/
def insI (x : Int) : List Int → List Int
  | [] => [x]
  | y :: r => if x ≤ y then x :: y :: r else y :: insI x r
def sortI : List Int → List Int
  | [] => []
  | x :: r => insI x (sortI r)
theorem insI_perm (x : Int) : ∀ l : List Int, (insI x l).Perm (x :: l)
  | [] => List.Perm.refl _
  | y :: r => by
    unfold insI
    by_cases h : x ≤ y
    · rw [if_pos h]
    · rw [if_neg h]
      exact ((insI_perm x r).cons y).trans (List.Perm.swap x y r)
theorem sortI_perm : ∀ ns : List Int, (sortI ns).Perm ns
  | [] => List.Perm.refl _
  | x :: r => (insI_perm x (sortI r)).trans ((sortI_perm r).cons x)
theorem insI_sorted (x : Int) : ∀ {l : List Int}, l.Pairwise (· ≤ ·) → (insI x l).Pairwise (· ≤ ·)
  | [], _ => List.pairwise_singleton _ _
  | y :: r, h => by
    unfold insI
    have h' := List.pairwise_cons.mp h
    by_cases hxy : x ≤ y
    · rw [if_pos hxy]
      exact List.pairwise_cons.mpr ⟨fun z hz => by
        rcases List.mem_cons.mp hz with rfl | hz
        · exact hxy
        · exact Int.le_trans hxy (h'.1 z hz), h⟩
    · rw [if_neg hxy]
      refine List.pairwise_cons.mpr ⟨fun z hz => ?_, insI_sorted x h'.2⟩
      rcases List.mem_cons.mp ((insI_perm x r).mem_iff.mp hz) with rfl | hz
      · omega
      · exact h'.1 z hz
theorem sortI_sorted : ∀ ns : List Int, (sortI ns).Pairwise (· ≤ ·)
  | [] => List.Pairwise.nil
  | x :: r => insI_sorted x (sortI_sorted r)
theorem sorted_eq {xs ys : List Int} (h : xs.Perm ys) (h1 : xs.Pairwise (· ≤ ·)) (h2 : ys.Pairwise (· ≤ ·)) : xs = ys := List.Perm.eq_of_pairwise (fun a b _ _ h1 h2 => Int.le_antisymm h1 h2) h1 h2 h
theorem dl_sorted (hg : Gl X "sorted") (hm : X.mg "sorted" = none) (ha : Dv X e ρ (lI ns)) (hs : starEach [e] X.env = (false, eval e X.env) :: starEach [] X.env := by rfl) : Dl X (.Call (.Name "sorted" p) [e] [] pos) ρ ((sortI ns).map PyData.int) :=
  dl_callB cr_sortedI (fun G H vs Q s r q => by
    obtain ⟨v, rfl, rv⟩ := r.one
    cases rv with
    | lst e ra =>
      have := ra.ints
      subst this
      exact ⟨_, ns, rfl, SqL.of (s _ _ e), fun ns' p hp hq h0 => by
        have e1 : ns' = sortI ns := sorted_eq (hp.trans (sortI_perm ns).symm) hq (sortI_sorted ns)
        subst e1
        exact q p _ G _ (Ext.own s h0) h0 (s.free h0) upd_same (rpa_ints _)⟩) hg hm bb_sorted (da1 ha hs) (he := hs) (hpl := by rfl)
end
theorem dv_tupleL {xs : List D} (hg : Gl X "tuple") (hm : X.mg "tuple" = none) (ha : Dv X e ρ (.list xs)) (hs : starEach [e] X.env = (false, eval e X.env) :: starEach [] X.env := by rfl) : Dv X (.Call (.Name "tuple" p) [e] [] pos) ρ (.tuple xs) :=
  dv_callTy call_tuple_of (fun G H vs Q s r q => by
    obtain ⟨v, rfl, rv⟩ := r.one
    cases rv with
    | lst e ra => exact ⟨_, _, rfl, .inl ⟨SqL.of (s _ _ e), fun l hl => q _ _ _ (Ext.new s hl) (.tup upd_same (ra.mono (same_new (s.free hl))))⟩⟩) hg hm bb_tuple (da1 ha hs) (he := hs) (hpl := by rfl)
theorem dl_listL {xs : List D} (hg : Gl X "list") (hm : X.mg "list" = none) (ha : Dv X e ρ (.list xs)) (hs : starEach [e] X.env = (false, eval e X.env) :: starEach [] X.env := by rfl) : Dl X (.Call (.Name "list" p) [e] [] pos) ρ xs :=
  dl_callTy call_list_of (fun G H vs Q s r q => by
    obtain ⟨v, rfl, rv⟩ := r.one
    cases rv with
    | lst e ra => exact ⟨_, _, rfl, .inl (SqL.of (s _ _ e)), fun l hl => q l _ G _ (Ext.own s hl) hl (s.free hl) upd_same ra⟩) hg hm bb_list (da1 ha hs) (he := hs) (hpl := by rfl)
theorem dl_listT {xs : List D} (hg : Gl X "list") (hm : X.mg "list" = none) (ha : Dv X e ρ (.tuple xs)) (hs : starEach [e] X.env = (false, eval e X.env) :: starEach [] X.env := by rfl) : Dl X (.Call (.Name "list" p) [e] [] pos) ρ xs :=
  dl_callTy call_list_of (fun G H vs Q s r q => by
    obtain ⟨v, rfl, rv⟩ := r.one
    cases rv with
    | tup e ra => exact ⟨_, _, rfl, .inr (SqT.of (s _ _ e)), fun l hl => q l _ G _ (Ext.own s hl) hl (s.free hl) upd_same ra⟩) hg hm bb_list (da1 ha hs) (he := hs) (hpl := by rfl)
/-! isinstance with a built-in type -/
def tyN : D → String
  | .none => "NoneType"
  | .bool _ => "bool"
  | .int _ => "int"
  | .str _ => "str"
  | .list _ => "list"
  | .tuple _ => "tuple"
  | .dict _ => "dict"
theorem tyx_of {K : PySem.W.Frag} {G : Hp} {v : V} (r : Rp G v d) (hd : tyN d ≠ "dict") : TyX K G v (.type (tyN d)) := by
  cases r with
  | raw a => exact absurd rfl hd
  | dk _ _ _ => exact absurd rfl hd
  | dt _ _ _ => exact absurd rfl hd
  | ins _ _ _ => exact absurd rfl hd
  | non => exact .base .non
  | bl b => exact .base (.bl b)
  | int i => exact .base (.int i)
  | str x => exact .base (.str x)
  | lst h _ => exact .base (.lst h)
  | tup h _ => exact .base (.tup h)
theorem kit_ii : kitB "int" "int" = some true := by decide +kernel
theorem kit_ib : kitB "int" "bool" = some false := by decide +kernel
theorem kit_bi : kitB "bool" "int" = some true := by decide +kernel
theorem kit_bb : kitB "bool" "bool" = some true := by decide +kernel
theorem kit_tt : kitB "tuple" "tuple" = some true := by decide +kernel
theorem kit_ss : kitB "str" "str" = some true := by decide +kernel
theorem kit_n1 : kitB "NoneType" "int" = some false ∧ kitB "str" "int" = some false ∧ kitB "list" "int" = some false ∧ kitB "tuple" "int" = some false := by decide +kernel
theorem kit_n2 : kitB "NoneType" "tuple" = some false ∧ kitB "str" "tuple" = some false ∧ kitB "list" "tuple" = some false ∧ kitB "int" "tuple" = some false ∧ kitB "bool" "tuple" = some false := by decide +kernel
theorem kit_n3 : kitB "NoneType" "str" = some false ∧ kitB "tuple" "str" = some false ∧ kitB "list" "str" = some false ∧ kitB "int" "str" = some false ∧ kitB "bool" "str" = some false := by decide +kernel
theorem kit_no_int {v : D} (h1 : tyN v ≠ "int") (h2 : tyN v ≠ "bool") (h3 : tyN v ≠ "dict") : kitB (tyN v) "int" = some false := by
  cases v with
  | none => exact kit_n1.1
  | bool b => exact absurd rfl h2
  | int i => exact absurd rfl h1
  | str x => exact kit_n1.2.1
  | list x => exact kit_n1.2.2.1
  | tuple x => exact kit_n1.2.2.2
  | dict x => exact absurd rfl h3
theorem kit_no_tuple {v : D} (h1 : tyN v ≠ "tuple") (h3 : tyN v ≠ "dict") : kitB (tyN v) "tuple" = some false := by
  cases v with
  | none => exact kit_n2.1
  | bool b => exact kit_n2.2.2.2.2
  | int i => exact kit_n2.2.2.2.1
  | str x => exact kit_n2.2.1
  | list x => exact kit_n2.2.2.1
  | tuple x => exact absurd rfl h1
  | dict x => exact absurd rfl h3
theorem kit_no_str {v : D} (h1 : tyN v ≠ "str") (h3 : tyN v ≠ "dict") : kitB (tyN v) "str" = some false := by
  cases v with
  | none => exact kit_n3.1
  | bool b => exact kit_n3.2.2.2.2
  | int i => exact kit_n3.2.2.2.1
  | str x => exact absurd rfl h1
  | list x => exact kit_n3.2.2.1
  | tuple x => exact kit_n3.2.1
  | dict x => exact absurd rfl h3
theorem dv_isi {T : Str} {tn : String} {k : Bool} (hg : Gl X "isinstance") (hm : X.mg "isinstance" = none) (hgT : Gl X T) (hmT : X.mg T = none) (hvT : bootBuiltins T = some (.type tn)) (ha : Dv X a ρ d) (hk : kitB (tyN d) tn = some k) {p2 : Pos} (hdd : tyN d ≠ "dict" := by first | decide | simp [tyN])
    (hs : starEach [a, .Name T p2] X.env = (false, eval a X.env) :: starEach [.Name T p2] X.env := by rfl) (hn : T ≠ "__name__" := by decide) (hd : (T == ("__debug__" : Str)) = false := by decide) (hpl : (backTo pos (starEach [.Name T p2] X.env)).any (·.1) = false := by rfl) :
    Dv X (.Call (.Name "isinstance" p) [a, .Name T p2] [] pos) ρ (.bool k) := fun σ G H Q S s q =>
  we_of (pe_callB call_isi hg hm bb_isinstance (pa_cons pe_w (pa_cons (pe_bltn (v := .ty tn) hgT hmT hvT rfl hn hd) pa_nil) hs) (he := hs) (hpl := hpl)) (ha σ G H _ S s fun v G1 H1 x1 r1 =>
    ⟨v, .ty tn, .type (tyN d), .type tn, k, rfl, .ty tn, tyx_of (r1.mono x1.s) hdd, kit_ty hk, q _ G1 H1 x1 (.bl _)⟩)
end
end Hr
/-! What is walked; comprehensions. -/
namespace Hr
open PySem PySem.Spec PyProof.Rows L2

def setE (ρ : Env) : List (Nat × D) → Env
  | [] => ρ
  | (j, d) :: r => setE (ρ.set j (some d)) r
def Off (js : List Nat) (σ σ' : L2.St) : Prop := σ'.length = σ.length ∧ ∀ i, i ∉ js → σ'[i]? = σ[i]?
theorem Off.one {σ : L2.St} {j : Nat} {v : Option V} : Off [j] σ (σ.set j v) := ⟨by simp, fun i h => by
  have : j ≠ i := fun e => h (by simp [e])
  rw [List.getElem?_set_ne this]⟩
theorem Off.two {σ : L2.St} {j k : Nat} {v w : Option V} : Off [j, k] σ ((σ.set j v).set k w) := ⟨by simp, fun i h => by
  have h1 : j ≠ i := fun e => h (by simp [e])
  have h2 : k ≠ i := fun e => h (by simp [e])
  rw [List.getElem?_set_ne h2, List.getElem?_set_ne h1]⟩
theorem wipe_get {σ : L2.St} {i : Nat} : ∀ {vs : List Nat}, i ∈ vs → (L2.wipe σ vs)[i]? = if i < σ.length then some none else none
  | v :: vs, h => by
    show ((L2.wipe σ vs).set v none)[i]? = _
    by_cases hv : v = i
    · subst hv
      by_cases hl : v < σ.length
      · rw [if_pos hl, List.getElem?_set_self (by rw [wipe_length]; exact hl)]
      · rw [if_neg hl]
        exact List.getElem?_eq_none (by simp [wipe_length]; omega)
    · rw [List.getElem?_set_ne hv]
      exact wipe_get (by rcases List.mem_cons.mp h with e | e; exact absurd e.symm hv; exact e)
theorem wipe_off {σ σ2 : L2.St} {vs js : List Nat} (h : Off js (L2.wipe σ vs) σ2) (hj : ∀ j ∈ js, j ∈ vs) : L2.wipe σ2 vs = L2.wipe σ vs := by
  have hl : σ2.length = σ.length := by rw [h.1, wipe_length]
  apply List.ext_getElem?
  intro i
  by_cases hi : i ∈ vs
  · rw [wipe_get hi, wipe_get hi, hl]
  · rw [wipe_out hi, h.2 i (fun z => hi (hj i z))]

/-- the iterator J, its target read by g, yields at turn i what asg i says, n turns in all -/
def Goes (J : It) (g : TG) (G1 : Hp) (n : Nat) (js : List Nat) (asg : Nat → List (Nat × D)) : Prop :=
  ∀ (G' H' : Hp), Same G1 G' → Same G' H' → J.stop n H' ∧ ∀ i, i < n → J.go i H' ∧ ∀ x H'', J.yld i H' x H'' → ∃ G'', Ext G' H' G'' H'' ∧
    ∀ (σ' : L2.St) (ρ' : Env) (Q' : L2.St → Hp → Prop), Sl G' σ' ρ' → (∀ σ'', Off js σ' σ'' → Sl G'' σ'' (setE ρ' (asg i)) → Q' σ'' H'') → g x σ' H'' Q'
def Wk (X : Cx) (tg iter : Expr) (ρ : Env) (g : TG) (n : Nat) (js : List Nat) (asg : Nat → List (Nat × D)) : Prop :=
  ∃ wi, PI X tg iter wi ∧ ∀ (σ : L2.St) (G H : Hp) (R : It → Hp → Prop), Sl G σ ρ → Same G H → (∀ J G' H', Ext G H G' H' → Goes J g G' n js asg → R J H') → wi σ H R

section
variable {X : Cx} {ρ : Env} {a b c e elt tg iter : Expr} {es ifs : List Expr} {p pos : Pos} {d : D} {ds xs ys : List D}
/-- the i-th item -/
def itD (ds : List D) (i : Nat) : D := ds.getD i .none
theorem itD_get {i : Nat} (h : i < ds.length) : ds[i]? = some (itD ds i) := by
  unfold itD
  rw [List.getD_eq_getElem?_getD, List.getElem?_eq_getElem h]
  rfl
theorem wk_list {j : Nat} (h : Dv X iter ρ (.list ds)) : Wk X tg iter ρ (gName j) ds.length [j] (fun i => [(j, itD ds i)]) := by
  refine ⟨_, pi_list pe_w, fun σ G H R S s q => h σ G H _ S s fun v G1 H1 x1 r1 => ?_⟩
  cases r1 with
  | lst e ra =>
    rename_i p1 vs
    refine ⟨_, rfl, ⟨_, SqL.of (x1.s _ _ e)⟩, q _ G1 H1 x1 fun G' H' s1 s2 => ⟨⟨vs, SqL.of (s2 _ _ (s1 _ _ e)), by rw [ra.length]; exact Nat.le_refl _⟩, fun i hi => ?_⟩⟩
    obtain ⟨u, hu, ru⟩ := ra.get (itD_get hi)
    refine ⟨⟨vs, u, SqL.of (s2 _ _ (s1 _ _ e)), hu⟩, fun x H'' y => ?_⟩
    obtain ⟨rfl, y⟩ := y
    have ex : u = x := Option.some.inj (hu.symm.trans (y vs (SqL.of (s2 _ _ (s1 _ _ e)))))
    subst ex
    exact ⟨G', Ext.refl s2, fun σ' ρ' Q' S' k => k _ Off.one (S'.set (ru.mono s1))⟩
theorem wk_tup {j : Nat} (h : Dv X iter ρ (.tuple ds)) : Wk X tg iter ρ (gName j) ds.length [j] (fun i => [(j, itD ds i)]) := by
  refine ⟨_, pi_tup pe_w, fun σ G H R S s q => h σ G H _ S s fun v G1 H1 x1 r1 => ?_⟩
  cases r1 with
  | tup e ra =>
    rename_i p1 vs
    refine ⟨_, rfl, ⟨_, SqT.of (x1.s _ _ e)⟩, q _ G1 H1 x1 fun G' H' s1 s2 => ⟨⟨vs, SqT.of (s2 _ _ (s1 _ _ e)), by rw [ra.length]; exact Nat.le_refl _⟩, fun i hi => ?_⟩⟩
    obtain ⟨u, hu, ru⟩ := ra.get (itD_get hi)
    refine ⟨⟨vs, u, SqT.of (s2 _ _ (s1 _ _ e)), hu⟩, fun x H'' y => ?_⟩
    obtain ⟨rfl, y⟩ := y
    have ex : u = x := Option.some.inj (hu.symm.trans (y vs (SqT.of (s2 _ _ (s1 _ _ e)))))
    subst ex
    exact ⟨G', Ext.refl s2, fun σ' ρ' Q' S' k => k _ Off.one (S'.set (ru.mono s1))⟩
theorem goes_range {lo : Int} {n j : Nat} {G1 : Hp} : Goes (Itr lo n) (gName j) G1 n [j] (fun i => [(j, .int (lo + i))]) := fun G' H' s1 s2 => ⟨Nat.le_refl _, fun i hi => ⟨hi, fun x H'' y => by
  obtain ⟨rfl, rfl⟩ := y
  exact ⟨G', Ext.refl s2, fun σ' ρ' Q' S' k => k _ Off.one (S'.set (.int _))⟩⟩⟩
theorem wk_range1 {j : Nat} {n : Int} (hg : Gl X "range") (hm : X.mg "range" = none) (h : Dv X a ρ (.int n)) (h1 : -(2 ^ 62) ≤ n) (h2 : n < 2 ^ 62) (hs : starEach [a] X.env = [(false, eval a X.env)] := by rfl) :
    Wk X tg (.Call (.Name "range" p) [a] [] pos) ρ (gName j) n.toNat [j] (fun i => [(j, .int (0 + i))]) := by
  refine ⟨_, pi_range1 hg hm pa_w hs, fun σ G H R S s q => da1 h hs σ G H _ S s fun vs G1 H1 x1 r1 => ?_⟩
  obtain ⟨v, rfl, rv⟩ := r1.one
  cases rv
  exact ⟨n, rfl, h1, h2, q _ G1 H1 x1 goes_range⟩
theorem wk_range2 {j : Nat} {m n : Int} (hg : Gl X "range") (hm : X.mg "range" = none) (h : Dv X a ρ (.int m)) (h' : Dv X b ρ (.int n)) (h1 : -(2 ^ 62) ≤ m) (h2 : m < 2 ^ 62) (h3 : -(2 ^ 62) ≤ n) (h4 : n < 2 ^ 62)
    (hs : starEach [a, b] X.env = [(false, eval a X.env), (false, eval b X.env)] := by rfl) (hs2 : starEach [b] X.env = [(false, eval b X.env)] := by rfl) :
    Wk X tg (.Call (.Name "range" p) [a, b] [] pos) ρ (gName j) (n - m).toNat [j] (fun i => [(j, .int (m + i))]) := by
  refine ⟨_, pi_range2 hg hm pa_w hs hs2, fun σ G H R S s q => da_cons h (da1 h' hs2) (by rw [hs, hs2]) σ G H _ S s fun vs G1 H1 x1 r1 => ?_⟩
  obtain ⟨v, w, rfl, rv, rw'⟩ := r1.two
  cases rv
  cases rw'
  exact ⟨m, n, rfl, ⟨h1, h2, h3, h4⟩, q _ G1 H1 x1 goes_range⟩
def gPair (K : PySem.W.Frag) (j k : Nat) : TG := gTup K 2 (gCons (gName j) (gCons (gName k) gNil))
theorem gPair_run {K : PySem.W.Frag} {j k : Nat} {T : Addr} {x y : V} {σ : L2.St} {H : Hp} {Q : L2.St → Hp → Prop} (hT : H T = some (.tup [x, y])) (q : Q ((σ.set j (some x)).set k (some y)) H) : gPair K j k (.ref T) σ H Q :=
  ⟨T, [x, y], rfl, SqT.of hT, rfl, x, [y], rfl, y, [], rfl, rfl, q⟩
theorem wk_enum {j k : Nat} {elts : List Expr} {kk : Nat} {tpos : Pos} (hg : Gl X "enumerate") (hm : X.mg "enumerate" = none) (h : Dv X a ρ (.list ds)) (hs : starEach [a] X.env = [(false, eval a X.env)] := by rfl) :
    Wk X (.Tuple elts kk tpos) (.Call (.Name "enumerate" p) [a] [] pos) ρ (gPair X.K j k) ds.length [j, k] (fun i => [(j, .int i), (k, itD ds i)]) := by
  refine ⟨_, pi_enum hg hm pa_w hs, fun σ G H R S s q => da1 h hs σ G H _ S s fun ws G1 H1 x1 r1 => ?_⟩
  obtain ⟨v, rfl, rv⟩ := r1.one
  cases rv with
  | lst e ra =>
    rename_i p1 vs
    refine ⟨_, vs, rfl, SqL.of (x1.s _ _ e), q _ G1 H1 x1 fun G' H' s1 s2 => ⟨⟨vs, SqL.of (s2 _ _ (s1 _ _ e)), by rw [ra.length]; exact Nat.le_refl _⟩, fun i hi => ?_⟩⟩
    obtain ⟨u, hu, ru⟩ := ra.get (itD_get hi)
    refine ⟨⟨vs, u, SqL.of (s2 _ _ (s1 _ _ e)), hu⟩, fun x H'' y => ?_⟩
    obtain ⟨T, x', rfl, hT, rfl, y⟩ := y
    have ex : u = x' := Option.some.inj (hu.symm.trans (y vs (SqL.of (s2 _ _ (s1 _ _ e)))))
    subst ex
    exact ⟨_, Ext.own s2 hT, fun σ' ρ' Q' S' kq => gPair_run upd_same (kq _ Off.two ((S'.set (.int _)).set (ru.mono s1)))⟩
theorem wk_zipL {j k : Nat} {elts : List Expr} {kk : Nat} {tpos : Pos} (hg : Gl X "zip") (hm : X.mg "zip" = none) (h : Dv X a ρ (.list xs)) (h' : Dv X b ρ (.list ys))
    (hs : starEach [a, b] X.env = (false, eval a X.env) :: starEach [b] X.env := by rfl) (hs2 : starEach [b] X.env = (false, eval b X.env) :: starEach [] X.env := by rfl) (hpl : (backTo pos (starEach [b] X.env)).any (·.1) = false := by rfl) :
    Wk X (.Tuple elts kk tpos) (.Call (.Name "zip" p) [a, b] [] pos) ρ (gPair X.K j k) (min xs.length ys.length) [j, k] (fun i => [(j, itD xs i), (k, itD ys i)]) := by
  refine ⟨_, RZ.pi_zipA hg hm pa_w hs hpl, fun σ G H R S s q => da_cons h (da1 h' hs2) hs σ G H _ S s fun ws G1 H1 x1 r1 => ?_⟩
  obtain ⟨v, w, rfl, rv, rw'⟩ := r1.two
  cases rv with
  | lst e ra =>
    rename_i p1 vs
    cases rw' with
    | lst e2 ra2 =>
      rename_i p2 us
      refine ⟨_, _, vs, us, rfl, .inl ⟨SqL.of (x1.s _ _ e), SqL.of (x1.s _ _ e2), q _ G1 H1 x1 fun G' H' s1 s2 => ⟨⟨vs, us, SqL.of (s2 _ _ (s1 _ _ e)), SqL.of (s2 _ _ (s1 _ _ e2)), by rw [ra.length, ra2.length]; omega⟩, fun i hi => ?_⟩⟩⟩
      obtain ⟨u, hu, ru⟩ := ra.get (itD_get (show i < xs.length by omega))
      obtain ⟨t, ht, rt⟩ := ra2.get (itD_get (show i < ys.length by omega))
      refine ⟨⟨vs, us, u, t, SqL.of (s2 _ _ (s1 _ _ e)), SqL.of (s2 _ _ (s1 _ _ e2)), hu, ht⟩, fun x H'' y => ?_⟩
      obtain ⟨T, x', y', rfl, hT, rfl, y1, y2⟩ := y
      have ex : u = x' := Option.some.inj (hu.symm.trans (y1 vs (SqL.of (s2 _ _ (s1 _ _ e)))))
      have ey : t = y' := Option.some.inj (ht.symm.trans (y2 us (SqL.of (s2 _ _ (s1 _ _ e2)))))
      subst ex ey
      exact ⟨_, Ext.own s2 hT, fun σ' ρ' Q' S' kq => gPair_run upd_same (kq _ Off.two ((S'.set (ru.mono s1)).set (rt.mono s1)))⟩
theorem wk_zipT {j k : Nat} {elts : List Expr} {kk : Nat} {tpos : Pos} (hg : Gl X "zip") (hm : X.mg "zip" = none) (h : Dv X a ρ (.tuple xs)) (h' : Dv X b ρ (.tuple ys))
    (hs : starEach [a, b] X.env = (false, eval a X.env) :: starEach [b] X.env := by rfl) (hs2 : starEach [b] X.env = (false, eval b X.env) :: starEach [] X.env := by rfl) (hpl : (backTo pos (starEach [b] X.env)).any (·.1) = false := by rfl) :
    Wk X (.Tuple elts kk tpos) (.Call (.Name "zip" p) [a, b] [] pos) ρ (gPair X.K j k) (min xs.length ys.length) [j, k] (fun i => [(j, itD xs i), (k, itD ys i)]) := by
  refine ⟨_, RZ.pi_zipA hg hm pa_w hs hpl, fun σ G H R S s q => da_cons h (da1 h' hs2) hs σ G H _ S s fun ws G1 H1 x1 r1 => ?_⟩
  obtain ⟨v, w, rfl, rv, rw'⟩ := r1.two
  cases rv with
  | tup e ra =>
    rename_i p1 vs
    cases rw' with
    | tup e2 ra2 =>
      rename_i p2 us
      refine ⟨_, _, vs, us, rfl, .inr ⟨SqT.of (x1.s _ _ e), SqT.of (x1.s _ _ e2), q _ G1 H1 x1 fun G' H' s1 s2 => ⟨⟨vs, us, SqT.of (s2 _ _ (s1 _ _ e)), SqT.of (s2 _ _ (s1 _ _ e2)), by rw [ra.length, ra2.length]; omega⟩, fun i hi => ?_⟩⟩⟩
      obtain ⟨u, hu, ru⟩ := ra.get (itD_get (show i < xs.length by omega))
      obtain ⟨t, ht, rt⟩ := ra2.get (itD_get (show i < ys.length by omega))
      refine ⟨⟨vs, us, u, t, SqT.of (s2 _ _ (s1 _ _ e)), SqT.of (s2 _ _ (s1 _ _ e2)), hu, ht⟩, fun x H'' y => ?_⟩
      obtain ⟨T, x', y', rfl, hT, rfl, y1, y2⟩ := y
      have ex : u = x' := Option.some.inj (hu.symm.trans (y1 vs (SqT.of (s2 _ _ (s1 _ _ e)))))
      have ey : t = y' := Option.some.inj (ht.symm.trans (y2 us (SqT.of (s2 _ _ (s1 _ _ e2)))))
      subst ex ey
      exact ⟨_, Ext.own s2 hT, fun σ' ρ' Q' S' kq => gPair_run upd_same (kq _ Off.two ((S'.set (ru.mono s1)).set (rt.mono s1)))⟩

/-! ### a comprehension -/
abbrev Blk (X : Cx) (scope : Scope) (s : Shared) (H : Hp) (C : Addr) (cl : List (Str × Addr)) (fp : List Addr) : Cx := X.blk s H scope (compEnvC scope cl C X.env) fp
structure wIf (X : Cx) (ifs : List Expr) (σ : L2.St) (H : Hp) (Q : Bool → Hp → Prop) : Prop where
  run : ∀ (pins : List (Addr × Obj)) (s : Shared), Inv X pins σ H s → wpAny (model X.prog X.w) X.A (forIn ifs true fun c r => if r = true then do let ok ← isTrue c X.env (eval c X.env); pure (ForInStep.yield ok) else pure (ForInStep.yield r)) (TP X pins σ Q) X.xe s
def Di (X : Cx) (ifs : List Expr) (ρ : Env) (b : Bool) : Prop := ∀ (σ : L2.St) (G H : Hp) (Q : Bool → Hp → Prop), Sl G σ ρ → Same G H → (∀ H', Ext G H G H' → Q b H') → wIf X ifs σ H Q
theorem di_nil : Di X [] ρ true := fun σ G H Q S s q => ⟨fun pins st I => pts_nil.run pins st σ H Q I (q H (Ext.refl s))⟩
theorem di_one {k : Bool} (h : Dt X c ρ k) : Di X [c] ρ k := fun σ G H Q S s q => ⟨fun pins st I => (pts_one (t := wT X c) pt_w).run pins st σ H Q I (h σ G H Q S s q)⟩
def Gives (xs : List D) (n : Nat) (b : Nat → Bool) (f : Nat → D) : Prop := xs = ((List.range n).filter b).map f
/-- the readings of a comprehension's parts, whatever its block's context is -/
def tI2 (X : Cx) (scope : Scope) (ifs : List Expr) : TT := fun σ H Q => ∀ (s : Shared) (H0 : Hp) (C : Addr) (cl : List (Str × Addr)) (fp : List Addr), wIf (Blk X scope s H0 C cl fp) ifs σ H Q
def tE2 (X : Cx) (scope : Scope) (elt : Expr) : TE := fun σ H Q => ∀ (s : Shared) (H0 : Hp) (C : Addr) (cl : List (Str × Addr)) (fp : List Addr), wE (Blk X scope s H0 C cl fp) elt σ H Q
theorem tI2_ok {scope : Scope} : ∀ (s : Shared) (H : Hp) (C : Addr) (cl : List (Str × Addr)) (fp : List Addr), PTs (Blk X scope s H C cl fp) ifs (tI2 X scope ifs) := fun s H C cl fp => ⟨fun pins st σ H1 Q I h => (h s H C cl fp).run pins st I⟩
theorem tE2_ok {scope : Scope} : ∀ (s : Shared) (H : Hp) (C : Addr) (cl : List (Str × Addr)) (fp : List Addr), PE (Blk X scope s H C cl fp) elt (tE2 X scope elt) := fun s H C cl fp => ⟨fun pins st σ H1 Q I h => (h s H C cl fp).run pins st I⟩
theorem lc_read {scope : Scope} {vs0 : List Nat} {g : TG} {n : Nat} {js : List Nat} {asg : Nat → List (Nat × D)} {bf : Nat → Bool} {f : Nat → D} {wi : TI} {σ : L2.St} {G H : Hp} {Q : VK} (S : Sl G σ ρ) (s : Same G H)
    (hr : ∀ (σ : L2.St) (G H : Hp) (R : It → Hp → Prop), Sl G σ ρ → Same G H → (∀ J G' H', Ext G H G' H' → Goes J g G' n js asg → R J H') → wi σ H R) (hj : ∀ j ∈ js, j ∈ vs0) (hz : n ≤ 10000000)
    (ht : ∀ i, i < n → ∀ (s : Shared) (H : Hp) (C : Addr) (cl : List (Str × Addr)) (fp : List Addr), Di (Blk X scope s H C cl fp) ifs (setE (wipeE ρ vs0) (asg i)) (bf i))
    (he : ∀ i, i < n → bf i = true → ∀ (s : Shared) (H : Hp) (C : Addr) (cl : List (Str × Addr)) (fp : List Addr), Dv (Blk X scope s H C cl fp) elt (setE (wipeE ρ vs0) (asg i)) (f i))
    (q : ∀ p vs G' H', Ext G H G' H' → H p = none → G' p = none → H' p = some (.lst vs) → RpA G' vs (((List.range n).filter bf).map f) → Q (.ref p) H') : tLc wi g (tI2 X scope ifs) (tE2 X scope elt) vs0 σ H Q := by
  refine hr σ G H _ S s fun J G1 H1 x1 go Dl hD => ?_
  -- the new list at Dl holds what was given so far
  have key : ∀ i, ((List.range (i + 1)).filter bf).map f = ((List.range i).filter bf).map f ++ (if bf i = true then [f i] else []) := fun i => by
    rw [List.range_succ, List.filter_append, List.map_append]
    by_cases hb : bf i = true
    · rw [if_pos hb, List.filter_cons, if_pos hb] <;> rfl
    · rw [if_neg hb, List.filter_cons, if_neg hb] <;> rfl
  have len : ∀ i, (((List.range i).filter bf).map f).length ≤ i := fun i => by
    rw [List.length_map]
    exact Nat.le_trans (List.length_filter_le _ _) (by rw [List.length_range]; exact Nat.le_refl _)
  refine ⟨fun i m H' => m = n - i ∧ i ≤ n ∧ ∃ G' vs, Ext G1 H1 G' H' ∧ G' Dl = none ∧ H' Dl = some (.lst vs) ∧ RpA G' vs (((List.range i).filter bf).map f), ⟨n, rfl, Nat.zero_le _, G1, [], Ext.own x1.s hD, x1.s.free hD, upd_same, .nil⟩, ?_⟩
  rintro i m H' ⟨rfl, hi', G', vs, x', n', h', r'⟩
  by_cases hlt : i < n
  · obtain ⟨_, st⟩ := go G' H' x'.g x'.s
    obtain ⟨hgo, hy⟩ := st i hlt
    refine .inr ⟨hgo, fun H'' => ∃ G'' vs, Ext G1 H1 G'' H'' ∧ G'' Dl = none ∧ H'' Dl = some (.lst vs) ∧ RpA G'' vs (((List.range (i + 1)).filter bf).map f), fun H'' h2 => ⟨n - (i + 1), by omega, rfl, hlt, h2⟩, fun x H2 y => ?_⟩
    obtain ⟨G2, x2, gr⟩ := hy x H2 y
    have S1 : Sl G' (L2.wipe σ vs0) (wipeE ρ vs0) := (S.mono (x1.g.trans x'.g)).wipe _
    refine gr _ _ _ S1 fun σ2 off S2 => ⟨wipe_off off hj, fun s0 H0 C0 cl0 fp0 => ?_⟩
    have d2 : H2 Dl = some (.lst vs) := x2.h _ _ h'
    have g2 : G2 Dl = none := x2.f Dl _ h' True.intro n'
    refine ht i hlt s0 H0 C0 cl0 fp0 σ2 G2 H2 _ S2 x2.s fun H3 x3 => ?_
    by_cases hb : bf i = true
    · rw [if_pos hb]
      refine fun s1 H01 C1 cl1 fp1 => he i hlt hb s1 H01 C1 cl1 fp1 σ2 G2 H3 _ S2 x3.s fun v G4 H4 x4 r4 => ?_
      have d4 : H4 Dl = some (.lst vs) := x4.h _ _ (x3.h _ _ d2)
      have g4 : G4 Dl = none := x4.f Dl _ (x3.h _ _ d2) True.intro g2
      refine ⟨vs, d4, ?_, G4, vs ++ [v], ⟨((x'.g.trans x2.g).trans x4.g), ?_, same_keep x4.s g4, ?_⟩, g4, upd_same, ?_⟩
      · have := len i
        rw [r'.length, sizeLine_eq]
        omega
      · refine fun bb o eb => ?_
        rw [upd_ne (ne_of_none eb hD)]
        exact x4.h _ _ (x3.h _ _ (x2.h _ _ (x'.h _ _ eb)))
      · intro pp o hp hm hg
        exact x4.f pp o (x3.h _ _ (x2.h _ _ (x'.h _ _ hp))) hm (x2.f pp o (x'.h _ _ hp) hm (x'.f pp o hp hm hg))
      · rw [key i, if_pos hb]
        exact (r'.mono (x2.g.trans x4.g)).app (.cons r4 .nil)
    · rw [if_neg (by rw [show bf i = false by simpa using hb]; exact Bool.false_ne_true)]
      refine ⟨G2, vs, ⟨x'.g.trans x2.g, (x'.h.trans x2.h).trans x3.h, x3.s, fun pp o hp hm hg => x2.f pp o (x'.h _ _ hp) hm (x'.f pp o hp hm hg)⟩, g2, x3.h _ _ d2, ?_⟩
      rw [key i, if_neg hb, List.append_nil]
      exact r'.mono x2.g
  · have ei : i = n := by omega
    subst ei
    obtain ⟨st, _⟩ := go G' H' x'.g x'.s
    exact .inl ⟨st, q Dl vs G' H' (x1.trans x') (x1.h.free hD) n' h' r'⟩
theorem dl_lc {scope : Scope} {own : List (Str × Nat)} {g : TG} {n : Nat} {js : List Nat} {asg : Nat → List (Nat × D)} (bf : Nat → Bool) (f : Nat → D) (hc : X.calm = true) (hN : X.N.Nodup) (ok : BlkOk X.N X.env.scope scope own) (hw : Wk X tg iter ρ g n js asg)
    (hg : ∀ (s : Shared) (H : Hp) (C : Addr) (cl : List (Str × Addr)) (fp : List Addr), PG (Blk X scope s H C cl fp) tg g) (hj : ∀ j ∈ js, j ∈ own.map (·.2)) (hz : n ≤ 10000000)
    (ht : ∀ i, i < n → ∀ (s : Shared) (H : Hp) (C : Addr) (cl : List (Str × Addr)) (fp : List Addr), Di (Blk X scope s H C cl fp) ifs (setE (wipeE ρ (own.map (·.2))) (asg i)) (bf i))
    (he : ∀ i, i < n → bf i = true → ∀ (s : Shared) (H : Hp) (C : Addr) (cl : List (Str × Addr)) (fp : List Addr), Dv (Blk X scope s H C cl fp) elt (setE (wipeE ρ (own.map (·.2))) (asg i)) (f i))
    (hs : ∀ x, foldedSetIterable iter X.env x = pure x := by intro _; rfl) : Dl X (.ListComp elt [⟨tg, iter, ifs, 0⟩] scope pos) ρ (((List.range n).filter bf).map f) := by
  obtain ⟨wi, hi, hr⟩ := hw
  exact fun σ G H Q S s q => we_of (pe_lc hc hN hi ok hg tI2_ok tE2_ok hs) (lc_read S s hr hj hz ht he q)
/-! the typed forms -/
theorem range_map {α : Type} {emb : α → D} {pb : α → Bool} {pf : α → D} {zs : List α} {bf : Nat → Bool} {f : Nat → D} (hb : ∀ i x, zs[i]? = some x → bf i = pb x) (hf : ∀ i x, zs[i]? = some x → f i = pf x) :
    ((List.range zs.length).filter bf).map f = (zs.filter pb).map pf := by
  have gen : ∀ k, k ≤ zs.length → ((List.range k).filter bf).map f = ((zs.take k).filter pb).map pf := by
    intro k
    induction k with
    | zero => intro _; rfl
    | succ k ih =>
      intro hk
      have hx : zs[k]? = some zs[k] := List.getElem?_eq_getElem (by omega)
      rw [List.range_succ, List.filter_append, List.map_append, ih (by omega), List.take_add_one, hx]
      rw [Option.toList_some, List.filter_append, List.map_append, List.filter_cons, List.filter_cons, hb k _ hx]
      by_cases h : pb zs[k] = true
      · rw [if_pos h, if_pos h, List.filter_nil, List.filter_nil, List.map_cons, List.map_cons, hf k _ hx] <;> rfl
      · rw [if_neg h, if_neg h] <;> rfl
  have := gen zs.length (Nat.le_refl _)
  rwa [List.take_length] at this
theorem itD_map {α : Type} {emb : α → D} {zs : List α} {i : Nat} {x : α} (h : zs[i]? = some x) : itD (zs.map emb) i = emb x := by
  unfold itD
  rw [List.getD_eq_getElem?_getD, List.getElem?_map, h]
  rfl
end
end Hr
/-! Statements, by data: what each slot holds, and which lists are our own. -/
namespace Hr
open PySem PySem.Spec PyProof.Rows L2

/-- own objects: what stands at their addresses, by data; the first view is the slot's -/
structure Wc where
  R : Hp → V → List (Addr × HO) → Prop
  d : D
  mono : ∀ {G G' : Hp} {v : V} {fp : List (Addr × HO)}, Same G G' → R G v fp → R G' v fp
  view : ∀ {G H : Hp} {v : V} {fp : List (Addr × HO)}, Same G H → (∀ x ∈ fp, H x.1 = some x.2) → R G v fp → Rp H v d
inductive Cell where
  | un
  | d (x : D)
  | m (xs : List D) (o : Option Addr)
  | w (W : Wc)
abbrev Cells := List Cell
def Cell.pur : Cell → Option D
  | .d x => some x
  | _ => none
def Cell.vis : Cell → Option D
  | .d x => some x
  | .m xs _ => some (.list xs)
  | .w W => some W.d
  | .un => none
abbrev purE (ρ : Cells) : Env := ρ.map Cell.pur
abbrev visE (ρ : Cells) : Env := ρ.map Cell.vis

/-- the own objects of the w cells: F i stands for slot i's -/
structure WOk (H0 G : Hp) (ρ : Cells) (σ : L2.St) (H : Hp) (F : Nat → List (Addr × HO)) : Prop where
  own : ∀ (i : Nat) (W : Wc), ρ[i]? = some (.w W) → ∃ v, σ[i]? = some (some v) ∧ W.R G v (F i) ∧ ∀ x ∈ F i, H0 x.1 = none ∧ G x.1 = none ∧ H x.1 = some x.2 ∧ Mu x.2
  ww : ∀ (i j : Nat) (W W' : Wc), i ≠ j → ρ[i]? = some (.w W) → ρ[j]? = some (.w W') → ∀ x ∈ F i, ∀ y ∈ F j, x.1 ≠ y.1
  wm : ∀ (i j : Nat) (W : Wc) (xs : List D) (o : Option Addr) (p : Addr), ρ[i]? = some (.w W) → ρ[j]? = some (.m xs o) → σ[j]? = some (some (.ref p)) → ∀ x ∈ F i, x.1 ≠ p
structure AtG (G0 H0 G : Hp) (ρ : Cells) (σ : L2.St) (H : Hp) : Prop where
  ext : Ext G0 H0 G H
  sl : Sl G σ (purE ρ)
  own : ∀ (i : Nat) (xs : List D) (o : Option Addr), ρ[i]? = some (.m xs o) → ∃ p vs, σ[i]? = some (some (.ref p)) ∧ (o = none ∨ o = some p) ∧ H0 p = none ∧ G p = none ∧ H p = some (.lst vs) ∧ RpA G vs xs
  sep : ∀ (i j : Nat) (p : Addr) (xs ys : List D) (o o' : Option Addr), i ≠ j → ρ[i]? = some (.m xs o) → ρ[j]? = some (.m ys o') → σ[i]? = some (some (.ref p)) → σ[j]? = some (some (.ref p)) → False
  wo : ∃ F, WOk H0 G ρ σ H F

theorem cells_setW {ρ : Cells} {i j : Nat} {c : Cell} {W : Wc} (h : (ρ.set i c)[j]? = some (.w W)) (hc : ∀ W', c ≠ .w W') : i ≠ j ∧ ρ[j]? = some (.w W) := by
  by_cases hi : i = j
  · subst hi
    by_cases hl : i < ρ.length
    · rw [List.getElem?_set_self hl] at h
      exact absurd (Option.some.inj h) (hc W)
    · rw [List.getElem?_eq_none (by simpa using hl)] at h
      cases h
  · rw [List.getElem?_set_ne hi] at h
    exact ⟨hi, h⟩
theorem WOk.none {H0 G H : Hp} {ρ : Cells} {σ : L2.St} (h : ∀ (i : Nat) (W : Wc), ρ[i]? ≠ some (Cell.w W)) : ∃ F, WOk H0 G ρ σ H F := ⟨fun _ => [], ⟨fun i W e => absurd e (h i W), fun i _ W _ _ e => absurd e (h i W), fun i _ W _ _ _ e => absurd e (h i W)⟩⟩
/-- slot i is set to what is no w cell -/
theorem WOk.off {H0 G H : Hp} {ρ : Cells} {σ : L2.St} {F : Nat → List (Addr × HO)} (h : WOk H0 G ρ σ H F) (i : Nat) {c : Cell} {o : Option V} (hc : ∀ W', c ≠ .w W') (hm : ∀ ys o', c ≠ .m ys o') : WOk H0 G (ρ.set i c) (σ.set i o) H F := ⟨fun j W e => by
    obtain ⟨n, e⟩ := cells_setW e hc
    rw [List.getElem?_set_ne n]
    exact h.own j W e, fun j k W W' n e1 e2 => h.ww j k W W' n (cells_setW e1 hc).2 (cells_setW e2 hc).2, fun j k W xs oo p e1 e2 s => by
    by_cases hk : i = k
    · subst hk
      by_cases hl : i < ρ.length
      · rw [List.getElem?_set_self hl] at e2
        exact absurd (Option.some.inj e2) (hm _ _)
      · rw [List.getElem?_eq_none (by simpa using hl)] at e2
        cases e2
    · rw [List.getElem?_set_ne hk] at e2 s
      exact h.wm j k W xs oo p (cells_setW e1 hc).2 e2 s⟩
theorem WOk.step {H0 G H G' H' : Hp} {ρ : Cells} {σ : L2.St} {F : Nat → List (Addr × HO)} (h : WOk H0 G ρ σ H F) (x : Ext G H G' H') : WOk H0 G' ρ σ H' F := ⟨fun i W e => by
    obtain ⟨v, e1, r, a⟩ := h.own i W e
    exact ⟨v, e1, W.mono x.g r, fun y hy => by
      obtain ⟨a1, a2, a3, a4⟩ := a y hy
      exact ⟨a1, x.f _ _ a3 a4 a2, x.h _ _ a3, a4⟩⟩, h.ww, h.wm⟩
theorem cells_set {ρ : Cells} {i j : Nat} {c : Cell} {xs : List D} {o : Option Addr} (h : (ρ.set i c)[j]? = some (.m xs o)) (hc : ∀ ys o, c ≠ .m ys o) : i ≠ j ∧ ρ[j]? = some (.m xs o) := by
  by_cases hi : i = j
  · subst hi
    by_cases hl : i < ρ.length
    · rw [List.getElem?_set_self hl] at h
      exact absurd (Option.some.inj h) (hc xs o)
    · rw [List.getElem?_eq_none (by simpa using hl)] at h
      cases h
  · rw [List.getElem?_set_ne hi] at h
    exact ⟨hi, h⟩
section
variable {G0 H0 G H G' H' : Hp} {ρ ρ' : Cells} {σ : L2.St} {i : Nat} {v : V} {d : D} {ds xs : List D}
theorem AtG.len (A : AtG G0 H0 G ρ σ H) : σ.length = ρ.length := by rw [A.sl.1, List.length_map]
theorem AtG.step (A : AtG G0 H0 G ρ σ H) (x : Ext G H G' H') : AtG G0 H0 G' ρ σ H' := ⟨A.ext.trans x, A.sl.mono x.g, fun i xs o e => by
  obtain ⟨p, vs, e1, eo, e2, e3, e4, r⟩ := A.own i xs o e
  exact ⟨p, vs, e1, eo, e2, x.f p _ e4 True.intro e3, x.h _ _ e4, r.mono x.g⟩, A.sep, A.wo.elim fun F w => ⟨F, w.step x⟩⟩
theorem AtG.setD (A : AtG G0 H0 G ρ σ H) (r : Rp G v d) : AtG G0 H0 G (ρ.set i (.d d)) (σ.set i (some v)) H := ⟨A.ext, by
  show Sl G _ (List.map Cell.pur (ρ.set i (.d d)))
  rw [List.map_set]
  exact A.sl.set r, fun j xs o e => by
  obtain ⟨ne, e⟩ := cells_set e fun _ _ z => nomatch z
  obtain ⟨p, vs, e1, e2⟩ := A.own j xs o e
  exact ⟨p, vs, by rw [List.getElem?_set_ne ne]; exact e1, e2⟩, fun j k p xs ys o o' hjk e1 e2 s1 s2 => by
  obtain ⟨n1, e1⟩ := cells_set e1 fun _ _ z => nomatch z
  obtain ⟨n2, e2⟩ := cells_set e2 fun _ _ z => nomatch z
  rw [List.getElem?_set_ne n1] at s1
  rw [List.getElem?_set_ne n2] at s2
  exact A.sep j k p xs ys o o' hjk e1 e2 s1 s2, A.wo.elim fun F w => ⟨F, w.off i (fun _ z => nomatch z) fun _ _ z => nomatch z⟩⟩
theorem AtG.forget (A : AtG G0 H0 G ρ σ H) {o : Option V} : AtG G0 H0 G (ρ.set i .un) (σ.set i o) H := ⟨A.ext, by
  show Sl G _ (List.map Cell.pur (ρ.set i .un))
  rw [List.map_set]
  exact A.sl.unset, fun j xs o e => by
  obtain ⟨ne, e⟩ := cells_set e fun _ _ z => nomatch z
  obtain ⟨p, vs, e1, e2⟩ := A.own j xs o e
  exact ⟨p, vs, by rw [List.getElem?_set_ne ne]; exact e1, e2⟩, fun j k p xs ys o o' hjk e1 e2 s1 s2 => by
  obtain ⟨n1, e1⟩ := cells_set e1 fun _ _ z => nomatch z
  obtain ⟨n2, e2⟩ := cells_set e2 fun _ _ z => nomatch z
  rw [List.getElem?_set_ne n1] at s1
  rw [List.getElem?_set_ne n2] at s2
  exact A.sep j k p xs ys o o' hjk e1 e2 s1 s2, A.wo.elim fun F w => ⟨F, w.off i (fun _ z => nomatch z) fun _ _ z => nomatch z⟩⟩
theorem set_self {α : Type} : ∀ {l : List α} {i : Nat} {x : α}, l[i]? = some x → l.set i x = l
  | [], _, _, h => by simp at h
  | a :: l, 0, x, h => by
    have e := Option.some.inj h
    subst e
    rfl
  | a :: l, i + 1, x, h => by
    have h' : l[i]? = some x := h
    show a :: l.set i x = a :: l
    exact congrArg (a :: ·) (set_self h')
/-- a slot is no longer spoken of -/
theorem AtG.drop (A : AtG G0 H0 G ρ σ H) (i : Nat) : AtG G0 H0 G (ρ.set i .un) σ H := by
  by_cases h : i < σ.length
  · have z := A.forget (i := i) (o := σ[i])
    rwa [set_self (List.getElem?_eq_getElem h)] at z
  · rw [List.set_eq_of_length_le (by rw [← A.len]; omega)]
    exact A
/-- a new list of our own in a slot -/
theorem AtG.setM {p : Addr} {vs : List V} {H1 : Hp} (A : AtG G0 H0 G ρ σ H) (x : Ext G H G' H') (hp : H p = none) (gp : G' p = none) (h' : H' p = some (.lst vs)) (r : RpA G' vs ds) : AtG G0 H0 G' (ρ.set i (.m ds none)) (σ.set i (some (.ref p))) H' := by
  have B := A.step x
  refine ⟨B.ext, ?_, fun j xs o e => ?_, fun j k q xs ys o o' hjk e1 e2 s1 s2 => ?_, ?_⟩
  rotate_left 3
  · obtain ⟨F, w⟩ := A.wo
    have w' := w.step x
    refine ⟨F, fun j W e => ?_, fun j k W W' n e1 e2 => w'.ww j k W W' n (cells_setW e1 fun _ z => nomatch z).2 (cells_setW e2 fun _ z => nomatch z).2, fun j k W xs oo q e1 e2 s => ?_⟩
    · obtain ⟨n, e⟩ := cells_setW e fun _ z => nomatch z
      rw [List.getElem?_set_ne n]
      exact w'.own j W e
    · obtain ⟨n, e1⟩ := cells_setW e1 fun _ z => nomatch z
      by_cases hk : i = k
      · subst hk
        intro y hy hyq
        by_cases hl : i < σ.length
        · rw [List.getElem?_set_self hl] at s
          cases s
          obtain ⟨_, _, _, a⟩ := w.own j W e1
          have := (a y hy).2.2.1
          rw [hyq, hp] at this
          cases this
        · rw [List.getElem?_eq_none (by simpa using hl)] at s
          cases s
      · rw [List.getElem?_set_ne hk] at e2 s
        exact w'.wm j k W xs oo q e1 e2 s
  · show Sl G' _ (List.map Cell.pur (ρ.set i (.m ds none)))
    rw [List.map_set]
    exact B.sl.unset
  · by_cases hj : i = j
    · subst hj
      by_cases hl : i < ρ.length
      · rw [List.getElem?_set_self hl] at e
        have e' : Cell.m ds none = Cell.m xs o := Option.some.inj e
        injection e' with e1 e2
        subst e1 e2
        exact ⟨p, vs, List.getElem?_set_self (by rw [A.len]; exact hl), .inl rfl, A.ext.h.free hp, gp, h', r⟩
      · rw [List.getElem?_eq_none (by simpa using hl)] at e
        cases e
    · rw [List.getElem?_set_ne hj] at e
      obtain ⟨q, ws, e1, e2⟩ := B.own j xs o e
      exact ⟨q, ws, by rw [List.getElem?_set_ne hj]; exact e1, e2⟩
  · have other : ∀ {j : Nat} {xs : List D} {o : Option Addr}, i ≠ j → (ρ.set i (Cell.m ds none))[j]? = some (Cell.m xs o) → (σ.set i (some (V.ref p)))[j]? = some (some (.ref q)) → q ≠ p := fun {j xs o} hij e s => by
      rw [List.getElem?_set_ne hij] at e s
      obtain ⟨q', ws, e1, _, _, _, e4, _⟩ := A.own j xs o e
      rw [e1] at s
      cases s
      exact ne_of_none e4 hp
    have mine : ∀ {j : Nat}, i = j → (σ.set i (some (V.ref p)))[j]? = some (some (.ref q)) → q = p := fun {j} hij s => by
      subst hij
      by_cases hl : i < σ.length
      · rw [List.getElem?_set_self hl] at s
        cases s
        rfl
      · rw [List.getElem?_eq_none (by simpa using hl)] at s
        cases s
    by_cases h1 : i = j
    · have h2 : i ≠ k := fun z => hjk (h1.symm.trans z)
      exact other h2 e2 s2 (mine h1 s1)
    · by_cases h2 : i = k
      · exact other h1 e1 s1 (mine h2 s2)
      · rw [List.getElem?_set_ne h1] at e1 s1
        rw [List.getElem?_set_ne h2] at e2 s2
        exact A.sep j k q xs ys o o' hjk e1 e2 s1 s2
/-- one of our lists changes -/
theorem AtG.mut {p : Addr} {ws : List V} {oi : Option Addr} (A : AtG G0 H0 G ρ σ H) (hi : ρ[i]? = some (.m xs oi)) (hs : σ[i]? = some (some (.ref p))) (r : RpA G ws ds) : AtG G0 H0 G (ρ.set i (.m ds oi)) σ (upd H p (.lst ws)) := by
  obtain ⟨p', vs, e1, eo, e2, e3, e4, r'⟩ := A.own i xs oi hi
  rw [hs] at e1
  cases e1
  have hl : i < ρ.length := (List.getElem?_eq_some_iff.mp hi).1
  refine ⟨⟨A.ext.g, fun b o e => ?_, same_keep A.ext.s e3, A.ext.f⟩, ?_, fun j ys o e => ?_, fun j k q xs' ys o o' hjk e1' e2' s1 s2 => ?_, ?_⟩
  rotate_left 4
  · obtain ⟨F, w⟩ := A.wo
    refine ⟨F, fun j W e => ?_, fun j k W W' n f1 f2 => w.ww j k W W' n (cells_setW f1 fun _ z => nomatch z).2 (cells_setW f2 fun _ z => nomatch z).2, fun j k W zs oo q f1 f2 s => ?_⟩
    · obtain ⟨n, e⟩ := cells_setW e fun _ z => nomatch z
      obtain ⟨v, g1, g2, g3⟩ := w.own j W e
      exact ⟨v, g1, g2, fun y hy => by
        obtain ⟨a1, a2, a3, a4⟩ := g3 y hy
        exact ⟨a1, a2, by rw [upd_ne (w.wm j i W xs oi p e hi hs y hy)]; exact a3, a4⟩⟩
    · obtain ⟨n, f1⟩ := cells_setW f1 fun _ z => nomatch z
      by_cases hk : i = k
      · subst hk
        exact w.wm j i W xs oi q f1 hi s
      · rw [List.getElem?_set_ne hk] at f2
        exact w.wm j k W zs oo q f1 f2 s
  · rw [upd_ne (ne_of_none e e2)]
    exact A.ext.h _ _ e
  · show Sl G _ (List.map Cell.pur (ρ.set i (.m ds oi)))
    rw [List.map_set]
    have z := A.sl.unset (j := i) (o := some (V.ref p))
    rwa [set_self hs] at z
  · by_cases hj : i = j
    · subst hj
      rw [List.getElem?_set_self hl] at e
      have e' : Cell.m ds oi = Cell.m ys o := Option.some.inj e
      injection e' with e1 e2'
      subst e1 e2'
      exact ⟨p, ws, hs, eo, e2, e3, upd_same, r⟩
    · rw [List.getElem?_set_ne hj] at e
      obtain ⟨q, us, f1, fo, f2, f3, f4, f5⟩ := A.own j ys o e
      have ne : q ≠ p := fun z => A.sep i j p xs ys oi o hj hi e hs (by rw [f1, z])
      exact ⟨q, us, f1, fo, f2, f3, by rw [upd_ne ne]; exact f4, f5⟩
  · have back : ∀ {j : Nat} {zs : List D} {o : Option Addr}, (ρ.set i (Cell.m ds oi))[j]? = some (Cell.m zs o) → ∃ zs' o', ρ[j]? = some (Cell.m zs' o') := fun {j zs o} e => by
      by_cases hj : i = j
      · subst hj
        exact ⟨xs, oi, hi⟩
      · rw [List.getElem?_set_ne hj] at e
        exact ⟨zs, o, e⟩
    obtain ⟨_, _, b1⟩ := back e1'
    obtain ⟨_, _, b2⟩ := back e2'
    exact A.sep j k q _ _ _ _ hjk b1 b2 s1 s2
/-- one of our lists changes no more -/
theorem AtG.freeze {oi : Option Addr} (A : AtG G0 H0 G ρ σ H) (hi : ρ[i]? = some (.m xs oi)) : ∃ G', Same G G' ∧ AtG G0 H0 G' (ρ.set i (.d (.list xs))) σ H := by
  obtain ⟨p, vs, e1, eo, e2, e3, e4, r⟩ := A.own i xs oi hi
  have sg : Same G (upd G p (.lst vs)) := same_new e3
  refine ⟨upd G p (.lst vs), sg, ⟨A.ext.g.trans sg, A.ext.h, fun b o e => ?_, fun q o h m g => ?_⟩, ?_, fun j ys o e => ?_, fun j k q xs' ys o o' hjk e1' e2' s1 s2 => ?_, ?_⟩
  rotate_left 5
  · obtain ⟨F, w⟩ := A.wo
    refine ⟨F, fun j W e => ?_, fun j k W W' n f1 f2 => w.ww j k W W' n (cells_setW f1 fun _ z => nomatch z).2 (cells_setW f2 fun _ z => nomatch z).2, fun j k W zs oo q f1 f2 s => w.wm j k W zs oo q (cells_setW f1 fun _ z => nomatch z).2 (cells_set f2 fun _ _ z => nomatch z).2 s⟩
    obtain ⟨n, e⟩ := cells_setW e fun _ z => nomatch z
    obtain ⟨v, g1, g2, g3⟩ := w.own j W e
    exact ⟨v, g1, W.mono sg g2, fun y hy => by
      obtain ⟨a1, a2, a3, a4⟩ := g3 y hy
      exact ⟨a1, by rw [upd_ne (w.wm j i W xs oi p e hi e1 y hy)]; exact a2, a3, a4⟩⟩
  · by_cases hb : b = p
    · subst hb
      rw [upd_same] at e
      cases e
      exact e4
    · rw [upd_ne hb] at e
      exact A.ext.s _ _ e
  · rw [upd_ne (ne_of_none h e2)]
    exact A.ext.f q o h m g
  · show Sl _ _ (List.map Cell.pur (ρ.set i (.d (.list xs))))
    rw [List.map_set]
    have z := (A.sl.mono sg).set (j := i) (v := V.ref p) (d := .list xs) (.lst upd_same (r.mono sg))
    rwa [set_self e1] at z
  · obtain ⟨ne, e⟩ := cells_set e fun _ _ z => nomatch z
    obtain ⟨q, us, f1, fo, f2, f3, f4, f5⟩ := A.own j ys o e
    have nq : q ≠ p := fun z => A.sep i j p xs ys oi o ne hi e e1 (by rw [f1, z])
    exact ⟨q, us, f1, fo, f2, by rw [upd_ne nq]; exact f3, f4, f5.mono sg⟩
  · obtain ⟨n1, e1'⟩ := cells_set e1' fun _ _ z => nomatch z
    obtain ⟨n2, e2'⟩ := cells_set e2' fun _ _ z => nomatch z
    exact A.sep j k q xs' ys o o' hjk e1' e2' s1 s2
theorem vis_get {ρ : Cells} {i : Nat} {d : D} (h : (visE ρ)[i]? = some (some d)) : ρ[i]? = some (.d d) ∨ (∃ xs o, ρ[i]? = some (.m xs o) ∧ d = .list xs) ∨ ∃ W, ρ[i]? = some (.w W) ∧ d = W.d := by
  rw [List.getElem?_map] at h
  cases e : ρ[i]? with
  | none => rw [e] at h; cases h
  | some c =>
    rw [e] at h
    cases c with
    | un => cases h
    | d x =>
      have h' : some x = some d := Option.some.inj h
      cases h'
      exact .inl rfl
    | m xs o =>
      have h' : some (PyData.list xs) = some d := Option.some.inj h
      cases h'
      exact .inr (.inl ⟨xs, o, rfl, rfl⟩)
    | w W =>
      have h' : some W.d = some d := Option.some.inj h
      cases h'
      exact .inr (.inr ⟨W, rfl, rfl⟩)
theorem pur_of {ρ : Cells} {i : Nat} {d : D} (h : ρ[i]? = some (.d d)) : (purE ρ)[i]? = some (some d) := by
  rw [List.getElem?_map, h] <;> rfl
/-- as the whole heap shows it -/
theorem AtG.slV (A : AtG G0 H0 G ρ σ H) : Sl H σ (visE ρ) := ⟨by rw [A.len, List.length_map], fun i d e => by
  rcases vis_get e with e' | ⟨xs, o, e', rfl⟩ | ⟨W, e', rfl⟩
  · obtain ⟨v, e1, r⟩ := A.sl.2 i d (pur_of e')
    exact ⟨v, e1, r.mono A.ext.s⟩
  · obtain ⟨p, vs, e1, _, _, _, e4, r⟩ := A.own i xs o e'
    exact ⟨.ref p, e1, .lst e4 (r.mono A.ext.s)⟩
  · obtain ⟨F, w⟩ := A.wo
    obtain ⟨v, e1, r, a⟩ := w.own i W e'
    exact ⟨v, e1, W.view A.ext.s (fun x hx => (a x hx).2.2.1) r⟩⟩

/-! flat data: no list in it -/
mutual
def flatD : D → Bool
  | .list _ => false
  | .tuple ds => flatA ds
  | .dict ((.int _, _) :: _) => true
  | .dict _ => false
  | .none => true
  | .bool _ => true
  | .int _ => true
  | .str _ => true
def flatA : List D → Bool
  | [] => true
  | d :: ds => flatD d && flatA ds
end
/-- the tuples of a heap -/
def tupH (G : Hp) : Hp := fun a => match G a with
  | some (.tup xs) => some (.tup xs)
  | _ => none
theorem tupH_same (G : Hp) : Same (tupH G) G := fun b o e => by
  unfold tupH at e
  split at e
  · rename_i xs h
    cases e
    exact h
  · cases e
theorem tupH_get {G : Hp} {a : Addr} {xs : List V} (h : G a = some (.tup xs)) : tupH G a = some (.tup xs) := by
  unfold tupH
  rw [h]
mutual
theorem Rp.flat {G : Hp} : ∀ {v : V} {d : D}, Rp G v d → flatD d = true → Rp (tupH G) v d
  | _, _, .non, _ => .non
  | _, _, .bl b, _ => .bl b
  | _, _, .int i, _ => .int i
  | _, _, .str x, _ => .str x
  | _, _, .lst _ _, h => by simp [flatD] at h
  | _, _, .tup h r, f => .tup (tupH_get h) (RpA.flat r (by simpa [flatD] using f))
  | _, _, .raw a, _ => .raw a
  | _, _, .dk _ _ _, h => by simp [flatD] at h
  | _, _, .dt _ _ _, h => by simp [flatD] at h
  | _, _, .ins _ _ _, h => by simp [flatD] at h
theorem RpA.flat {G : Hp} : ∀ {vs : List V} {ds : List D}, RpA G vs ds → flatA ds = true → RpA (tupH G) vs ds
  | _, _, .nil, _ => .nil
  | _ :: _, d :: ds, .cons h r, f => by
    have f' : flatD d = true ∧ flatA ds = true := by simpa [flatA] using f
    exact .cons (Rp.flat h f'.1) (RpA.flat r f'.2)
end
def joinH (G A : Hp) : Hp := fun a => match G a with
  | some o => some o
  | none => A a
theorem joinH_l (G A : Hp) : Same G (joinH G A) := fun b o e => by
  unfold joinH
  rw [e]
theorem joinH_r {G A H : Hp} (h1 : Same G H) (h2 : Same A H) : Same A (joinH G A) := fun b o e => by
  unfold joinH
  cases g : G b with
  | none => exact e
  | some u =>
    have e1 := h1 _ _ g
    have e2 := h2 _ _ e
    rw [e1] at e2
    cases e2
    rfl
theorem joinH_up {G A H : Hp} (h1 : Same G H) (h2 : Same A H) : Same (joinH G A) H := fun b o e => by
  unfold joinH at e
  cases g : G b with
  | none =>
    rw [g] at e
    exact h2 _ _ e
  | some u =>
    rw [g] at e
    cases e
    exact h1 _ _ g
/-- flat data that was found in the whole heap is of the part that never changes -/
theorem ext_flat {G H G2 H2 : Hp} {v : V} {d : D} (s : Same G H) (x : Ext H H G2 H2) (r : Rp G2 v d) (f : flatD d = true) : ∃ G', Ext G H G' H2 ∧ Rp G' v d := by
  have s1 : Same G H2 := s.trans x.h
  have s2 : Same (tupH G2) H2 := (tupH_same G2).trans x.s
  refine ⟨joinH G (tupH G2), ⟨joinH_l _ _, x.h, joinH_up s1 s2, fun p o h m g => ?_⟩, (r.flat f).mono (joinH_r s1 s2)⟩
  unfold joinH
  rw [g]
  show tupH G2 p = none
  unfold tupH
  rw [x.g _ _ h]
  cases o <;> first | rfl | exact absurd m id
end

theorem bm_app {X : Cx} {e : Expr} {x : Str} {p1 p2 pos : Pos} (i : Nat) (hi : X.N[i]? = some x := by rfl) (hv : Vis X.env.scope x := by first | exact Or.inl rfl | exact Or.inr (Or.inl rfl) | exact Or.inr (Or.inr rfl)) (hd : (x == ("__debug__" : Str)) = false := by decide) (hcd : (x == ("__classdict__" : Str)) = false := by decide)
    (hbase : attributeBase (.Name x p1) "append" X.env (eval (.Name x p1) X.env) = eval (.Name x p1) X.env := by rfl) (hfew : ((backTo pos (starEach [e] X.env)).all (fun x => !x.1) && (backToKw pos (keywordEach [] X.env)).all (fun x => x.1.isSome) && decide (([e] : List Expr).length + ([] : List Keyword).length + (if ([] : List Keyword).isEmpty then 0 else 1) < 30)) = true := by rfl)
    (hline : (p2.endLine == pos.line) = true := by rfl) (hst : starEach [e] X.env = (false, eval e X.env) :: starEach [] X.env := by rfl) (hpl : (backTo pos (starEach [] X.env)).any (·.1) = false := by rfl) :
    PE X (.Call (.Attribute (.Name x p1) "append" p2) [e] [] pos) (tBM X.K "list" rAppend (tVar i) (tCons (wE X e) tNil)) :=
  pe_bm PySem.F.plainAttrs_list PySem.F.slot_list_append PySem.F.type_list_append mt_append (pe_var hi hv hd hcd) (pa_cons pe_w pa_nil hst) hbase hfew hline hst hpl
theorem bm_ext {X : Cx} {e : Expr} {x : Str} {p1 p2 pos : Pos} (i : Nat) (hi : X.N[i]? = some x := by rfl) (hv : Vis X.env.scope x := by first | exact Or.inl rfl | exact Or.inr (Or.inl rfl) | exact Or.inr (Or.inr rfl)) (hd : (x == ("__debug__" : Str)) = false := by decide) (hcd : (x == ("__classdict__" : Str)) = false := by decide)
    (hbase : attributeBase (.Name x p1) "extend" X.env (eval (.Name x p1) X.env) = eval (.Name x p1) X.env := by rfl) (hfew : ((backTo pos (starEach [e] X.env)).all (fun x => !x.1) && (backToKw pos (keywordEach [] X.env)).all (fun x => x.1.isSome) && decide (([e] : List Expr).length + ([] : List Keyword).length + (if ([] : List Keyword).isEmpty then 0 else 1) < 30)) = true := by rfl)
    (hline : (p2.endLine == pos.line) = true := by rfl) (hst : starEach [e] X.env = (false, eval e X.env) :: starEach [] X.env := by rfl) (hpl : (backTo pos (starEach [] X.env)).any (·.1) = false := by rfl) :
    PE X (.Call (.Attribute (.Name x p1) "extend" p2) [e] [] pos) (tBM X.K "list" rExtend (tVar i) (tCons (wE X e) tNil)) :=
  pe_bm PySem.F.plainAttrs_list PySem.F.slot_list_extend PySem.F.type_list_extend mt_extend (pe_var hi hv hd hcd) (pa_cons pe_w pa_nil hst) hbase hfew hline hst hpl
/-! ### triples -/
def Tr (X : Cx) (G0 H0 : Hp) (st : Stmt) (Gm : Hp) (ρ : Cells) (E : Ends) : Prop := ∀ G σ H, Same Gm G → AtG G0 H0 G ρ σ H → wS X st E σ H
def TrB (X : Cx) (G0 H0 : Hp) (st : List Stmt) (Gm : Hp) (ρ : Cells) (E : Ends) : Prop := ∀ G σ H, Same Gm G → AtG G0 H0 G ρ σ H → wB X st E σ H
def Nx (G0 H0 : Hp) (Gm : Hp) (ρ : Cells) (P : L2.St → Hp → Prop) : Prop := ∀ G σ H, Same Gm G → AtG G0 H0 G ρ σ H → P σ H
/-- a weaker word -/
def Wkn (G0 H0 : Hp) (ρ ρ' : Cells) : Prop := ∀ G σ H, AtG G0 H0 G ρ σ H → ∃ G', Same G G' ∧ AtG G0 H0 G' ρ' σ H
section
variable {X : Cx} {G0 H0 Gm : Hp} {ρ ρ' : Cells} {E : Ends} {st : Stmt} {rest body orelse : List Stmt} {P : L2.St → Hp → Prop} {e a b c : Expr} {es : List Expr} {d : D} {ds xs : List D} {i : Nat} {pos pos' p1 p2 : Pos} {x : Str}
theorem Wkn.refl : Wkn G0 H0 ρ ρ := fun G σ H A => ⟨G, Same.refl G, A⟩
theorem Wkn.trans {ρ1 ρ2 : Cells} (a : Wkn G0 H0 ρ ρ1) (b : Wkn G0 H0 ρ1 ρ2) : Wkn G0 H0 ρ ρ2 := fun G σ H A => by
  obtain ⟨G1, s1, A1⟩ := a G σ H A
  obtain ⟨G2, s2, A2⟩ := b G1 σ H A1
  exact ⟨G2, s1.trans s2, A2⟩
theorem wkn_drop (i : Nat) : Wkn G0 H0 ρ (ρ.set i .un) := fun G σ H A => ⟨G, Same.refl G, A.drop i⟩
theorem wkn_freeze {oi : Option Addr} (h : ρ[i]? = some (.m xs oi)) : Wkn G0 H0 ρ (ρ.set i (.d (.list xs))) := fun G σ H A => A.freeze h
theorem Nx.wkn (w : Wkn G0 H0 ρ ρ') (h : Nx G0 H0 Gm ρ' P) : Nx G0 H0 Gm ρ P := fun G σ H s A => by
  obtain ⟨G', s', A'⟩ := w G σ H A
  exact h G' σ H (s.trans s') A'
theorem TrB.wkn (w : Wkn G0 H0 ρ ρ') (h : TrB X G0 H0 body Gm ρ' E) : TrB X G0 H0 body Gm ρ E := Nx.wkn w h
theorem Tr.wkn (w : Wkn G0 H0 ρ ρ') (h : Tr X G0 H0 st Gm ρ' E) : Tr X G0 H0 st Gm ρ E := Nx.wkn w h
theorem tb_nil (h : Nx G0 H0 Gm ρ E.nx) : TrB X G0 H0 [] Gm ρ E := fun G σ H s A => wb_of pss_nil (h G σ H s A)
theorem tb_cons (h : Tr X G0 H0 st Gm ρ { E with nx := wB X rest E }) : TrB X G0 H0 (st :: rest) Gm ρ E := fun G σ H s A => wb_of (pss_cons ps_w pb_w) (h G σ H s A)
theorem tb_one (h : Tr X G0 H0 st Gm ρ E) : TrB X G0 H0 [st] Gm ρ E := fun G σ H s A => wb_of (pss_one ps_w) (h G σ H s A)
theorem tr_pass (h : Nx G0 H0 Gm ρ E.nx) : Tr X G0 H0 (.Pass pos) Gm ρ E := fun G σ H s A => ws_of ps_pass (h G σ H s A)
/-! x = e -/
theorem tr_set (i : Nat) (hN : X.N.Nodup) (hi : X.N[i]? = some x) (hx : Loc X.env.scope x) (he : Dv X e (purE ρ) d) (k : Nx G0 H0 Gm (ρ.set i (.d d)) E.nx) (hs : swapsWith e (some (.Name x pos')) pos.line X.env = pure false := by rfl)
    (hf : X.fn x = true ∨ X.env.scope.names.lookup x = some .local := by first | exact .inl rfl | exact .inr rfl | assumption) : Tr X G0 H0 (.Assign [.Name x pos'] e pos) Gm ρ E := fun G σ H s A =>
  ws_of (ps_set hN hi hx pe_w hs hf) (he σ G H _ A.sl A.ext.s fun v G' H' x r => k G' _ H' (s.trans x.g) ((A.step x).setD r))
/-- .. where the value reads lists of our own and is flat -/
theorem tr_setV (i : Nat) (hN : X.N.Nodup) (hi : X.N[i]? = some x) (hx : Loc X.env.scope x) (he : Dv X e (visE ρ) d) (fd : flatD d = true) (k : Nx G0 H0 Gm (ρ.set i (.d d)) E.nx) (hs : swapsWith e (some (.Name x pos')) pos.line X.env = pure false := by rfl)
    (hf : X.fn x = true ∨ X.env.scope.names.lookup x = some .local := by first | exact .inl rfl | exact .inr rfl | assumption) : Tr X G0 H0 (.Assign [.Name x pos'] e pos) Gm ρ E := fun G σ H s A =>
  ws_of (ps_set hN hi hx pe_w hs hf) (he σ H H _ A.slV (Same.refl H) fun v G' H' x r => by
    obtain ⟨G2, x2, r2⟩ := ext_flat A.ext.s x r fd
    exact k G2 _ H' (s.trans x2.g) ((A.step x2).setD r2))
/-- .. a list of our own -/
theorem tr_setM (i : Nat) (hN : X.N.Nodup) (hi : X.N[i]? = some x) (hx : Loc X.env.scope x) (he : Dl X e (purE ρ) ds) (k : Nx G0 H0 Gm (ρ.set i (.m ds none)) E.nx) (hs : swapsWith e (some (.Name x pos')) pos.line X.env = pure false := by rfl)
    (hf : X.fn x = true ∨ X.env.scope.names.lookup x = some .local := by first | exact .inl rfl | exact .inr rfl | assumption) : Tr X G0 H0 (.Assign [.Name x pos'] e pos) Gm ρ E := fun G σ H s A =>
  ws_of (ps_set hN hi hx pe_w hs hf) (he σ G H _ A.sl A.ext.s fun p vs G' H' x hp gp h' r => k G' _ H' (s.trans x.g) (A.setM (H1 := H) x hp gp h' r))
/-- x = [.. for ..], x a local -/
theorem tr_setLc {elt tg iter : Expr} {ifs : List Expr} {scope : Scope} {own : List (Str × Nat)} {g : TG} {n : Nat} {js : List Nat} {asg : Nat → List (Nat × D)} (i : Nat) (bf : Nat → Bool) (f : Nat → D) (hc : X.calm = true) (hN : X.N.Nodup) (hi : X.N[i]? = some x) (hxl : X.env.scope.names.lookup x = some .local)
    (hsw : swapsWith (.ListComp elt [⟨tg, iter, ifs, 0⟩] scope pos) (some (.Name x p1)) pos'.line X.env = pure true) (ok : BlkOk X.N X.env.scope scope own) (hw : Wk X tg iter (purE ρ) g n js asg)
    (hg : ∀ (s : Shared) (H : Hp) (C : Addr) (cl : List (Str × Addr)) (fp : List Addr), PG (Blk X scope s H C cl fp) tg g) (hj : ∀ j ∈ js, j ∈ own.map (·.2)) (hz : n ≤ 10000000)
    (ht : ∀ i, i < n → ∀ (s : Shared) (H : Hp) (C : Addr) (cl : List (Str × Addr)) (fp : List Addr), Di (Blk X scope s H C cl fp) ifs (setE (wipeE (purE ρ) (own.map (·.2))) (asg i)) (bf i))
    (he : ∀ i, i < n → bf i = true → ∀ (s : Shared) (H : Hp) (C : Addr) (cl : List (Str × Addr)) (fp : List Addr), Dv (Blk X scope s H C cl fp) elt (setE (wipeE (purE ρ) (own.map (·.2))) (asg i)) (f i))
    (k : Nx G0 H0 Gm (ρ.set i (.m (((List.range n).filter bf).map f) none)) E.nx)
    (hs : ∀ x, foldedSetIterable iter X.env x = pure x := by intro _; rfl) : Tr X G0 H0 (.Assign [.Name x p1] (.ListComp elt [⟨tg, iter, ifs, 0⟩] scope pos) pos') Gm ρ E := by
  obtain ⟨wi, hwi, hr⟩ := hw
  exact fun G σ H s A => ws_of (ps_setLc hc hN hi hxl hsw hwi ok hg tI2_ok tE2_ok hs) (lc_read A.sl A.ext.s hr hj hz ht he fun p vs G' H' x hp gp h' r => k G' _ H' (s.trans x.g) (A.setM (H1 := H) x hp gp h' r))
/-! an expression alone -/
theorem tr_expr (he : Dv X e (visE ρ) d) (k : Nx G0 H0 Gm ρ E.nx) (hs : swapsWith e none pos.line X.env = pure false := by rfl) : Tr X G0 H0 (.Expr e pos) Gm ρ E := fun G σ H s A =>
  ws_of (ps_expr pe_w hs) (he σ H H _ A.slV (Same.refl H) fun v G' H' x r => k G σ H' s (A.step ⟨Same.refl G, x.h, A.ext.s.trans x.h, fun _ _ _ _ g => g⟩))
/-! return -/
theorem tr_ret (he : Dv X e (purE ρ) d) (k : ∀ v G' H', Ext G0 H0 G' H' → Rp G' v d → E.rt v H') : Tr X G0 H0 (.Return (some e) pos) Gm ρ E := fun G σ H s A =>
  ws_of (ps_ret pe_w) (he σ G H _ A.sl A.ext.s fun v G' H' x r => k v G' H' (A.ext.trans x) r)
theorem tr_retV (he : Dv X e (visE ρ) d) (fd : flatD d = true) (k : ∀ v G' H', Ext G0 H0 G' H' → Rp G' v d → E.rt v H') : Tr X G0 H0 (.Return (some e) pos) Gm ρ E := fun G σ H s A =>
  ws_of (ps_ret pe_w) (he σ H H _ A.slV (Same.refl H) fun v G' H' x r => by
    obtain ⟨G2, x2, r2⟩ := ext_flat A.ext.s x r fd
    exact k v G2 H' (A.ext.trans x2) r2)
/-! if -/
theorem tr_if {k : Bool} (hc : Dt X c (visE ρ) k) (h1 : k = true → TrB X G0 H0 body Gm ρ E) (h2 : k = false → TrB X G0 H0 orelse Gm ρ E) : Tr X G0 H0 (.If c body orelse pos) Gm ρ E := fun G σ H s A =>
  ws_of (ps_if pt_w pb_w pb_w) (hc σ H H _ A.slV (Same.refl H) fun H' x => by
    have B : AtG G0 H0 G ρ σ H' := A.step ⟨Same.refl G, x.h, A.ext.s.trans x.h, fun _ _ _ _ g => g⟩
    cases k with
    | true => exact h1 rfl G σ H' s B
    | false => exact h2 rfl G σ H' s B)
/-! xs.append(e), xs.extend(e), of a list of our own -/
theorem at_own {G H : Hp} {σ : L2.St} {oi : Option Addr} (A : AtG G0 H0 G ρ σ H) (h : ρ[i]? = some (.m xs oi)) : ∃ p vs, σ[i]? = some (some (.ref p)) ∧ H p = some (.lst vs) ∧ RpA G vs xs := by
  obtain ⟨p, vs, e1, _, _, _, e4, r⟩ := A.own i xs oi h
  exact ⟨p, vs, e1, e4, r⟩
theorem tr_app {oi : Option Addr} (i : Nat) (hb : PE X (.Call (.Attribute (.Name x p1) "append" p2) [e] [] pos) (tBM X.K "list" rAppend (tVar i) (tCons (wE X e) tNil))) (hm : ρ[i]? = some (.m xs oi)) (he : Dv X e (purE ρ) d) (hz : xs.length < sizeLine) (k : Nx G0 H0 Gm (ρ.set i (.m (xs ++ [d]) oi)) E.nx)
    (hs : swapsWith (.Call (.Attribute (.Name x p1) "append" p2) [e] [] pos) none pos'.line X.env = pure false := by rfl) : Tr X G0 H0 (.Expr (.Call (.Attribute (.Name x p1) "append" p2) [e] [] pos) pos') Gm ρ E := fun G σ H s A => by
  obtain ⟨p, vs, e1, h1, r1⟩ := at_own A hm
  refine ws_of (ps_expr hb hs) ⟨_, e1, .inl ⟨rfl, _, SqL.of h1⟩, he σ G H _ A.sl A.ext.s fun v G' H' x r => ?_⟩
  have B := A.step x
  exact ⟨p, vs, v, rfl, rfl, x.h _ _ h1, by rw [r1.length]; exact hz, k G' σ _ (s.trans x.g) (B.mut hm e1 ((r1.mono x.g).app (.cons r .nil)))⟩
end
end Hr
/-! Loops, stores of more kinds, defs. -/
namespace Hr
open PySem PySem.Spec PyProof.Rows L2

def setC (ρ : Cells) : List (Nat × D) → Cells
  | [] => ρ
  | (j, d) :: r => setC (ρ.set j (.d d)) r
theorem setC_pur : ∀ (l : List (Nat × D)) (ρ : Cells), purE (setC ρ l) = setE (purE ρ) l
  | [], _ => rfl
  | (j, d) :: r, ρ => by
    show purE (setC (ρ.set j (.d d)) r) = setE ((purE ρ).set j (some d)) r
    rw [setC_pur r]
    show setE (List.map Cell.pur (ρ.set j (.d d))) r = _
    rw [List.map_set]
    rfl
theorem setC_own : ∀ (l : List (Nat × D)) {ρ : Cells} {k : Nat} {xs : List D} {o : Option Addr}, (setC ρ l)[k]? = some (.m xs o) → k ∉ l.map (·.1) ∧ ρ[k]? = some (.m xs o)
  | [], _, _, _, _, h => ⟨by simp, h⟩
  | (j, d) :: r, ρ, k, xs, o, h => by
    obtain ⟨h1, h2⟩ := setC_own r (ρ := ρ.set j (.d d)) h
    obtain ⟨h3, h4⟩ := cells_set h2 fun _ _ z => nomatch z
    refine ⟨?_, h4⟩
    rw [List.map_cons, List.mem_cons]
    rintro (e | e)
    · exact h3 e.symm
    · exact h1 e
theorem setC_ownW : ∀ (l : List (Nat × D)) {ρ : Cells} {k : Nat} {W : Wc}, (setC ρ l)[k]? = some (.w W) → k ∉ l.map (·.1) ∧ ρ[k]? = some (.w W)
  | [], _, _, _, h => ⟨by simp, h⟩
  | (j, d) :: r, ρ, k, W, h => by
    obtain ⟨h1, h2⟩ := setC_ownW r (ρ := ρ.set j (.d d)) h
    obtain ⟨h3, h4⟩ := cells_setW h2 fun _ z => nomatch z
    refine ⟨?_, h4⟩
    rw [List.map_cons, List.mem_cons]
    rintro (e | e)
    · exact h3 e.symm
    · exact h1 e
def AtX (G0 H0 Gm : Hp) (ρ : Cells) (σ : L2.St) (H : Hp) : Prop := ∃ G, Same Gm G ∧ AtG G0 H0 G ρ σ H
section
variable {X : Cx} {G0 H0 Gm : Hp} {ρ ρ' : Cells} {E : Ends} {st : Stmt} {rest body orelse : List Stmt} {P : L2.St → Hp → Prop} {tg iter e a b c : Expr} {es : List Expr} {d d' : D} {ds xs ys : List D} {i j : Nat} {pos pos' p1 p2 pt : Pos} {x y : Str}
theorem nx_at (w : Wkn G0 H0 ρ ρ') : Nx G0 H0 Gm ρ (AtX G0 H0 Gm ρ') := fun G σ H s A => by
  obtain ⟨G', s', A'⟩ := w G σ H A
  exact ⟨G', s.trans s', A'⟩
theorem AtG.asg {G H G'' H'' : Hp} {σ σ'' : L2.St} {l : List (Nat × D)} (A : AtG G0 H0 G ρ σ H) (x : Ext G H G'' H'') (off : Off (l.map (·.1)) σ σ'') (S : Sl G'' σ'' (setE (purE ρ) l)) : AtG G0 H0 G'' (setC ρ l) σ'' H'' := by
  have B := A.step x
  refine ⟨B.ext, by rw [setC_pur]; exact S, fun k xs o e => ?_, fun k m p xs ys o o' hkm e1 e2 s1 s2 => ?_, ?_⟩
  · obtain ⟨n, e⟩ := setC_own l e
    obtain ⟨p, vs, e1, e2⟩ := B.own k xs o e
    exact ⟨p, vs, by rw [off.2 k n]; exact e1, e2⟩
  · obtain ⟨n1, e1⟩ := setC_own l e1
    obtain ⟨n2, e2⟩ := setC_own l e2
    rw [off.2 k n1] at s1
    rw [off.2 m n2] at s2
    exact B.sep k m p xs ys o o' hkm e1 e2 s1 s2
  · obtain ⟨F, w⟩ := B.wo
    refine ⟨F, fun k W e => ?_, fun k m W W' n e1 e2 => w.ww k m W W' n (setC_ownW l e1).2 (setC_ownW l e2).2, fun k m W xs oo q e1 e2 s => ?_⟩
    · obtain ⟨n, e⟩ := setC_ownW l e
      rw [off.2 k n]
      exact w.own k W e
    · obtain ⟨n2, e2⟩ := setC_own l e2
      rw [off.2 m n2] at s
      exact w.wm k m W xs oo q (setC_ownW l e1).2 e2 s
theorem tr_for {g : TG} {n : Nat} {js : List Nat} {asg : Nat → List (Nat × D)} (P : Nat → Cells) (hp : PassesOwn (model X.prog X.w) X.A X.env X.xe) (hc : X.calm = true) (hw : Wk X tg iter (purE ρ) g n js asg) (hg : PG X tg g) (h0 : Wkn G0 H0 ρ (P 0))
    (hb : ∀ (k : Nat) (Gm' : Hp), k < n → Same Gm Gm' → TrB X G0 H0 body Gm' (setC (P k) (asg k)) { E with nx := AtX G0 H0 Gm' (P (k + 1)), ct := AtX G0 H0 Gm' (P (k + 1)), bk := E.nx })
    (hd : Nx G0 H0 Gm (P n) E.nx) (hj : ∀ k, (asg k).map (·.1) = js := by intro _; rfl)
    (hs : ∀ x, foldedSetIterable iter X.env x = pure x := by intro _; rfl) : Tr X G0 H0 (.For tg iter body [] pos) Gm ρ E := by
  obtain ⟨wi, hi, hr⟩ := hw
  refine fun G σ H s A => ws_of (ps_for hp hc hi hg pb_w hs) (hr σ G H _ A.sl A.ext.s fun J G1 H1 x1 go => ?_)
  obtain ⟨G1', s1', A1⟩ := h0 G1 σ H1 (A.step x1)
  refine ⟨fun k m σ' H' => m = n - k ∧ k ≤ n ∧ AtX G0 H0 G1 (P k) σ' H', ⟨n, rfl, Nat.zero_le _, G1', s1', A1⟩, ?_⟩
  rintro k m σ' H' ⟨rfl, hk, G', s', A'⟩
  by_cases hlt : k < n
  · obtain ⟨_, st⟩ := go G' H' s' A'.ext.s
    obtain ⟨hgo, hy⟩ := st k hlt
    refine .inr ⟨hgo, AtX G0 H0 G1 (P (k + 1)), fun σ2 H2 w2 => ⟨n - (k + 1), by omega, rfl, hlt, w2⟩, fun v H2 y => ?_⟩
    obtain ⟨G2, x2, gr⟩ := hy v H2 y
    exact gr σ' (purE (P k)) _ A'.sl fun σ2 off S2 => hb k G1 hlt (s.trans x1.g) G2 σ2 H2 (s'.trans x2.g) (A'.asg x2 (by rw [hj k]; exact off) S2)
  · have e : k = n := by omega
    subst e
    obtain ⟨st, _⟩ := go G' H' s' A'.ext.s
    exact .inl ⟨st, hd G' σ' H' ((s.trans x1.g).trans s') A'⟩
theorem tr_while {α : Type} (I : α → Prop) (P : α → Cells) (μ : α → Nat) (bt : α → Bool) (a0 : α) (hp : PassesOwn (model X.prog X.w) X.A X.env X.xe) (i0 : I a0) (h0 : Wkn G0 H0 ρ (P a0)) (ht : ∀ a, I a → Dt X c (visE (P a)) (bt a))
    (hb : ∀ a, I a → bt a = true → TrB X G0 H0 body Gm (P a) { E with nx := fun σ H => ∃ a', I a' ∧ μ a' < μ a ∧ AtX G0 H0 Gm (P a') σ H, ct := fun σ H => ∃ a', I a' ∧ μ a' < μ a ∧ AtX G0 H0 Gm (P a') σ H, bk := E.nx })
    (hd : ∀ a, I a → bt a = false → Nx G0 H0 Gm (P a) E.nx) : Tr X G0 H0 (.While c body [] pos) Gm ρ E := fun G σ H s A => by
  refine ws_of (ps_while hp pt_w pb_w) ?_
  obtain ⟨G', s', A'⟩ := h0 G σ H A
  refine ⟨fun m σ' H' => ∃ a, I a ∧ m = μ a ∧ AtX G0 H0 Gm (P a) σ' H', ⟨_, a0, i0, rfl, G', s.trans s', A'⟩, ?_⟩
  rintro m σ' H' ⟨a, ia, rfl, G1, s1, A1⟩
  refine ht a ia σ' H' H' _ A1.slV (Same.refl H') fun H2 x => ?_
  have B : AtG G0 H0 G1 (P a) σ' H2 := A1.step ⟨Same.refl G1, x.h, A1.ext.s.trans x.h, fun _ _ _ _ g => g⟩
  cases hbt : bt a with
  | true =>
    rw [if_pos rfl]
    exact ⟨_, fun σ2 H3 ⟨a', ia', l, w⟩ => ⟨μ a', l, a', ia', rfl, w⟩, hb a ia hbt G1 σ' H2 s1 B⟩
  | false =>
    rw [if_neg Bool.false_ne_true]
    exact hd a ia hbt G1 σ' H2 s1 B
theorem nx_while {α : Type} {I : α → Prop} {P : α → Cells} {μ : α → Nat} {m : Nat} (a' : α) (ia : I a') (l : μ a' < m) (w : Wkn G0 H0 ρ (P a')) : Nx G0 H0 Gm ρ (fun σ H => ∃ a', I a' ∧ μ a' < m ∧ AtX G0 H0 Gm (P a') σ H) := fun G σ H s A => by
  obtain ⟨G', s', A'⟩ := w G σ H A
  exact ⟨a', ia, l, G', s.trans s', A'⟩
/-! x += e -/
theorem tr_aug {n m : Int} {op : Operator} {f : Int → Int → Int} (i : Nat) (hop : PIp X op (ipI f)) (hN : X.N.Nodup) (hi : X.N[i]? = some x) (hx : Loc X.env.scope x) (h1 : ρ[i]? = some (.d (.int n))) (he : Dv X e (visE ρ) (.int m)) (k : Nx G0 H0 Gm (ρ.set i (.d (.int (f n m)))) E.nx)
    (hf : X.fn x = true ∨ X.env.scope.names.lookup x = some .local := by first | exact .inl rfl | exact .inr rfl | assumption) : Tr X G0 H0 (.AugAssign (.Name x pos') op e pos) Gm ρ E := fun G σ H s A => by
  refine ws_of (ps_aug hN hi hx pe_w hop hf) ?_
  obtain ⟨v, e1, r1⟩ := A.sl.2 i _ (pur_of h1)
  cases r1
  refine ⟨_, e1, he σ H H _ A.slV (Same.refl H) fun v G' H' x r => ?_⟩
  cases r
  exact ⟨n, m, rfl, rfl, k G _ H' s ((A.step ⟨Same.refl G, x.h, A.ext.s.trans x.h, fun _ _ _ _ g => g⟩).setD (.int _))⟩
/-! a, b = e1, e2 -/
theorem sl_unset {G : Hp} {σ : L2.St} {ρ : Env} (S : Sl G σ ρ) : Sl G σ ρ := S
theorem tr_parDD {k1 k2 : Nat} {px py pt2 : Pos} (i j : Nat) (hc : X.calm = true) (hN : X.N.Nodup) (hi : X.N[i]? = some x) (hj : X.N[j]? = some y) (hij : i ≠ j) (hx : X.env.scope.names.lookup x = some .local) (hy : X.env.scope.names.lookup y = some .local)
    (ha : Dv X a (purE ρ) d) (hb : Dv X b (purE ρ) d') (k : Nx G0 H0 Gm ((ρ.set i (.d d)).set j (.d d')) E.nx)
    (hw : swappedStores [.Tuple [.Name x px, .Name y py] k1 pt] (.Tuple [a, b] k2 pt2) X.env = pure (some [x, y]) := by rfl) (hs : swapsWithSole [.Tuple [.Name x px, .Name y py] k1 pt] (.Tuple [a, b] k2 pt2) pos.line X.env = pure false := by rfl)
    (hs1 : starEach [a, b] X.env = (false, eval a X.env) :: starEach [b] X.env := by rfl) (hs2 : starEach [b] X.env = (false, eval b X.env) :: starEach [] X.env := by rfl) :
    Tr X G0 H0 (.Assign [.Tuple [.Name x px, .Name y py] k1 pt] (.Tuple [a, b] k2 pt2) pos) Gm ρ E := fun G σ H s A =>
  ws_of (ps_par hc hN hi hj hij hx hy (pa_cons pe_w (pa_cons pe_w pa_nil hs2) hs1) hw hs) (ha σ G H _ A.sl A.ext.s fun v G1 H1 x1 r1 => hb σ G1 H1 _ (A.sl.mono x1.g) x1.s fun w G2 H2 x2 r2 =>
    ⟨v, w, rfl, k G2 _ H2 (s.trans (x1.g.trans x2.g)) ((((A.step x1).step x2).setD (r1.mono x2.g)).setD r2)⟩)
theorem tr_parDM {k1 k2 : Nat} {px py pt2 : Pos} (i j : Nat) (hc : X.calm = true) (hN : X.N.Nodup) (hi : X.N[i]? = some x) (hj : X.N[j]? = some y) (hij : i ≠ j) (hx : X.env.scope.names.lookup x = some .local) (hy : X.env.scope.names.lookup y = some .local)
    (ha : Dv X a (purE ρ) d) (hb : Dl X b (purE ρ) ds) (k : Nx G0 H0 Gm ((ρ.set i (.d d)).set j (.m ds none)) E.nx)
    (hw : swappedStores [.Tuple [.Name x px, .Name y py] k1 pt] (.Tuple [a, b] k2 pt2) X.env = pure (some [x, y]) := by rfl) (hs : swapsWithSole [.Tuple [.Name x px, .Name y py] k1 pt] (.Tuple [a, b] k2 pt2) pos.line X.env = pure false := by rfl)
    (hs1 : starEach [a, b] X.env = (false, eval a X.env) :: starEach [b] X.env := by rfl) (hs2 : starEach [b] X.env = (false, eval b X.env) :: starEach [] X.env := by rfl) :
    Tr X G0 H0 (.Assign [.Tuple [.Name x px, .Name y py] k1 pt] (.Tuple [a, b] k2 pt2) pos) Gm ρ E := fun G σ H s A =>
  ws_of (ps_par hc hN hi hj hij hx hy (pa_cons pe_w (pa_cons pe_w pa_nil hs2) hs1) hw hs) (ha σ G H _ A.sl A.ext.s fun v G1 H1 x1 r1 => hb σ G1 H1 _ (A.sl.mono x1.g) x1.s fun p vs G2 H2 x2 hp gp h2 r2 =>
    ⟨v, .ref p, rfl, k G2 _ H2 (s.trans (x1.g.trans x2.g)) (((A.step x1).setD r1).setM (H1 := H1) x2 hp gp h2 r2)⟩)
/-! a, b = e -/
theorem tr_unpack {k1 : Nat} {px py : Pos} (i j : Nat) (hc : X.calm = true) (hN : X.N.Nodup) (hi : X.N[i]? = some x) (hj : X.N[j]? = some y) (hx : Loc X.env.scope x) (hy : Loc X.env.scope y)
    (ha : Dv X e (purE ρ) (.tuple [d, d'])) (k : Nx G0 H0 Gm ((ρ.set i (.d d)).set j (.d d')) E.nx)
    (hs : swapsWithSole [.Tuple [.Name x px, .Name y py] k1 pt] e pos.line X.env = pure false := by rfl) (hw : swappedStores [.Tuple [.Name x px, .Name y py] k1 pt] e X.env = pure none := by rfl)
    (h1 : (assignEach [.Tuple [.Name x px, .Name y py] k1 pt] X.env).map (·.2) = [assign (.Tuple [.Name x px, .Name y py] k1 pt) X.env] := by rfl)
    (hg : PG X (.Tuple [.Name x px, .Name y py] k1 pt) (gPair X.K i j) := by exact pg_tup (by assumption) (pgs_cons (pg_name (by assumption) (by assumption) (by assumption)) (pgs_cons (pg_name (by assumption) (by assumption) (by assumption)) pgs_nil))) :
    Tr X G0 H0 (.Assign [.Tuple [.Name x px, .Name y py] k1 pt] e pos) Gm ρ E := fun G σ H s A =>
  ws_of (ps_asg pe_w hg hs hw h1) (ha σ G H _ A.sl A.ext.s fun v G1 H1 x1 r1 => by
    cases r1 with
    | tup e1 ra =>
      obtain ⟨v, w, rfl, rv, rw'⟩ := ra.two
      exact gPair_run (x1.s _ _ e1) (k G1 _ H1 (s.trans x1.g) (((A.step x1).setD rv).setD rw')))
/-! xs.extend(e), xs.pop() -/
theorem tr_ext {oi : Option Addr} (i : Nat) (hb : PE X (.Call (.Attribute (.Name x p1) "extend" p2) [e] [] pos) (tBM X.K "list" rExtend (tVar i) (tCons (wE X e) tNil))) (hm : ρ[i]? = some (.m xs oi)) (he : Dv X e (purE ρ) (.list ys)) (hz : xs.length + ys.length ≤ sizeLine) (k : Nx G0 H0 Gm (ρ.set i (.m (xs ++ ys) oi)) E.nx)
    (hs : swapsWith (.Call (.Attribute (.Name x p1) "extend" p2) [e] [] pos) none pos'.line X.env = pure false := by rfl) : Tr X G0 H0 (.Expr (.Call (.Attribute (.Name x p1) "extend" p2) [e] [] pos) pos') Gm ρ E := fun G σ H s A => by
  obtain ⟨p, vs, e1, h1, r1⟩ := at_own A hm
  refine ws_of (ps_expr hb hs) ⟨_, e1, .inl ⟨rfl, _, SqL.of h1⟩, he σ G H _ A.sl A.ext.s fun v G' H' x r => ?_⟩
  have B := A.step x
  cases r with
  | lst e2 r2 => exact ⟨p, _, vs, _, rfl, rfl, x.h _ _ h1, x.s _ _ e2, by rw [r1.length, r2.length]; exact hz, k G' σ _ (s.trans x.g) (B.mut hm e1 ((r1.mono x.g).app r2))⟩
end

/-! ### defs -/
def argC (N : List Str) (ds : List D) : Cells := ds.map Cell.d ++ List.replicate (N.length - ds.length) Cell.un
theorem argC_sl {G : Hp} {N : List Str} {vs : List V} {ds : List D} (r : RpA G vs ds) : Sl G (L2.start N vs) (purE (argC N ds)) := by
  unfold L2.start argC
  refine ⟨by simp [r.length], fun i d e => ?_⟩
  rw [List.getElem?_map] at e
  by_cases h : i < ds.length
  · rw [List.getElem?_append_left (by simpa using h), List.getElem?_map] at e
    cases e1 : ds[i]? with
    | none => rw [e1] at e; cases e
    | some d' =>
      rw [e1] at e
      have e2 : some d' = some d := Option.some.inj e
      cases e2
      obtain ⟨v, e3, r3⟩ := r.get e1
      refine ⟨v, ?_, r3⟩
      rw [List.getElem?_append_left (by rw [List.length_map, r.length]; exact h), List.getElem?_map, e3]
      rfl
  · rw [List.getElem?_append_right (by simpa using h)] at e
    rw [List.getElem?_replicate] at e
    split at e <;> cases e
theorem argC_un {N : List Str} {ds : List D} {i : Nat} {xs : List D} {o : Option Addr} (h : (argC N ds)[i]? = some (.m xs o)) : False := by
  unfold argC at h
  have m := List.mem_of_getElem? h
  rcases List.mem_append.mp m with z | z
  · obtain ⟨d, _, e⟩ := List.mem_map.mp z
    cases e
  · have := (List.mem_replicate.mp z).2
    cases this
theorem argC_unW {N : List Str} {ds : List D} {i : Nat} {W : Wc} (h : (argC N ds)[i]? = some (.w W)) : False := by
  unfold argC at h
  have m := List.mem_of_getElem? h
  rcases List.mem_append.mp m with z | z
  · obtain ⟨d, _, e⟩ := List.mem_map.mp z
    cases e
  · have := (List.mem_replicate.mp z).2
    cases this
theorem argC_at {G H : Hp} {N : List Str} {vs : List V} {ds : List D} (s : Same G H) (r : RpA G vs ds) : AtG G H G (argC N ds) (L2.start N vs) H :=
  ⟨Ext.refl s, argC_sl r, fun i xs o e => (argC_un e).elim, fun i j p xs ys _ _ _ e => (argC_un e).elim, WOk.none fun i W e => argC_unW e⟩

/-- called with ds, S ds d: hands back d; what stood before stays -/
def spP (S : List D → D → Prop) : Sp := fun vs H Q _ => ∃ (G : Hp) (ds : List D) (d : D), Same G H ∧ RpA G vs ds ∧ S ds d ∧ ∀ v G' H', Ext G H G' H' → Rp G' v d → Q v H'
/-- a def that is known by name: the promise sp, at most the level k -/
def Kn (P : Program) (w : World) (K : PySem.W.Frag) (mg : Str → Option Value) (base : Heap) (x : Str) (k : Nat) (sp : Sp) : Prop :=
  ∃ (f : Addr) (fd : FuncData) (ps : List Str), FnOk P w K mg base (L2N.CX P w) k f fd ps sp ∧ mg x = some (.ref f) ∧ PySem.W.keepIn K (.ref f) = true ∧ Binds K fd ps []
theorem Kn.mono {P : Program} {w : World} {K : PySem.W.Frag} {mg : Str → Option Value} {base : Heap} {x : Str} {j k : Nat} {sp : Sp} (h : Kn P w K mg base x j sp) (q : j ≤ k) : Kn P w K mg base x k sp := by
  obtain ⟨f, fd, ps, F, r⟩ := h
  exact ⟨f, fd, ps, F.mono q, r⟩
section
variable {X : Cx} {ρ : Env} {e : Expr} {es : List Expr} {p pos : Pos} {d : D} {ds : List D} {x : Str} {k : Nat} {S : List D → D → Prop}
theorem dv_call (F : Kn X.prog X.w X.K X.mg X.base x k (spP S)) (hr : Room k X.A) (hg : Gl X x) (ha : Da X (e :: es) ρ ds) (hS : S ds d) (hdb : (x == ("__debug__" : Str)) = false := by decide)
    (he : starEach (e :: es) X.env = (false, eval e X.env) :: starEach es X.env := by rfl) (hpl : (backTo pos (starEach es X.env)).any (·.1) = false := by rfl) : Dv X (.Call (.Name x p) (e :: es) [] pos) ρ d := by
  obtain ⟨f, fd, ps, F, hm, hk, hb⟩ := F
  exact fun σ G H Q S0 s q => we_of (pe_call F hr hg hm hk hb .nil passN pa_w hdb he hpl) (ha σ G H _ S0 s fun vs G1 H1 x1 r1 => by
    show spP S (vs ++ []) H1 Q E0
    rw [List.append_nil]
    exact ⟨G1, ds, d, x1.s, r1, hS, fun v G2 H2 x2 r2 => q v G2 H2 (x1.trans x2) r2⟩)
end
section
variable {P : Program} {w : World} {K : PySem.W.Frag} {mg : Str → Option Value} {base : Heap}
/-- a def that raises nothing keeps its promise -/
theorem fn_p {x qual : Str} {st : Stmt} {f : Addr} {fd : FuncData} {N ps : List Str} {k : Nat} {S : List D → D → Prop} (F : Fun K x qual st f fd) (sc : FnScope N ps (defScope st)) (hl : ∀ ds d, S ds d → ds.length = ps.length)
    (hb : ∀ (cdv : Value) (A : Around) (outer : List PySem.Env) (s : Shared) (Hs : Hp) (Ex : XK), Room k (A.deeper (envOfC qual (defScope st) s.heap.objs.size f cdv)) → ∀ (ds : List D) (d : D), S ds d → ∀ (G H : Hp) (E : Ends), (∀ v G' H', Ext G H G' H' → Rp G' v d → E.rt v H') →
      (d = .none → ∀ σ G' H', Ext G H G' H' → E.nx σ H') → TrB (cxOf (L2N.CX P w) P w K mg base N qual (defScope st) f cdv A outer s Hs Ex).nox G H (defBody st) G (argC N ds) E) :
    FnOk P w K mg base (L2N.CX P w) (k + 1) f fd ps (spP S) := by
  refine F.okN sc (fun vs H Q E h => ?_) (fun cdv A outer s H vs Q E hr h => ?_)
  · obtain ⟨G, ds, d, _, r, hS, _⟩ := h
    rw [r.length]
    exact hl ds d hS
  · obtain ⟨G, ds, d, sg, r, hS, q⟩ := h
    refine ⟨_, PSs.nox pb_w, ?_⟩
    exact hb cdv A outer s H E hr ds d hS G H { nx := fun _ H' => Q .non H', rt := Q } (fun v G' H' x r => q v G' H' x r) (fun e σ G' H' x => q .non G' H' x (by rw [e]; exact .non)) G (L2.start N vs) H (Same.refl G) (argC_at sg r)
end
end Hr
/-! The typed forms of walks. -/
namespace Hr
open PySem PySem.Spec PyProof.Rows L2

/-- a walk over the items zs, each stored as up says -/
def Wt {α : Type} (X : Cx) (tg iter : Expr) (ρ : Env) (g : TG) (js : List Nat) (zs : List α) (up : α → List (Nat × D)) : Prop :=
  ∃ asg, Wk X tg iter ρ g zs.length js asg ∧ ∀ i x, zs[i]? = some x → asg i = up x
section
variable {α β : Type} {X : Cx} {ρ : Env} {a b c e elt tg iter : Expr} {es ifs : List Expr} {p pos : Pos} {zs : List α} {ys : List β} {emb : α → D} {emb' : β → D} {j k : Nat}
theorem wt_list (h : Dv X iter ρ (.list (zs.map emb))) : Wt X tg iter ρ (gName j) [j] zs (fun x => [(j, emb x)]) :=
  ⟨fun i => [(j, itD (zs.map emb) i)], by have z := wk_list (tg := tg) (j := j) h; rwa [List.length_map] at z, fun i x e => by show [(j, itD (zs.map emb) i)] = [(j, emb x)]; rw [itD_map e]⟩
theorem wt_tup (h : Dv X iter ρ (.tuple (zs.map emb))) : Wt X tg iter ρ (gName j) [j] zs (fun x => [(j, emb x)]) :=
  ⟨fun i => [(j, itD (zs.map emb) i)], by have z := wk_tup (tg := tg) (j := j) h; rwa [List.length_map] at z, fun i x e => by show [(j, itD (zs.map emb) i)] = [(j, emb x)]; rw [itD_map e]⟩
/-- the ints from lo on, below hi -/
def rangeI (lo hi : Int) : List Int := (List.range (hi - lo).toNat).map fun i => lo + (i : Nat)
theorem rangeI_get {lo hi : Int} {i : Nat} {x : Int} (h : (rangeI lo hi)[i]? = some x) : x = lo + i := by
  unfold rangeI at h
  rw [List.getElem?_map] at h
  cases e : (List.range (hi - lo).toNat)[i]? with
  | none => rw [e] at h; cases h
  | some k =>
    rw [e] at h
    have e2 : k = i := by
      obtain ⟨h1, h2⟩ := List.getElem?_eq_some_iff.mp e
      rw [List.getElem_range] at h2
      exact h2.symm
    subst e2
    exact (Option.some.inj h).symm
theorem rangeI_mem {lo hi x : Int} : x ∈ rangeI lo hi ↔ lo ≤ x ∧ x < hi := by
  unfold rangeI
  rw [List.mem_map]
  constructor
  · rintro ⟨i, h1, rfl⟩
    have := List.mem_range.mp h1
    omega
  · rintro ⟨h1, h2⟩
    exact ⟨(x - lo).toNat, List.mem_range.mpr (by omega), by omega⟩
theorem rangeI_length (lo hi : Int) : (rangeI lo hi).length = (hi - lo).toNat := by unfold rangeI; rw [List.length_map, List.length_range]
theorem wt_range1 {n : Int} (hg : Gl X "range") (hm : X.mg "range" = none) (h : Dv X a ρ (.int n)) (h1 : -(2 ^ 62) ≤ n) (h2 : n < 2 ^ 62) (hs : starEach [a] X.env = [(false, eval a X.env)] := by rfl) :
    Wt X tg (.Call (.Name "range" p) [a] [] pos) ρ (gName j) [j] (rangeI 0 n) (fun x => [(j, .int x)]) :=
  ⟨_, by have z := wk_range1 (tg := tg) (j := j) (p := p) (pos := pos) hg hm h h1 h2 hs; rwa [show n.toNat = (rangeI 0 n).length by rw [rangeI_length, Int.sub_zero]] at z, fun i x e => by rw [rangeI_get e]⟩
theorem wt_range2 {m n : Int} (hg : Gl X "range") (hm : X.mg "range" = none) (h : Dv X a ρ (.int m)) (h' : Dv X b ρ (.int n)) (h1 : -(2 ^ 62) ≤ m) (h2 : m < 2 ^ 62) (h3 : -(2 ^ 62) ≤ n) (h4 : n < 2 ^ 62)
    (hs : starEach [a, b] X.env = [(false, eval a X.env), (false, eval b X.env)] := by rfl) (hs2 : starEach [b] X.env = [(false, eval b X.env)] := by rfl) :
    Wt X tg (.Call (.Name "range" p) [a, b] [] pos) ρ (gName j) [j] (rangeI m n) (fun x => [(j, .int x)]) :=
  ⟨_, by have z := wk_range2 (tg := tg) (j := j) (p := p) (pos := pos) hg hm h h' h1 h2 h3 h4 hs hs2; rwa [← rangeI_length] at z, fun i x e => by rw [rangeI_get e]⟩
theorem zipIdx_get {i : Nat} {x : α × Nat} (h : zs.zipIdx[i]? = some x) : zs[i]? = some x.1 ∧ x.2 = i := by
  rw [List.getElem?_zipIdx] at h
  cases e : zs[i]? with
  | none => rw [e] at h; cases h
  | some y =>
    rw [e] at h
    have e2 := Option.some.inj h
    rw [← e2]
    exact ⟨rfl, by simp⟩
theorem wt_enum {elts : List Expr} {kk : Nat} {tpos : Pos} (hg : Gl X "enumerate") (hm : X.mg "enumerate" = none) (h : Dv X a ρ (.list (zs.map emb))) (hs : starEach [a] X.env = [(false, eval a X.env)] := by rfl) :
    Wt X (.Tuple elts kk tpos) (.Call (.Name "enumerate" p) [a] [] pos) ρ (gPair X.K j k) [j, k] zs.zipIdx (fun x => [(j, .int (x.2 : Nat)), (k, emb x.1)]) :=
  ⟨_, by have z := wk_enum (j := j) (k := k) (elts := elts) (kk := kk) (tpos := tpos) (p := p) (pos := pos) hg hm h hs; rwa [show (zs.map emb).length = zs.zipIdx.length by simp] at z, fun i x e => by
    obtain ⟨e1, e2⟩ := zipIdx_get e
    show _ = [(j, PyData.int (x.2 : Nat)), (k, emb x.1)]
    rw [itD_map e1, e2]⟩
theorem zip_get {i : Nat} {x : α × β} (h : (zs.zip ys)[i]? = some x) : zs[i]? = some x.1 ∧ ys[i]? = some x.2 := by
  rw [List.getElem?_zip_eq_some] at h
  exact h
theorem wt_zipL {elts : List Expr} {kk : Nat} {tpos : Pos} (hg : Gl X "zip") (hm : X.mg "zip" = none) (h : Dv X a ρ (.list (zs.map emb))) (h' : Dv X b ρ (.list (ys.map emb')))
    (hs : starEach [a, b] X.env = (false, eval a X.env) :: starEach [b] X.env := by rfl) (hs2 : starEach [b] X.env = (false, eval b X.env) :: starEach [] X.env := by rfl) (hpl : (backTo pos (starEach [b] X.env)).any (·.1) = false := by rfl) :
    Wt X (.Tuple elts kk tpos) (.Call (.Name "zip" p) [a, b] [] pos) ρ (gPair X.K j k) [j, k] (zs.zip ys) (fun x => [(j, emb x.1), (k, emb' x.2)]) :=
  ⟨_, by have z := wk_zipL (j := j) (k := k) (elts := elts) (kk := kk) (tpos := tpos) (p := p) (pos := pos) hg hm h h' hs hs2 hpl; rwa [show min (zs.map emb).length (ys.map emb').length = (zs.zip ys).length by simp] at z, fun i x e => by
    obtain ⟨e1, e2⟩ := zip_get e
    rw [itD_map e1, itD_map e2]⟩
theorem wt_zipT {elts : List Expr} {kk : Nat} {tpos : Pos} (hg : Gl X "zip") (hm : X.mg "zip" = none) (h : Dv X a ρ (.tuple (zs.map emb))) (h' : Dv X b ρ (.tuple (ys.map emb')))
    (hs : starEach [a, b] X.env = (false, eval a X.env) :: starEach [b] X.env := by rfl) (hs2 : starEach [b] X.env = (false, eval b X.env) :: starEach [] X.env := by rfl) (hpl : (backTo pos (starEach [b] X.env)).any (·.1) = false := by rfl) :
    Wt X (.Tuple elts kk tpos) (.Call (.Name "zip" p) [a, b] [] pos) ρ (gPair X.K j k) [j, k] (zs.zip ys) (fun x => [(j, emb x.1), (k, emb' x.2)]) :=
  ⟨_, by have z := wk_zipT (j := j) (k := k) (elts := elts) (kk := kk) (tpos := tpos) (p := p) (pos := pos) hg hm h h' hs hs2 hpl; rwa [show min (zs.map emb).length (ys.map emb').length = (zs.zip ys).length by simp] at z, fun i x e => by
    obtain ⟨e1, e2⟩ := zip_get e
    rw [itD_map e1, itD_map e2]⟩

def atB (zs : List α) (pb : α → Bool) (i : Nat) : Bool := match zs[i]? with
  | some x => pb x
  | none => false
def atF (zs : List α) (pf : α → D) (i : Nat) : D := match zs[i]? with
  | some x => pf x
  | none => .none
theorem atB_get {pb : α → Bool} {i : Nat} {x : α} (h : zs[i]? = some x) : atB zs pb i = pb x := by unfold atB; rw [h]
theorem atF_get {pf : α → D} {i : Nat} {x : α} (h : zs[i]? = some x) : atF zs pf i = pf x := by unfold atF; rw [h]
theorem lt_get {i : Nat} (h : i < zs.length) : ∃ x, zs[i]? = some x ∧ x ∈ zs := ⟨zs[i], List.getElem?_eq_getElem h, List.getElem_mem h⟩
/-- [elt for tg in iter if ..] -/
theorem dl_lcT {scope : Scope} {own : List (Str × Nat)} {g : TG} {js : List Nat} {up : α → List (Nat × D)} (pb : α → Bool) (pf : α → D) (hc : X.calm = true) (hN : X.N.Nodup) (ok : BlkOk X.N X.env.scope scope own) (hw : Wt X tg iter ρ g js zs up)
    (hg : ∀ (s : Shared) (H : Hp) (C : Addr) (cl : List (Str × Addr)) (fp : List Addr), PG (Blk X scope s H C cl fp) tg g) (hj : ∀ j ∈ js, j ∈ own.map (·.2)) (hz : zs.length ≤ 10000000)
    (ht : ∀ x, x ∈ zs → ∀ (s : Shared) (H : Hp) (C : Addr) (cl : List (Str × Addr)) (fp : List Addr), Di (Blk X scope s H C cl fp) ifs (setE (wipeE ρ (own.map (·.2))) (up x)) (pb x))
    (he : ∀ x, x ∈ zs → pb x = true → ∀ (s : Shared) (H : Hp) (C : Addr) (cl : List (Str × Addr)) (fp : List Addr), Dv (Blk X scope s H C cl fp) elt (setE (wipeE ρ (own.map (·.2))) (up x)) (pf x))
    (hs : ∀ x, foldedSetIterable iter X.env x = pure x := by intro _; rfl) : Dl X (.ListComp elt [⟨tg, iter, ifs, 0⟩] scope pos) ρ ((zs.filter pb).map pf) := by
  obtain ⟨asg, hw, ha⟩ := hw
  refine (dl_lc (atB zs pb) (atF zs pf) hc hN ok hw hg hj hz (fun i hi => ?_) (fun i hi hb => ?_) hs).to (range_map (emb := fun _ => .none) (fun i x e => atB_get e) (fun i x e => atF_get e))
  · obtain ⟨x, e, m⟩ := lt_get hi
    rw [ha i x e, atB_get e]
    exact ht x m
  · obtain ⟨x, e, m⟩ := lt_get hi
    rw [atB_get e] at hb
    rw [ha i x e, atF_get e]
    exact he x m hb
/-- .. without a test -/
theorem dl_lcM {scope : Scope} {own : List (Str × Nat)} {g : TG} {js : List Nat} {up : α → List (Nat × D)} (pf : α → D) (hc : X.calm = true) (hN : X.N.Nodup) (ok : BlkOk X.N X.env.scope scope own) (hw : Wt X tg iter ρ g js zs up)
    (hg : ∀ (s : Shared) (H : Hp) (C : Addr) (cl : List (Str × Addr)) (fp : List Addr), PG (Blk X scope s H C cl fp) tg g) (hj : ∀ j ∈ js, j ∈ own.map (·.2)) (hz : zs.length ≤ 10000000)
    (he : ∀ x, x ∈ zs → ∀ (s : Shared) (H : Hp) (C : Addr) (cl : List (Str × Addr)) (fp : List Addr), Dv (Blk X scope s H C cl fp) elt (setE (wipeE ρ (own.map (·.2))) (up x)) (pf x))
    (hs : ∀ x, foldedSetIterable iter X.env x = pure x := by intro _; rfl) : Dl X (.ListComp elt [⟨tg, iter, [], 0⟩] scope pos) ρ (zs.map pf) :=
  (dl_lcT (fun _ => true) pf hc hN ok hw hg hj hz (fun _ _ _ _ _ _ _ => di_nil) (fun x m _ => he x m) hs).to (by rw [List.filter_eq_self.mpr (fun _ _ => rfl)])
end
section
variable {α : Type} {X : Cx} {G0 H0 Gm : Hp} {ρ : Cells} {E : Ends} {body : List Stmt} {tg iter elt : Expr} {ifs : List Expr} {pos pos' p1 : Pos} {zs : List α} {x : Str}
theorem tr_forT {g : TG} {js : List Nat} {up : α → List (Nat × D)} (P : Nat → Cells) (hp : PassesOwn (model X.prog X.w) X.A X.env X.xe) (hc : X.calm = true) (hw : Wt X tg iter (purE ρ) g js zs up) (hg : PG X tg g) (h0 : Wkn G0 H0 ρ (P 0))
    (hb : ∀ (k : Nat) (z : α) (Gm' : Hp), zs[k]? = some z → Same Gm Gm' → TrB X G0 H0 body Gm' (setC (P k) (up z)) { E with nx := AtX G0 H0 Gm' (P (k + 1)), ct := AtX G0 H0 Gm' (P (k + 1)), bk := E.nx })
    (hd : Nx G0 H0 Gm (P zs.length) E.nx) (hj : ∀ z, (up z).map (·.1) = js := by intro _; rfl)
    (hs : ∀ x, foldedSetIterable iter X.env x = pure x := by intro _; rfl) : Tr X G0 H0 (.For tg iter body [] pos) Gm ρ E := by
  obtain ⟨asg, hw, ha⟩ := hw
  let asg' : Nat → List (Nat × D) := fun i => if i < zs.length then asg i else js.map fun j => (j, .none)
  have hw' : Wk X tg iter (purE ρ) g zs.length js asg' := by
    obtain ⟨wi, h1, h2⟩ := hw
    refine ⟨wi, h1, fun σ G H R S s q => h2 σ G H R S s fun J G' H' x go => q J G' H' x fun G2 H2 s1 s2 => ?_⟩
    obtain ⟨st, gg⟩ := go G2 H2 s1 s2
    refine ⟨st, fun i hi => ?_⟩
    show J.go i H2 ∧ ∀ x H'', J.yld i H2 x H'' → ∃ G'', Ext G2 H2 G'' H'' ∧ ∀ (σ' : L2.St) (ρ' : Env) (Q' : L2.St → Hp → Prop), Sl G2 σ' ρ' → (∀ σ'', Off js σ' σ'' → Sl G'' σ'' (setE ρ' (if i < zs.length then asg i else js.map fun j => (j, .none))) → Q' σ'' H'') → g x σ' H'' Q'
    rw [if_pos hi]
    exact gg i hi
  refine tr_for P hp hc hw' hg h0 (fun k Gm' hk sm => ?_) hd (fun k => ?_) hs
  · obtain ⟨z, e, m⟩ := lt_get hk
    have e2 : asg' k = up z := by
      show (if k < zs.length then asg k else _) = _
      rw [if_pos hk, ha k z e]
    rw [e2]
    exact hb k z Gm' e sm
  · show (if k < zs.length then asg k else js.map fun j => (j, PyData.none)).map (·.1) = js
    by_cases hk : k < zs.length
    · obtain ⟨z, e, m⟩ := lt_get hk
      rw [if_pos hk, ha k z e, hj z]
    · rw [if_neg hk, List.map_map]
      exact List.map_id' js
theorem tr_setLcT {scope : Scope} {own : List (Str × Nat)} {g : TG} {js : List Nat} {up : α → List (Nat × D)} (i : Nat) (pb : α → Bool) (pf : α → D) (hc : X.calm = true) (hN : X.N.Nodup) (hi : X.N[i]? = some x) (hxl : X.env.scope.names.lookup x = some .local)
    (hsw : swapsWith (.ListComp elt [⟨tg, iter, ifs, 0⟩] scope pos) (some (.Name x p1)) pos'.line X.env = pure true) (ok : BlkOk X.N X.env.scope scope own) (hw : Wt X tg iter (purE ρ) g js zs up)
    (hg : ∀ (s : Shared) (H : Hp) (C : Addr) (cl : List (Str × Addr)) (fp : List Addr), PG (Blk X scope s H C cl fp) tg g) (hj : ∀ j ∈ js, j ∈ own.map (·.2)) (hz : zs.length ≤ 10000000)
    (ht : ∀ x, x ∈ zs → ∀ (s : Shared) (H : Hp) (C : Addr) (cl : List (Str × Addr)) (fp : List Addr), Di (Blk X scope s H C cl fp) ifs (setE (wipeE (purE ρ) (own.map (·.2))) (up x)) (pb x))
    (he : ∀ x, x ∈ zs → pb x = true → ∀ (s : Shared) (H : Hp) (C : Addr) (cl : List (Str × Addr)) (fp : List Addr), Dv (Blk X scope s H C cl fp) elt (setE (wipeE (purE ρ) (own.map (·.2))) (up x)) (pf x))
    (k : Nx G0 H0 Gm (ρ.set i (.m ((zs.filter pb).map pf) none)) E.nx)
    (hs : ∀ x, foldedSetIterable iter X.env x = pure x := by intro _; rfl) : Tr X G0 H0 (.Assign [.Name x p1] (.ListComp elt [⟨tg, iter, ifs, 0⟩] scope pos) pos') Gm ρ E := by
  obtain ⟨asg, hw, ha⟩ := hw
  refine tr_setLc i (atB zs pb) (atF zs pf) hc hN hi hxl hsw ok hw hg hj hz (fun i hi => ?_) (fun i hi hb => ?_) ?_ hs
  · obtain ⟨x, e, m⟩ := lt_get hi
    rw [ha i x e, atB_get e]
    exact ht x m
  · obtain ⟨x, e, m⟩ := lt_get hi
    rw [atB_get e] at hb
    rw [ha i x e, atF_get e]
    exact he x m hb
  · rw [range_map (emb := fun _ => .none) (fun i x e => atB_get e) (fun i x e => atF_get e)]
    exact k
end
end Hr
/-! The law's draws: expressions that change the town. -/
namespace Hr
open PySem PySem.Spec PyProof.Rows L2

/-- the script: known to the object, or an object of the module -/
def Scr (K : PySem.W.Frag) (H : Hp) (a : Addr) (ns : List Int) : Prop :=
  (∃ o, H a = some (.frz o (.lst (ns.map V.int)))) ∨
    ∃ (o : Obj) (its : Array Value) (n : Nat), K.lookup a = some o ∧ o.cls = .type "list" ∧ o.dict = none ∧ o.data = .seq its n ∧ its.size ≤ sizeLine ∧ Vals (ns.map V.int) its.toList
theorem Scr.sq {K : PySem.W.Frag} {H : Hp} {a : Addr} {ns : List Int} (h : Scr K H a ns) : SqL K H a (ns.map V.int) := by
  rcases h with ⟨o, h⟩ | h
  · exact .inl (.inr ⟨o, h⟩)
  · exact .inr h
theorem Scr.mono {K : PySem.W.Frag} {H H' : Hp} {a : Addr} {ns : List Int} (s : Same H H') (h : Scr K H a ns) : Scr K H' a ns := by
  rcases h with ⟨o, h⟩ | h
  · exact .inl ⟨o, s _ _ h⟩
  · exact .inr h
theorem Scr.of {K : PySem.W.Frag} {H : Hp} {a : Addr} {ns : List Int} (o : Only H) (h : SqL K H a (ns.map V.int)) : Scr K H a ns := by
  rcases h with (h | ⟨ob, h⟩) | h
  · rcases o a with z | ⟨ob, xs, z⟩
    · rw [z] at h; cases h
    · rw [z] at h; cases h
  · exact .inl ⟨ob, h⟩
  · exact .inr h
/-- the heap without the town -/
def hide (H : Hp) (t : Addr) : Hp := fun b => if b = t then none else H b
theorem hide_same (H : Hp) (t : Addr) : Same (hide H t) H := fun b o e => by
  unfold hide at e
  by_cases h : b = t
  · rw [if_pos h] at e; cases e
  · rw [if_neg h] at e; exact e
theorem hide_at (H : Hp) (t : Addr) : hide H t t = none := if_pos rfl
theorem hide_ne {H : Hp} {t b : Addr} (h : b ≠ t) : hide H t b = H b := if_neg h
theorem Scr.hide {K : PySem.W.Frag} {H : Hp} {a t : Addr} {ns : List Int} {ws : List V} (h : Scr K H a ns) (ht : H t = some (.lst ws)) : Scr K (hide H t) a ns := by
  rcases h with ⟨o, h⟩ | h
  · refine .inl ⟨o, ?_⟩
    have ne : a ≠ t := ne_of h ht (by intro z; cases z)
    rw [hide_ne ne]
    exact h
  · exact .inr h

/-! ### a cell, a number out of it -/
def spCell (K : PySem.W.Frag) : Sp := fun vs H Q _ => ∃ (a : Addr) (ns : List Int) (k : Int), vs = [.ref a, .int k] ∧ Scr K H a ns ∧ ns.length ≤ 1000 ∧ 0 ≤ k ∧ k < 2 ^ 40 ∧ ∀ z H', Same H H' → Q (.int z) H'
def spMix (K : PySem.W.Frag) : Sp := fun vs H Q _ => ∃ (a : Addr) (ns : List Int) (k m : Int), vs = [.ref a, .int k, .int m] ∧ Scr K H a ns ∧ ns.length ≤ 1000 ∧ 0 ≤ k ∧ k < 2 ^ 40 ∧ 0 < m ∧ ∀ z H', Same H H' → 0 ≤ z → z < m → Q (.int z) H'
/-- draws, at most c of them: G holds what never changes and not the town; P: what comes out -/
def spTown (K : PySem.W.Frag) (c : Nat) (S : List D → (D → Prop) → Prop) : Sp := fun vs H Q _ => ∃ (a t : Addr) (ns : List Int) (ws : List V) (tw : List D) (G : Hp) (us : List V) (ds : List D) (P : D → Prop), vs = .ref a :: .ref t :: us ∧ Scr K H a ns ∧ ns.length ≤ 1000 ∧
  Same G H ∧ G t = none ∧ H t = some (.lst ws) ∧ RpA G ws tw ∧ tw.length + c ≤ 100000 ∧ RpA G us ds ∧ S ds P ∧
  ∀ v d G' H' ws' tw', Ext G (hide H t) G' (hide H' t) → G' t = none → H' t = some (.lst ws') → RpA G' ws' tw' → tw'.length ≤ tw.length + c → Rp G' v d → P d → Q v H'

/-! ### an expression that may draw: from ρ, where the town stands in slot tw -/
def De (X : Cx) (G0 H0 : Hp) (e : Expr) (ρ : Cells) (tw : Nat) (ta : Addr) (n c : Nat) (P : D → Prop) : Prop :=
  ∀ (G : Hp) (σ : L2.St) (H : Hp) (ts : List D) (Q : VK), ts.length ≤ n → AtG G0 H0 G (ρ.set tw (.m ts (some ta))) σ H →
    (∀ v d G' H' ts', ts'.length ≤ n + c → Same G G' → AtG G0 H0 G' (ρ.set tw (.m ts' (some ta))) σ H' → Rp G' v d → P d → Q v H') → wE X e σ H Q
section
variable {X : Cx} {G0 H0 : Hp} {ρ : Cells} {a b e : Expr} {es : List Expr} {tw n c c' : Nat} {ta : Addr} {P : D → Prop} {d : D} {p pos p1 p2 : Pos} {x xs xt : Str}
theorem De.weak {P' : D → Prop} (h : De X G0 H0 e ρ tw ta n c P) (hp : ∀ d, P d → P' d) (hc : c ≤ c') : De X G0 H0 e ρ tw ta n c' P' := fun G σ H ts Q hn A q =>
  h G σ H ts Q hn A fun v d G' H' ts' l s A' r p => q v d G' H' ts' (by omega) s A' r (hp d p)
theorem de_pure (h : Dv X e (purE (ρ.set tw .un)) d) : De X G0 H0 e ρ tw ta n 0 (fun d' => d' = d) := fun G σ H ts Q hn A q => by
  have S : Sl G σ (purE (ρ.set tw .un)) := by
    have z := A.sl
    rw [show purE (ρ.set tw (.m ts (some ta))) = purE (ρ.set tw .un) by show List.map _ _ = List.map _ _; rw [List.map_set, List.map_set]; rfl] at z
    exact z
  exact h σ G H _ S A.ext.s fun v G' H' x r => q v d G' H' ts hn x.g (A.step x) r rfl
theorem de_add {Pb : Int → Prop} (ha : De X G0 H0 a ρ tw ta n c (fun d => ∃ i, d = .int i ∧ Pb i)) {Pc : Int → Prop} (hb : De X G0 H0 b ρ tw ta (n + c) c' (fun d => ∃ i, d = .int i ∧ Pc i)) :
    De X G0 H0 (.BinOp a .Add b pos) ρ tw ta n (c + c') (fun d => ∃ i j, d = .int (i + j) ∧ Pb i ∧ Pc j) := fun G σ H ts Q hn A q =>
  we_of (pe_op op_add pe_w pe_w) (ha G σ H ts _ hn A fun v d G1 H1 ts1 l1 s1 A1 r1 p1 => hb G1 σ H1 ts1 _ l1 A1 fun w d2 G2 H2 ts2 l2 s2 A2 r2 p2 => by
    obtain ⟨i, rfl, p1⟩ := p1
    obtain ⟨j, rfl, p2⟩ := p2
    cases r1
    cases r2
    exact ⟨i, j, rfl, rfl, q _ _ G2 H2 ts2 (by omega) (s1.trans s2) A2 (.int _) ⟨i, j, rfl, p1, p2⟩⟩)
theorem de_min {Pb : Int → Prop} (hc : X.calm = true) (hg : Gl X "min") (hm : X.mg "min" = none) (ha : De X G0 H0 a ρ tw ta n c (fun d => ∃ i, d = .int i ∧ Pb i)) {Pc : Int → Prop} (hb : De X G0 H0 b ρ tw ta (n + c) c' (fun d => ∃ i, d = .int i ∧ Pc i))
    (hs : starEach [a, b] X.env = (false, eval a X.env) :: starEach [b] X.env := by rfl) (hs2 : starEach [b] X.env = (false, eval b X.env) :: starEach [] X.env := by rfl) (hpl : (backTo pos (starEach [b] X.env)).any (·.1) = false := by rfl) :
    De X G0 H0 (.Call (.Name "min" p) [a, b] [] pos) ρ tw ta n (c + c') (fun d => ∃ i j, d = .int (min i j) ∧ Pb i ∧ Pc j) := fun G σ H ts Q hn A q =>
  we_of (pe_callB (call_min2 hc) hg hm bb_min (pa_cons pe_w (pa_cons pe_w pa_nil hs2) hs) (he := hs) (hpl := hpl)) (ha G σ H ts _ hn A fun v d G1 H1 ts1 l1 s1 A1 r1 p1 => hb G1 σ H1 ts1 _ l1 A1 fun w d2 G2 H2 ts2 l2 s2 A2 r2 p2 => by
    obtain ⟨i, rfl, p1⟩ := p1
    obtain ⟨j, rfl, p2⟩ := p2
    cases r1
    cases r2
    exact ⟨i, j, rfl, by rw [min_if]; exact q _ _ G2 H2 ts2 (by omega) (s1.trans s2) A2 (.int _) ⟨i, j, rfl, p1, p2⟩⟩)
/-- f(script, town, e): f draws -/
theorem de_town {S : List D → (D → Prop) → Prop} {ns : List Int} {ad : Addr} {j : Nat} {k cf : Nat} {Pa : D → Prop} (F : Kn X.prog X.w X.K X.mg X.base x k (spTown X.K cf S)) (hr : Room k X.A) (hg : Gl X x) (hS0 : Scr X.K H0 ad ns) (hns : ns.length ≤ 1000)
    (hj : j ≠ tw) (hs : ρ[j]? = some (.d (rawD ad))) (hjN : X.N[j]? = some xs) (hjV : Vis X.env.scope xs) (htN : X.N[tw]? = some xt) (htV : Vis X.env.scope xt) (htw : tw < ρ.length)
    (he : De X G0 H0 e ρ tw ta n c Pa) (hn : n + c + cf ≤ 100000) (hPa : ∀ d, Pa d → S [d] P)
    (h1 : (xs == ("__debug__" : Str)) = false := by decide) (h2 : (xs == ("__classdict__" : Str)) = false := by decide) (h3 : (xt == ("__debug__" : Str)) = false := by decide) (h4 : (xt == ("__classdict__" : Str)) = false := by decide) (hdb : (x == ("__debug__" : Str)) = false := by decide)
    (hst1 : starEach [.Name xs p1, .Name xt p2, e] X.env = (false, eval (.Name xs p1) X.env) :: starEach [.Name xt p2, e] X.env := by rfl) (hst2 : starEach [.Name xt p2, e] X.env = (false, eval (.Name xt p2) X.env) :: starEach [e] X.env := by rfl)
    (hst3 : starEach [e] X.env = (false, eval e X.env) :: starEach [] X.env := by rfl) (hpl : (backTo pos (starEach [.Name xt p2, e] X.env)).any (·.1) = false := by rfl) :
    De X G0 H0 (.Call (.Name x p) [.Name xs p1, .Name xt p2, e] [] pos) ρ tw ta n (c + cf) P := by
  obtain ⟨f, fd, ps, F, hm, hk, hb⟩ := F
  refine fun G σ H ts Q hl A q => we_of (pe_call F hr hg hm hk hb .nil passN (pa_cons (pe_var hjN hjV h1 h2) (pa_cons (pe_var htN htV h3 h4) (pa_cons pe_w pa_nil hst3) hst2) hst1) hdb hst1 hpl) ?_
  have hsj : (ρ.set tw (.m ts (some ta)))[j]? = some (.d (rawD ad)) := by rw [List.getElem?_set_ne (Ne.symm hj)]; exact hs
  obtain ⟨v, e1, r1⟩ := A.sl.2 j _ (pur_of hsj)
  have ev : v = .ref ad := by
    generalize hd : rawD ad = dd at r1
    cases r1 with
    | raw a' =>
      have e0 : ((ad : Nat) : Int) = ((a' : Nat) : Int) := by simpa [rawD] using hd
      have e : ad = a' := Int.ofNat.inj e0
      rw [e]
    | _ => unfold rawD at hd; cases hd
  subst ev
  have htm : (ρ.set tw (.m ts (some ta)))[tw]? = some (.m ts (some ta)) := List.getElem?_set_self htw
  obtain ⟨t, ws0, e2, eo, ht0, gt, h2t, r2⟩ := A.own tw ts _ htm
  obtain rfl : ta = t := by
    rcases eo with z | z
    · cases z
    · exact Option.some.inj z
  refine ⟨_, e1, _, e2, he G σ H ts _ hl A fun u d G1 H1 ts1 l1 s1 A1 ru pu => ?_⟩
  have htm1 : (ρ.set tw (.m ts1 (some ta)))[tw]? = some (.m ts1 (some ta)) := List.getElem?_set_self htw
  obtain ⟨t', ws, e3, _, ht0', gt', h2t', r2'⟩ := A1.own tw ts1 _ htm1
  rw [e2] at e3
  cases e3
  have sc : Scr X.K H1 ad ns := hS0.mono A1.ext.h
  refine ⟨ad, ta, ns, ws, ts1, G1, [u], [d], P, rfl, sc, hns, A1.ext.s, gt', h2t', r2', by omega, .cons ru .nil, hPa d pu, fun v d' G2 H2 ws' ts2 x2 g2 t2 r3 l3 rv pv => ?_⟩
  -- the whole heap behind the call
  have hH1 : ∀ b, b ≠ ta → ∀ o, H1 b = some o → H2 b = some o := fun b hb o eb => by
    have := x2.h b o (by rw [hide_ne hb]; exact eb)
    rwa [hide_ne hb] at this
  have sep : ∀ (m : Nat) (ys : List D) (o : Option Addr) (pp : Addr), m ≠ tw → (ρ.set tw (.m ts1 (some ta)))[m]? = some (.m ys o) → σ[m]? = some (some (.ref pp)) → pp ≠ ta := fun m ys o pp hm em es z => A1.sep m tw ta ys ts1 _ _ hm em htm1 (by rw [es, z]) e2
  have A2 : AtG G0 H0 G2 (ρ.set tw (.m ts2 (some ta))) σ H2 := by
    have back : ∀ {m : Nat} {ys : List D} {o : Option Addr}, m ≠ tw → (ρ.set tw (Cell.m ts2 (some ta)))[m]? = some (Cell.m ys o) → (ρ.set tw (.m ts1 (some ta)))[m]? = some (.m ys o) := fun {m ys o} hm em => by
      rw [List.getElem?_set_ne (Ne.symm hm)] at em ⊢
      exact em
    have wmv : ∀ {c : Cell} {m : Nat} {W : Wc}, (∀ W', c ≠ .w W') → (ρ.set tw c)[m]? = some (.w W) → (ρ.set tw (.m ts1 (some ta)))[m]? = some (.w W) := fun {c m W} hc e => by
      obtain ⟨n, e⟩ := cells_setW e hc
      rw [List.getElem?_set_ne n]
      exact e
    refine ⟨⟨A1.ext.g.trans x2.g, fun b o eb => ?_, x2.s.trans (hide_same H2 ta), fun pp o hp hmu hg => ?_⟩, ?_, fun m ys o em => ?_, fun m m' pp ys zs o o' hmm em em' s1' s2' => ?_, ?_⟩
    rotate_left 5
    · obtain ⟨F, w⟩ := A1.wo
      refine ⟨F, fun m W e => ?_, fun m m' W W' n f1 f2 => w.ww m m' W W' n (wmv (c := Cell.m ts2 (some ta)) (fun _ z => nomatch z) f1) (wmv (c := Cell.m ts2 (some ta)) (fun _ z => nomatch z) f2), fun m m' W zs oo q f1 f2 s => ?_⟩
      · have e' := wmv (c := Cell.m ts2 (some ta)) (fun _ z => nomatch z) e
        obtain ⟨v, g1, g2, g3⟩ := w.own m W e'
        exact ⟨v, g1, W.mono x2.g g2, fun y hy => by
          obtain ⟨a1, a2, a3, a4⟩ := g3 y hy
          have ny := w.wm m tw W ts1 _ ta e' htm1 e2 y hy
          exact ⟨a1, x2.f _ _ (by rw [hide_ne ny]; exact a3) a4 a2, hH1 _ ny _ a3, a4⟩⟩
      · have f1' := wmv (c := Cell.m ts2 (some ta)) (fun _ z => nomatch z) f1
        by_cases hm' : m' = tw
        · subst hm'
          rw [e2] at s
          cases s
          exact w.wm m m' W ts1 _ ta f1' htm1 e2
        · exact w.wm m m' W zs oo q f1' (back hm' f2) s
    · have nb : b ≠ ta := ne_of_none eb ht0
      exact hH1 b nb o (A1.ext.h _ _ eb)
    · have g1 := A1.ext.f pp o hp hmu hg
      have nb : pp ≠ ta := ne_of_none hp ht0
      exact x2.f pp o (by rw [hide_ne nb]; exact A1.ext.h _ _ hp) hmu g1
    · have z := A1.sl.mono x2.g
      show Sl G2 σ (List.map Cell.pur _)
      rw [List.map_set]
      have z' : Sl G2 σ (List.map Cell.pur (ρ.set tw (.m ts1 (some ta)))) := z
      rw [List.map_set] at z'
      exact z'
    · by_cases hmt : m = tw
      · subst hmt
        rw [List.getElem?_set_self htw] at em
        have eys : Cell.m ts2 (some ta) = Cell.m ys o := Option.some.inj em
        injection eys with q1 q2
        subst q1 q2
        exact ⟨ta, ws', e2, .inr rfl, ht0, g2, t2, r3⟩
      · obtain ⟨pp, vs, f1, fo, f2, f3, f4, f5⟩ := A1.own m ys o (back hmt em)
        have np : pp ≠ ta := sep m ys o pp hmt (back hmt em) f1
        exact ⟨pp, vs, f1, fo, f2, x2.f pp (.lst vs) (by rw [hide_ne np]; exact f4) True.intro f3, hH1 pp np _ f4, f5.mono x2.g⟩
    · by_cases h1 : m = tw
      · by_cases h2 : m' = tw
        · exact hmm (h1.trans h2.symm)
        · subst h1
          rw [e2] at s1'
          cases s1'
          exact sep m' zs o' ta h2 (back h2 em') s2' rfl
      · by_cases h2 : m' = tw
        · subst h2
          rw [e2] at s2'
          cases s2'
          exact sep m ys o ta h1 (back h1 em) s1' rfl
        · exact A1.sep m m' pp ys zs o o' hmm (back h1 em) (back h2 em') s1' s2'
  exact q v d' G2 H2 ts2 (by omega) (s1.trans x2.g) A2 rv pv
end
end Hr
/-! Statements that draw; what the built-ins' names are. -/
namespace Hr
open PySem PySem.Spec PyProof.Rows L2

/-- the built-ins' names are the module's own nowhere -/
structure Bi (mg : Str → Option Value) : Prop where
  len : mg "len" = none
  sum : mg "sum" = none
  tuple : mg "tuple" = none
  sorted : mg "sorted" = none
  range : mg "range" = none
  min : mg "min" = none
  max : mg "max" = none
  all : mg "all" = none
  isinstance : mg "isinstance" = none
  int : mg "int" = none
  bool : mg "bool" = none
  str : mg "str" = none
  list : mg "list" = none
  zip : mg "zip" = none
  enumerate : mg "enumerate" = none
  set : mg "set" = none
theorem raw_is {G : Hp} {v : V} {a : Addr} (r : Rp G v (rawD a)) : v = .ref a := by
  generalize hd : rawD a = dd at r
  cases r with
  | raw a' =>
    have e0 : ((a : Nat) : Int) = ((a' : Nat) : Int) := by simpa [rawD] using hd
    have e : a = a' := Int.ofNat.inj e0
    rw [e]
  | _ => unfold rawD at hd; cases hd
/-- a def of the text, known by its name -/
def Df (K : PySem.W.Frag) (mg : Str → Option Value) (x : Str) (st : Stmt) : Prop := ∃ (f : Addr) (fd : FuncData), Fun K x x st f fd ∧ mg x = some (.ref f)
theorem df_mk {K : PySem.W.Frag} {h : Heap} {mg : Str → Option Value} {x : Str} {st : Stmt} {f : Addr} {oc : Value} {od an : Option Addr} {osl : Array (Option Value)} {kV doc pm cdv ct : Value} (X : K.In h) (G : h.Ns mainGlobals mg)
    (a : PySem.W.nsIn K mainGlobals x = some (some (.ref f))) (l : K.lookup f = some ⟨oc, od, .func (PySem.W.fnOf x x (defArgs st) (defBody st) (defScope st) .none kV doc pm an cdv ct), osl⟩)
    (c : PySem.W.codeIn K cdv x = true) (k : PySem.W.keepIn K (.ref f) = true) : Df K mg x st := ⟨f, _, fun_mk l c k, PySem.W.mg_of X G a⟩
section
variable {P : Program} {w : World} {K : PySem.W.Frag} {mg : Str → Option Value} {base : Heap}
/-- from a def of the text and its proof: it is known -/
theorem Df.kn {x : Str} {st : Stmt} {ps : List Str} {k : Nat} {sp : Sp} (d : Df K mg x st) (h : ∀ (f : Addr) (fd : FuncData), Fun K x x st f fd → FnOk P w K mg base (L2N.CX P w) k f fd ps sp)
    (hb : ∀ (kV doc pm : Value) (an : Option Addr) (cdv ct : Value) (us : List Value), us.length = ps.length → bindArgs (PySem.W.fnOf x x (defArgs st) (defBody st) (defScope st) .none kV doc pm an cdv ct) ⟨us, []⟩ = pure (ps.zip us)) : Kn P w K mg base x k sp := by
  obtain ⟨f, fd, F, hm⟩ := d
  exact ⟨f, fd, ps, h f fd F, hm, F.kp, F.binds hb⟩
end
section
variable {X : Cx} {G0 H0 Gm : Hp} {ρ : Cells} {E : Ends} {st : Stmt} {rest body orelse : List Stmt} {e a b c : Expr} {d : D} {ds : List D} {i tw n cc : Nat} {pos pos' p1 p2 pt : Pos} {x y : Str} {P : D → Prop} {ts : List D} {ta : Addr}
/-! x = e, e draws -/
theorem tr_setE (i : Nat) (hN : X.N.Nodup) (hi : X.N[i]? = some x) (hx : Loc X.env.scope x) (he : De X G0 H0 e ρ tw ta n cc P) (hm : ρ[tw]? = some (.m ts (some ta))) (hn : ts.length ≤ n)
    (k : ∀ d ts', P d → ts'.length ≤ n + cc → Nx G0 H0 Gm ((ρ.set tw (.m ts' (some ta))).set i (.d d)) E.nx) (hs : swapsWith e (some (.Name x pos')) pos.line X.env = pure false := by rfl)
    (hf : X.fn x = true ∨ X.env.scope.names.lookup x = some .local := by first | exact .inl rfl | exact .inr rfl | assumption) : Tr X G0 H0 (.Assign [.Name x pos'] e pos) Gm ρ E := fun G σ H s A =>
  ws_of (ps_set hN hi hx pe_w hs hf) (he G σ H ts _ hn (by rw [set_self hm]; exact A) fun v d G' H' ts' l s' A' r p => k d ts' p l G' _ H' (s.trans s') (A'.setD r))
/-! return e, e draws -/
theorem tr_retE (he : De X G0 H0 e ρ tw ta n cc P) (hm : ρ[tw]? = some (.m ts (some ta))) (hn : ts.length ≤ n)
    (k : ∀ v d G' H' σ' ts', ts'.length ≤ n + cc → AtG G0 H0 G' (ρ.set tw (.m ts' (some ta))) σ' H' → Rp G' v d → P d → E.rt v H') : Tr X G0 H0 (.Return (some e) pos) Gm ρ E := fun G σ H s A =>
  ws_of (ps_ret pe_w) (he G σ H ts _ hn (by rw [set_self hm]; exact A) fun v d G' H' ts' l s' A' r p => k v d G' H' σ ts' l A' r p)
theorem tr_retA (he : Dv X e (purE ρ) d) (k : ∀ v G' H' σ', AtG G0 H0 G' ρ σ' H' → Rp G' v d → E.rt v H') : Tr X G0 H0 (.Return (some e) pos) Gm ρ E := fun G σ H s A =>
  ws_of (ps_ret pe_w) (he σ G H _ A.sl A.ext.s fun v G' H' x r => k v G' H' σ (A.step x) r)
/-! a, b = e1, e2: e1 draws, e2 a new list -/
theorem tr_parEM {k1 k2 : Nat} {px py pt2 : Pos} (i j : Nat) (hc : X.calm = true) (hN : X.N.Nodup) (hi : X.N[i]? = some x) (hj : X.N[j]? = some y) (hij : i ≠ j) (hx : X.env.scope.names.lookup x = some .local) (hy : X.env.scope.names.lookup y = some .local)
    (ha : De X G0 H0 a ρ tw ta n cc P) (hb : Dl X b (purE (ρ.set tw .un)) ds) (hm : ρ[tw]? = some (.m ts (some ta))) (hn : ts.length ≤ n)
    (k : ∀ d ts', P d → ts'.length ≤ n + cc → Nx G0 H0 Gm (((ρ.set tw (.m ts' (some ta))).set i (.d d)).set j (.m ds none)) E.nx)
    (hw : swappedStores [.Tuple [.Name x px, .Name y py] k1 pt] (.Tuple [a, b] k2 pt2) X.env = pure (some [x, y]) := by rfl) (hs : swapsWithSole [.Tuple [.Name x px, .Name y py] k1 pt] (.Tuple [a, b] k2 pt2) pos.line X.env = pure false := by rfl)
    (hs1 : starEach [a, b] X.env = (false, eval a X.env) :: starEach [b] X.env := by rfl) (hs2 : starEach [b] X.env = (false, eval b X.env) :: starEach [] X.env := by rfl) :
    Tr X G0 H0 (.Assign [.Tuple [.Name x px, .Name y py] k1 pt] (.Tuple [a, b] k2 pt2) pos) Gm ρ E := fun G σ H s A =>
  ws_of (ps_par hc hN hi hj hij hx hy (pa_cons pe_w (pa_cons pe_w pa_nil hs2) hs1) hw hs) (ha G σ H ts _ hn (by rw [set_self hm]; exact A) fun v d G1 H1 ts1 l1 s1 A1 r1 p1 => by
    have S1 : Sl G1 σ (purE (ρ.set tw .un)) := by
      have z := A1.sl
      rw [show purE (ρ.set tw (.m ts1 (some ta))) = purE (ρ.set tw .un) by show List.map _ _ = List.map _ _; rw [List.map_set, List.map_set]; rfl] at z
      exact z
    exact hb σ G1 H1 _ S1 A1.ext.s fun p vs G2 H2 x2 hp gp h2 r2 => ⟨v, .ref p, rfl, k d ts1 p1 l1 G2 _ H2 (s.trans (s1.trans x2.g)) ((A1.setD r1).setM (H1 := H1) x2 hp gp h2 r2)⟩)
/-! an if whose test is false -/
theorem tr_ifF {k : Bool} (hc : Dt X c (visE ρ) k) (hk : k = false) (h2 : TrB X G0 H0 orelse Gm ρ E) : Tr X G0 H0 (.If c body orelse pos) Gm ρ E := tr_if hc (fun h => by rw [hk] at h; cases h) fun _ => h2
theorem tr_ifT {k : Bool} (hc : Dt X c (visE ρ) k) (hk : k = true) (h1 : TrB X G0 H0 body Gm ρ E) : Tr X G0 H0 (.If c body orelse pos) Gm ρ E := tr_if hc (fun _ => h1) fun h => by rw [hk] at h; cases h
end
/-- a def that draws keeps its promise: parameters script, town, .. -/
theorem fn_town {P : Program} {w : World} {K : PySem.W.Frag} {mg : Str → Option Value} {base : Heap} {x qual : Str} {st : Stmt} {f : Addr} {fd : FuncData} {N ps : List Str} {k c : Nat} {S : List D → (D → Prop) → Prop} (F : Fun K x qual st f fd) (sc : FnScope N ps (defScope st)) (hl : ∀ ds P, S ds P → ds.length + 2 = ps.length)
    (hb : ∀ (cdv : Value) (A : Around) (outer : List PySem.Env) (s : Shared) (Hs : Hp) (Ex : XK), Room k (A.deeper (envOfC qual (defScope st) s.heap.objs.size f cdv)) → ∀ (ad t : Addr) (ns : List Int) (ts ds : List D) (Pd : D → Prop) (G H0 : Hp) (E : Ends), S ds Pd → Scr K H0 ad ns → ns.length ≤ 1000 → ts.length + c ≤ 100000 →
      (∀ (v : V) (d : D) (G' H' : Hp) (σ' : L2.St) (i : Nat) (ρ' : Cells) (ts' : List D), AtG G H0 G' ρ' σ' H' → ρ'[i]? = some (.m ts' (some t)) → ts'.length ≤ ts.length + c → Rp G' v d → Pd d → E.rt v H') →
      TrB (cxOf (L2N.CX P w) P w K mg base N qual (defScope st) f cdv A outer s Hs Ex).nox G H0 (defBody st) G (.d (rawD ad) :: .m ts (some t) :: (ds.map Cell.d ++ List.replicate (N.length - (ds.length + 2)) .un)) E) :
    FnOk P w K mg base (L2N.CX P w) (k + 1) f fd ps (spTown K c S) := by
  refine F.okN sc (fun vs H Q E h => ?_) (fun cdv A outer s H vs Q E hr h => ?_)
  · obtain ⟨a, t, ns, ws, tw, G, us, ds, Pd, rfl, _, _, _, _, _, _, _, r, hS, _⟩ := h
    have := hl ds Pd hS
    rw [List.length_cons, List.length_cons, r.length]
    exact this
  · obtain ⟨a, t, ns, ws, tw, G, us, ds, Pd, rfl, hS, hns, sg, gt, ht, rw', hc, r, hP, q⟩ := h
    have sh : Same G (hide H t) := fun b o e => by
      rw [hide_ne (ne_of_none e gt)]
      exact sg _ _ e
    refine ⟨_, PSs.nox pb_w, ?_⟩
    refine hb cdv A outer s H E hr a t ns tw ds Pd G (hide H t) { nx := fun _ H' => Q .non H', rt := Q } hP (hS.hide ht) hns hc (fun v d G' H' σ' i ρ' ts' A' e l r' p => ?_) G (L2.start N (.ref a :: .ref t :: us)) H (Same.refl G) ?_
    · obtain ⟨t', ws', e1, eo, h0, g', h', rr⟩ := A'.own i ts' _ e
      obtain rfl : t = t' := by
        rcases eo with z | z
        · cases z
        · exact Option.some.inj z
      refine q v d G' H' ws' ts' ⟨A'.ext.g, fun b o eb => ?_, fun b o eb => ?_, fun pp o hp hm hg => A'.ext.f pp o hp hm hg⟩ g' h' rr l r' p
      · rw [hide_ne (ne_of_none eb h0)]
        exact A'.ext.h _ _ eb
      · rw [hide_ne (ne_of_none eb g')]
        exact A'.ext.s _ _ eb
    · have eS : L2.start N (.ref a :: .ref t :: us) = some (.ref a) :: some (.ref t) :: (us.map some ++ List.replicate (N.length - (us.length + 2)) none) := by
        unfold L2.start
        rw [List.map_cons, List.map_cons, List.cons_append, List.cons_append, List.length_cons, List.length_cons]
      rw [eS]
      have tailS : Sl G (us.map some ++ List.replicate (N.length - (us.length + 2)) none) (purE (ds.map Cell.d ++ List.replicate (N.length - (ds.length + 2)) Cell.un)) := by
        refine ⟨by simp [r.length], fun i d e => ?_⟩
        rw [List.getElem?_map] at e
        by_cases h : i < ds.length
        · rw [List.getElem?_append_left (by simpa using h), List.getElem?_map] at e
          cases e1 : ds[i]? with
          | none => rw [e1] at e; cases e
          | some d' =>
            rw [e1] at e
            have e2 : some d' = some d := Option.some.inj e
            cases e2
            obtain ⟨v, e3, r3⟩ := r.get e1
            refine ⟨v, ?_, r3⟩
            rw [List.getElem?_append_left (by rw [List.length_map, r.length]; exact h), List.getElem?_map, e3]
            rfl
        · rw [List.getElem?_append_right (by simpa using h), List.getElem?_replicate] at e
          split at e <;> cases e
      have noM : ∀ {i : Nat} {xs : List D} {o : Option Addr}, (Cell.d (rawD a) :: Cell.m tw (some t) :: (ds.map Cell.d ++ List.replicate (N.length - (ds.length + 2)) Cell.un))[i]? = some (.m xs o) → i = 1 ∧ xs = tw ∧ o = some t := fun {i xs o} e => by
        match i, e with
        | 0, e => cases e
        | 1, e =>
          have e' : Cell.m tw (some t) = Cell.m xs o := Option.some.inj e
          injection e' with q1 q2
          exact ⟨rfl, q1.symm, q2.symm⟩
        | i + 2, e =>
          have m := List.mem_of_getElem? (show (ds.map Cell.d ++ List.replicate (N.length - (ds.length + 2)) Cell.un)[i]? = some (.m xs o) from e)
          rcases List.mem_append.mp m with z | z
          · obtain ⟨d, _, e⟩ := List.mem_map.mp z
            cases e
          · have := (List.mem_replicate.mp z).2
            cases this
      refine ⟨⟨Same.refl G, hide_same H t, sg, fun _ _ _ _ g => g⟩, ⟨by simp [r.length], fun i d e => ?_⟩, fun i xs o e => ?_, fun i j p xs ys o o' hij e1 e2 _ _ => ?_, WOk.none fun i W e => ?_⟩
      rotate_left 3
      · match i, e with
        | 0, e => cases e
        | 1, e => cases e
        | i + 2, e =>
          have m := List.mem_of_getElem? (show (ds.map Cell.d ++ List.replicate (N.length - (ds.length + 2)) Cell.un)[i]? = some (.w W) from e)
          rcases List.mem_append.mp m with z | z
          · obtain ⟨d, _, e⟩ := List.mem_map.mp z
            cases e
          · have := (List.mem_replicate.mp z).2
            cases this
      · match i, e with
        | 0, e =>
          have e' : some (rawD a) = some d := Option.some.inj e
          cases e'
          exact ⟨_, rfl, .raw a⟩
        | 1, e => cases e
        | i + 2, e => exact tailS.2 i d e
      · obtain ⟨rfl, rfl, rfl⟩ := noM e
        exact ⟨t, ws, rfl, .inr rfl, hide_at H t, gt, ht, rw'⟩
      · obtain ⟨rfl, _⟩ := noM e1
        obtain ⟨rfl, _⟩ := noM e2
        exact hij rfl
end Hr
/-! More rules; the states. -/
namespace Hr
open PySem PySem.Spec PyProof.Rows L2

/-! ### targets in short -/
theorem pgn {X : Cx} {x : Str} {pos : Pos} (i : Nat) (hN : X.N.Nodup) (hi : X.N[i]? = some x := by rfl) (hx : Loc X.env.scope x := by first | exact Or.inl rfl | exact Or.inr rfl) (hf : X.fn x = true ∨ X.env.scope.names.lookup x = some .local := by first | exact .inl rfl | exact .inr rfl) : PG X (.Name x pos) (gName i) := pg_name hN hi hx hf
theorem pgp {X : Cx} {x y : Str} {k : Nat} {px py pos : Pos} (i j : Nat) (hc : X.calm = true) (hN : X.N.Nodup) (hi : X.N[i]? = some x := by rfl) (hj : X.N[j]? = some y := by rfl) (hx : Loc X.env.scope x := by first | exact Or.inl rfl | exact Or.inr rfl) (hy : Loc X.env.scope y := by first | exact Or.inl rfl | exact Or.inr rfl)
    (hf : X.fn x = true ∨ X.env.scope.names.lookup x = some .local := by first | exact .inl rfl | exact .inr rfl) (hg : X.fn y = true ∨ X.env.scope.names.lookup y = some .local := by first | exact .inl rfl | exact .inr rfl)
    (hs : (assignEach [.Name x px, .Name y py] X.env).map (·.2) = assign (.Name x px) X.env :: (assignEach [.Name y py] X.env).map (·.2) := by rfl) (hs2 : (assignEach [.Name y py] X.env).map (·.2) = assign (.Name y py) X.env :: (assignEach [] X.env).map (·.2) := by rfl)
    (hn : (assignEach [.Name x px, .Name y py] X.env).length = 2 := by rfl) (hst : (assignEach [.Name x px, .Name y py] X.env).findIdx? (·.1) = none := by rfl) : PG X (.Tuple [.Name x px, .Name y py] k pos) (gPair X.K i j) :=
  pg_tup hc (pgs_cons (pg_name hN hi hx hf) (pgs_cons (pg_name hN hj hy hg) pgs_nil hs2) hs) hn hst

section
variable {X : Cx} {G0 H0 Gm : Hp} {ρ : Cells} {E : Ends} {st : Stmt} {rest body orelse : List Stmt} {e a b c : Expr} {d : D} {ds xs : List D} {i tw n cc : Nat} {pos pos' p1 p2 pt : Pos} {x y : Str}
/-- xs.append(e) where e reads our lists and is flat -/
theorem tr_appV {oi : Option Addr} (i : Nat) (hb : PE X (.Call (.Attribute (.Name x p1) "append" p2) [e] [] pos) (tBM X.K "list" rAppend (tVar i) (tCons (wE X e) tNil))) (hm : ρ[i]? = some (.m xs oi)) (he : Dv X e (visE ρ) d) (fd : flatD d = true) (hz : xs.length < sizeLine) (k : Nx G0 H0 Gm (ρ.set i (.m (xs ++ [d]) oi)) E.nx)
    (hs : swapsWith (.Call (.Attribute (.Name x p1) "append" p2) [e] [] pos) none pos'.line X.env = pure false := by rfl) : Tr X G0 H0 (.Expr (.Call (.Attribute (.Name x p1) "append" p2) [e] [] pos) pos') Gm ρ E := fun G σ H s A => by
  obtain ⟨p, vs, e1, h1, r1⟩ := at_own A hm
  refine ws_of (ps_expr hb hs) ⟨_, e1, .inl ⟨rfl, _, SqL.of h1⟩, he σ H H _ A.slV (Same.refl H) fun v G' H' x r => ?_⟩
  obtain ⟨G2, x2, r2⟩ := ext_flat A.ext.s x r fd
  have B := A.step x2
  exact ⟨p, vs, v, rfl, rfl, x.h _ _ h1, by rw [r1.length]; exact hz, k G2 σ _ (s.trans x2.g) (B.mut hm e1 ((r1.mono x2.g).app (.cons r2 .nil)))⟩
/-! xs[i] += m -/
def rGetL (K : PySem.W.Frag) : V → V → Hp → VK → Prop := fun o i H Q => ∃ p xs k j v, o = .ref p ∧ i = .int k ∧ SqL K H p xs ∧ 0 ≤ k ∧ k = (j : Nat) ∧ xs[j]? = some v ∧ Q v H
theorem get_list : PGet X (rGetL X.K) := by
  intro pins s σ H o i ov iv Q I ro ri h
  obtain ⟨p, xs, k, j, v, rfl, rfl, hq, h0, rfl, hv, q⟩ := h
  cases ro
  obtain ⟨t, rfl⟩ := ri
  obtain ⟨its, r, pl, hz⟩ := I.list hq
  obtain ⟨w, ew, rw'⟩ := r.get hv
  have hl := r.length
  have hn := line63
  have hj : j < its.length := (List.getElem?_eq_some_iff.mp ew).1
  exact wpAny_getItem_list pl.isList h0 (by omega) (by simpa using ew) ⟨v, H, I, rw', q⟩
theorem tr_augIx {oi : Option Addr} {j : Nat} {ns : List Int} {m z : Int} (i : Nat) (hi : X.N[i]? = some x) (hv : Vis X.env.scope x) (hm : ρ[i]? = some (.m (ns.map PyData.int) oi)) (ha : Dv X a (purE ρ) (.int (j : Nat))) (hz : ns[j]? = some z) (he : Dv X e (purE ρ) (.int m))
    (k : Nx G0 H0 Gm (ρ.set i (.m ((ns.set j (z + m)).map PyData.int) oi)) E.nx) (hd : (x == ("__debug__" : Str)) = false := by decide) (hcd : (x == ("__classdict__" : Str)) = false := by decide)
    (hau : ∀ ov iv new, augStore a ov iv new = (do holding [new, ov, iv] (setItem ov iv new); release [new, ov, iv] []; pure .next) := by intros; rfl) : Tr X G0 H0 (.AugAssign (.Subscript (.Name x p1) a p2) .Add e pos) Gm ρ E := fun G σ H s A => by
  obtain ⟨p, vs, e1, h1, r1⟩ := at_own A hm
  have ev := r1.ints
  subst ev
  refine ws_of (ps_augS (pe_var hi hv hd hcd) pe_w get_list pe_w ip_add set_list hau) ⟨_, e1, ha σ G H _ A.sl A.ext.s fun v G1 H1 x1 q1 => ?_⟩
  cases q1
  have hj : j < ns.length := (List.getElem?_eq_some_iff.mp hz).1
  refine ⟨p, _, _, j, .int z, rfl, rfl, SqL.of (x1.h _ _ h1), by omega, rfl, by rw [List.getElem?_map, hz]; rfl, he σ G1 H1 _ (A.sl.mono x1.g) x1.s fun w G2 H2 x2 q2 => ?_⟩
  cases q2
  refine ⟨z, m, rfl, rfl, p, _, _, j, rfl, rfl, x2.h _ _ (x1.h _ _ h1), ?_, ?_⟩
  · unfold ixN
    rw [if_pos (by omega), if_pos (by rw [List.length_map]; omega)]
    simp
  · have B := (A.step x1).step x2
    rw [← List.map_set]
    exact k G2 σ _ (s.trans (x1.g.trans x2.g)) (B.mut hm e1 (rpa_ints _))
end

/-! ### slices and places -/
theorem cutD_to {α : Type} (xs : List α) (n : Nat) : cutD xs none (some (n : Int)) = xs.take n := by
  unfold cutD
  rw [HT.sIx_none, HT.sIx_nat, List.drop_zero, Nat.sub_zero]
  by_cases h : n ≤ xs.length
  · rw [Nat.min_eq_left h]
  · rw [Nat.min_eq_right (by omega), List.take_length, List.take_of_length_le (by omega)]
theorem cutD_from {α : Type} (xs : List α) (n : Nat) : cutD xs (some (n : Int)) none = xs.drop n := by
  unfold cutD
  rw [HT.sIx_none, HT.sIx_nat]
  by_cases h : n ≤ xs.length
  · rw [Nat.min_eq_left h, List.take_of_length_le (by rw [List.length_drop]; exact Nat.le_refl _)]
  · rw [Nat.min_eq_right (by omega), Nat.sub_self, List.drop_eq_nil_of_le (show xs.length ≤ n by omega)]
    simp
theorem cutD_all {α : Type} (xs : List α) : cutD xs none none = xs := by
  unfold cutD
  rw [HT.sIx_none, HT.sIx_none, List.drop_zero, Nat.sub_zero, List.take_length]
theorem at_head {α : Type} {x : α} {xs : List α} : atI (x :: xs) 0 = some x := atI_nat (j := 0) rfl
theorem at_emb {α : Type} {emb : α → D} {xs : List α} {i : Int} {x : α} (h : atI xs i = some x) : atI (xs.map emb) i = some (emb x) := by
  unfold atI at h ⊢
  rw [List.length_map]
  cases e : ixN xs.length i with
  | none => rw [e] at h; cases h
  | some j =>
    rw [e] at h
    have h' : xs[j]? = some x := h
    show (xs.map emb)[j]? = some (emb x)
    rw [List.getElem?_map, h'] <;> rfl
theorem at_last {α : Type} {xs : List α} {x : α} (h : xs.getLast? = some x) : atI xs (-1) = some x := by
  obtain ⟨ys, rfl⟩ : ∃ ys, xs = ys ++ [x] := List.getLast?_eq_some_iff.mp h
  exact atI_last ys x

/-! ### the mirrors -/
def isIntB (lo hi : Int) : D → Bool
  | .int i => decide (lo ≤ i) && decide (i ≤ hi)
  | _ => false
def intV : D → Int
  | .int i => i
  | _ => 0
def descB (xs : List Int) : Bool := ((xs.zip (xs.drop 1)).map fun p => decide (p.2 ≤ p.1)).all _root_.id
/-- a state -/
def stB (xs : List Int) : Bool := (!xs.isEmpty && (xs.map fun x => decide (1 ≤ x) && decide (x ≤ 20)).all _root_.id) && (decide (xs.sum ≤ 20) && descB xs)
def isStB : D → Bool
  | .tuple ds => (!ds.isEmpty && (ds.map (isIntB 1 20)).all _root_.id) && (decide ((ds.map intV).sum ≤ 20) && descB (ds.map intV))
  | _ => false
theorem map_int (xs : List Int) : (xs.map PyData.int).map intV = xs := by
  rw [List.map_map]
  exact List.map_id' xs
theorem isStB_tI (xs : List Int) : isStB (tI xs) = stB xs := by
  show ((!(xs.map PyData.int).isEmpty && ((xs.map PyData.int).map (isIntB 1 20)).all _root_.id) && (decide (((xs.map PyData.int).map intV).sum ≤ 20) && descB ((xs.map PyData.int).map intV))) = stB xs
  rw [map_int, List.map_map, List.isEmpty_map]
  rfl
theorem ints_of_all : ∀ {ds : List D}, (ds.map (isIntB 1 20)).all _root_.id = true → ds = (ds.map intV).map PyData.int
  | [], _ => rfl
  | d :: ds, h => by
    rw [List.map_cons, List.all_cons, Bool.and_eq_true] at h
    obtain ⟨h1, h2⟩ := h
    have ih := ints_of_all h2
    cases d with
    | int i =>
      show PyData.int i :: ds = PyData.int i :: (ds.map intV).map PyData.int
      rw [← ih]
    | _ => cases h1
def tidyI (xs : List Int) : List Int := (sortI (xs.filter (fun h => decide (0 < h)))).reverse
def stepI (xs : List Int) : List Int := tidyI (xs.map (fun h => h - 1) ++ [(xs.length : Int)])
def headI (xs : List Int) : Int := xs.headD 0
def turnI (xs : List Int) : List Int := (rangeI 0 (headI xs)).map fun i => (((xs.filter fun h => decide (i < h)).length : Nat) : Int)
def gatherI (xs : List Int) : List Int :=
  tidyI (((xs.drop 1).take (headI xs).toNat).map (fun h => h + 1) ++ (xs.drop 1).drop (headI xs).toNat ++ List.replicate (max (headI xs - ((xs.drop 1).length : Nat)) 0).toNat 1)
def itS : Nat → List Int → List Int
  | 0, xs => xs
  | n + 1, xs => stepI (itS n xs)
def pathI (xs : List Int) (n : Nat) : List (List Int) := (List.range (n + 1)).map fun i => itS i xs
theorem pathI_succ (xs : List Int) (n : Nat) : pathI xs (n + 1) = pathI xs n ++ [stepI (itS n xs)] := by
  unfold pathI
  rw [List.range_succ (n := n + 1), List.map_append]
  rfl
theorem pathI_last (xs : List Int) (n : Nat) : (pathI xs n).getLast? = some (itS n xs) := by
  unfold pathI
  rw [List.range_succ, List.map_append, List.map_singleton, List.getLast?_append]
  rfl
theorem pathI_len (xs : List Int) (n : Nat) : (pathI xs n).length = n + 1 := by
  unfold pathI
  rw [List.length_map, List.length_range]
theorem stB_ne {xs : List Int} (h : stB xs = true) : xs ≠ [] := by
  intro e
  subst e
  cases h
theorem stB_all {xs : List Int} (h : stB xs = true) : ∀ x ∈ xs, 1 ≤ x ∧ x ≤ 20 := by
  unfold stB at h
  simp only [Bool.and_eq_true] at h
  intro x hx
  have h2 := h.1.2
  rw [List.all_eq_true] at h2
  have := h2 (decide (1 ≤ x) && decide (x ≤ 20)) (List.mem_map.mpr ⟨x, hx, rfl⟩)
  simpa using this
theorem sum_ge_len : ∀ {xs : List Int}, (∀ x ∈ xs, (1 : Int) ≤ x) → (xs.length : Int) ≤ xs.sum
  | [], _ => by simp
  | x :: xs, h => by
    have ih := sum_ge_len (xs := xs) fun y hy => h y (List.mem_cons_of_mem _ hy)
    have h1 := h x List.mem_cons_self
    rw [List.length_cons, List.sum_cons]
    omega
theorem stB_sum {xs : List Int} (h : stB xs = true) : xs.sum ≤ 20 := by
  unfold stB at h
  simp only [Bool.and_eq_true, decide_eq_true_eq] at h
  exact h.2.1
theorem stB_len {xs : List Int} (h : stB xs = true) : xs.length ≤ 20 := by
  have h1 := sum_ge_len fun x hx => (stB_all h x hx).1
  have h2 := stB_sum h
  omega
theorem stB_head {xs : List Int} (h : stB xs = true) : ∃ r, xs = headI xs :: r ∧ 1 ≤ headI xs ∧ headI xs ≤ 20 := by
  cases xs with
  | nil => cases h
  | cons x r => exact ⟨r, rfl, stB_all h x List.mem_cons_self⟩
/-- sizes in short -/
theorem sz {n : Nat} (h : n ≤ 1000000) : n ≤ sizeLine := Nat.le_trans h (by decide)
theorem szl {n : Nat} (h : n < 1000000) : n < sizeLine := Nat.lt_of_lt_of_le h (by decide)
theorem flat_tI (xs : List Int) : flatD (tI xs) = true := by
  show flatA (xs.map PyData.int) = true
  induction xs with
  | nil => simp [flatA]
  | cons x xs ih => simp [flatA, flatD, ih]

/-! ### a tidy row of heaps is a state -/
theorem descB_cons (x y : Int) (r : List Int) : descB (x :: y :: r) = (decide (y ≤ x) && descB (y :: r)) := rfl
theorem descB_of : ∀ {ys : List Int}, ys.Pairwise (fun a b => b ≤ a) → descB ys = true
  | [], _ => rfl
  | [x], _ => rfl
  | x :: y :: r, h => by
    have h' := List.pairwise_cons.mp h
    rw [descB_cons, Bool.and_eq_true]
    exact ⟨decide_eq_true (h'.1 y List.mem_cons_self), descB_of h'.2⟩
theorem desc_of : ∀ {ys : List Int}, descB ys = true → ys.Pairwise (fun a b => b ≤ a)
  | [], _ => List.Pairwise.nil
  | [x], _ => List.pairwise_singleton _ _
  | x :: y :: r, h => by
    rw [descB_cons, Bool.and_eq_true] at h
    have ih := desc_of h.2
    have h1 := of_decide_eq_true h.1
    refine List.pairwise_cons.mpr ⟨fun z hz => ?_, ih⟩
    rcases List.mem_cons.mp hz with rfl | hz
    · exact h1
    · exact Int.le_trans ((List.pairwise_cons.mp ih).1 z hz) h1
theorem sum_perm {xs ys : List Int} (h : xs.Perm ys) : xs.sum = ys.sum := by
  induction h with
  | nil => rfl
  | cons x _ ih => rw [List.sum_cons, List.sum_cons, ih]
  | swap x y l => rw [List.sum_cons, List.sum_cons, List.sum_cons, List.sum_cons]; omega
  | trans _ _ h1 h2 => exact h1.trans h2
theorem tidy_perm (xs : List Int) : (tidyI xs).Perm (xs.filter fun h => decide (0 < h)) := (List.reverse_perm _).trans (sortI_perm _)
theorem tidy_desc (xs : List Int) : (tidyI xs).Pairwise (fun a b => b ≤ a) := List.pairwise_reverse.mpr (sortI_sorted _)
theorem filter_pos {xs : List Int} (h : ∀ x ∈ xs, (1 : Int) ≤ x) : (xs.filter fun h => decide (0 < h)) = xs := List.filter_eq_self.mpr fun x hx => decide_eq_true (by have := h x hx; omega)
theorem le_sum : ∀ {xs : List Int}, (∀ x ∈ xs, (1 : Int) ≤ x) → ∀ x ∈ xs, x ≤ xs.sum
  | [], _, x, hx => by cases hx
  | y :: xs, h, x, hx => by
    have hs : (0 : Int) ≤ xs.sum := by
      have := sum_ge_len (xs := xs) fun z hz => h z (List.mem_cons_of_mem _ hz)
      omega
    have hy := h y List.mem_cons_self
    rw [List.sum_cons]
    rcases List.mem_cons.mp hx with rfl | hx
    · omega
    · have := le_sum (xs := xs) (fun z hz => h z (List.mem_cons_of_mem _ hz)) x hx
      omega
theorem stB_mk {xs : List Int} (h0 : xs ≠ []) (h1 : ∀ x ∈ xs, (1 : Int) ≤ x) (h2 : xs.sum ≤ 20) (h3 : xs.Pairwise (fun a b => b ≤ a)) : stB xs = true := by
  unfold stB
  rw [Bool.and_eq_true, Bool.and_eq_true, Bool.and_eq_true]
  refine ⟨⟨?_, ?_⟩, decide_eq_true h2, descB_of h3⟩
  · cases xs with
    | nil => exact absurd rfl h0
    | cons x r => rfl
  · rw [List.all_eq_true]
    intro b hb
    obtain ⟨x, hx, rfl⟩ := List.mem_map.mp hb
    have a1 := h1 x hx
    have a2 := le_sum h1 x hx
    show (decide (1 ≤ x) && decide (x ≤ 20)) = true
    rw [decide_eq_true a1, decide_eq_true (by omega : x ≤ 20)]
    rfl
theorem tidy_st {xs : List Int} (h0 : xs ≠ []) (h1 : ∀ x ∈ xs, (1 : Int) ≤ x) (h2 : xs.sum ≤ 20) : stB (tidyI xs) = true ∧ (tidyI xs).sum = xs.sum := by
  have p := tidy_perm xs
  rw [filter_pos h1] at p
  have e := sum_perm p
  exact ⟨stB_mk (fun z => h0 (List.length_eq_zero_iff.mp (by rw [← p.length_eq, z]; rfl))) (fun x hx => h1 x (p.mem_iff.mp hx)) (by rw [e]; exact h2) (tidy_desc xs), e⟩
theorem sum_filter0 : ∀ {xs : List Int}, (∀ x ∈ xs, (0 : Int) ≤ x) → (xs.filter fun h => decide (0 < h)).sum = xs.sum
  | [], _ => rfl
  | x :: xs, h => by
    have ih := sum_filter0 (xs := xs) fun z hz => h z (List.mem_cons_of_mem _ hz)
    have hx := h x List.mem_cons_self
    rw [List.filter_cons]
    by_cases h0 : 0 < x
    · rw [if_pos (decide_eq_true h0), List.sum_cons, List.sum_cons, ih]
    · rw [if_neg (by simpa using h0), List.sum_cons, ih]; omega
theorem tidy_st0 {xs : List Int} (h0 : ∃ x ∈ xs, (1 : Int) ≤ x) (h1 : ∀ x ∈ xs, (0 : Int) ≤ x) (h2 : xs.sum ≤ 20) : stB (tidyI xs) = true ∧ (tidyI xs).sum = xs.sum := by
  have p := tidy_perm xs
  have e : (tidyI xs).sum = xs.sum := (sum_perm p).trans (sum_filter0 h1)
  obtain ⟨y, hy, hy1⟩ := h0
  have hm : y ∈ tidyI xs := p.mem_iff.mpr (List.mem_filter.mpr ⟨hy, decide_eq_true (by omega)⟩)
  refine ⟨stB_mk (fun z => by rw [z] at hm; cases hm) (fun x hx => ?_) (by rw [e]; exact h2) (tidy_desc xs), e⟩
  have := (List.mem_filter.mp (p.mem_iff.mp hx)).2
  have := of_decide_eq_true this
  omega
theorem sum_map_sub : ∀ xs : List Int, (xs.map fun h => h - 1).sum = xs.sum - (xs.length : Int)
  | [] => rfl
  | x :: xs => by
    rw [List.map_cons, List.sum_cons, List.sum_cons, sum_map_sub xs, List.length_cons]
    omega
theorem step_st {xs : List Int} (h : stB xs = true) : stB (stepI xs) = true ∧ (stepI xs).sum = xs.sum := by
  have hl : 1 ≤ xs.length := by
    obtain ⟨r, e, _⟩ := stB_head h
    rw [e]; simp
  have hs : (xs.map (fun h => h - 1) ++ [(xs.length : Int)]).sum = xs.sum := by
    rw [List.sum_append, sum_map_sub, List.sum_singleton]; omega
  have z := tidy_st0 (xs := xs.map (fun h => h - 1) ++ [(xs.length : Int)]) ⟨(xs.length : Int), by simp, by omega⟩ (fun x hx => by
    rcases List.mem_append.mp hx with hx | hx
    · obtain ⟨y, hy, rfl⟩ := List.mem_map.mp hx
      have := (stB_all h y hy).1
      omega
    · rw [List.mem_singleton.mp hx]; omega) (by rw [hs]; exact stB_sum h)
  exact ⟨z.1, by show (tidyI _).sum = _; rw [z.2, hs]⟩
theorem it_st {xs : List Int} (h : stB xs = true) : ∀ n, stB (itS n xs) = true ∧ (itS n xs).sum = xs.sum
  | 0 => ⟨h, rfl⟩
  | n + 1 => by
    have ih := it_st h n
    have z := step_st ih.1
    exact ⟨z.1, by show (stepI _).sum = _; rw [z.2, ih.2]⟩
/-! ### what the defs promise -/
def S_is_integer (ds : List D) (d : D) : Prop := ∃ v lo hi, ds = [v, .int lo, .int hi] ∧ SeqAt.shaped v = true ∧ d = .bool (isIntB lo hi v)
def shortT : D → Bool
  | .tuple es => decide (es.length ≤ 1000000)
  | _ => true
def S_is_state (ds : List D) (d : D) : Prop := ∃ v, ds = [v] ∧ SeqAt.shaped v = true ∧ shortT v = true ∧ d = .bool (isStB v)
theorem shaped_mem {es : List D} (hv : SeqAt.shaped (.tuple es) = true) : ∀ x ∈ es, SeqAt.shaped x = true := fun x hx => by
  have h1 := SeqAt.canLay_of_shaped hv
  have h2 := SeqAt.depth_of_shaped hv
  have h1' : PyData.canLayAll0 es = true := by simpa [PyData.canLay0] using h1
  have h2' : PyData.depthAll es + 1 ≤ 64 := by simpa [PyData.depth] using h2
  clear h1 h2 hv
  induction es with
  | nil => cases hx
  | cons y ys ih =>
    have c : y.canLay0 = true ∧ PyData.canLayAll0 ys = true := by simpa [PyData.canLayAll0] using h1'
    have dd : max y.depth (PyData.depthAll ys) + 1 ≤ 64 := by simpa [PyData.depthAll] using h2'
    rcases List.mem_cons.mp hx with rfl | hx
    · exact Sh.shaped (n := 63) ⟨c.1, by omega⟩
    · exact ih hx c.2 (by omega)
theorem eqv_nilT (es : List D) : PyData.eqv (.tuple es) (.tuple []) = es.isEmpty := by
  cases es with
  | nil => simp [PyData.eqv, PyData.eqvAll]
  | cons a b => simp [PyData.eqv, PyData.eqvAll]
theorem zip_desc (ns : List Int) : ((ns.zip (ns.drop 1)).map fun p => PyData.bool (decide (p.2 ≤ p.1))) = (((ns.zip (ns.drop 1)).map fun p => decide (p.2 ≤ p.1)).map PyData.bool) := by rw [List.map_map]; rfl
def S_check_state (ds : List D) (d : D) : Prop := ∃ xs, ds = [tI xs] ∧ stB xs = true ∧ d = .none
def S_tidy (ds : List D) (d : D) : Prop := ∃ xs : List Int, ds = [lI xs] ∧ xs.length ≤ 1000000 ∧ d = tI (tidyI xs)
def S_stepped (ds : List D) (d : D) : Prop := ∃ xs : List Int, ds = [tI xs] ∧ xs.length ≤ 100000 ∧ d = tI (stepI xs)
def S_st (f : List Int → D) (ds : List D) (d : D) : Prop := ∃ xs : List Int, ds = [tI xs] ∧ stB xs = true ∧ d = f xs
def S_path (ds : List D) (d : D) : Prop := ∃ (xs : List Int) (n : Nat), ds = [tI xs, .int (n : Nat)] ∧ stB xs = true ∧ n ≤ 999 ∧ d = lT (pathI xs n)
def S_draw (ds : List D) (P : D → Prop) : Prop := ∃ m : Int, ds = [.int m] ∧ 0 < m ∧ ∀ z, 0 ≤ z → z < m → P (.int z)
def S_some (ds : List D) (P : D → Prop) : Prop := ∃ m : Int, ds = [.int m] ∧ 0 < m ∧ m ≤ 20 ∧ ∀ xs, stB xs = true → xs.sum ≤ m → P (tI xs)
theorem shaped_nd {v : D} (h : SeqAt.shaped v = true) : tyN v ≠ "dict" := by
  cases v with
  | dict k => simp [SeqAt.shaped, PyData.canLay0] at h
  | _ => simp [tyN]
end Hr
/-! The laws: the town, the promise, more of tests; every state by one look. -/
namespace Hr
open PySem PySem.Spec PyProof.Rows L2

section
variable {G0 H0 G H : Hp} {ρ : Cells} {σ : L2.St} {i : Nat} {xs : List D}
/-- a list of our own, by its place -/
theorem AtG.named (A : AtG G0 H0 G ρ σ H) (hi : ρ[i]? = some (.m xs none)) : ∃ p, AtG G0 H0 G (ρ.set i (.m xs (some p))) σ H := by
  obtain ⟨p, vs, e1, eo, e2, e3, e4, r⟩ := A.own i xs none hi
  have hl : i < ρ.length := (List.getElem?_eq_some_iff.mp hi).1
  have back : ∀ {j : Nat} {zs : List D} {o : Option Addr}, (ρ.set i (Cell.m xs (some p)))[j]? = some (Cell.m zs o) → ∃ o', ρ[j]? = some (Cell.m zs o') ∧ (o = o' ∨ (i = j ∧ o = some p)) := fun {j zs o} e => by
    by_cases hj : i = j
    · subst hj
      rw [List.getElem?_set_self hl] at e
      have e' : Cell.m xs (some p) = Cell.m zs o := Option.some.inj e
      injection e' with q1 q2
      subst q1 q2
      exact ⟨none, hi, .inr ⟨rfl, rfl⟩⟩
    · rw [List.getElem?_set_ne hj] at e
      exact ⟨o, e, .inl rfl⟩
  refine ⟨p, ⟨A.ext, ?_, fun j ys o e => ?_, fun j k q ys zs o o' hjk f1 f2 s1 s2 => ?_, ?_⟩⟩
  rotate_left 3
  · obtain ⟨F, w⟩ := A.wo
    refine ⟨F, fun j W e => w.own j W (cells_setW e fun _ z => nomatch z).2, fun j k W W' n f1 f2 => w.ww j k W W' n (cells_setW f1 fun _ z => nomatch z).2 (cells_setW f2 fun _ z => nomatch z).2, fun j k W zs oo q f1 f2 s => ?_⟩
    obtain ⟨o', g1, _⟩ := back f2
    exact w.wm j k W zs o' q (cells_setW f1 fun _ z => nomatch z).2 g1 s
  · have z := A.sl
    show Sl G σ (List.map Cell.pur _)
    rw [List.map_set]
    have e : (List.map Cell.pur ρ)[i]? = some none := by rw [List.getElem?_map, hi] <;> rfl
    show Sl G σ ((List.map Cell.pur ρ).set i none)
    rw [set_self e]
    exact z
  · obtain ⟨o', f1, f2⟩ := back e
    obtain ⟨q, us, g1, go, g2⟩ := A.own j ys o' f1
    rcases f2 with rfl | ⟨rfl, rfl⟩
    · exact ⟨q, us, g1, go, g2⟩
    · rw [e1] at g1
      cases g1
      exact ⟨p, us, e1, .inr rfl, g2⟩
  · obtain ⟨_, b1, _⟩ := back f1
    obtain ⟨_, b2, _⟩ := back f2
    exact A.sep j k q _ _ _ _ hjk b1 b2 s1 s2
end
section
variable {X : Cx} {G0 H0 Gm : Hp} {ρ : Cells} {E : Ends} {e a b : Expr} {es : List Expr} {d : D} {ds : List D} {pos pos' : Pos} {x : Str}
/-- town = [] -/
theorem tr_setT (i : Nat) (hl : i < ρ.length) (hN : X.N.Nodup) (hi : X.N[i]? = some x) (hx : Loc X.env.scope x) (he : Dl X e (purE ρ) ds) (k : ∀ ta, Nx G0 H0 Gm (ρ.set i (.m ds (some ta))) E.nx) (hs : swapsWith e (some (.Name x pos')) pos.line X.env = pure false := by rfl)
    (hf : X.fn x = true ∨ X.env.scope.names.lookup x = some .local := by first | exact .inl rfl | exact .inr rfl | assumption) : Tr X G0 H0 (.Assign [.Name x pos'] e pos) Gm ρ E :=
  tr_setM i hN hi hx he (fun G σ H s A => by
    obtain ⟨p, A'⟩ := A.named (i := i) (List.getElem?_set_self hl)
    rw [List.set_set] at A'
    exact k p G σ H s A') hs hf
/-- f(script, town, e), e draws nothing: the script in slot 0, the town in slot 1 -/
theorem de_townP {S : List D → (D → Prop) → Prop} {ns : List Int} {ad ta : Addr} {f xs xt : Str} {k cf n : Nat} {P : D → Prop} {p p1 p2 : Pos} {x0 x1 : Cell} {r : Cells} (hρ : ρ = x0 :: x1 :: r) (F : Kn X.prog X.w X.K X.mg X.base f k (spTown X.K cf S)) (hr : Room k X.A) (hS0 : Scr X.K H0 ad ns) (hns : ns.length ≤ 1000) (hx0 : x0 = .d (rawD ad))
    (he : Dv X e (purE (ρ.set 1 .un)) d) (hS : S [d] P) (hn : n + cf ≤ 100000) (hg : Gl X f := by rfl) (hjN : X.N[0]? = some xs := by rfl) (hjV : Vis X.env.scope xs := by first | exact Or.inl rfl | exact Or.inr (Or.inl rfl) | exact Or.inr (Or.inr rfl)) (htN : X.N[1]? = some xt := by rfl) (htV : Vis X.env.scope xt := by first | exact Or.inl rfl | exact Or.inr (Or.inl rfl) | exact Or.inr (Or.inr rfl))
    (h1 : (xs == ("__debug__" : Str)) = false := by decide) (h2 : (xs == ("__classdict__" : Str)) = false := by decide) (h3 : (xt == ("__debug__" : Str)) = false := by decide) (h4 : (xt == ("__classdict__" : Str)) = false := by decide) (hdb : (f == ("__debug__" : Str)) = false := by decide)
    (hst1 : starEach [.Name xs p1, .Name xt p2, e] X.env = (false, eval (.Name xs p1) X.env) :: starEach [.Name xt p2, e] X.env := by rfl) (hst2 : starEach [.Name xt p2, e] X.env = (false, eval (.Name xt p2) X.env) :: starEach [e] X.env := by rfl)
    (hst3 : starEach [e] X.env = (false, eval e X.env) :: starEach [] X.env := by rfl) (hpl : (backTo pos (starEach [.Name xt p2, e] X.env)).any (·.1) = false := by rfl) :
    De X G0 H0 (.Call (.Name f p) [.Name xs p1, .Name xt p2, e] [] pos) ρ 1 ta n cf P := by
  subst hρ hx0
  have z := de_town (G0 := G0) (P := P) (tw := 1) (ta := ta) (n := n) (c := 0) (p1 := p1) (p2 := p2) (p := p) (pos := pos) F hr hg hS0 hns (show 0 ≠ 1 by decide) rfl hjN hjV htN htV (by simp) (de_pure he) (by omega) (fun d' e => e ▸ hS) h1 h2 h3 h4 hdb hst1 hst2 hst3 hpl
  exact z.weak (fun _ h => h) (by omega)
/-- x = f(script, town, e) -/
theorem tr_town {S : List D → (D → Prop) → Prop} {ns : List Int} {ad ta : Addr} {f xs xt : Str} {k cf n : Nat} {P : D → Prop} {p p1 p2 : Pos} {ts : List D} {r : Cells} (i : Nat) (F : Kn X.prog X.w X.K X.mg X.base f k (spTown X.K cf S)) (hr : Room k X.A) (hS0 : Scr X.K H0 ad ns) (hns : ns.length ≤ 1000) (hN : X.N.Nodup)
    (he : Dv X e (purE (.d (rawD ad) :: .un :: r)) d) (hS : S [d] P) (hts : ts.length ≤ n) (hn : n + cf ≤ 100000) (kk : ∀ d ts', P d → ts'.length ≤ n + cf → Nx G0 H0 Gm ((.d (rawD ad) :: .m ts' (some ta) :: r).set i (.d d)) E.nx) (hi : X.N[i]? = some x := by rfl) (hx : Loc X.env.scope x := by first | exact .inl rfl | exact .inr rfl)
    (hg : Gl X f := by rfl) (hjN : X.N[0]? = some xs := by rfl) (hjV : Vis X.env.scope xs := by first | exact Or.inl rfl | exact Or.inr (Or.inl rfl) | exact Or.inr (Or.inr rfl)) (htN : X.N[1]? = some xt := by rfl) (htV : Vis X.env.scope xt := by first | exact Or.inl rfl | exact Or.inr (Or.inl rfl) | exact Or.inr (Or.inr rfl))
    (h1 : (xs == ("__debug__" : Str)) = false := by decide) (h2 : (xs == ("__classdict__" : Str)) = false := by decide) (h3 : (xt == ("__debug__" : Str)) = false := by decide) (h4 : (xt == ("__classdict__" : Str)) = false := by decide) (hdb : (f == ("__debug__" : Str)) = false := by decide)
    (hst1 : starEach [.Name xs p1, .Name xt p2, e] X.env = (false, eval (.Name xs p1) X.env) :: starEach [.Name xt p2, e] X.env := by rfl) (hst2 : starEach [.Name xt p2, e] X.env = (false, eval (.Name xt p2) X.env) :: starEach [e] X.env := by rfl)
    (hst3 : starEach [e] X.env = (false, eval e X.env) :: starEach [] X.env := by rfl) (hpl : (backTo pos (starEach [.Name xt p2, e] X.env)).any (·.1) = false := by rfl) {px : Pos} (hs : swapsWith (.Call (.Name f p) [.Name xs p1, .Name xt p2, e] [] pos) (some (.Name x px)) pos'.line X.env = pure false := by rfl)
    (hf : X.fn x = true ∨ X.env.scope.names.lookup x = some .local := by first | exact .inl rfl | exact .inr rfl | assumption) :
    Tr X G0 H0 (.Assign [.Name x px] (.Call (.Name f p) [.Name xs p1, .Name xt p2, e] [] pos) pos') Gm (.d (rawD ad) :: .m ts (some ta) :: r) E :=
  tr_setE (tw := 1) (ta := ta) (n := n) (cc := cf) (P := P) i hN hi hx (de_townP rfl F hr hS0 hns rfl he hS hn hg hjN hjV htN htV h1 h2 h3 h4 hdb hst1 hst2 hst3 hpl) rfl hts (fun d ts' p l => kk d ts' p l) hs hf
/-! two values that are the same -/
theorem dt_neF (hu : X.A.units + 64 < cLine) (ha : Dv X a (visE ρ) d) (hb : Dv X b (visE ρ) d) (sa : SeqAt.shaped d = true) : Dt X (.Compare a [.NotEq] [b] pos) (visE ρ) false :=
  (dt_ne hu ha hb sa sa).to (by rw [PySem.SeqAt.eqv_refl d (SeqAt.canLay_of_shaped sa)]; rfl)
theorem dt_eqT (hu : X.A.units + 64 < cLine) (ha : Dv X a (visE ρ) d) (hb : Dv X b (visE ρ) d) (sa : SeqAt.shaped d = true) : Dt X (.Compare a [.Eq] [b] pos) (visE ρ) true :=
  (dt_eq hu ha hb sa sa).to (PySem.SeqAt.eqv_refl d (SeqAt.canLay_of_shaped sa))
end
section
variable {X : Cx} {ρ : Env} {e a b : Expr} {es : List Expr} {d : D} {pos : Pos}
theorem dv_neF (hu : X.A.units + 64 < cLine) (ha : Dv X a ρ d) (hb : Dv X b ρ d) (sa : SeqAt.shaped d = true) : Dv X (.Compare a [.NotEq] [b] pos) ρ (.bool false) :=
  (dv_ne hu ha hb sa sa).to (by rw [PySem.SeqAt.eqv_refl d (SeqAt.canLay_of_shaped sa)]; rfl)
theorem dv_eqT (hu : X.A.units + 64 < cLine) (ha : Dv X a ρ d) (hb : Dv X b ρ d) (sa : SeqAt.shaped d = true) : Dv X (.Compare a [.Eq] [b] pos) ρ (.bool true) :=
  (dv_eq hu ha hb sa sa).to (by rw [PySem.SeqAt.eqv_refl d (SeqAt.canLay_of_shaped sa)])
/-- a or b, both false -/
theorem dw_orF (h : Dt X a ρ false) (h2 : Dw X (.BoolOp .Or (b :: es) pos) ρ false) : Dw X (.BoolOp .Or (a :: b :: es) pos) ρ false := dw_or h fun _ => h2
theorem dv_andT (h : Dv X a ρ (.bool true)) (h2 : Dv X (.BoolOp .And (b :: es) pos) ρ (.bool true)) : Dv X (.BoolOp .And (a :: b :: es) pos) ρ (.bool true) := dv_and h fun _ => h2
end
section
variable {X : Cx} {G0 H0 Gm : Hp} {ρ : Cells} {E : Ends} {c : Expr} {body rest : List Stmt} {pos : Pos}
/-- if c: return False, where c is false; then the rest -/
theorem tb_no (hc : Dt X c (visE ρ) false) (h2 : TrB X G0 H0 rest Gm ρ E) : TrB X G0 H0 (.If c body [] pos :: rest) Gm ρ E := tb_cons (tr_ifF hc rfl (tb_nil h2))
end
section
variable {X : Cx} {ρ : Env} {e : Expr} {p pos : Pos} {x : Str} {k : Nat} {g : List Int → D} {ys : List Int}
/-- f(state) -/
theorem dv_st (F : Kn X.prog X.w X.K X.mg X.base x k (spP (S_st g))) (hr : Room k X.A) (he : Dv X e ρ (tI ys)) (h : stB ys = true) {d : D} (q : g ys = d := by rfl) (hg : Gl X x := by rfl) (hdb : (x == ("__debug__" : Str)) = false := by decide) (hst : starEach [e] X.env = (false, eval e X.env) :: starEach [] X.env := by rfl) : Dv X (.Call (.Name x p) [e] [] pos) ρ d :=
  q ▸ dv_call F hr hg (da1 he hst) ⟨ys, rfl, h, rfl⟩ hdb hst
end
/-! ### the law's promise -/
def spLaw (K : PySem.W.Frag) : Sp := fun vs H Q _ => ∃ (a : Addr) (ns : List Int), vs = [.ref a] ∧ Scr K H a ns ∧ ns.length ≤ 1000 ∧ ∀ H', Q (.bl true) H'
theorem fn_law {P : Program} {w : World} {K : PySem.W.Frag} {mg : Str → Option Value} {base : Heap} {st : Stmt} {f : Addr} {fd : FuncData} {N : List Str} {k : Nat} (F : Fun K "law" "law" st f fd) (sc : FnScope N ["_law_script"] (defScope st))
    (hb : ∀ (cdv : Value) (A : Around) (outer : List PySem.Env) (s : Shared) (Hs : Hp) (Ex : XK), Room k (A.deeper (envOfC "law" (defScope st) s.heap.objs.size f cdv)) → ∀ (ad : Addr) (ns : List Int) (G H0 : Hp) (E : Ends), Scr K H0 ad ns → ns.length ≤ 1000 →
      (∀ (v : V) (G' H' : Hp), Ext G H0 G' H' → Rp G' v (.bool true) → E.rt v H') →
      TrB (cxOf (L2N.CX P w) P w K mg base N "law" (defScope st) f cdv A outer s Hs Ex).nox G H0 (defBody st) G (argC N [rawD ad]) E) : FnOk P w K mg base (L2N.CX P w) (k + 1) f fd ["_law_script"] (spLaw K) := by
  refine F.okN sc (fun vs H Q E h => ?_) (fun cdv A outer s H vs Q E hr h => ?_)
  · obtain ⟨a, ns, rfl, _⟩ := h
    rfl
  · obtain ⟨a, ns, rfl, hS, hns, q⟩ := h
    refine ⟨_, PSs.nox pb_w, ?_⟩
    exact hb cdv A outer s H E hr a ns (fun _ => none) H { nx := fun _ H' => Q .non H', rt := Q } hS hns (fun v G' H' x r => by cases r; exact q H') (fun _ => none) (L2.start N [.ref a]) H (Same.refl _)
      (argC_at (fun _ _ e => by cases e) (.cons (.raw a) .nil))

end Hr
/-! Rules that the hand layer lacks: enumerate of a tuple. -/
namespace Hr
open PySem PySem.Spec PyProof.Rows L2 PyProof
open Sem (wp)
open AutoSeq1 (wpAny_loadPart')

/-! ### enumerate(tuple) -/
theorem enum_newT (l : Addr) (items : Array Value) (n : Nat) (dct : Option Addr) (sl : Array (Option Value)) :
    Meets (Builtin.«enumerate.__new__» ⟨[.type "enumerate", .ref l], []⟩) (fun _ R s => s.heap.get? l = some { cls := .type "tuple", dict := dct, data := .seq items n, slots := sl } ∧
      R (.ok (.ret (.ref (s.heap.push { cls := .type "tuple_iterator", data := .fields #[.ref l, .int 0 0] }).objs.size)))
        { s with heap := (s.heap.push { cls := .type "tuple_iterator", data := .fields #[.ref l, .int 0 0] }).push { cls := .type "enumerate", data := .fields #[.none, .bool false, .ref s.heap.objs.size, rawInt 0, .none, .none] } }) :=
  .of_wp fun prog w A R s h => by
    obtain ⟨hp, g, d, tk, os⟩ := s
    obtain ⟨hl, h⟩ := h
    have hsub := sub_enumerate
    have hL : Heap.IsTuple (Shared.heap ⟨hp, g, d, tk, os⟩) l items := ⟨_, hl, rfl, n, rfl⟩
    wp_walk using wpAny_loadPart' hl
    refine wpAny_stack_any fun st => wpAny_pure ?_
    split
    · rename_i c _ _ _ _ _
      cases (c == Value.type "enumerate")
      · wp_walk using wpAny_loadPart' hl, wpAny_pyIter_tuple hL
        exact ⟨_, rfl, h⟩
      · wp_walk using wpAny_loadPart' hl, wpAny_pyIter_tuple hL
        exact ⟨_, rfl, h⟩
    · wp_walk using wpAny_loadPart' hl, wpAny_pyIter_tuple hL
      exact ⟨_, rfl, h⟩
theorem call_enumT {prog : Program} {w : World} {A : Around} {E : Value → Shared → Prop} {s : Shared} {l : Addr} {items : Array Value} {Q : Value → Shared → Prop} (hL : s.heap.IsTuple l items)
    (h : ∀ h', IsEnum h' (s.heap.objs.size + 1) s.heap.objs.size 0 .none → h'.IsTupleIter s.heap.objs.size l 0 → h'.objs.size = s.heap.objs.size + 2 →
      (∀ b o, s.heap.get? b = some o → h'.get? b = some o) → Q (.ref (s.heap.objs.size + 1)) { s with heap := h' }) :
    wpAny (model prog w) A (call (.type "enumerate") [.ref l]) Q E s := by
  obtain ⟨⟨c, dct, dt, sl⟩, hl, hc, n, hd⟩ := hL
  replace hc : c = .type "tuple" := hc
  replace hd : dt = .seq items n := hd
  subst hc hd
  refine callType_new F.called_enumerate (by decide) (F.typeCall_enumerate_1 _) (F.newCall_enumerate_1 _) (fun obj => F.args_object_init_2 obj _) F.entry_enumerate_new
    (enum_newT l items n dct sl) ⟨hl, ?_⟩
  have hz : (s.heap.push { cls := .type "tuple_iterator", data := .fields #[.ref l, .int 0 0] }).objs.size = s.heap.objs.size + 1 := Heap.size_push ..
  show _ ∧ _
  rw [hz]
  have he : IsEnum ((s.heap.push { cls := .type "tuple_iterator", data := .fields #[.ref l, .int 0 0] }).push
      { cls := .type "enumerate", data := .fields #[.none, .bool false, .ref s.heap.objs.size, rawInt 0, .none, .none] }) (s.heap.objs.size + 1) s.heap.objs.size 0 .none := by
    have := Heap.get?_push_size (s.heap.push { cls := .type "tuple_iterator", data := .fields #[.ref l, .int 0 0] })
      (o := { cls := .type "enumerate", data := .fields #[.none, .bool false, .ref s.heap.objs.size, rawInt 0, .none, .none] }) rfl
    rw [hz] at this; exact this
  refine ⟨⟨_, he, rfl⟩, h _ he ⟨_, Heap.get?_push_of_some _ (Heap.get?_push_size _ rfl), rfl, rfl⟩ (by rw [Heap.size_push, hz]) fun b o x => Heap.get?_push_of_some _ (Heap.get?_push_of_some _ x)⟩
def IteT (K : PySem.W.Frag) (a : Addr) : It :=
  ⟨fun i H => ∃ (xs : List V) (x : V), SqT K H a xs ∧ xs[i]? = some x, fun i H v H' => ∃ T x, v = .ref T ∧ H T = none ∧ H' = upd H T (.tup [.int (i : Nat), x]) ∧ ∀ xs, SqT K H a xs → xs[i]? = some x, fun i H => ∃ xs : List V, SqT K H a xs ∧ xs.length = i⟩
theorem turn_enumT {P : Program} {w : World} {K : PySem.W.Frag} {elts : List Expr} {kk : Nat} {tpos : Pos} (a e it : Addr) :
    Turn P w K (.Tuple elts kk tpos) (IteT K a) [e, it] e (fun i h => (∃ old, IsEnum h e it ((i : Nat) : Int) old) ∧ h.IsTupleIter it a i ∧ e ≠ it) where
  mem := by simp
  obj := fun i h st b hb => by
    obtain ⟨⟨old, he⟩, ⟨o, ho, hc, hd⟩, _⟩ := st
    have e' : b = e ∨ b = it := by simpa using hb
    rcases e' with z | z
    · rw [z]; exact ⟨_, he, fun v q => nomatch q⟩
    · rw [z]; exact ⟨o, ho, fun v q => by rw [hd] at q; cases q⟩
  keep := fun i h h' st k => let ⟨⟨old, he⟩, hi, hne⟩ := st; ⟨⟨old, k e (by simp) _ he⟩, hi.at fun o q => k it (by simp) o q, hne⟩
  item := by
    intro X hP hw hK hc i pins s σ H E I hf st hg
    subst hP hw hK
    obtain ⟨⟨old, he⟩, hit, hne⟩ := st
    obtain ⟨xs, x, hq, hx⟩ := hg
    obtain ⟨its, rv, p, hz⟩ := I.tuple hq
    obtain ⟨u, hu, ru⟩ := rv.get hx
    have hel : e < s.heap.objs.size := Heap.lt_size he
    have hil : it < s.heap.objs.size := by obtain ⟨_, q, _⟩ := hit; exact Heap.lt_size q
    have hT : s.heap.IsTuple a its.toArray := p
    have nea : a ≠ e := fun z => by
      obtain ⟨o, ho, hc, _⟩ := hT
      rw [z, he] at ho
      cases ho
      exact absurd (Value.type.inj hc) (by decide)
    have nai : a ≠ it := fun z => by
      obtain ⟨o, ho, hc, _⟩ := hT
      obtain ⟨o2, ho2, hc2, _⟩ := hit
      rw [z, ho2] at ho
      cases ho
      rw [hc2] at hc
      exact absurd (Value.type.inj hc) (by decide)
    have hlt : i < its.toArray.size := by
      have := (List.getElem?_eq_some_iff.mp hu).1
      simpa using this
    refine wpAny_pyNext_enum_itemD (Draws.tuple (show (X.A.in1).handled = none from I.ok.hd hc) it a nai its.toArray) he ⟨hit, hT⟩ hlt hne (by simp [hne, Ne.symm nea]) fun x' h' tk hx' ho hst hT1 hsz hk => ?_
    obtain ⟨hit', _⟩ := hst
    obtain rfl : u = x' := by
      have hx2 : its.toArray[i]? = some x' := hx'
      have : its[i]? = some x' := by simpa using hx2
      exact Option.some.inj (hu.symm.trans this)
    refine ⟨_, rfl, wpAny_letOwnedTupleGo_enum (s := { s with heap := h', toks := tk + 1 }) ho fun h'' he' sb => ?_⟩
    have hT2 : h''.get? s.heap.objs.size = some { cls := .type "tuple", data := .seq #[.int i tk, u] } := (sb.2 _ (Nat.ne_of_gt hel)).trans hT1
    have new : ObjOk X.prog X.w (upd H s.heap.objs.size (.tup [.int (i : Nat), x])) h'' s.heap.objs.size (.tup [.int (i : Nat), x]) :=
      ⟨by show 2 ≤ sizeLine; decide, [.int i tk, u], .cons ⟨_, rfl⟩ (.cons ru .nil), ⟨_, hT2, rfl, _, rfl⟩⟩
    have I1 : Inv X pins σ (upd H s.heap.objs.size (.tup [.int (i : Nat), x])) { s with heap := h'', toks := tk + 1 } :=
      I.turnedNew (ch := [e, it]) (fun b ob hb q => (sb.2 b (fun z => hb (by simp [z]))).trans (hk b ob (fun z => hb (by simp [z])) (fun z => hb (by simp [z])) q)) hf (Nat.le_refl _) new
    refine ⟨.ref s.heap.objs.size, _, I1, rfl, ⟨_, x, rfl, I.hok.fresh (Nat.le_refl _), rfl, fun ys hy => by rw [I.tuple_inj hy hq]; exact hx⟩, ⟨⟨u, ?_⟩, hit'.at fun o q => (sb.2 it (Ne.symm hne)).trans q, hne⟩, fun b hb => ?_⟩
    · have e1 : ((i + 1 : Nat) : Int) = (i : Int) + 1 := by omega
      rw [e1]; exact he'
    · have hb' : b < s.heap.objs.size := by
        have e' : b = e ∨ b = it := by simpa using hb
        rcases e' with z | z
        · rw [z]; exact hel
        · rw [z]; exact hil
      rw [upd_ne (Nat.ne_of_lt hb')]
      exact (hf b hb).1
  done := by
    intro X hP hw hK hc i pins s σ H E I hf st hg
    subst hP hw hK
    obtain ⟨⟨old, he⟩, hit, hne⟩ := st
    obtain ⟨xs, hq, hx⟩ := hg
    obtain ⟨its, rv, p, hz⟩ := I.tuple hq
    obtain ⟨f0, f1, f2, f3, f4, f5⟩ := hf it (by simp)
    have hl := rv.length
    have hT : s.heap.IsTuple a its.toArray := p
    have nai : a ≠ it := fun z => by
      obtain ⟨o, ho, hc, _⟩ := hT
      obtain ⟨o2, ho2, hc2, _⟩ := hit
      rw [z, ho2] at ho
      cases ho
      rw [hc2] at hc
      exact absurd (Value.type.inj hc) (by decide)
    have es : its.toArray.size = i := by rw [List.size_toArray, ← hl, hx]
    exact wpAny_pyNext_enum_endD (Draws.tuple (show (X.A.in1).handled = none from I.ok.hd hc) it a nai its.toArray) he ⟨by rw [es]; exact hit, hT⟩ fun h' eb => ⟨rfl, I.turned (t' := s.toks) (fun b o hb q => eb b o hb q) f0 f1 f3 f4 f5⟩
  self := fun A i s Q E st h => let ⟨⟨_, he⟩, _⟩ := st; wpAny_pyIter_enum he h
def iEnumT (K : PySem.W.Frag) (ta : TA) : TI := fun σ H R => ta σ H fun vs H1 => ∃ a xs, vs = [.ref a] ∧ SqT K H1 a xs ∧ R (IteT K a) H1
theorem pi_enumT {X : Cx} {e : Expr} {ta : TA} {p pos tpos : Pos} {elts : List Expr} {kk : Nat} (hg : Gl X "enumerate") (hm : X.mg "enumerate" = none) (ha : PA X [e] ta) (hs : starEach [e] X.env = [(false, eval e X.env)] := by rfl) :
    PI X (.Tuple elts kk tpos) (.Call (.Name "enumerate" p) [e] [] pos) (iEnumT X.K ta) := by
  refine ⟨fun pins s σ H R I h => ?_⟩
  refine Call_ (ld_blt I hg hm boot_enumerate (PyProof.Rows.callWith_type1 (thn (ha.run pos pins s σ H _ I h) fun us s1 ⟨vs, H1, I1, r1, q1⟩ => ?_) hs rfl))
  obtain ⟨a, xs, ex, hq, q⟩ := q1
  subst ex
  cases r1 with
  | cons r rr =>
    cases rr
    cases r
    obtain ⟨its, rv, p', hz⟩ := I1.tuple hq
    refine call_enumT p' fun h' he hit hsz hk => wpAny_pyIter_enum he ?_
    have I2 : Inv X pins σ H1 { s1 with heap := h' } := I1.kept (t' := s1.toks) hk
    refine ⟨s1.heap.objs.size + 1, [s1.heap.objs.size + 1, s1.heap.objs.size], _, _, H1, rfl, I2, turn_enumT a (s1.heap.objs.size + 1) s1.heap.objs.size, ⟨⟨.none, he⟩, hit, Nat.succ_ne_self _⟩, fun b hb => ?_, q⟩
    have e' : b = s1.heap.objs.size + 1 ∨ b = s1.heap.objs.size := by simpa using hb
    have hle : s1.heap.objs.size ≤ b := by
      rcases e' with z | z
      · rw [z]; exact Nat.le_add_right _ _
      · rw [z]; exact Nat.le_refl _
    exact I1.fpOk hle (I1.hok.fresh hle)
section
variable {α : Type} {X : Cx} {ρ : Env} {a tg : Expr} {p pos : Pos} {ds : List D} {zs : List α} {emb : α → D}
theorem wk_enumT {j k : Nat} {elts : List Expr} {kk : Nat} {tpos : Pos} (hg : Gl X "enumerate") (hm : X.mg "enumerate" = none) (h : Dv X a ρ (.tuple ds)) (hs : starEach [a] X.env = [(false, eval a X.env)] := by rfl) :
    Wk X (.Tuple elts kk tpos) (.Call (.Name "enumerate" p) [a] [] pos) ρ (gPair X.K j k) ds.length [j, k] (fun i => [(j, .int i), (k, itD ds i)]) := by
  refine ⟨_, pi_enumT hg hm pa_w hs, fun σ G H R S s q => da1 h hs σ G H _ S s fun ws G1 H1 x1 r1 => ?_⟩
  obtain ⟨v, rfl, rv⟩ := r1.one
  cases rv with
  | tup e ra =>
    rename_i p1 vs
    refine ⟨_, vs, rfl, SqT.of (x1.s _ _ e), q _ G1 H1 x1 fun G' H' s1 s2 => ⟨⟨vs, SqT.of (s2 _ _ (s1 _ _ e)), by rw [ra.length]⟩, fun i hi => ?_⟩⟩
    obtain ⟨u, hu, ru⟩ := ra.get (itD_get hi)
    refine ⟨⟨vs, u, SqT.of (s2 _ _ (s1 _ _ e)), hu⟩, fun x H'' y => ?_⟩
    obtain ⟨T, x', rfl, hT, rfl, y⟩ := y
    have ex : u = x' := Option.some.inj (hu.symm.trans (y vs (SqT.of (s2 _ _ (s1 _ _ e)))))
    subst ex
    exact ⟨_, Ext.own s2 hT, fun σ' ρ' Q' S' kq => gPair_run upd_same (kq _ Off.two ((S'.set (.int _)).set (ru.mono s1)))⟩
theorem wt_enumT {j k : Nat} {elts : List Expr} {kk : Nat} {tpos : Pos} (hg : Gl X "enumerate") (hm : X.mg "enumerate" = none) (h : Dv X a ρ (.tuple (zs.map emb))) (hs : starEach [a] X.env = [(false, eval a X.env)] := by rfl) :
    Wt X (.Tuple elts kk tpos) (.Call (.Name "enumerate" p) [a] [] pos) ρ (gPair X.K j k) [j, k] zs.zipIdx (fun x => [(j, .int (x.2 : Nat)), (k, emb x.1)]) :=
  ⟨_, by have z := wk_enumT (j := j) (k := k) (elts := elts) (kk := kk) (tpos := tpos) (p := p) (pos := pos) hg hm h hs; rwa [show (zs.map emb).length = zs.zipIdx.length by simp] at z, fun i x e => by
    obtain ⟨e1, e2⟩ := zipIdx_get e
    show _ = [(j, PyData.int (x.2 : Nat)), (k, emb x.1)]
    rw [itD_map e1, e2]⟩
end
end Hr
/-! sorted of a list of tuples of ints, any number of them, any lengths. -/
namespace Hr
open PySem PySem.Spec PyProof.Rows L2 PyProof

/-! ### the order of rows of ints -/
def lexI : List Int → List Int → Bool
  | [], [] => false
  | [], _ :: _ => true
  | _ :: _, [] => false
  | x :: xs, y :: ys => if x = y then lexI xs ys else decide (x < y)
theorem lexI_asym : ∀ xs ys : List Int, lexI xs ys = true → lexI ys xs = false
  | [], [], h => by cases h
  | [], _ :: _, _ => rfl
  | _ :: _, [], h => by cases h
  | x :: xs, y :: ys, h => by
    unfold lexI at h ⊢
    by_cases e : x = y
    · rw [if_pos e] at h
      rw [if_pos e.symm]
      exact lexI_asym xs ys h
    · rw [if_neg e] at h
      rw [if_neg (Ne.symm e)]
      have := of_decide_eq_true h
      exact decide_eq_false (by omega)
theorem lexI_tr : ∀ xs ys zs : List Int, lexI ys xs = false → lexI zs ys = false → lexI zs xs = false
  | [], [], [], _, _ => rfl
  | [], [], _ :: _, _, h => rfl
  | [], _ :: _, [], h, h2 => by cases h2
  | [], _ :: _, _ :: _, _, _ => rfl
  | _ :: _, [], _, h, _ => by cases h
  | _ :: _, _ :: _, [], _, h => by cases h
  | x :: xs, y :: ys, z :: zs, h1, h2 => by
    unfold lexI at h1 h2 ⊢
    by_cases e : y = x
    · rw [if_pos e] at h1
      subst e
      by_cases e2 : z = y
      · rw [if_pos e2] at h2 ⊢
        exact lexI_tr xs ys zs h1 h2
      · rw [if_neg e2] at h2 ⊢
        exact h2
    · rw [if_neg e] at h1
      have a := of_decide_eq_false h1
      by_cases e2 : z = y
      · rw [if_neg (by omega)]
        exact decide_eq_false (by omega)
      · rw [if_neg e2] at h2
        have b := of_decide_eq_false h2
        rw [if_neg (by omega)]
        exact decide_eq_false (by omega)
theorem lexI_eq : ∀ xs ys : List Int, lexI xs ys = false → lexI ys xs = false → xs = ys
  | [], [], _, _ => rfl
  | [], _ :: _, h, _ => by cases h
  | _ :: _, [], _, h => by cases h
  | x :: xs, y :: ys, h1, h2 => by
    unfold lexI at h1 h2
    by_cases e : x = y
    · subst e
      rw [if_pos rfl] at h1 h2
      rw [lexI_eq xs ys h1 h2]
    · rw [if_neg e] at h1
      rw [if_neg (Ne.symm e)] at h2
      have a := of_decide_eq_false h1
      have b := of_decide_eq_false h2
      omega
def leI (xs ys : List Int) : Prop := lexI ys xs = false
def insT (x : List Int) : List (List Int) → List (List Int)
  | [] => [x]
  | y :: r => if lexI y x then y :: insT x r else x :: y :: r
def sortT : List (List Int) → List (List Int)
  | [] => []
  | x :: r => insT x (sortT r)
theorem insT_perm (x : List Int) : ∀ l, (insT x l).Perm (x :: l)
  | [] => List.Perm.refl _
  | y :: r => by
    unfold insT
    by_cases h : lexI y x = true
    · rw [if_pos h]
      exact ((insT_perm x r).cons y).trans (List.Perm.swap x y r)
    · rw [if_neg h]
theorem sortT_perm : ∀ l, (sortT l).Perm l
  | [] => List.Perm.refl _
  | x :: r => (insT_perm x _).trans ((sortT_perm r).cons x)
theorem insT_sorted (x : List Int) : ∀ {l}, l.Pairwise leI → (insT x l).Pairwise leI
  | [], _ => List.pairwise_singleton _ _
  | y :: r, h => by
    have h' := List.pairwise_cons.mp h
    unfold insT
    by_cases c : lexI y x = true
    · rw [if_pos c]
      refine List.pairwise_cons.mpr ⟨fun z hz => ?_, insT_sorted x h'.2⟩
      rcases List.mem_cons.mp ((insT_perm x r).mem_iff.mp hz) with rfl | hz
      · exact lexI_asym _ _ c
      · exact h'.1 z hz
    · rw [if_neg c]
      have c' : lexI y x = false := by simpa using c
      refine List.pairwise_cons.mpr ⟨fun z hz => ?_, h⟩
      rcases List.mem_cons.mp hz with rfl | hz
      · exact c'
      · exact lexI_tr _ _ _ c' (h'.1 z hz)
theorem sortT_sorted : ∀ l, (sortT l).Pairwise leI
  | [] => List.Pairwise.nil
  | x :: r => insT_sorted x (sortT_sorted r)
theorem sortT_uniq {l m : List (List Int)} (h : l.Perm m) (h1 : l.Pairwise leI) (h2 : m.Pairwise leI) : l = m := List.Perm.eq_of_pairwise (fun a b _ _ h1 h2 => lexI_eq _ _ h2 h1) h1 h2 h
theorem sortT_eq {l m : List (List Int)} (h : l.Perm m) (h1 : l.Pairwise leI) : l = sortT m := sortT_uniq (h.trans (sortT_perm m).symm) h1 (sortT_sorted m)

/-! ### tuples of ints on the heap -/
section
variable {prog : Program} {w : World} {A : Around} {E : Value → Shared → Prop} {s : Shared}
def IsIT (h : Heap) (v : Value) (ks : List Int) : Prop := ∃ a o items n, v = .ref a ∧ h.get? a = some o ∧ o.cls = .type "tuple" ∧ o.data = .seq items n ∧ IntsAre items.toList ks
theorem IsIT.keeps {h h' : Heap} {v : Value} {ks : List Int} (p : IsIT h v ks) (k : ∀ b o, h.get? b = some o → o.cls = .type "tuple" → h'.get? b = some o) : IsIT h' v ks := by
  obtain ⟨a, o, items, n, e, ho, hc, hd, hi⟩ := p
  exact ⟨a, o, items, n, e, k _ _ ho hc, hc, hd, hi⟩
theorem kat_ints {Q : Bool → Shared → Prop} {fin : Bool} : ∀ (xs ys : List Int) (i : Nat) (vs ws : List Value), IntsAre vs xs → IntsAre ws ys → fin = decide (xs.length < ys.length) → Q (lexI xs ys) s → PySem.W.KatLex prog w A true fin Q (vs.zip ws) i s
  | [], [], i, _, _, ra, rb, hf, hq => by
    cases ra
    cases rb
    have e : fin = false := by rw [hf]; rfl
    subst e
    exact PySem.W.kat_nil hq
  | [], y :: ys, i, _, _, ra, rb, hf, hq => by
    cases ra
    have e : fin = true := by rw [hf]; exact decide_eq_true (Nat.succ_pos _)
    subst e
    rw [List.zip_nil_left]
    exact PySem.W.kat_nil hq
  | x :: xs, [], i, _, _, ra, rb, hf, hq => by
    cases rb
    have e : fin = false := by rw [hf]; exact decide_eq_false (Nat.not_lt_zero _)
    subst e
    rw [List.zip_nil_right]
    exact PySem.W.kat_nil hq
  | x :: xs, y :: ys, i, _, _, ra, rb, hf, hq => by
    cases ra with
    | cons _ t ra =>
      cases rb with
      | cons _ u rb =>
        rw [List.zip_cons_cons]
        refine PySem.W.kat_cons (SeqAt.EqAt.int_int x t y u prog w _ _ ?_)
        refine PySem.W.kat_go (fun e1 => ?_) (fun e1 => ?_)
        · have ex : x = y := by simpa using e1
          refine PySem.W.kat_yes (kat_ints xs ys (i + 1) _ _ ra rb (by rw [hf]; simp) ?_)
          unfold lexI at hq
          rwa [if_pos ex] at hq
        · have ex : ¬ x = y := by simpa using e1
          unfold lexI at hq
          rw [if_neg ex] at hq
          exact PySem.W.kat_no (TS.oneLt_ints _ hq)
theorem it_cmp {vs : List Value} {k : Value → List Int} (hp : ∀ v ∈ vs, IsIT s.heap v (k v)) : SrtO.Cmp prog w A s (tuples' true) (fun p => p.1 ∈ vs) (SrtO.lt2 fun v u => lexI (k v) (k u)) := by
  intro p q hm hm'
  have h1 := hp _ hm
  have h2 := hp _ hm'
  show wpAny (model prog w) A (keyLt' (tuples' true) p.1 q.1) (fun r s' => s' = s ∧ r = lexI (k p.1) (k q.1)) (fun _ _ => False) s
  generalize k p.1 = x at h1 ⊢
  generalize k q.1 = y at h2 ⊢
  obtain ⟨a, o, its, n, e, ho, hc, hd, hi⟩ := h1
  obtain ⟨a', o', its', n', e', ho', hc', hd', hi'⟩ := h2
  rw [e, e']
  refine PySem.W.kat_lt ho hd ho' hd' (kat_ints x y 0 _ _ hi hi' ?_ ⟨rfl, rfl⟩)
  have l1 := hi.length
  have l2 := hi'.length
  rw [Array.length_toList] at l1 l2
  rw [l1, l2]
theorem swo_lexI (k : Value → List Int) : SrtO.Swo fun v u => lexI (k v) (k u) := ⟨fun x y h => lexI_asym _ _ h, fun x y z h1 h2 => lexI_tr _ _ _ h1 h2⟩
theorem it_firsts {h : Heap} {k : Value → List Int} : ∀ {vs : List Value}, (∀ v ∈ vs, IsIT h v (k v) ∧ k v ≠ []) → ∃ fs : List Value, PySem.W.KatTups h vs fs ∧ fs.length = vs.length ∧ ∀ f ∈ fs, ∃ x t, f = Value.int x t
  | [], _ => ⟨[], PySem.W.KatTups.nil, rfl, fun _ h => absurd h (by simp)⟩
  | v :: vs, hp => by
    obtain ⟨fs, h1, h2, h3⟩ := it_firsts (vs := vs) fun u hu => hp u (List.mem_cons_of_mem _ hu)
    obtain ⟨⟨a, o, its, n, rfl, ho, hc, hd, hi⟩, hne⟩ := hp v List.mem_cons_self
    generalize hk : k (Value.ref a) = ks at hi hne
    generalize hl : its.toList = l at hi
    cases hi with
    | nil => exact absurd rfl hne
    | cons x t r =>
      refine ⟨.int x t :: fs, PySem.W.KatTups.cons ho hc hd ?_ h1, by simp [h2], fun f hf => ?_⟩
      · have : its.toList[0]? = some (Value.int x t) := by rw [hl]; rfl
        simpa using this
      · rcases List.mem_cons.mp hf with e | hf
        · exact ⟨x, t, e⟩
        · exact h3 f hf
theorem it_sortable {a : Addr} {vs : List Value} {k : Value → List Int} (h0 : 0 < vs.length) (hp : ∀ v ∈ vs, IsIT s.heap v (k v) ∧ k v ≠ []) (ha : ∀ o, s.heap.get? a = some o → o.cls ≠ .type "tuple") : SrtO.SortableO prog w A s a vs fun v u => lexI (k v) (k u) := by
  intro h' keep
  have hp' : ∀ v ∈ vs, IsIT h' v (k v) ∧ k v ≠ [] := fun v hm => ⟨(hp v hm).1.keeps fun b o e c => keep b o (fun z => by subst z; exact ha o e c) e, (hp v hm).2⟩
  obtain ⟨fs, h1, h2, h3⟩ := it_firsts hp'
  refine ⟨tuples' true, fun Q E hq => ?_, it_cmp fun v hm => (hp' v hm).1⟩
  refine PySem.W.kat_kind (T := .type "int") h1 (by omega) (fun f hm => ?_) (by rfl) ?_
  · obtain ⟨x, t, rfl⟩ := h3 f hm
    exact PySem.W.Looks.now
  · have e : (Value.type "int" != Value.type "tuple") = true := by first | decide +kernel | rfl | decide
    rw [e]
    exact hq
end
/-- sorted(xs): tuples of ints, none empty -/
def rSortedT (K : PySem.W.Frag) : List V → Hp → VK → Prop := fun vs H Q => ∃ (a : Addr) (ys : List V) (k : V → List Int), vs = [V.ref a] ∧ SqL K H a ys ∧ (∀ y ∈ ys, (∃ t, y = V.ref t ∧ H t = some (.tup ((k y).map V.int))) ∧ k y ≠ []) ∧
  ∀ (zs : List V) (p : Addr), zs.Perm ys → zs.Pairwise (fun u v => lexI (k v) (k u) = false) → H p = none → Q (.ref p) (upd H p (.lst zs))
section
variable {X : Cx}
theorem cr_sortedT : CallR X (.builtin "sorted") (rSortedT X.K) := by
  intro pins s σ H vs us Q I r h
  obtain ⟨a, ys, k, rfl, hs, hx, q⟩ := h
  obtain ⟨its, rv, hl, hz⟩ := I.list hs
  rw [Vals.ref1 r]
  obtain ⟨e1, e2⟩ := refs_back rv fun x m => by
    obtain ⟨⟨t, e, _⟩, _⟩ := hx x m
    exact ⟨t, e⟩
  have hp : ∀ v ∈ its, IsIT s.heap v (k (backV v)) ∧ k (backV v) ≠ [] := fun v hv => by
    obtain ⟨t, rfl⟩ := e2 v hv
    have hm : V.ref t ∈ ys := by rw [e1]; exact List.mem_map.mpr ⟨_, hv, rfl⟩
    obtain ⟨⟨t', e, ht⟩, hne⟩ := hx _ hm
    cases e
    obtain ⟨_, its2, r2, o, ho, hc, n, hd⟩ := I.hok _ _ ht
    exact ⟨⟨t, o, its2.toArray, n, rfl, ho, hc, hd, r2.ints⟩, hne⟩
  refine SrtO.sorted_ord (swo_lexI fun u => k (backV u)) hl.isList (by rw [← rv.length]; exact hz) (fun h2 h₁ a' hoL kk => it_sortable (s := { s with heap := h₁ }) (by omega) (fun v hm => ⟨(hp v hm).1.keeps fun b o e _ => (kk b o e).2, (hp v hm).2⟩) fun o e => ?_) fun out h1 h2 => ?_
  · have e' : some o = some (seqObj "list" its.toArray 0) := e.symm.trans hoL
    cases e'
    intro c
    exact absurd (Value.type.inj c) (by decide)
  · have h3 : ∀ u ∈ out, ∃ a, u = Value.ref a := fun u hu => e2 u (h2.perm.mem_iff.mp hu)
    obtain ⟨ep, he'⟩ := PyProof.Rows.sortedAll_at s.heap its out.toArray
    have hpm : (out.map backV).Perm ys := by
      rw [e1]
      exact h2.perm.map backV
    have hlen : (out.map backV).length ≤ sizeLine := by
      rw [hpm.length_eq]
      exact hz
    exact ⟨.ref _, upd H (s.heap.objs.size + 1) (.lst (out.map backV)), I.laid (t' := s.toks) (fun _ _ => PyProof.Rows.sortedAll_old) (Nat.le_succ _) ⟨hlen, out, ep, vals_back h3, he'⟩, rfl,
      q _ _ hpm (List.pairwise_map.mpr h1) (I.hok.fresh (Nat.le_succ _))⟩
/-- a tuple of ints, as the heap shows it -/
def vI : V → Int
  | .int i => i
  | _ => 0
def kI (G : Hp) : V → List Int
  | .ref a => match G a with
    | some (.tup xs) => xs.map vI
    | _ => []
  | _ => []
theorem vI_map (ns : List Int) : (ns.map V.int).map vI = ns := by
  rw [List.map_map]
  exact List.map_id' ns
theorem Rp.kI {G : Hp} {v : V} {ns : List Int} (r : Rp G v (tI ns)) : kI G v = ns ∧ ∃ t, v = .ref t ∧ G t = some (.tup (ns.map V.int)) := by
  cases r with
  | tup e ra =>
    have := ra.ints
    subst this
    refine ⟨?_, _, rfl, e⟩
    show (match G _ with | some (.tup xs) => xs.map vI | _ => []) = ns
    rw [e]
    exact vI_map ns
theorem RpA.kI {G : Hp} : ∀ {vs : List V} {rows : List (List Int)}, RpA G vs (rows.map tI) → vs.map (kI G) = rows ∧ ∀ v ∈ vs, Rp G v (tI (kI G v)) ∧ (∃ t, v = .ref t ∧ G t = some (.tup ((Hr.kI G v).map V.int))) ∧ Hr.kI G v ∈ rows
  | _, [], h => by
    cases h
    exact ⟨rfl, fun v hv => by cases hv⟩
  | _, r :: rs, h => by
    cases h with
    | cons h1 h2 =>
      obtain ⟨e1, t, e2, e3⟩ := h1.kI
      obtain ⟨i1, i2⟩ := RpA.kI h2
      refine ⟨by rw [List.map_cons, e1, i1], fun v hv => ?_⟩
      rcases List.mem_cons.mp hv with rfl | hv
      · rw [e1]
        exact ⟨h1, ⟨t, e2, e3⟩, List.mem_cons_self⟩
      · obtain ⟨a, b, c⟩ := i2 v hv
        exact ⟨a, b, List.mem_cons_of_mem _ c⟩
theorem rpa_of {G : Hp} {f : V → D} : ∀ {vs : List V}, (∀ v ∈ vs, Rp G v (f v)) → RpA G vs (vs.map f)
  | [], _ => .nil
  | v :: vs, h => .cons (h v List.mem_cons_self) (rpa_of fun u hu => h u (List.mem_cons_of_mem _ hu))
end
section
variable {X : Cx} {ρ : Env} {e : Expr} {p pos : Pos} {rows : List (List Int)}
theorem dl_sortedT (hg : Gl X "sorted") (hm : X.mg "sorted" = none) (ha : Dv X e ρ (lT rows)) (hne : ∀ r ∈ rows, r ≠ []) (hs : starEach [e] X.env = (false, eval e X.env) :: starEach [] X.env := by rfl) : Dl X (.Call (.Name "sorted" p) [e] [] pos) ρ ((sortT rows).map tI) :=
  dl_callB cr_sortedT (fun G H us Q s r q => by
    obtain ⟨v, rfl, rv⟩ := r.one
    cases rv with
    | lst e1 ra =>
      obtain ⟨k1, k2⟩ := ra.kI
      refine ⟨_, _, kI G, rfl, SqL.of (s _ _ e1), fun y hy => ?_, fun zs p' hpm hsd hp => ?_⟩
      · obtain ⟨r1, ⟨t, et, ht⟩, hmem⟩ := k2 y hy
        exact ⟨⟨t, et, s _ _ ht⟩, hne _ hmem⟩
      · have ez : zs.map (kI G) = sortT rows := sortT_eq (by rw [← k1]; exact hpm.map _) (List.pairwise_map.mpr hsd)
        have rz : RpA G zs (zs.map fun v => tI (kI G v)) := rpa_of fun v hv => (k2 v (hpm.mem_iff.mp hv)).1
        rw [show (zs.map fun v => tI (kI G v)) = (sortT rows).map tI by rw [← ez, List.map_map]; rfl] at rz
        exact q p' zs G _ (Ext.own s hp) hp (s.free hp) upd_same rz) hg hm bb_sorted (da1 ha hs) (he := hs) (hpl := by rfl)
end
end Hr
/-! in, not in, index, count, the number of different ones, tuple * int. -/
namespace Hr
open PySem PySem.Spec PyProof.Rows L2 PyProof

theorem u65 {k : Nat} {A : Around} (r : Room k A) : A.units + 65 < cLine := by have := r.un; omega
def rInT (K : PySem.W.Frag) : R2 := fun x y H Q => ∃ d ds, Dp K H x d ∧ Dp K H y (.tuple ds) ∧ SeqAt.shaped d = true ∧ SeqAt.shaped (.tuple ds) = true ∧ Q (.bl (ds.any fun z => PyData.eqv z d)) H
def rNotInT (K : PySem.W.Frag) : R2 := fun x y H Q => ∃ d ds, Dp K H x d ∧ Dp K H y (.tuple ds) ∧ SeqAt.shaped d = true ∧ SeqAt.shaped (.tuple ds) = true ∧ Q (.bl (!ds.any fun z => PyData.eqv z d)) H
section
variable {X : Cx}
theorem op_inT (hu : X.A.units + 65 < cLine) : OpR X (compareOp .In) (rInT X.K) := by
  intro pins s σ H x y v u Q I rx ry h
  obtain ⟨d, ds, hd, he, sd, se, q⟩ := h
  obtain ⟨as, r1⟩ := Dp.reads I d x v hd rx
  obtain ⟨bs, r2⟩ := Dp.reads I (.tuple ds) y u he ry
  exact SeqAt.in_tuple_reads r2 r1 (SeqAt.canLay_of_shaped se) (SeqAt.canLay_of_shaped sd) (room_in_shaped sd hu) ⟨.bl _, H, I, rfl, q⟩
theorem op_notInT (hu : X.A.units + 65 < cLine) : OpR X (compareOp .NotIn) (rNotInT X.K) := by
  intro pins s σ H x y v u Q I rx ry h
  obtain ⟨d, ds, hd, he, sd, se, q⟩ := h
  obtain ⟨as, r1⟩ := Dp.reads I d x v hd rx
  obtain ⟨bs, r2⟩ := Dp.reads I (.tuple ds) y u he ry
  exact SeqAt.notIn_tuple_reads r2 r1 (SeqAt.canLay_of_shaped se) (SeqAt.canLay_of_shaped sd) (room_in_shaped sd hu) ⟨.bl _, H, I, rfl, q⟩
end
section
variable {X : Cx} {ρ : Env} {a b c e : Expr} {es : List Expr} {p pos p2 : Pos} {d da db : D} {ds : List D}
/-! in -/
theorem ro_inL {K : PySem.W.Frag} (sa : SeqAt.shaped d = true) (sb : SeqAt.shaped (.list ds) = true) : Ro (rInD K) d (.list ds) (.bool (ds.any fun z => PyData.eqv z d)) := fun G H x y Q s rx ry q =>
  ⟨d, ds, (rx.mono s).dp (SeqAt.canLay_of_shaped sa), (ry.mono s).dp (SeqAt.canLay_of_shaped sb), sa, sb, q _ G H (Ext.refl s) (.bl _)⟩
theorem ro_notInL {K : PySem.W.Frag} (sa : SeqAt.shaped d = true) (sb : SeqAt.shaped (.list ds) = true) : Ro (rNotInD K) d (.list ds) (.bool (!ds.any fun z => PyData.eqv z d)) := fun G H x y Q s rx ry q =>
  ⟨d, ds, (rx.mono s).dp (SeqAt.canLay_of_shaped sa), (ry.mono s).dp (SeqAt.canLay_of_shaped sb), sa, sb, q _ G H (Ext.refl s) (.bl _)⟩
theorem ro_inT {K : PySem.W.Frag} (sa : SeqAt.shaped d = true) (sb : SeqAt.shaped (.tuple ds) = true) : Ro (rInT K) d (.tuple ds) (.bool (ds.any fun z => PyData.eqv z d)) := fun G H x y Q s rx ry q =>
  ⟨d, ds, (rx.mono s).dp (SeqAt.canLay_of_shaped sa), (ry.mono s).dp (SeqAt.canLay_of_shaped sb), sa, sb, q _ G H (Ext.refl s) (.bl _)⟩
theorem ro_notInT {K : PySem.W.Frag} (sa : SeqAt.shaped d = true) (sb : SeqAt.shaped (.tuple ds) = true) : Ro (rNotInT K) d (.tuple ds) (.bool (!ds.any fun z => PyData.eqv z d)) := fun G H x y Q s rx ry q =>
  ⟨d, ds, (rx.mono s).dp (SeqAt.canLay_of_shaped sa), (ry.mono s).dp (SeqAt.canLay_of_shaped sb), sa, sb, q _ G H (Ext.refl s) (.bl _)⟩
theorem any_int (ns : List Int) (i : Int) : ((ns.map PyData.int).any fun z => PyData.eqv z (.int i)) = decide (i ∈ ns) := by
  induction ns with
  | nil => simp
  | cons n ns ih =>
    rw [List.map_cons, List.any_cons, ih, eqv_int]
    by_cases h : n = i
    · subst h; simp
    · by_cases h2 : i ∈ ns
      · simp [h2]
      · have : ¬ i = n := fun e => h e.symm
        simp [h, h2, this]
theorem any_tI (rows : List (List Int)) (r : List Int) : ((rows.map tI).any fun z => PyData.eqv z (tI r)) = decide (r ∈ rows) := by
  induction rows with
  | nil => simp
  | cons n ns ih =>
    rw [List.map_cons, List.any_cons, ih, eqv_tI]
    by_cases h : n = r
    · subst h; simp
    · by_cases h2 : r ∈ ns
      · simp [h2]
      · have : ¬ r = n := fun e => h e.symm
        simp [h, h2, this]
/-- an int in a tuple of ints; a row in a list of rows -/
theorem dv_inTI {ns : List Int} {i : Int} (hu : X.A.units + 65 < cLine) (ha : Dv X a ρ (.int i)) (hb : Dv X b ρ (tI ns)) (hm : behindInMarks .In b = false := by rfl) : Dv X (.Compare a [.In] [b] pos) ρ (.bool (decide (i ∈ ns))) := (dv_cmp (op_inT hu) (ro_inT sh_int.shaped sh_tI.shaped) ha hb hm).to (by rw [any_int])
theorem dv_notInTI {ns : List Int} {i : Int} (hu : X.A.units + 65 < cLine) (ha : Dv X a ρ (.int i)) (hb : Dv X b ρ (tI ns)) (hm : behindInMarks .NotIn b = false := by rfl) : Dv X (.Compare a [.NotIn] [b] pos) ρ (.bool (!decide (i ∈ ns))) := (dv_cmp (op_notInT hu) (ro_notInT sh_int.shaped sh_tI.shaped) ha hb hm).to (by rw [any_int])
theorem dt_inTI {ns : List Int} {i : Int} (hu : X.A.units + 65 < cLine) (ha : Dv X a ρ (.int i)) (hb : Dv X b ρ (tI ns)) (hm : behindInMarks .In b = false := by rfl) : Dt X (.Compare a [.In] [b] pos) ρ (decide (i ∈ ns)) := dt_cmp (op_inT hu) (by rw [← any_int]; exact ro_inT sh_int.shaped sh_tI.shaped) ha hb hm
theorem dt_notInTI {ns : List Int} {i : Int} (hu : X.A.units + 65 < cLine) (ha : Dv X a ρ (.int i)) (hb : Dv X b ρ (tI ns)) (hm : behindInMarks .NotIn b = false := by rfl) : Dt X (.Compare a [.NotIn] [b] pos) ρ (!decide (i ∈ ns)) := dt_cmp (op_notInT hu) (by rw [← any_int]; exact ro_notInT sh_int.shaped sh_tI.shaped) ha hb hm
theorem dt_inLT {rows : List (List Int)} {r : List Int} (hu : X.A.units + 65 < cLine) (ha : Dv X a ρ (tI r)) (hb : Dv X b ρ (lT rows)) (hm : behindInMarks .In b = false := by rfl) : Dt X (.Compare a [.In] [b] pos) ρ (decide (r ∈ rows)) := dt_cmp (op_inD hu) (by rw [← any_tI]; exact ro_inL sh_tI.shaped sh_lT.shaped) ha hb hm
theorem dt_notInLT {rows : List (List Int)} {r : List Int} (hu : X.A.units + 65 < cLine) (ha : Dv X a ρ (tI r)) (hb : Dv X b ρ (lT rows)) (hm : behindInMarks .NotIn b = false := by rfl) : Dt X (.Compare a [.NotIn] [b] pos) ρ (!decide (r ∈ rows)) := dt_cmp (op_notInD hu) (by rw [← any_tI]; exact ro_notInL sh_tI.shaped sh_lT.shaped) ha hb hm
theorem dv_inLT {rows : List (List Int)} {r : List Int} (hu : X.A.units + 65 < cLine) (ha : Dv X a ρ (tI r)) (hb : Dv X b ρ (lT rows)) (hm : behindInMarks .In b = false := by rfl) : Dv X (.Compare a [.In] [b] pos) ρ (.bool (decide (r ∈ rows))) := (dv_cmp (op_inD hu) (ro_inL sh_tI.shaped sh_lT.shaped) ha hb hm).to (by rw [any_tI])
/-! xs.index(e), xs.count(e) -/
theorem dv_index {rows : List (List Int)} {r : List Int} {j : Nat} (hu : X.A.units + 65 < cLine) (ha : Dv X a ρ (lT rows)) (he : Dv X e ρ (tI r)) (hj : rows[j]? = some r) (hno : ∀ m z, m < j → rows[m]? = some z → z ≠ r)
    (hbase : attributeBase a "index" X.env (eval a X.env) = eval a X.env := by rfl) (hfew : ((backTo pos (starEach [e] X.env)).all (fun x => !x.1) && (backToKw pos (keywordEach [] X.env)).all (fun x => x.1.isSome) && decide (([e] : List Expr).length + ([] : List Keyword).length + (if ([] : List Keyword).isEmpty then 0 else 1) < 30)) = true := by rfl)
    (hline : (p2.endLine == pos.line) = true := by rfl) (hst : starEach [e] X.env = (false, eval e X.env) :: starEach [] X.env := by rfl) (hpl : (backTo pos (starEach [] X.env)).any (·.1) = false := by rfl) :
    Dv X (.Call (.Attribute a "index" p2) [e] [] pos) ρ (.int (j : Nat)) := fun σ G H Q S s q =>
  we_of (pe_bm PySem.F.plainAttrs_list PySem.F.slot_list_index PySem.F.type_list_index (mt_indexD hu) pe_w pa_w hbase hfew hline hst hpl) (ha σ G H _ S s fun v G1 H1 x1 r1 => by
    have rl := r1
    cases r1 with
    | lst e1 ra =>
      refine ⟨.inl ⟨rfl, _, SqL.of (x1.s _ _ e1)⟩, da1 he hst σ G1 H1 _ (S.mono x1.g) x1.s fun vs G2 H2 x2 r2 => ?_⟩
      obtain ⟨w, rfl, rw'⟩ := r2.one
      refine ⟨_, w, tI r, rows.map tI, j, tI r, rfl, rfl, ((rl.mono x2.g).mono x2.s).dp (SeqAt.canLay_of_shaped (sh_lT (xs := rows)).shaped), (rw'.mono x2.s).dp (SeqAt.canLay_of_shaped (sh_tI (xs := r)).shaped), (sh_lT (xs := rows)).shaped, sh_tI.shaped, ?_, ?_, fun m z hm hz => ?_, q _ G2 H2 (x1.trans x2) (.int _)⟩
      · rw [List.getElem?_map, hj] <;> rfl
      · rw [eqv_tI]; exact decide_eq_true rfl
      · rw [List.getElem?_map] at hz
        cases e : rows[m]? with
        | none => rw [e] at hz; cases hz
        | some z' =>
          rw [e] at hz
          have hz' : tI z' = z := Option.some.inj hz
          rw [← hz', eqv_tI]
          exact decide_eq_false (hno m z' hm e))
theorem dv_count {ns : List Int} {k : Int} (ha : Dv X a ρ (lI ns)) (he : Dv X e ρ (.int k))
    (hbase : attributeBase a "count" X.env (eval a X.env) = eval a X.env := by rfl) (hfew : ((backTo pos (starEach [e] X.env)).all (fun x => !x.1) && (backToKw pos (keywordEach [] X.env)).all (fun x => x.1.isSome) && decide (([e] : List Expr).length + ([] : List Keyword).length + (if ([] : List Keyword).isEmpty then 0 else 1) < 30)) = true := by rfl)
    (hline : (p2.endLine == pos.line) = true := by rfl) (hst : starEach [e] X.env = (false, eval e X.env) :: starEach [] X.env := by rfl) (hpl : (backTo pos (starEach [] X.env)).any (·.1) = false := by rfl) :
    Dv X (.Call (.Attribute a "count" p2) [e] [] pos) ρ (.int (ns.count k : Nat)) := fun σ G H Q S s q =>
  we_of (pe_bm PySem.F.plainAttrs_list PySem.F.slot_list_count PySem.F.type_list_count mt_lcount pe_w pa_w hbase hfew hline hst hpl) (ha σ G H _ S s fun v G1 H1 x1 r1 => by
    cases r1 with
    | lst e1 ra =>
      have := ra.ints
      subst this
      refine ⟨.inl ⟨rfl, _, SqL.of (x1.s _ _ e1)⟩, da1 he hst σ G1 H1 _ (S.mono x1.g) x1.s fun vs G2 H2 x2 r2 => ?_⟩
      obtain ⟨w, rfl, rw'⟩ := r2.one
      cases rw'
      exact ⟨_, ns, k, rfl, rfl, SqL.of (x2.h _ _ (x1.s _ _ e1)), q _ G2 H2 (x1.trans x2) (.int _)⟩)
end
/-! ### len(set(rows)) -/
def rLenST (P : Program) (w : World) : List V → Hp → VK → Prop := fun vs H Q => ∃ a L, vs = [V.ref a] ∧ H a = some (SetTO P w a L) ∧ ((L.map (·.2)).Nodup → Q (.int (L.length : Nat)) H)
theorem cr_lenST {X : Cx} : CallR X (.builtin "len") (rLenST X.prog X.w) := by
  intro pins s σ H vs us Q I r h
  obtain ⟨a, L, rfl, ha, q⟩ := h
  rw [Vals.ref1 r]
  obtain ⟨es, ep, t, ⟨o, ho, hex, hd⟩, h2, h3, h4, h5, h6, h7, h8⟩ := ((I.hok a _ ha).1 : SetT0 X.prog X.w s.heap a L).ex
  have hn : es.size = L.length := by
    have := congrArg List.length h2
    rw [Array.length_toList] at this
    rw [this]
    unfold rowsOf
    rw [List.length_map]
  have hf : t.fits es.size = true := by
    have e1 : t.place.size = es.size := by rw [hn, h3.sz, List.length_map]
    unfold SetTable.fits SetTable.fill
    rw [h3.dm, e1]
    simp
    omega
  refine call_len_set ho hex hd hf (by rw [hn]; omega) ⟨.int (L.length : Nat), H, I.tok _, ⟨_, by rw [hn]⟩, q h4⟩
theorem bb_set : bootBuiltins "set" = some (.type "set") := by decide +kernel
section
variable {X : Cx} {ρ : Env} {e : Expr} {p p1 pos pos1 : Pos} {rows : List (List Int)}
theorem pair_up {G : Hp} : ∀ {vs : List V} {rows : List (List Int)}, RpA G vs (rows.map tI) → ∃ ks : List (Addr × List Int), vs = ks.map (fun p => V.ref p.1) ∧ rows = ks.map (·.2) ∧ ∀ p ∈ ks, G p.1 = some (.tup (p.2.map V.int))
  | _, [], h => by
    cases h
    exact ⟨[], rfl, rfl, fun p hp => by cases hp⟩
  | _, r :: rs, h => by
    cases h with
    | cons h1 h2 =>
      obtain ⟨_, t, rfl, e3⟩ := h1.kI
      obtain ⟨ks, rfl, rfl, i3⟩ := pair_up h2
      refine ⟨(t, r) :: ks, rfl, rfl, fun p hp => ?_⟩
      rcases List.mem_cons.mp hp with rfl | hp
      · exact e3
      · exact i3 p hp
theorem dv_lenSet {n : Nat} (hc : X.calm = true) (hu : X.A.units + 64 < cLine) (hgl : Gl X "len") (hml : X.mg "len" = none) (hgs : Gl X "set") (hms : X.mg "set" = none) (ha : Dv X e ρ (lT rows)) (hz : rows.length < 64) (hn : ∀ l : List (List Int), l.Nodup → (∀ r, r ∈ l ↔ r ∈ rows) → l.length = n)
    (hs : starEach [e] X.env = (false, eval e X.env) :: starEach [] X.env := by rfl) (hs2 : starEach [.Call (.Name "set" p1) [e] [] pos1] X.env = (false, eval (.Call (.Name "set" p1) [e] [] pos1) X.env) :: starEach [] X.env := by rfl) :
    Dv X (.Call (.Name "len" p) [.Call (.Name "set" p1) [e] [] pos1] [] pos) ρ (.int (n : Nat)) := fun σ G H Q S s q =>
  we_of (pe_callB cr_lenST hgl hml bb_len (pa_cons (pe_callTy (cr_setOfT hc hu) hgs hms bb_set pa_w (he := hs) (hpl := by rfl)) pa_nil hs2) (he := hs2) (hpl := by rfl)) (da1 ha hs σ G H _ S s fun vs G1 H1 x1 r1 => by
    obtain ⟨v, rfl, rv⟩ := r1.one
    cases rv with
    | lst e1 ra =>
      obtain ⟨ks, rfl, rfl, k3⟩ := pair_up ra
      refine ⟨_, ks, rfl, SqL.of (x1.s _ _ e1), fun p hp => SqT.of (x1.s _ _ (k3 p hp)), by rwa [List.length_map] at hz, fun a L h0 sub all => ?_⟩
      refine ⟨a, L, rfl, upd_same, fun nd => ?_⟩
      have hl := hn (L.map (·.2)) nd fun r => ⟨fun hr => by
        obtain ⟨p, hp, rfl⟩ := List.mem_map.mp hr
        exact List.mem_map.mpr ⟨p, sub p hp, rfl⟩, fun hr => by
        obtain ⟨p, hp, rfl⟩ := List.mem_map.mp hr
        exact all p hp⟩
      rw [List.length_map] at hl
      rw [hl]
      exact q _ G1 _ (x1.trans (Ext.own x1.s h0)) (.int _))
end
end Hr
/-! tuple * int, whatever the int from 0 on. -/
namespace Hr
open PySem PySem.Spec PyProof.Rows L2 PyProof

theorem tuple_mul0 (l : Addr) (items : Array Value) (n : Nat) (dd : Option Addr) (sl : Array (Option Value)) (x : Int) (u : Tok) (c0 : (decide (x < -(2 ^ 63)) || decide (x ≥ 2 ^ 63)) = false) (c1 : (items.isEmpty || x == 1) = false) (c2 : (decide (x ≤ 0) || items.isEmpty) = true) :
    Meets (Builtin.«tuple.__mul__» ⟨[.ref l, .int x u], []⟩) (fun _ R s => s.heap.get? l = some { cls := .type "tuple", dict := dd, data := .seq items n, slots := sl } ∧
      R (.ok (.ret (Value.ref s.heap.objs.size))) { s with heap := s.heap.push { cls := Value.type "tuple", data := Data.seq #[] }, toks := s.toks }) :=
  .of_wp fun prog w A R s h => by
    obtain ⟨hp, g, d, tk, os⟩ := s
    obtain ⟨hl, h⟩ := h
    have f1 := AutoSeq1.idx_int
    wp_walk using AutoSeq1.wpAny_loadPart' hl
    repeat (first
      | (refine wpAny_ite_false (decide_eq_false (by rw [c0]; exact Bool.false_ne_true)) ?_; wp_walk using AutoSeq1.wpAny_loadPart' hl)
      | (refine wpAny_ite_false (decide_eq_false (by rw [c1]; exact Bool.false_ne_true)) ?_; wp_walk using AutoSeq1.wpAny_loadPart' hl)
      | (refine wpAny_ite_true (decide_eq_true c2) ?_; wp_walk using AutoSeq1.wpAny_loadPart' hl))
    exact ⟨_, rfl, h⟩
theorem tuple_mul1 (l : Addr) (items : Array Value) (n : Nat) (dd : Option Addr) (sl : Array (Option Value)) (x : Int) (u : Tok) (c0 : (decide (x < -(2 ^ 63)) || decide (x ≥ 2 ^ 63)) = false) (c1 : (items.isEmpty || x == 1) = true) :
    Meets (Builtin.«tuple.__mul__» ⟨[.ref l, .int x u], []⟩) (fun _ R s => s.heap.get? l = some { cls := .type "tuple", dict := dd, data := .seq items n, slots := sl } ∧ R (.ok (.ret (Value.ref l))) s) :=
  .of_wp fun prog w A R s h => by
    obtain ⟨hp, g, d, tk, os⟩ := s
    obtain ⟨hl, h⟩ := h
    have f1 := AutoSeq1.idx_int
    wp_walk using AutoSeq1.wpAny_loadPart' hl
    repeat (first
      | (refine wpAny_ite_false (decide_eq_false (by rw [c0]; exact Bool.false_ne_true)) ?_; wp_walk using AutoSeq1.wpAny_loadPart' hl)
      | (refine wpAny_ite_true (decide_eq_true c1) ?_; wp_walk using AutoSeq1.wpAny_loadPart' hl))
    exact ⟨_, rfl, h⟩
def rRep0 (K : PySem.W.Frag) : R2 := fun x y H Q => ∃ l xs, x = .ref l ∧ y = .int 0 ∧ SqT K H l xs ∧ xs ≠ [] ∧ ∀ p, H p = none → Q (.ref p) (upd H p (.tup []))
def rRep1 (K : PySem.W.Frag) : R2 := fun x y H Q => ∃ l xs, x = .ref l ∧ y = .int 1 ∧ SqT K H l xs ∧ Q (.ref l) H
section
variable {X : Cx}
theorem op_rep0 : OpR X (binaryOp .Mult) (rRep0 X.K) := by
  intro pins s σ H x y v u Q I rx ry h
  obtain ⟨l, xs, rfl, rfl, hT, hne, q⟩ := h
  cases rx
  obtain ⟨t, rfl⟩ := ry
  obtain ⟨its, r, ⟨⟨cls, dd, data, sl⟩, ho, hc, n, hd⟩, hs⟩ := I.tuple hT
  simp only at hc hd
  subst hc hd
  have hle : its.length = xs.length := r.length.symm
  have hi : its.toArray.isEmpty = false := by
    cases its with
    | nil => exact absurd (List.eq_nil_of_length_eq_zero hle.symm) hne
    | cons a b => rfl
  refine wpAny_binaryOp_repeat_ref (T := "tuple") (U := "int") (by decide) ⟨_, ho, rfl⟩ (fun s' => typeIs_int s' 0 t) noFill_tuple_mul F.fills_int_mul F.slot_int_rmul repeat_tuple F.slot_int_index.lookup
    (call_meets F.slot_int_rmul (typeIs_int s 0 t) F.entry_int_rmul (F.args_int_rmul_2 _ _) (int_rmul_tuple 0 t l its.toArray n dd sl)
      ⟨ho, rfl, ⟨_, ho, rfl⟩, call_meets F.slot_tuple_mul ⟨_, ho, rfl⟩ F.entry_tuple_mul (F.args_tuple_mul_2 _ _) (tuple_mul0 l its.toArray n dd sl 0 t (by decide) (by rw [hi]; rfl) (by rw [hi]; rfl)) ⟨ho, ?_⟩⟩)
  refine ⟨.ref s.heap.objs.size, _, I.laid (t' := s.toks) (o := .tup []) (fun b ob q => Heap.get?_push_of_some _ q) (Nat.le_refl _) ?_, rfl, q _ (I.hok.fresh (Nat.le_refl _))⟩
  exact ⟨Nat.zero_le _, [], .nil, IsTup.new _ _⟩
theorem op_rep1 : OpR X (binaryOp .Mult) (rRep1 X.K) := by
  intro pins s σ H x y v u Q I rx ry h
  obtain ⟨l, xs, rfl, rfl, hT, q⟩ := h
  cases rx
  obtain ⟨t, rfl⟩ := ry
  obtain ⟨its, r, ⟨⟨cls, dd, data, sl⟩, ho, hc, n, hd⟩, hs⟩ := I.tuple hT
  simp only at hc hd
  subst hc hd
  refine wpAny_binaryOp_repeat_ref (T := "tuple") (U := "int") (by decide) ⟨_, ho, rfl⟩ (fun s' => typeIs_int s' 1 t) noFill_tuple_mul F.fills_int_mul F.slot_int_rmul repeat_tuple F.slot_int_index.lookup
    (call_meets F.slot_int_rmul (typeIs_int s 1 t) F.entry_int_rmul (F.args_int_rmul_2 _ _) (int_rmul_tuple 1 t l its.toArray n dd sl)
      ⟨ho, rfl, ⟨_, ho, rfl⟩, call_meets F.slot_tuple_mul ⟨_, ho, rfl⟩ F.entry_tuple_mul (F.args_tuple_mul_2 _ _) (tuple_mul1 l its.toArray n dd sl 1 t (by decide) (by rw [Bool.or_eq_true]; exact .inr rfl)) ⟨ho, ?_⟩⟩)
  exact ⟨.ref l, H, I, rfl, q⟩
end
section
variable {X : Cx} {ρ : Env} {a b : Expr} {pos : Pos} {ds : List D} {k : Nat}
theorem RpA.rep {G : Hp} {vs : List V} {ds : List D} (r : RpA G vs ds) : ∀ k : Nat, RpA G (List.replicate k vs).flatten (List.replicate k ds).flatten
  | 0 => .nil
  | k + 1 => by
    rw [List.replicate_succ, List.replicate_succ, List.flatten_cons, List.flatten_cons]
    exact r.app (r.rep k)
theorem dv_repT (ha : Dv X a ρ (.tuple ds)) (hb : Dv X b ρ (.int (k : Nat))) (hne : ds ≠ []) (hk : k ≤ 1000) (hl : ds.length ≤ 1000) : Dv X (.BinOp a .Mult b pos) ρ (.tuple (List.replicate k ds).flatten) := fun σ G H Q S s q => by
  match k, hb, hk, q with
  | 0, hb, _, q =>
    refine we_of (pe_op op_rep0 pe_w pe_w) (ha σ G H _ S s fun v G1 H1 x1 r1 => hb σ G1 H1 _ (S.mono x1.g) x1.s fun u G2 H2 x2 r2 => ?_)
    cases r2
    cases r1 with
    | tup e ra => exact ⟨_, _, rfl, rfl, SqT.of (x2.h _ _ (x1.s _ _ e)), fun z => hne (List.eq_nil_of_length_eq_zero (by rw [← ra.length, z]; rfl)), fun p hp => q _ (upd G2 p (.tup [])) _ ((x1.trans x2).trans (Ext.new x2.s hp)) (.tup upd_same .nil)⟩
  | 1, hb, _, q =>
    refine we_of (pe_op op_rep1 pe_w pe_w) (ha σ G H _ S s fun v G1 H1 x1 r1 => hb σ G1 H1 _ (S.mono x1.g) x1.s fun u G2 H2 x2 r2 => ?_)
    cases r2
    have r1' := r1
    cases r1 with
    | tup e ra =>
      refine ⟨_, _, rfl, rfl, SqT.of (x2.h _ _ (x1.s _ _ e)), q _ G2 H2 (x1.trans x2) ?_⟩
      rw [show (List.replicate 1 ds).flatten = ds by simp]
      exact r1'.mono x2.g
  | k + 2, hb, hk, q =>
    refine we_of (pe_op op_repT pe_w pe_w) (ha σ G H _ S s fun v G1 H1 x1 r1 => hb σ G1 H1 _ (S.mono x1.g) x1.s fun u G2 H2 x2 r2 => ?_)
    cases r2
    cases r1 with
    | tup e ra => exact ⟨_, _, _, rfl, rfl, SqT.of (x2.h _ _ (x1.s _ _ e)), (fun z => hne (List.eq_nil_of_length_eq_zero (by rw [← ra.length, z]; rfl))), by omega, by omega, by rw [ra.length]; exact hl, fun p hp =>
        q _ (upd G2 p _) _ ((x1.trans x2).trans (Ext.new x2.s hp)) (.tup upd_same (((ra.mono x2.g).rep _).mono (same_new (x2.s.free hp))))⟩
end
end Hr
/-! More mirrors: triangles, rows of marks, tails, heights; what the defs promise. -/
namespace Hr
open PySem PySem.Spec PyProof.Rows L2

/-! x = [e for ..] without a test -/
section
variable {α : Type} {X : Cx} {G0 H0 Gm : Hp} {ρ : Cells} {E : Ends} {body : List Stmt} {tg iter elt : Expr} {pos pos' p1 : Pos} {zs : List α} {x : Str}
theorem tr_setLcM {scope : Scope} {own : List (Str × Nat)} {g : TG} {js : List Nat} {up : α → List (Nat × D)} (i : Nat) (pf : α → D) (hc : X.calm = true) (hN : X.N.Nodup) (hi : X.N[i]? = some x) (hxl : X.env.scope.names.lookup x = some .local)
    (hsw : swapsWith (.ListComp elt [⟨tg, iter, [], 0⟩] scope pos) (some (.Name x p1)) pos'.line X.env = pure true) (ok : BlkOk X.N X.env.scope scope own) (hw : Wt X tg iter (purE ρ) g js zs up)
    (hg : ∀ (s : Shared) (H : Hp) (C : Addr) (cl : List (Str × Addr)) (fp : List Addr), PG (Blk X scope s H C cl fp) tg g) (hj : ∀ j ∈ js, j ∈ own.map (·.2)) (hz : zs.length ≤ 10000000)
    (he : ∀ x, x ∈ zs → ∀ (s : Shared) (H : Hp) (C : Addr) (cl : List (Str × Addr)) (fp : List Addr), Dv (Blk X scope s H C cl fp) elt (setE (wipeE (purE ρ) (own.map (·.2))) (up x)) (pf x))
    (k : Nx G0 H0 Gm (ρ.set i (.m (zs.map pf) none)) E.nx)
    (hs : ∀ x, foldedSetIterable iter X.env x = pure x := by intro _; rfl) : Tr X G0 H0 (.Assign [.Name x p1] (.ListComp elt [⟨tg, iter, [], 0⟩] scope pos) pos') Gm ρ E :=
  tr_setLcT i (fun _ => true) pf hc hN hi hxl hsw ok hw hg hj hz (fun _ _ _ _ _ _ _ => di_nil) (fun x m _ => he x m) (by rw [List.filter_eq_self.mpr (fun _ _ => rfl)]; exact k) hs
end
/-! ### triangles -/
def kOf (n : Int) : Int := if n < 1 then 0 else if n < 3 then 1 else if n < 6 then 2 else if n < 10 then 3 else if n < 15 then 4 else 5
def rOf (n : Int) : Int := n - kOf n * (kOf n + 1) / 2
theorem kOf_bd (n : Int) : 0 ≤ kOf n ∧ kOf n ≤ 5 := by
  unfold kOf
  repeat' split
  all_goals omega
theorem kOf_test {n k : Int} (h0 : 0 ≤ n) (h1 : n ≤ 20) (k0 : 0 ≤ k) (k1 : k ≤ kOf n) : decide ((k + 1) * (k + 2) / 2 ≤ n) = decide (k < kOf n) := by
  have hb := (kOf_bd n).2
  have e : ((k + 1) * (k + 2) / 2 ≤ n) ↔ (k < kOf n) := by
    unfold kOf at *
    rcases (by omega : k = 0 ∨ k = 1 ∨ k = 2 ∨ k = 3 ∨ k = 4 ∨ k = 5) with rfl | rfl | rfl | rfl | rfl | rfl <;> (repeat' split) <;> omega
  rw [decide_eq_decide]
  exact e
theorem rOf_bd {n : Int} (h0 : 0 ≤ n) (h1 : n ≤ 20) : 0 ≤ rOf n ∧ rOf n ≤ kOf n := by
  unfold rOf kOf
  repeat' split
  all_goals omega
def S_base (ds : List D) (d : D) : Prop := ∃ n : Int, ds = [.int n] ∧ 0 ≤ n ∧ n ≤ 20 ∧ d = .tuple [.int (kOf n), .int (rOf n)]

/-! ### rows of marks -/
def padI (xs : List Int) : List Int := xs ++ (List.replicate (kOf xs.sum + 1 - xs.length).toNat [0]).flatten
def rowI (xs : List Int) : List Int := (padI xs).zipIdx.map fun p => p.1 - (kOf xs.sum - (p.2 : Nat))
def marksI (xs : List Int) : Option (List Int) := if kOf xs.sum + 1 < xs.length then none else if decide (0 ≤ minI (rowI xs)) && decide (maxI (rowI xs) ≤ 1) then some (rowI xs) else none
def optD : Option (List Int) → D
  | none => .none
  | some r => tI r
theorem isN_opt (o : Option (List Int)) : isN (optD o) = o.isNone := by cases o <;> rfl
def backI (xs : List Int) : Bool := (marksI xs).isSome
theorem isN_back (xs : List Int) : isN (optD (marksI xs)) = !backI xs := by
  unfold backI
  rw [isN_opt]
  cases marksI xs <;> rfl

/-! ### tails -/
def tailF : Nat → List Int → Nat
  | 0, _ => 0
  | f + 1, xs => if backI xs then 0 else tailF f (stepI xs) + 1
def tailI (xs : List Int) : Nat := tailF 40 xs
theorem itS_in : ∀ (n : Nat) (xs : List Int), itS n (stepI xs) = itS (n + 1) xs
  | 0, _ => rfl
  | n + 1, xs => by
    show stepI (itS n (stepI xs)) = stepI (itS (n + 1) xs)
    rw [itS_in n xs]
theorem itS_add : ∀ (m n : Nat) (xs : List Int), itS m (itS n xs) = itS (m + n) xs
  | 0, n, xs => by rw [Nat.zero_add]; rfl
  | m + 1, n, xs => by
    rw [Nat.succ_add]
    show stepI (itS m (itS n xs)) = stepI (itS (m + n) xs)
    rw [itS_add m n xs]
theorem tailF_before : ∀ (f : Nat) (xs : List Int) (i : Nat), i < tailF f xs → backI (itS i xs) = false
  | 0, _, _, h => absurd h (Nat.not_lt_zero _)
  | f + 1, xs, i, h => by
    unfold tailF at h
    cases hb : backI xs with
    | true => rw [hb, if_pos rfl] at h; exact absurd h (Nat.not_lt_zero _)
    | false =>
      rw [hb, if_neg Bool.false_ne_true] at h
      cases i with
      | zero => exact hb
      | succ i =>
        rw [← itS_in]
        exact tailF_before f (stepI xs) i (by omega)
theorem tailF_at : ∀ (f : Nat) (xs : List Int), tailF f xs < f → backI (itS (tailF f xs) xs) = true
  | 0, _, h => absurd h (Nat.not_lt_zero _)
  | f + 1, xs, h => by
    unfold tailF at h ⊢
    cases hb : backI xs with
    | true => rw [if_pos rfl]; exact hb
    | false =>
      rw [hb, if_neg Bool.false_ne_true] at h
      rw [if_neg Bool.false_ne_true, ← itS_in]
      exact tailF_at f (stepI xs) (by omega)

/-! ### heights -/
def hgt (p : Int × Nat) : Int := p.1 * ((p.2 : Nat) : Int) + p.1 * (p.1 - 1) / 2
def heightI (xs : List Int) : Int := (xs.zipIdx.map hgt).sum
def bump : List Int → Nat → List Int
  | [], _ => []
  | c :: r, 0 => (c + 1) :: r
  | c :: r, n + 1 => c :: bump r n
theorem bump_set : ∀ (cs : List Int) (n : Nat), n < cs.length → ∃ z, cs[n]? = some z ∧ cs.set n (z + 1) = bump cs n
  | [], n, h => absurd h (by simp)
  | c :: r, 0, _ => ⟨c, rfl, rfl⟩
  | c :: r, n + 1, h => by
    obtain ⟨z, h1, h2⟩ := bump_set r n (by simpa using h)
    exact ⟨z, h1, by rw [List.set_cons_succ, h2]; rfl⟩
theorem bump_len : ∀ (cs : List Int) (n : Nat), (bump cs n).length = cs.length
  | [], _ => rfl
  | c :: r, 0 => rfl
  | c :: r, n + 1 => by
    show (bump r n).length + 1 = r.length + 1
    rw [bump_len r n]
def bumps (cs : List Int) (i : Nat) : Nat → List Int
  | 0 => cs
  | j + 1 => bump (bumps cs i j) (i + j)
def topI (xs : List Int) : Int := maxI (xs.zipIdx.map fun p => (p.2 : Nat) + p.1)
def lev0 (xs : List Int) : List Int := (List.replicate (topI xs).toNat [0]).flatten
def levK (xs : List Int) : Nat → List Int
  | 0 => lev0 xs
  | k + 1 => bumps (levK xs k) k (xs.getD k 0).toNat
def levelsI (xs : List Int) : List Int := levK xs xs.length
theorem bumps_len (cs : List Int) (i : Nat) : ∀ j, (bumps cs i j).length = cs.length
  | 0 => rfl
  | j + 1 => by
    show (bump (bumps cs i j) _).length = _
    rw [bump_len, bumps_len cs i j]
theorem levK_len (xs : List Int) : ∀ k, (levK xs k).length = (lev0 xs).length
  | 0 => rfl
  | k + 1 => by
    show (bumps (levK xs k) k _).length = _
    rw [bumps_len, levK_len xs k]
theorem flat_rep {α : Type} (x : α) : ∀ k : Nat, (List.replicate k [x]).flatten = List.replicate k x
  | 0 => rfl
  | k + 1 => by rw [List.replicate_succ, List.flatten_cons, flat_rep x k, List.replicate_succ]; rfl
theorem lev0_len (xs : List Int) : (lev0 xs).length = (topI xs).toNat := by
  unfold lev0
  rw [flat_rep, List.length_replicate]
theorem flat_int (x : Int) (k : Nat) : (List.replicate k [PyData.int x]).flatten = ((List.replicate k [x]).flatten).map PyData.int := by
  rw [flat_rep, flat_rep, List.map_replicate]
/-! what the defs promise -/
def S_num (ds : List D) (d : D) : Prop := ∃ (v : D) (n : Int), ds = [v, .int n] ∧ SeqAt.shaped v = true ∧ d = .bool (match v with | .int i => decide (i = n) | _ => false)
def S_truth (ds : List D) (d : D) : Prop := ∃ (i j : Bool), ds = [.bool i, .bool j] ∧ d = .bool (decide (i = j))
def S_stones (ds : List D) (d : D) : Prop := ∃ n : Int, ds = [.int n] ∧ 1 ≤ n ∧ n ≤ 20 ∧ d = .none
end Hr
/-! Ways that meet again; tests and places that are drawn. -/
namespace Hr
open PySem PySem.Spec PyProof.Rows L2

section
variable {X : Cx} {G0 H0 Gm : Hp} {ρ ρ' : Cells} {E E' : Ends} {st : Stmt} {rest body orelse : List Stmt} {a b c e : Expr} {d : D} {ds : List D} {pos pos' p1 p2 : Pos} {ts : List D} {ta : Addr} {tw n cc : Nat}
theorem sp_mono {pins : List (Addr × Obj)} (h1 : ∀ σ H, E.nx σ H → E'.nx σ H) (h2 : ∀ v H, E.rt v H → E'.rt v H) (h3 : ∀ σ H, E.bk σ H → E'.bk σ H) (h4 : ∀ σ H, E.ct σ H → E'.ct σ H) (f : Flow) (s : Shared) (h : SP X pins E f s) : SP X pins E' f s := by
  cases f with
  | next => obtain ⟨σ, H, I, q⟩ := h; exact ⟨σ, H, I, h1 _ _ q⟩
  | brk => obtain ⟨σ, H, I, q⟩ := h; exact ⟨σ, H, I, h3 _ _ q⟩
  | cont => obtain ⟨σ, H, I, q⟩ := h; exact ⟨σ, H, I, h4 _ _ q⟩
  | ret u => obtain ⟨v, σ, H, I, r, q⟩ := h; exact ⟨v, σ, H, I, r, h2 _ _ q⟩
theorem wb_nx {σ : L2.St} {H : Hp} {N' : L2.St → Hp → Prop} (h : wB X body { E with nx := N' } σ H) (k : ∀ σ H, N' σ H → E.nx σ H) : wB X body E σ H := ⟨fun pins s I =>
  wpAny_mono (h.run pins s I) (fun f s' q => sp_mono (E := { E with nx := N' }) k (fun _ _ z => z) (fun _ _ z => z) (fun _ _ z => z) f s' q) fun _ _ z => z⟩
def AtR (G0 H0 Gm : Hp) (R : Cells → Prop) (σ : L2.St) (H : Hp) : Prop := ∃ ρ, R ρ ∧ AtX G0 H0 Gm ρ σ H
theorem nx_atR {R : Cells → Prop} (r : R ρ') (w : Wkn G0 H0 ρ ρ') : Nx G0 H0 Gm ρ (AtR G0 H0 Gm R) := fun G σ H s A => ⟨ρ', r, nx_at w G σ H s A⟩
theorem atR_nx {R : Cells → Prop} (k : ∀ ρ', R ρ' → Nx G0 H0 Gm ρ' E.nx) (σ : L2.St) (H : Hp) (h : AtR G0 H0 Gm R σ H) : E.nx σ H := by
  obtain ⟨ρ', r, G, s, A⟩ := h
  exact k ρ' r G σ H s A
/-- an if whose ways meet at R -/
theorem tr_ifJ {k : Bool} (R : Cells → Prop) (hc : Dt X c (visE ρ) k) (h1 : k = true → TrB X G0 H0 body Gm ρ { E with nx := AtR G0 H0 Gm R }) (h2 : k = false → TrB X G0 H0 orelse Gm ρ { E with nx := AtR G0 H0 Gm R }) (kk : ∀ ρ', R ρ' → Nx G0 H0 Gm ρ' E.nx) : Tr X G0 H0 (.If c body orelse pos) Gm ρ E :=
  tr_if hc (fun h G σ H s A => wb_nx (h1 h G σ H s A) (atR_nx kk)) fun h G σ H s A => wb_nx (h2 h G σ H s A) (atR_nx kk)
/-- the same, the test e == j, where e draws -/
theorem tr_ifEq {P : Int → Prop} {j : Int} (R : Cells → Prop) (hu : X.A.units + 64 < cLine) (he : De X G0 H0 a ρ tw ta n cc (fun d => ∃ z, d = .int z ∧ P z)) (hb : Dv X b (purE (ρ.set tw .un)) (.int j)) (hm : ρ[tw]? = some (.m ts (some ta))) (hn : ts.length ≤ n)
    (h1 : ∀ ts', ts'.length ≤ n + cc → TrB X G0 H0 body Gm (ρ.set tw (.m ts' (some ta))) { E with nx := AtR G0 H0 Gm R }) (h2 : ∀ ts', ts'.length ≤ n + cc → TrB X G0 H0 orelse Gm (ρ.set tw (.m ts' (some ta))) { E with nx := AtR G0 H0 Gm R })
    (kk : ∀ ρ', R ρ' → Nx G0 H0 Gm ρ' E.nx) (hmk : behindInMarks .Eq b = false := by rfl) : Tr X G0 H0 (.If (.Compare a [.Eq] [b] pos') body orelse pos) Gm ρ E := fun G σ H s A => by
  refine ws_of (ps_if (pt_cmpR (op_eqD hu) pe_w pe_w hmk) pb_w pb_w) (he G σ H ts _ hn (by rw [set_self hm]; exact A) fun v d G1 H1 ts1 l1 s1 A1 r1 p1 => ?_)
  obtain ⟨z, rfl, pz⟩ := p1
  have S1 : Sl G1 σ (purE (ρ.set tw .un)) := by
    have z := A1.sl
    rw [show purE (ρ.set tw (.m ts1 (some ta))) = purE (ρ.set tw .un) by show List.map _ _ = List.map _ _; rw [List.map_set, List.map_set]; rfl] at z
    exact z
  refine hb σ G1 H1 _ S1 A1.ext.s fun w G2 H2 x2 r2 => ?_
  refine ro_eq (X := X) sh_int.shaped sh_int.shaped G2 H2 v w _ x2.s (r1.mono x2.g) r2 fun u G3 H3 x3 r3 => ?_
  have A3 := (A1.step x2).step x3
  cases r3
  refine ⟨_, rfl, ?_⟩
  cases PyData.eqv (.int z) (.int j) with
  | true => exact wb_nx (h1 ts1 l1 G3 σ H3 (s.trans (s1.trans (x2.g.trans x3.g))) A3) (atR_nx kk)
  | false => exact wb_nx (h2 ts1 l1 G3 σ H3 (s.trans (s1.trans (x2.g.trans x3.g))) A3) (atR_nx kk)
/-- xs[e], e draws -/
theorem de_ixL {xs : List D} {P : D → Prop} {Q : D → Prop} (ha : Dv X a (purE (ρ.set tw .un)) (.list xs)) (hb : De X G0 H0 b ρ tw ta n cc P) (h : ∀ d, P d → ∃ (i : Int) (x : D), d = .int i ∧ atI xs i = some x ∧ Q x) (hp : PlainIx b := by exact fun _ _ => rfl) : De X G0 H0 (.Subscript a b pos) ρ tw ta n cc Q := fun G σ H ts R hn A q => by
  have S0 : Sl G σ (purE (ρ.set tw .un)) := by
    have z := A.sl
    rw [show purE (ρ.set tw (.m ts (some ta))) = purE (ρ.set tw .un) by show List.map _ _ = List.map _ _; rw [List.map_set, List.map_set]; rfl] at z
    exact z
  refine we_of (pe_ix ix_list pe_w pe_w hp) (ha σ G H _ S0 A.ext.s fun x G1 H1 x1 r1 => hb G1 σ H1 ts _ hn (A.step x1) fun y dy G2 H2 ts2 l2 s2 A2 r2 p2 => ?_)
  obtain ⟨i, xd, rfl, hat, qx⟩ := h dy p2
  have r1' := r1.mono s2
  cases r2
  cases r1' with
  | lst e1 ra =>
    rename_i p vs
    obtain ⟨v, hv, rv⟩ : ∃ v, atI vs i = some v ∧ Rp G2 v xd := by
      unfold atI at hat ⊢
      rw [ra.length]
      cases ej : ixN xs.length i with
      | none => rw [ej] at hat; cases hat
      | some j =>
        rw [ej] at hat
        have hat' : xs[j]? = some xd := hat
        exact ra.get hat'
    exact ⟨_, vs, i, v, rfl, rfl, SqL.of (A2.ext.s _ _ e1), hv, q v xd G2 H2 ts2 l2 (x1.g.trans s2) A2 rv qx⟩
end
def S_pick (ds : List D) (P : D → Prop) : Prop := ∃ rows : List (List Int), ds = [lT rows] ∧ rows ≠ [] ∧ rows.length ≤ 100000 ∧ ∀ r ∈ rows, P (tI r)
end Hr
/-! t[::-1] of a tuple; list(range(..)). -/
namespace Hr
open PySem PySem.Spec PyProof.Rows L2

section
variable {prog : Program} {w : World} {A : Around} {E : Value → Shared → Prop} {s : Shared}
theorem adjust_down (n : Nat) : Builtin.Slice.sliceAdjust none none (-1) (n : Int) = ((n : Int) - 1, -1) := by
  unfold Builtin.Slice.sliceAdjust
  simp only [show ((-1 : Int) < 0) by decide, if_true]
theorem places_down (n : Nat) : Builtin.Slice.slicePlaces ((n : Int) - 1) (-1) (-1) = n := by
  unfold Builtin.Slice.slicePlaces
  simp only [show ¬ ((-1 : Int) > 0) by decide, if_false]
  by_cases h : (n : Int) - 1 > -1
  · rw [if_pos h, show (-(-1) : Int) = 1 by decide, Int.ediv_one]
    omega
  · rw [if_neg h]
    have : n = 0 := by omega
    subst this
    rfl
theorem applied_down {sl : Addr} {vl vu vs : Value} {n : Nat} {Q : Int × Int × Nat → Shared → Prop} (hs : s.heap.IsSliceOf sl vl vu vs) (pl : IsPart vl none) (pu : IsPart vu none) (ps : IsPart vs (some (-1))) (h : Q ((n : Int) - 1, -1, n) s) :
    wpAny (model prog w) A (Builtin.Slice.sliceApplied (.ref sl) (pure (n : Int))) Q E s := by
  obtain ⟨os, hos, hcs, hds⟩ := id hs
  unfold Builtin.Slice.sliceApplied Builtin.Slice.sliceFields
  refine wpAny_bind (wpAny_bind (wpAny_field hos hds (x := vl) rfl (wpAny_bind (wpAny_field hos hds (x := vu) rfl (wpAny_bind (wpAny_field hos hds (x := vs) rfl (wpAny_pure ?_)))))))
  refine wpAny_bind (HT.slicePart_ ps ?_)
  show wpAny _ _ (if ((-1 : Int) == 0) = true then _ else _) _ _ s
  rw [if_neg (by decide)]
  refine wpAny_bind (HT.slicePart_ pl (wpAny_bind (HT.slicePart_ pu (wpAny_bind (wpAny_pure ?_)))))
  show wpAny _ _ (match Builtin.Slice.sliceAdjust none none (-1) (n : Int) with | (lo, hi) => pure (lo, (-1 : Int), Builtin.Slice.slicePlaces lo hi (-1))) _ _ s
  rw [adjust_down]
  show wpAny _ _ (pure ((n : Int) - 1, (-1 : Int), Builtin.Slice.slicePlaces ((n : Int) - 1) (-1) (-1))) _ _ s
  rw [places_down]
  exact wpAny_pure h
theorem pick_down (xs : Array Value) : ((List.range xs.size).filterMap fun (m : Nat) => xs[((xs.size : Int) - 1 + (m : Int) * (-1)).toNat]?).toArray = xs.toList.reverse.toArray := by
  have h := PySem.W.krv_pick xs
  unfold slicePick at h
  rw [PySem.W.krv_bounds] at h
  have h2 : ((sliceRange ((xs.size : Int) - 1) (-1) (-1)).filterMap (xs[·]?)).toArray = xs.toList.reverse.toArray := h
  rw [PySem.W.krv_sliceRange, List.filterMap_map] at h2
  rw [← h2]
  congr 1
  refine congrArg (fun f => List.filterMap f _) (funext fun m => ?_)
  show xs[((xs.size : Int) - 1 + (m : Int) * (-1)).toNat]? = xs[xs.size - 1 - m]?
  rw [show ((xs.size : Int) - 1 + (m : Int) * (-1)).toNat = xs.size - 1 - m by omega]
theorem item_down {t sl : Addr} {items : Array Value} {vl vu vs : Value} {Q : Value → Shared → Prop} (ht : IsTup s.heap t items) (hs : s.heap.IsSliceOf sl vl vu vs) (pl : IsPart vl none) (pu : IsPart vu none) (ps : IsPart vs (some (-1)))
    (h : Q (.ref s.heap.objs.size) { s with heap := s.heap.push { cls := .type "tuple", data := .seq items.toList.reverse.toArray } }) (hsz : items.size ≤ sizeLine) : wpAny (model prog w) A (getItem (.ref t) (.ref sl)) Q E s := by
  have hsz2 : sizeOk (.seq items.toList.reverse.toArray) := by
    show items.toList.reverse.toArray.size ≤ sizeLine
    rw [List.size_toArray, List.length_reverse, Array.length_toList]
    exact hsz
  obtain ⟨os, hos, hcs, hds⟩ := id hs
  have hTs : s.TypeIs (.ref sl) "slice" := ⟨os, hos, hcs⟩
  unfold getItem
  try with_reducible refine wpAny_holding ?_
  first | refine wpAny_bind (wpAny_pure ?_) | skip
  refine wpAny_bind (wpAny_sequenceKey ht.typeIs (by decide) ?_)
  refine wpAny_bind (wpAny_callSpecial?_slot (name := Str.ofString "__getitem__") ht.typeIs PyProof.Rows.slot_tuple_getitem
    (wpAny_call_entry PyProof.Rows.slot_tuple_getitem ht.typeIs entry_tuple_getitem ?_ (args_tuple_getitem _ _)))
  show wpAny _ _ (Builtin.Tuple.tupleItemsOf (.ref t) >>= _) _ _ s
  refine wpAny_bind (tupleItemsOf_ ht ?_)
  refine wpAny_bind (wpAny_typeOf hTs ?_)
  rw [if_pos (by decide)]
  refine wpAny_bind (applied_down hs pl pu ps ?_)
  show wpAny _ _ (if (((items.size : Int) - 1) == 0 && (-1 : Int) == 1 && items.size == items.size) = true then _ else _) _ _ s
  rw [if_neg (by simp), pick_down]
  first
    | exact wpAny_bind (m := Builtin.Tuple.tupleExact _) (wpAny_newObj_type (wpAny_pure ⟨_, rfl, wpAny_pure h⟩) hsz2)
    | exact wpAny_bind (m := Builtin.Tuple.tupleExact _) (wpAny_newObj_type (wpAny_bind (wpAny_pure (wpAny_pure ⟨_, rfl, wpAny_pure h⟩))) hsz2)
    | exact wpAny_bind (wpAny_bind (m := Builtin.Tuple.tupleExact _) (wpAny_newObj_type (wpAny_pure (wpAny_pure ⟨_, rfl, wpAny_pure h⟩)) hsz2))
    | exact wpAny_bind (wpAny_bind (m := Builtin.Tuple.tupleExact _) (wpAny_newObj_type (wpAny_pure ⟨_, rfl, wpAny_pure h⟩) hsz2))
end
def tRevT (K : PySem.W.Frag) (te : TE) : TE := fun σ H Q => te σ H fun x H1 => ∃ a xs, x = .ref a ∧ SqT K H1 a xs ∧ ∀ p, H1 p = none → Q (.ref p) (upd H1 p (.tup xs.reverse))
section
variable {X : Cx} {ρ : Env} {a b e : Expr} {te : TE} {pos : Pos} {ds : List D}
theorem pe_revT {k : Nat} {p1 p2 p3 : Pos} (he : PE X e te) : PE X (.Subscript e (.Slice none none (some (.UnaryOp .USub (.Constant (.int 1) k p1) p2)) p3) pos) (tRevT X.K te) := by
  refine ⟨fun pins s σ H Q I h => ?_⟩
  refine Subscript_ (thn (he.run pins s σ H _ I h) fun v s1 ⟨x, H1, I1, r1, q1⟩ => ?_)
  obtain ⟨a, xs, ex, hx, q⟩ := q1
  subst ex
  cases r1
  have hst : PO X (some (.UnaryOp .USub (.Constant (.int 1) k p1) p2)) (tPart (tUn (rU fun i => .int (-i)) (tC (.int 1)))) := po_some (pe_un un_neg pe_int)
  refine wpAny_Slice (thn (po_none.run pins s1 σ H1 (fun o H2 => o = none ∧ H2 = H1) I1 ⟨rfl, rfl⟩) fun vl s2 ⟨l, H2, I2, pl, el, e2⟩ => ?_)
  subst el e2
  refine thn (po_none.run pins s2 σ H2 (fun o H3 => o = none ∧ H3 = H2) I2 ⟨rfl, rfl⟩) fun vu s3 ⟨u, H3, I3, pu, eu, e3⟩ => ?_
  subst eu e3
  refine thn (hst.run pins s3 σ H3 (fun o H4 => o = some (-1) ∧ H4 = H3) I3 ⟨1, rfl, -1, rfl, rfl, rfl⟩) fun vs s4 ⟨o, H4, I4, ps, eo, e4⟩ => ?_
  subst eo e4
  have I5 : Inv X pins σ H4 { s4 with heap := s4.heap.push { cls := .type "slice", data := .fields #[vl, vu, vs] } } := I4.kept (t' := s4.toks) fun b ob q => Heap.get?_push_of_some _ q
  obtain ⟨its, r, ht, hz⟩ := I5.tuple hx
  have hlen := r.length
  show wpAny (model X.prog X.w) X.A (subscriptTail e (.Slice none none (some (.UnaryOp .USub (.Constant (.int 1) k p1) p2)) p3) (.ref a) (.ref s4.heap.objs.size)) (EP X pins σ Q) X.xe { s4 with heap := s4.heap.push { cls := .type "slice", data := .fields #[vl, vu, vs] } }
  refine tail_any (ops := [.ref a, .ref s4.heap.objs.size]) ht.typeIs PyProof.Rows.slot_tuple_getitem.lookup ?_ (by with_unfolding_all rfl)
  refine item_down ht (Heap.IsSliceOf.new _ vl vu vs) pl pu ps ?_ (by rw [List.size_toArray]; omega)
  refine ⟨.ref _, _, I5.laid (t' := s4.toks) (o := .tup xs.reverse) (fun b ob q => Heap.get?_push_of_some _ q) (Nat.le_refl _) ?_, rfl, q _ (I5.hok.fresh (Nat.le_refl _))⟩
  exact ⟨by rw [List.length_reverse]; exact hz, _, by simpa using r.reverse, IsTup.new _ _⟩
theorem dv_revT {k : Nat} {p1 p2 p3 : Pos} (ha : Dv X a ρ (.tuple ds)) : Dv X (.Subscript a (.Slice none none (some (.UnaryOp .USub (.Constant (.int 1) k p1) p2)) p3) pos) ρ (.tuple ds.reverse) := fun σ G H Q S s q =>
  we_of (pe_revT pe_w) (ha σ G H _ S s fun x G1 H1 x1 r1 => by
    cases r1 with
    | tup e1 ra => exact ⟨_, _, rfl, SqT.of (x1.s _ _ e1), fun p hp => q _ (upd G1 p (.tup _)) _ (x1.trans (Ext.new x1.s hp)) (.tup upd_same (ra.reverse.mono (same_new (x1.s.free hp))))⟩)
theorem rgV_map (i j : Int) : rgV i j = (rangeI i j).map V.int := by
  unfold rgV rangeI
  rw [List.map_map]
  rfl
theorem dl_listRg {i j : Int} {p p1 : Pos} {pos1 : Pos} (hc : X.calm = true) (hg : Gl X "list") (hm : X.mg "list" = none) (hgr : Gl X "range") (hmr : X.mg "range" = none) (ha : Dv X a ρ (.int i)) (hb : Dv X b ρ (.int j)) (ok : RgOk i j)
    (hs : starEach [a, b] X.env = (false, eval a X.env) :: starEach [b] X.env := by rfl) (hs2 : starEach [b] X.env = (false, eval b X.env) :: starEach [] X.env := by rfl) (hp : (backTo pos1 (starEach [b] X.env)).any (·.1) = false := by rfl)
    (na : starEach [.Call (.Name "range" p1) [a, b] [] pos1] X.env = (false, eval (.Call (.Name "range" p1) [a, b] [] pos1) X.env) :: starEach [] X.env := by rfl) :
    Dl X (.Call (.Name "list" p) [.Call (.Name "range" p1) [a, b] [] pos1] [] pos) ρ ((rangeI i j).map PyData.int) := fun σ G H Q S s q =>
  we_of (pe_listRg hc hg hm (prg_2 hgr hmr pe_w pe_w hs hs2 hp) na) (ha σ G H _ S s fun v G1 H1 x1 r1 => hb σ G1 H1 _ (S.mono x1.g) x1.s fun u G2 H2 x2 r2 => by
    cases r1
    cases r2
    refine ⟨i, j, rfl, rfl, ok, fun p hp => ?_⟩
    rw [rgV_map]
    exact q p _ G2 _ ((x1.trans x2).trans (Ext.own x2.s hp)) (x1.h.free (x2.h.free hp)) (x2.s.free hp) upd_same (rpa_ints _))
end
theorem back_marks {xs : List Int} (h : backI xs = true) : marksI xs = some (rowI xs) := by
  unfold backI at h
  unfold marksI at h ⊢
  split
  · rename_i h1
    rw [if_pos h1] at h
    cases h
  · rename_i h1
    rw [if_neg h1] at h
    split
    · rfl
    · rename_i h2
      rw [if_neg h2] at h
      cases h
theorem rot_data {row : List Int} {x : Int} (h : 0 ≤ x) : PyData.tuple (cutD (row.map PyData.int) (some x) none ++ cutD (row.map PyData.int) none (some x)) = tI (row.drop x.toNat ++ row.take x.toNat) := by
  have hn : ((x.toNat : Nat) : Int) = x := by omega
  rw [cutD_map, cutD_map, ← hn, cutD_from, cutD_to, ← List.map_append, Int.toNat_natCast]
end Hr
/-! tuple(range(i, j, -1)). -/
namespace Hr
open PySem PySem.Spec PyProof.Rows L2

/-- i, i - 1, .. above j -/
def downI (i j : Int) : List Int := (List.range (i - j).toNat).map fun m => i - (m : Nat)
def tTupDown (ta : TA) : TE := fun σ H Q => ta σ H fun vs H1 => ∃ i j, vs = [.int i, .int j, .int (-1)] ∧ -(2 ^ 62) ≤ i ∧ i < 2 ^ 62 ∧ -(2 ^ 62) ≤ j ∧ j < 2 ^ 62 ∧ (i - j).toNat ≤ 1000000 ∧ ∀ q, H1 q = none → Q (.ref q) (upd H1 q (.tup ((downI i j).map V.int)))
theorem vals_down {i j : Int} {acc : Array Value} (h : ItemsOf (fun m v => ∃ t, v = .int (i + m * (-1)) t) acc (i - j).toNat) : Vals ((downI i j).map V.int) acc.toList := by
  have e : acc.toList.length = (i - j).toNat := by rw [Array.length_toList]; exact h.1
  unfold downI
  rw [← e, List.map_map]
  refine vals_of_get acc.toList _ fun m u hm => ?_
  obtain ⟨t, rfl⟩ := h.2 m u (by rw [← hm, Array.getElem?_toList])
  exact ⟨t, by rw [show i + (m : Int) * (-1) = i - (m : Nat) by omega]⟩
section
variable {X : Cx} {ρ : Env} {a b c : Expr} {ta : TA} {p p1 pos pos1 : Pos}
theorem pe_tupDown (hc : X.calm = true) (hg : Gl X "tuple") (hm : X.mg "tuple" = none) (hgr : Gl X "range") (hmr : X.mg "range" = none) (ha : PA X [a, b, c] ta)
    (hs : starEach [a, b, c] X.env = (false, eval a X.env) :: starEach [b, c] X.env := by rfl) (hpl : (backTo pos1 (starEach [b, c] X.env)).any (·.1) = false := by rfl)
    (na : starEach [.Call (.Name "range" p1) [a, b, c] [] pos1] X.env = (false, eval (.Call (.Name "range" p1) [a, b, c] [] pos1) X.env) :: starEach [] X.env := by rfl) :
    PE X (.Call (.Name "tuple" p) [.Call (.Name "range" p1) [a, b, c] [] pos1] [] pos) (tTupDown ta) := by
  refine ⟨fun pins s σ H Q I h => ?_⟩
  refine Call_ (ld_blt I hg hm boot_tuple (PyProof.Rows.callWith_type1 (args_cons ?_ na) na))
  refine Call_ (ld_blt I hgr hmr boot_range (PyProof.Rows.callWith_type1 (thn (ha.run pos1 pins s σ H _ I h) fun us s1 ⟨vs, H1, I1, r1, q1⟩ => ?_) hs hpl))
  obtain ⟨i, j, e, b1, b2, b3, b4, b5, q⟩ := q1
  subst e
  cases r1 with
  | cons r rr =>
    cases rr with
    | cons r' rr =>
      cases rr with
      | cons r'' rr =>
        cases rr
        obtain ⟨t, rfl⟩ := r
        obtain ⟨t', rfl⟩ := r'
        obtain ⟨t'', rfl⟩ := r''
        obtain ⟨c0, c1, c2, c3⟩ := RgC.neg b1 b2 b3 b4
        refine call_range_3 c0 ?_ (.inl (PyProof.noPylong_small c1))
        refine args_nil ?_
        have I2 : Inv X pins σ H1 { s1 with heap := s1.heap.push { cls := .type "range", data := .fields #[.int i t, .int j t', .int (-1) t''] } } := I1.kept (t' := s1.toks) fun b o e => Heap.get?_push_of_some _ e
        refine call_tuple_range (n := (i - j).toNat) (I1.ok.hd hc) (IsRange.new ..) c2 c3 (by omega) fun h' tk acc hk hi => ?_
        have I3 : Inv X pins σ H1 { s1 with heap := h', toks := tk } := I2.kept hk
        refine ⟨.ref h'.objs.size, upd H1 h'.objs.size (.tup ((downI i j).map V.int)), I3.laid (t' := tk) (fun c o e => Heap.get?_push_of_some _ e) (Nat.le_refl _) (show ObjOk X.prog X.w _ _ _ (.tup ((downI i j).map V.int)) from ⟨?_, acc.toList, vals_down hi, ?_⟩), rfl, q _ (I3.hok.fresh (Nat.le_refl _))⟩
        · unfold downI
          rw [List.length_map, List.length_map, List.length_range]
          exact sz b5
        · rw [Array.toArray_toList]; exact IsTup.new _ _
theorem dv_tupDown {i j : Int} (hc : X.calm = true) (hg : Gl X "tuple") (hm : X.mg "tuple" = none) (hgr : Gl X "range") (hmr : X.mg "range" = none) (ha : Da X [a, b, c] ρ [.int i, .int j, .int (-1)]) (h1 : -(2 ^ 62) ≤ i) (h2 : i < 2 ^ 62) (h3 : -(2 ^ 62) ≤ j) (h4 : j < 2 ^ 62) (h5 : (i - j).toNat ≤ 1000000)
    (hs : starEach [a, b, c] X.env = (false, eval a X.env) :: starEach [b, c] X.env := by rfl) (hpl : (backTo pos1 (starEach [b, c] X.env)).any (·.1) = false := by rfl)
    (na : starEach [.Call (.Name "range" p1) [a, b, c] [] pos1] X.env = (false, eval (.Call (.Name "range" p1) [a, b, c] [] pos1) X.env) :: starEach [] X.env := by rfl) :
    Dv X (.Call (.Name "tuple" p) [.Call (.Name "range" p1) [a, b, c] [] pos1] [] pos) ρ (tI (downI i j)) := fun σ G H Q S s q =>
  we_of (pe_tupDown hc hg hm hgr hmr pa_w hs hpl na) (ha σ G H _ S s fun vs G1 H1 x1 r1 => by
    have e : vs = [.int i, .int j, .int (-1)] := RpA.ints (ns := [i, j, -1]) r1
    subst e
    exact ⟨i, j, rfl, h1, h2, h3, h4, h5, fun p hp => q _ (upd G1 p (.tup _)) _ (x1.trans (Ext.new x1.s hp)) (.tup upd_same (rpa_ints _))⟩)
end
end Hr
/-! sorted(set(list of ints)). -/
namespace Hr
open PySem PySem.Spec PyProof.Rows L2

section
variable {P : Program} {w : World} {A : Around} {E : Value → Shared → Prop} {s : Shared}
theorem call_set_lstI {l : Addr} {items : Array Value} (ns : List Int) {Q : Value → Shared → Prop} (hh : A.handled = none) (hl : s.heap.IsList l items) (hit : IntsAre items.toList ns) (hb : ns.length + 1 < scanBound)
    (h : ∀ (h' : Heap) (tk c : Nat), SetR w h' s.heap.objs.size (fun j => decide (j ∈ ns)) c → c ≤ ns.length → (∀ b o, s.heap.get? b = some o → h'.get? b = some o) → Q (.ref s.heap.objs.size) { s with heap := h', toks := tk }) :
    wpAny (model P w) A (call (.type "set") [.ref l]) Q E s := by
  have hisz : items.size = ns.length := by
    have q := IntsAre.length hit
    rw [Array.length_toList] at q
    exact q
  obtain ⟨c, tl, hmro⟩ := F.called_set.mro
  have hmade := F.called_set.made
  have hsub := F.called_set.sub
  refine wpAny_call (codeAny_of_tree ?_)
  show wpAny _ _ (callAny (.type "set") _) _ _ _
  refine wpAny_pure ⟨Code.quiet_builtin _ (by decide +kernel), codeAny_builtin F.entry_type_call ?_⟩
  rw [Around.under_plain (weight_type_call_type "set" [.ref l] []) rfl]
  have h1 := F.called_set.notType
  have h2 := F.called_set.canCreate
  have hct := F.typeCall_set_1 (.ref l)
  repeat (any_goals (first | assumption | wp_step))

  refine codeAny_mono (code_set_led1 (.ref l) (E := E) (Q₁ := fun obj s₁ => obj = .ref s.heap.objs.size ∧ s₁ = { s with heap := s.heap.push { cls := .type "set", dict := none, data := .set #[] 0 (.fresh 0 0 (!w.params.followText "set-order")) } }) ⟨rfl, rfl⟩) fun r s₁ hr => ?_
  cases r with
  | error e => exact hr
  | ok fl =>
    cases fl with
    | ret obj =>
      obtain ⟨rfl, rfl⟩ := hr
      have hS : (s.heap.push { cls := .type "set", dict := none, data := .set #[] 0 (.fresh 0 0 (!w.params.followText "set-order")) }).get? s.heap.objs.size = some { cls := .type "set", dict := none, data := .set #[] 0 (.fresh 0 0 (!w.params.followText "set-order")) } := Heap.get?_push_size _ rfl
      have hT : Shared.TypeIs { s with heap := s.heap.push { cls := .type "set", dict := none, data := .set #[] 0 (.fresh 0 0 (!w.params.followText "set-order")) } } (.ref s.heap.objs.size) "set" := ⟨_, hS, rfl⟩
      have hli := F.called_set.init.lookup
      have hbi := F.called_set.init.bind (.ref s.heap.objs.size)
      repeat (any_goals (first | assumption | wp_step))

      refine codeAny_mono (codeAny_call_builtin (R := wants (fun r s₂ => r = .none ∧ ∃ h' tk c, s₂ = { s with heap := h', toks := tk } ∧ SetR w h' s.heap.objs.size (fun j => decide (j ∈ ns)) c ∧ c ≤ ns.length ∧
          (∀ b o, s.heap.get? b = some o → h'.get? b = some o)) E) F.called_set.init.plain F.entry_set_init (check_set_init_1 hT ?_)) fun r₂ s₂ hr₂ => ?_
      · obtain ⟨ol, hol, hcl, nl, hdl⟩ := hl
        obtain ⟨ocls, odict, odata, oslots⟩ := ol
        simp only at hcl hdl
        subst hcl; subst hdl
        have hol' : (s.heap.push { cls := .type "set", dict := none, data := .set #[] 0 (.fresh 0 0 (!w.params.followText "set-order")) }).get? l = some { cls := .type "list", dict := odict, data := .seq items nl, slots := oslots } := Heap.get?_push_of_some _ hol
        have hsls := F.sub_list_set
        have hslf := F.sub_list_frozenset
        have hne : (Value.type "list" == Value.type "dict") = false := by decide
        have hl1 : (s.heap.push { cls := .type "set", dict := none, data := .set #[] 0 (.fresh 0 0 (!w.params.followText "set-order")) }).IsList l items := ⟨_, hol', rfl, nl, rfl⟩
        unfold Builtin.«set.__init__» noKeywords Builtin.Frozenset.updateFrom
        generalize hPI : pyIter = PI
        wp_walk
        subst hPI

        refine wpAny_pyIter_list hl1 ?_
        refine wpAny_bind (wpAny_runValue ?_)
        have hlS : l < s.heap.objs.size := Heap.lt_size hol
        have hh3 : A.in1.in1.in1.handled = none := by simp [hh]
        have hz1 : (s.heap.push { cls := .type "set", dict := none, data := .set #[] 0 (.fresh 0 0 (!w.params.followText "set-order")) }).objs.size = s.heap.objs.size + 1 := Heap.size_push ..
        have hneI : l ≠ (s.heap.push { cls := .type "set", dict := none, data := .set #[] 0 (.fresh 0 0 (!w.params.followText "set-order")) }).objs.size := by
          rw [Heap.size_push]; exact Nat.ne_of_lt (Nat.lt_succ_of_lt hlS)
        have hSf : s.heap.objs.size ∉ [(s.heap.push { cls := .type "set", dict := none, data := .set #[] 0 (.fresh 0 0 (!w.params.followText "set-order")) }).objs.size, l] := by
          rw [Heap.size_push]; simp only [List.mem_cons, List.mem_singleton, List.not_mem_nil, or_false, not_or]
          exact ⟨Nat.ne_of_lt (Nat.lt_succ_self _), Nat.ne_of_gt hlS⟩
        have hval : ∀ (i : Nat) (v : Value), items[i]? = some v → ∃ k t, ns[i]? = some k ∧ v = .int k t := fun i v hv => by
          have hi : i < ns.length := by rw [← hisz]; exact (Array.getElem?_eq_some_iff.mp hv).1
          obtain ⟨t, e⟩ := PyProof.Rows.IntsAre.int_at hit i v (by rw [Array.getElem?_toList]; exact hv)
          refine ⟨ns[i], t, List.getElem?_eq_getElem hi, ?_⟩
          rw [e, List.getD_eq_getElem?_getD, List.getElem?_eq_getElem hi] <;> rfl
        refine set_update_ints ((Walks.list hh3 _ l hneI items).toS) s.heap.objs.size
          hSf ns hisz hb hval (items.size - 0) 0 _ (by omega) (Nat.zero_le _)
          ⟨⟨_, Heap.get?_push_size _ rfl, rfl, rfl⟩, (hl1.push _)⟩ ?hS0 ?hR
        case hS0 =>
          have hget : ((s.heap.push { cls := .type "set", dict := none, data := .set #[] 0 (.fresh 0 0 (!w.params.followText "set-order")) }).push { cls := .type "list_iterator", data := .fields #[.ref l, .int 0 0] }).get? s.heap.objs.size
              = some { cls := .type "set", dict := none, data := .set #[] 0 (.fresh 0 0 (!w.params.followText "set-order")) } := Heap.get?_push_of_some _ hS
          exact ⟨0, Nat.le_refl 0, setR_new_at hget⟩
        case hR =>
          intro s' c' hm hc' hS'
          obtain ⟨h', g2, d', tk', os'⟩ := s'
          have eg : g2 = s.gens := hm.gens
          have ed : d' = s.drawn := hm.drawn
          have eo : os' = s.os := hm.os
          subst eg; subst ed; subst eo
          show wpAny _ _ _ _ _ _
          refine wpAny_pure ?_
          show wpAny _ _ (ret Value.none) _ _ _
          rw [hisz] at hc'
          refine wpAny_pure ⟨rfl, h', tk', c', rfl, hS', hc', fun b o e => ?_⟩
          have hb0 : b < s.heap.objs.size := Heap.lt_size e
          have hb1 : b ≠ s.heap.objs.size := Nat.ne_of_lt hb0
          have hb2 : b ≠ (s.heap.push { cls := .type "set", dict := none, data := .set #[] 0 (.fresh 0 0 (!w.params.followText "set-order")) }).objs.size := by
            rw [Heap.size_push]; exact Nat.ne_of_lt (Nat.lt_succ_of_lt hb0)
          exact hm.heap b o (by simp only [List.mem_cons, List.mem_singleton, List.not_mem_nil, or_false, not_or]; exact ⟨hb1, hb2⟩) (Heap.get?_push_of_some _ (Heap.get?_push_of_some _ e))

      · cases r₂ with
        | error e => exact hr₂
        | ok fl₂ =>
          cases fl₂ with
          | ret r =>
            obtain ⟨rfl, h', tk, c', rfl, hS', hc', hk'⟩ := hr₂
            repeat (any_goals (first | assumption | wp_step))
            exact h _ _ _ hS' hc' hk'
          | _ => exact hr₂.elim
    | _ => exact hr.elim

end
section
variable {X : Cx}
def rSetL (K : PySem.W.Frag) (w : World) : List V → Hp → VK → Prop := fun vs H Q => ∃ (a : Addr) (ns : List Int), vs = [V.ref a] ∧ SqL K H a (ns.map V.int) ∧ ns.length < 60 ∧ ∀ p c, c ≤ ns.length → H p = none → Q (.ref p) (upd H p (SetO w p (fun j => decide (j ∈ ns)) c))
theorem cr_setL (hc : X.calm = true) : CallR X (.type "set") (rSetL X.K X.w) := by
  intro pins s σ H vs us Q I r h
  obtain ⟨a, ns, rfl, hs, hl, q⟩ := h
  rw [Vals.ref1 r]
  obtain ⟨its, rv, pl, hz⟩ := I.list hs
  refine call_set_lstI ns (I.ok.hd hc) pl.isList (by simpa using ints_of_vals rv) (by unfold scanBound; omega) fun h' tk c R1 hcn k => ?_
  exact ⟨.ref _, upd H s.heap.objs.size (SetO X.w s.heap.objs.size (fun j => decide (j ∈ ns)) c), I.laid (t' := tk) (fun b u e => k b u e) (Nat.le_refl _) (setO_new R1), rfl, q _ c hcn (I.hok.fresh (Nat.le_refl _))⟩
end
section
variable {X : Cx} {ρ : Env} {e : Expr} {p p1 pos pos1 : Pos} {ns ms : List Int}
theorem dl_sortedSet (hc : X.calm = true) (hg : Gl X "sorted") (hm : X.mg "sorted" = none) (hgs : Gl X "set") (hms : X.mg "set" = none) (ha : Dv X e ρ (lI ns)) (hz : ns.length < 60) (h1 : ms.Pairwise (· < ·)) (h2 : ∀ k, k ∈ ms ↔ k ∈ ns)
    (hs : starEach [e] X.env = (false, eval e X.env) :: starEach [] X.env := by rfl) (hs2 : starEach [.Call (.Name "set" p1) [e] [] pos1] X.env = (false, eval (.Call (.Name "set" p1) [e] [] pos1) X.env) :: starEach [] X.env := by rfl) :
    Dl X (.Call (.Name "sorted" p) [.Call (.Name "set" p1) [e] [] pos1] [] pos) ρ (ms.map PyData.int) := fun σ G H Q S s q =>
  we_of (pe_callB (cr_sortedSet hc) hg hm bb_sorted (pa_cons (pe_callTy (cr_setL hc) hgs hms bb_set pa_w (he := hs) (hpl := by rfl)) pa_nil hs2) (he := hs2) (hpl := by rfl)) (da1 ha hs σ G H _ S s fun vs G1 H1 x1 r1 => by
    obtain ⟨v, rfl, rv⟩ := r1.one
    cases rv with
    | lst e1 ra =>
      have := ra.ints
      subst this
      refine ⟨_, ns, rfl, SqL.of (x1.s _ _ e1), hz, fun a c hcn ha' => ?_⟩
      refine ⟨a, _, c, rfl, upd_same, by omega, fun ks b hk1 hk2 hk3 hb => ?_⟩
      have ek : ks = ms := by
        have n1 : ks.Nodup := hk1.imp fun h => Int.ne_of_lt h
        have n2 : ms.Nodup := h1.imp fun h => Int.ne_of_lt h
        have pm : ks.Perm ms := (List.perm_ext_iff_of_nodup n1 n2).mpr fun k => by rw [hk2, decide_eq_true_eq, h2]
        exact sorted_eq pm (hk1.imp fun h => Int.le_of_lt h) (h1.imp fun h => Int.le_of_lt h)
      subst ek
      have x2 : Ext G1 H1 G1 (upd H1 a (SetO X.w a (fun j => decide (j ∈ ns)) c)) := Ext.own x1.s ha'
      exact q b _ G1 _ ((x1.trans x2).trans (Ext.own x2.s hb)) (by
        cases e : H b with
        | none => rfl
        | some o =>
          have z := (x1.trans x2).h b o e
          rw [hb] at z
          cases z) (x2.s.free hb) upd_same (rpa_ints ks))
end
end Hr
/-! Exceptions: raise, defs that raise, try .. except X as n. -/
namespace Hr
open PySem PySem.Spec PyProof.Rows L2

abbrev bmV : List Value := [.type "ValueError", .type "Exception", .type "BaseException", .type "object"]
/-- an exception class of the program -/
structure Ecl (K : PySem.W.Frag) (mg : Str → Option Value) (x : Str) (C : Addr) : Prop where
  g : mg x = some (.ref C)
  ex : PySem.W.excIn K C bmV "ValueError.__new__" = true
  kp : PySem.W.keepIn K (.ref C) = true
  sb : PySem.W.subIn K (.ref C) (.type "BaseException") = some true
  ty : PySem.W.typeIn K (.ref C) = some (.type "type")
/-- defs that raise: called with ds, R ds x: the exception class x -/
def spE (mg : Str → Option Value) (R : List D → Str → Prop) : Sp := fun vs H _ E => ∃ (G : Hp) (ds : List D) (x : Str) (C : Addr), Same G H ∧ RpA G vs ds ∧ R ds x ∧ mg x = some (.ref C) ∧ ∀ G' H', Ext G H G' H' → E (.ref C) none H'
/-- an expression that raises -/
def Dx (X : Cx) (e : Expr) (ρ : Env) (x : Str) : Prop := ∀ (W : WX) (C : Addr) (σ : L2.St) (G H : Hp) (Q : VK), L2N.Takes X W → X.mg x = some (.ref C) → Sl G σ ρ → Same G H → (∀ G' H', Ext G H G' H' → W (.ref C) none σ H') → wE X e σ H Q
section
variable {X : Cx} {ρ : Env} {e : Expr} {es : List Expr} {p pos : Pos} {d : D} {ds : List D} {f x : Str} {k : Nat} {R : List D → Str → Prop}
theorem dx_call (F : Kn X.prog X.w X.K X.mg X.base f k (spE X.mg R)) (hr : Room k X.A) (hg : Gl X f) (ha : Da X (e :: es) ρ ds) (hR : R ds x) (hdb : (f == ("__debug__" : Str)) = false := by decide)
    (he : starEach (e :: es) X.env = (false, eval e X.env) :: starEach es X.env := by rfl) (hpl : (backTo pos (starEach es X.env)).any (·.1) = false := by rfl) : Dx X (.Call (.Name f p) (e :: es) [] pos) ρ x := by
  obtain ⟨fa, fd, ps, F, hm, hk, hb⟩ := F
  exact fun W C σ G H Q tk hC S0 s q => we_of (pe_callS (E := WE W) F hr hg hm hk hb (fun σ => L2N.passAt tk σ) pa_w hdb he hpl) (ha σ G H _ S0 s fun vs G1 H1 x1 r1 =>
    ⟨G1, ds, x, C, x1.s, r1, hR, hC, fun G2 H2 x2 => q G2 H2 (x1.trans x2)⟩)
end
section
variable {X : Cx} {G0 H0 Gm : Hp} {ρ : Cells} {E : Ends} {W : WX} {e : Expr} {es : List Expr} {d : D} {ds : List D} {C : Addr} {j : Nat} {p p2 p3 pos pos' : Pos} {x y m : Str}
theorem tr_raise (ec : Ecl X.K X.mg x C) (hc : X.calm = true) (tk : L2N.Takes X W) (k : Nx G0 H0 Gm ρ (W (.ref C) none)) (hg : Gl X x := by rfl) (hdb : (x == ("__debug__" : Str)) = false := by decide) : Tr X G0 H0 (.Raise (some (.Call (.Name x p) [.Constant (.str m) j p2] [] p3)) none pos) Gm ρ E := fun G σ H s A =>
  ws_of (L2N.ps_raise hc tk (L2N.pmk_own PySem.F.excBase_ValueError ec.ex ec.g ec.kp (raises_own ec.sb ec.ty) hg hdb)) (k G σ H s A)
theorem tr_exprX (he : Dx X e (visE ρ) x) (hC : X.mg x = some (.ref C)) (tk : L2N.Takes X W) (k : Nx G0 H0 Gm ρ (W (.ref C) none)) (hs : swapsWith e none pos.line X.env = pure false := by rfl) : Tr X G0 H0 (.Expr e pos) Gm ρ E := fun G σ H s A =>
  ws_of (ps_expr pe_w hs) (he W C σ H H _ tk hC A.slV (Same.refl H) fun G' H' x => k G σ H' s (A.step ⟨Same.refl G, x.h, A.ext.s.trans x.h, fun _ _ _ _ g => g⟩))
theorem tr_retX (he : Dx X e (visE ρ) x) (hC : X.mg x = some (.ref C)) (tk : L2N.Takes X W) (k : Nx G0 H0 Gm ρ (W (.ref C) none)) : Tr X G0 H0 (.Return (some e) pos) Gm ρ E := fun G σ H s A =>
  ws_of (ps_ret pe_w) (he W C σ H H _ tk hC A.slV (Same.refl H) fun G' H' x => k G σ H' s (A.step ⟨Same.refl G, x.h, A.ext.s.trans x.h, fun _ _ _ _ g => g⟩))
end
section
variable {P : Program} {w : World} {K : PySem.W.Frag} {mg : Str → Option Value} {base : Heap}
/-- a def that raises keeps its promise -/
theorem fn_e {x qual : Str} {st : Stmt} {f : Addr} {fd : FuncData} {N ps : List Str} {k : Nat} {R : List D → Str → Prop} (F : Fun K x qual st f fd) (sc : FnScope N ps (defScope st)) (hl : ∀ ds y, R ds y → ds.length = ps.length)
    (hb : ∀ (cdv : Value) (A : Around) (outer : List PySem.Env) (s : Shared) (Hs : Hp) (Ex : XK), Room k (A.deeper (envOfC qual (defScope st) s.heap.objs.size f cdv)) → ∀ (ds : List D) (y : Str) (C : Addr), R ds y → mg y = some (.ref C) → ∀ (G H : Hp) (E : Ends),
      L2N.Takes (cxOf (L2N.CX P w) P w K mg base N qual (defScope st) f cdv A outer s Hs Ex) (fun cls d _ H => Ex cls d H) → (∀ G' H', Ext G H G' H' → Ex (.ref C) none H') → TrB (cxOf (L2N.CX P w) P w K mg base N qual (defScope st) f cdv A outer s Hs Ex) G H (defBody st) G (argC N ds) E) :
    FnOk P w K mg base (L2N.CX P w) (k + 1) f fd ps (spE mg R) := by
  refine F.okN sc (fun vs H Q E h => ?_) (fun cdv A outer s H vs Q E hr h => ?_)
  · obtain ⟨G, ds, y, C, _, r, hS, _⟩ := h
    rw [r.length]
    exact hl ds y hS
  · obtain ⟨G, ds, y, C, sg, r, hS, hC, q⟩ := h
    refine ⟨_, pb_w, ?_⟩
    exact hb cdv A outer s H E hr ds y C hS hC G H { nx := fun _ H' => Q .non H', rt := Q } (L2N.takes_of rfl rfl rfl rfl) q G (L2.start N vs) H (Same.refl G) (argC_at sg r)
end
/-! ### the def that is called with the exception in hand -/
theorem cr_isE {X : Cx} {a Dc : Addr} {oe : Obj} (hp : (a, oe) ∈ X.pn) (C : ExcC X.K Dc) (hz : Zc (.ref Dc) none oe) (hf : ∃ vs, oe.data = .fields vs) : CallR X (.builtin "isinstance") (rIsE X.K Dc a) := by
  intro pins s σ H xs us Q I r h
  obtain ⟨c, cv, b, rfl, hcv, e, q⟩ := h
  cases r with
  | cons rx rr =>
    cases rr with
    | cons rt rr =>
      cases rr
      cases rx
      have ec := hcv _ rt
      subst ec
      obtain ⟨hget, _⟩ := I.pin (a, oe) (List.mem_append_left _ hp)
      obtain ⟨vs, hv⟩ := hf
      have J : PySem.W.InstAt s.heap a oe Dc none := by
        obtain ⟨oc, od, oda, osl⟩ := oe
        obtain ⟨h1, h2⟩ := hz
        dsimp only at h1 h2 hv
        subst h1 h2 hv
        exact ⟨hget, rfl, rfl, trivial⟩
      exact PySem.W.kia_one (PySem.W.handS_kitx_exc C.hg C.hk C.hs C.hd C.ha C.hn C.ht C.hm) I.kIn J e (fun z => nomatch z) fun tk => ⟨.bl b, H, I.kept (t' := tk) fun _ _ z => z, rfl, q⟩
section
variable {X : Cx} {ρ : Env} {a : Expr} {p p2 pos : Pos} {T x : Str} {Dc Cc ad : Addr} {oe : Obj} {b : Bool}
/-- a module's name that holds an object -/
theorem dv_glob {u : Addr} (hm : X.mg x = some (.ref u)) (hg : Gl X x := by rfl) (hd : (x == ("__debug__" : Str)) = false := by decide) : Dv X (.Name x pos) ρ (rawD u) := dv_c (v := .ref u) (pe_glob hg hm rfl hd) fun _ => .raw u
theorem dv_isE (cr : CallR X (.builtin "isinstance") (rIsE X.K Dc ad)) (hg : Gl X "isinstance") (hm : X.mg "isinstance" = none) (ha : Dv X a ρ (rawD ad)) (hT : X.mg T = some (.ref Cc)) (hk : PySem.W.kitOne X.K (.ref Dc) (.ref Cc) = some b) (hgT : Gl X T := by rfl)
    (hs : starEach [a, .Name T p2] X.env = (false, eval a X.env) :: starEach [.Name T p2] X.env := by rfl) (hd : (T == ("__debug__" : Str)) = false := by decide) (hpl : (backTo pos (starEach [.Name T p2] X.env)).any (·.1) = false := by rfl) :
    Dv X (.Call (.Name "isinstance" p) [a, .Name T p2] [] pos) ρ (.bool b) := fun σ G H Q S s q =>
  we_of (pe_callB cr hg hm bb_isinstance (pa_cons pe_w (pa_cons (pe_glob (v := .ref Cc) hgT hT rfl hd) pa_nil) hs) (he := hs) (hpl := hpl)) (ha σ G H _ S s fun v G1 H1 x1 r1 => by
    have := raw_is r1
    subst this
    exact ⟨.ref Cc, .ref Cc, b, rfl, fun u r => r, hk, q _ G1 H1 x1 (.bl _)⟩)
theorem dv_isEV {tn : String} (cr : CallR X (.builtin "isinstance") (rIsE X.K Dc ad)) (hg : Gl X "isinstance") (hm : X.mg "isinstance" = none) (ha : Dv X a ρ (rawD ad)) (hT : X.mg T = none) (hv : bootBuiltins T = some (.type tn)) (hk : PySem.W.kitOne X.K (.ref Dc) (.type tn) = some b) (hgT : Gl X T := by rfl)
    (hs : starEach [a, .Name T p2] X.env = (false, eval a X.env) :: starEach [.Name T p2] X.env := by rfl) (hn : T ≠ "__name__" := by decide) (hd : (T == ("__debug__" : Str)) = false := by decide) (hpl : (backTo pos (starEach [.Name T p2] X.env)).any (·.1) = false := by rfl) :
    Dv X (.Call (.Name "isinstance" p) [a, .Name T p2] [] pos) ρ (.bool b) := fun σ G H Q S s q =>
  we_of (pe_callB cr hg hm bb_isinstance (pa_cons pe_w (pa_cons (pe_bltn (v := .ty tn) hgT hT hv rfl hn hd) pa_nil) hs) (he := hs) (hpl := hpl)) (ha σ G H _ S s fun v G1 H1 x1 r1 => by
    have := raw_is r1
    subst this
    exact ⟨.ty tn, .type tn, b, rfl, fun u r => r, hk, q _ G1 H1 x1 (.bl _)⟩)
end
/-! ### list.count, list.index of data -/
def rCountD (K : PySem.W.Frag) : V → List V → Hp → VK → Prop := fun x xs H Q => ∃ (a : Addr) (y : V) (d : PyData) (ds : List PyData), x = V.ref a ∧ xs = [y] ∧ Dp K H (V.ref a) (.list ds) ∧ Dp K H y d ∧ SeqAt.shaped (.list ds) = true ∧ SeqAt.shaped d = true ∧ Q (.int (ds.countP fun z => PyData.eqv z d : Nat)) H
theorem mt_countD {X : Cx} (hu : X.A.units + 65 < cLine) : MtR X "list.count" (rCountD X.K) := by
  intro pins s σ H x xs v us Q I rx rxs h
  obtain ⟨a, y, d, ds, rfl, rfl, hl, hy, sl, sd, q⟩ := h
  cases rx
  obtain ⟨uy, rfl, ry⟩ := rxs.one
  obtain ⟨bs, r1⟩ := Dp.reads I d y uy hy ry
  have lay : PyData.canLayAll0 ds = true := SeqAt.canLay_of_shaped sl
  have room : X.A.units + 1 + min (PyData.depthAll ds) d.depth < cLine := room_in_shaped sd hu
  cases hl with
  | lst hs ha =>
    obtain ⟨its, rv, ⟨⟨cls, dd, data, sls⟩, n, ho, hc, hdn, hdt⟩, hlen⟩ := I.list hs
    simp only at hc hdt
    subst hc hdt
    obtain ⟨as, h4⟩ := Dp.readsAll I ds _ its ha rv
    have hmap : its.map (SeqAt.readOf s.heap) = ds := SeqAt.readsAll_map ds its as lay h4
    refine call_meets PySem.F.slot_list_count ⟨_, ho, rfl⟩ PySem.F.entry_list_count (PySem.F.args_list_count_2 _ _)
      (SeqAt.list_countAt a its.toArray n dd sls uy (fun u => PyData.eqv (SeqAt.readOf s.heap u) d)) ⟨ho, SeqAt.items_eqAt (vs := its.toArray) (show ReadsAll s.heap its.toArray.toList ds as from h4) r1 lay (SeqAt.canLay_of_shaped sd) room, ?_⟩
    have ec : its.toArray.toList.countP (fun u => PyData.eqv (SeqAt.readOf s.heap u) d) = ds.countP fun z => PyData.eqv z d := by
      rw [← hmap, List.countP_map] <;> rfl
    refine ⟨.int (ds.countP fun z => PyData.eqv z d : Nat), H, I.tok _, ⟨s.toks, ?_⟩, q⟩
    rw [ec]
section
variable {X : Cx} {ρ : Env} {a e : Expr} {ds : List D} {d : D} {p2 pos : Pos}
theorem dv_countD (hu : X.A.units + 65 < cLine) (ha : Dv X a ρ (.list ds)) (he : Dv X e ρ d) (sl : SeqAt.shaped (.list ds) = true) (sd : SeqAt.shaped d = true)
    (hbase : attributeBase a "count" X.env (eval a X.env) = eval a X.env := by rfl) (hfew : ((backTo pos (starEach [e] X.env)).all (fun x => !x.1) && (backToKw pos (keywordEach [] X.env)).all (fun x => x.1.isSome) && decide (([e] : List Expr).length + ([] : List Keyword).length + (if ([] : List Keyword).isEmpty then 0 else 1) < 30)) = true := by rfl)
    (hline : (p2.endLine == pos.line) = true := by rfl) (hst : starEach [e] X.env = (false, eval e X.env) :: starEach [] X.env := by rfl) (hpl : (backTo pos (starEach [] X.env)).any (·.1) = false := by rfl) :
    Dv X (.Call (.Attribute a "count" p2) [e] [] pos) ρ (.int (ds.countP fun z => PyData.eqv z d : Nat)) := fun σ G H Q S s q =>
  we_of (pe_bm PySem.F.plainAttrs_list PySem.F.slot_list_count PySem.F.type_list_count (mt_countD hu) pe_w pa_w hbase hfew hline hst hpl) (ha σ G H _ S s fun v G1 H1 x1 r1 => by
    have rl := r1
    cases r1 with
    | lst e1 ra =>
      refine ⟨.inl ⟨rfl, _, SqL.of (x1.s _ _ e1)⟩, da1 he hst σ G1 H1 _ (S.mono x1.g) x1.s fun vs G2 H2 x2 r2 => ?_⟩
      obtain ⟨w, rfl, rw'⟩ := r2.one
      exact ⟨_, w, d, ds, rfl, rfl, ((rl.mono x2.g).mono x2.s).dp (SeqAt.canLay_of_shaped sl), (rw'.mono x2.s).dp (SeqAt.canLay_of_shaped sd), sl, sd, q _ G2 H2 (x1.trans x2) (.int _)⟩)
theorem dv_indexD {j : Nat} {z : D} (hu : X.A.units + 65 < cLine) (ha : Dv X a ρ (.list ds)) (he : Dv X e ρ d) (sl : SeqAt.shaped (.list ds) = true) (sd : SeqAt.shaped d = true) (hj : ds[j]? = some z) (hz : PyData.eqv z d = true) (hno : ∀ (m : Nat) (z' : PyData), m < j → ds[m]? = some z' → PyData.eqv z' d = false)
    (hbase : attributeBase a "index" X.env (eval a X.env) = eval a X.env := by rfl) (hfew : ((backTo pos (starEach [e] X.env)).all (fun x => !x.1) && (backToKw pos (keywordEach [] X.env)).all (fun x => x.1.isSome) && decide (([e] : List Expr).length + ([] : List Keyword).length + (if ([] : List Keyword).isEmpty then 0 else 1) < 30)) = true := by rfl)
    (hline : (p2.endLine == pos.line) = true := by rfl) (hst : starEach [e] X.env = (false, eval e X.env) :: starEach [] X.env := by rfl) (hpl : (backTo pos (starEach [] X.env)).any (·.1) = false := by rfl) :
    Dv X (.Call (.Attribute a "index" p2) [e] [] pos) ρ (.int (j : Nat)) := fun σ G H Q S s q =>
  we_of (pe_bm PySem.F.plainAttrs_list PySem.F.slot_list_index PySem.F.type_list_index (mt_indexD hu) pe_w pa_w hbase hfew hline hst hpl) (ha σ G H _ S s fun v G1 H1 x1 r1 => by
    have rl := r1
    cases r1 with
    | lst e1 ra =>
      refine ⟨.inl ⟨rfl, _, SqL.of (x1.s _ _ e1)⟩, da1 he hst σ G1 H1 _ (S.mono x1.g) x1.s fun vs G2 H2 x2 r2 => ?_⟩
      obtain ⟨w, rfl, rw'⟩ := r2.one
      exact ⟨_, w, d, ds, j, z, rfl, rfl, ((rl.mono x2.g).mono x2.s).dp (SeqAt.canLay_of_shaped sl), (rw'.mono x2.s).dp (SeqAt.canLay_of_shaped sd), sl, sd, hj, hz, hno, q _ G2 H2 (x1.trans x2) (.int _)⟩)
end
end Hr
/-! A def that is called with the exception in hand (_law_which); try: body, except X as n: return which(n). -/
namespace Hr
open PySem PySem.Spec PyProof.Rows L2

/-- the law's seven classes, in the order of their places -/
def excN : Nat → Str
  | 0 => "InvalidState"
  | 1 => "InvalidNumber"
  | 2 => "InvalidMarks"
  | 3 => "DoesNotReturn"
  | 4 => "NotReached"
  | 5 => "NothingToUndo"
  | _ => "ParseError"
/-- the class at Dc has the place i -/
structure ExcK (K : PySem.W.Frag) (mg : Str → Option Value) (Dc : Addr) (i : Nat) : Prop where
  c : ExcC K Dc
  w : ∀ j, j < 7 → ∃ Cj, mg (excN j) = some (.ref Cj) ∧ PySem.W.kitOne K (.ref Dc) (.ref Cj) = some (decide (j = i))
  v : PySem.W.kitOne K (.ref Dc) (.type "ValueError") = some true
  ve : mg "ValueError" = none
  h : ∃ Ch, mg "HeapError" = some (.ref Ch) ∧ PySem.W.exmOne K (.ref Dc) (.ref Ch) = some true
/-- a class of the program by its name, and its place -/
def Exk (K : PySem.W.Frag) (mg : Str → Option Value) (x : Str) (i : Nat) : Prop := i < 7 ∧ ∃ C, Ecl K mg x C ∧ ExcK K mg C i
abbrev raisedD (i : Int) : D := .tuple [.str "raised", .int i]
theorem sh_raised {i : Int} : Sh 1 (raisedD i) := ShA.tup (sha_cons (sh_str (by decide +kernel)) (sha_cons sh_int sha_nil))

/-! ### a def, called where p's exception is handled -/
structure FnP (P : Program) (w : World) (K : PySem.W.Frag) (mg : Str → Option Value) (base : Heap) (k : Nat) (f : Addr) (fd : FuncData) (ps : List Str) (p : Addr × Obj) (sp : Sp) : Prop where
  len : ∀ vs H Q E, sp vs H Q E → vs.length = ps.length
  run : ∀ (A : Around) (outer : List PySem.Env) (s : Shared) (H : Hp) (args : Args) (us : List Value) (vs : List V) (Q : VK) (E : XK), L2H.RoomH k A → L2H.Hot1 A p → L2H.PinOk outer H s p → Env0 P w K mg base A outer s H → BindsTo s fd args (ps.zip us) → Vals vs us → sp vs H Q E → codeAny (model P w) A (.call (.ref f) args) (CR (L2N.CX P w) outer P w H s Q E) s
abbrev cxP (P : Program) (w : World) (K : PySem.W.Frag) (mg : Str → Option Value) (base : Heap) (N : List Str) (qual : Str) (scope : Scope) (f : Addr) (cd : Value) (A : Around) (outer : List PySem.Env) (s : Shared) (H : Hp) (E : XK) (p : Addr × Obj) : Cx := L2H.cxH (L2N.CX P w) P w K mg base N qual scope f cd A outer s H E p
section
variable {P : Program} {w : World} {K : PySem.W.Frag} {mg : Str → Option Value} {base : Heap}
theorem fn_ofP {k : Nat} {f : Addr} {name qual : Str} {params : Arguments} {body : List Stmt} {scope : Scope} {dV kV doc pm cdv ct oc : Value} {an od : Option Addr} {osl : Array (Option Value)} {N ps : List Str} {sp : Sp} {p : Addr × Obj}
    (lk : K.lookup f = some ⟨oc, od, .func (PySem.W.fnOf name qual params body scope dV kV doc pm an cdv ct), osl⟩) (hcd : PySem.W.codeIn K cdv qual = true) (S : FnScope N ps scope) (len : ∀ vs H Q E, sp vs H Q E → vs.length = ps.length)
    (hbody : ∀ (A : Around) (outer : List PySem.Env) (s : Shared) (H : Hp) (vs : List V) (Q : VK) (E : XK), L2H.Hot1 A p → L2H.RoomH k (A.deeper (envOfC qual scope s.heap.objs.size f cdv)) → sp vs H Q E → wB (cxP P w K mg base N qual scope f cdv A outer s H E p) body { nx := fun _ H' => Q .non H', rt := Q } (L2.start N vs) H) :
    FnP P w K mg base (k + 1) f (PySem.W.fnOf name qual params body scope dV kV doc pm an cdv ct) ps p sp := by
  have G : L2H.FnH P w K mg base (L2N.CX P w) (k + 1) f (PySem.W.fnOf name qual params body scope dV kV doc pm an cdv ct) ps (fun vs H Q E => sp vs H Q E ∧ False) :=
    L2H.fn_ofH (N := N) (sp := fun vs H Q E => sp vs H Q E ∧ False) lk hcd S (fun vs H Q E h => h.2.elim) fun _ _ _ _ _ _ _ _ _ _ h => h.2.elim
  refine ⟨len, fun A outer s H args us vs Q E hr hot hpin e0 hb r hsp => ?_⟩
  have hl := len _ _ _ _ hsp
  have KX : K.In s.heap := e0.mod.kin.keeps fun b o e => (e0.bs b o e).1
  have lim : s.heap.NoLimit := e0.mod.nolimit.keeps fun b o e => (e0.bs b o e).1
  have hkind : ∀ y ∈ ps.zip us, scope.names.lookup y.1 = some .local ∨ (scope.names.lookup y.1 = some .cell ∧ ((cellsFrom (s.heap.objs.size + 1) scope.names []).lookup y.1).isSome = true) := fun ⟨n, v⟩ hy => by
    rcases S.par n (List.of_mem_zip hy).1 with q | q
    · exact .inl q
    · exact .inr ⟨q, PySem.W.cellsFrom_some _ _ _ (.inl q)⟩
  refine codeAny_call_function hr.depth (KX _ _ lk) rfl S.co S.gen rfl (PySem.W.codeRec_of KX hcd) (hb _ _ _ _ (wpAny_newFunctionEnv_cells S.kind hkind fun env he s1 x => ?_))
  subst he
  have I : Inv (cxP P w K mg base N qual scope f cdv A outer s H E p) [] (L2.start N vs) H s1 := L2H.inv_startH S hpin e0 hl r x
  refine ⟨lim.keeps x.toInCall.keep, codeAny_func (wpAny_mono ((hbody A outer s H vs Q E hot (hr.deeper _) hsp).run [] s1 I) (fun fl s' hs => ?_) fun e s' hs => hs)⟩
  have fin : ∀ {σ' : L2.St} {H' : Hp} {v : V} {u : Value}, Inv (cxP P w K mg base N qual scope f cdv A outer s H E p) [] σ' H' s' → RelV v u → Q v H' → CE outer P w H s Q u s' := fun {σ' H' v u} J rv q => ⟨v, H', J.os, J.bare, J.base, J.hok, rv, q⟩
  match fl, hs with
  | .ret u, ⟨v, σ', H', J, rv, q⟩ => exact fin J rv q
  | .next, ⟨σ', H', J, q⟩ => exact fin (v := V.non) (u := Value.none) J rfl q
  | .brk, ⟨_, _, _, q⟩ => exact q.elim
  | .cont, ⟨_, _, _, q⟩ => exact q.elim
theorem run_fnP {X : Cx} {k : Nat} {f : Addr} {fd : FuncData} {ps : List Str} {p : Addr × Obj} {sp : Sp} {pins : List (Addr × Obj)} {σ : L2.St} {H : Hp} {s : Shared} {Q : VK} {us : List Value} {vs : List V} (F : FnP X.prog X.w X.K X.mg X.base k f fd ps p sp) (hr : L2H.RoomH k X.A) (hot : L2H.Hot1 X.A p) (hp : p ∈ X.pn) (hb : Binds X.K fd ps [])
    (I : Inv X pins σ H s) (r : Vals vs us) (h : sp vs H Q E0) : wpAny (model X.prog X.w) X.A (call (.ref f) us) (EP X pins σ Q) X.xe s := by
  have hl : us.length = ps.length := by rw [← r.length]; exact F.len _ _ _ _ h
  have b := hb s us I.kIn (by rw [List.append_nil]; exact hl)
  rw [List.append_nil] at b
  have P1 := I.pin p (List.mem_append_left _ hp)
  have hpin : L2H.PinOk X.stack H s p := ⟨P1.1, P1.2.1, fun hm => (List.mem_cons.mp (I.stkSub p.1 hm)).elim P1.2.2.1 P1.2.2.2.1, P1.2.2.2.2⟩
  refine wpAny_call (codeAny_mono (F.run X.A X.stack s H ⟨us, []⟩ us vs Q E0 hr hot hpin I.env0 b r h) fun r s' hq => ?_)
  match r, hq with
  | .error e, hq => exact passN pins σ H s e s' I hq
  | .ok (.ret u), hq => exact I.after hq
theorem pe_callP {X : Cx} {k : Nat} {f : Addr} {fd : FuncData} {ps : List Str} {p : Addr × Obj} {sp : Sp} {x : Str} {q pos : Pos} {e : Expr} {es : List Expr} {t : TA} (F : FnP X.prog X.w X.K X.mg X.base k f fd ps p sp) (hr : L2H.RoomH k X.A) (hot : L2H.Hot1 X.A p) (hp : p ∈ X.pn) (hg : Gl X x) (hm : X.mg x = some (.ref f)) (hk : PySem.W.keepIn X.K (.ref f) = true) (hb : Binds X.K fd ps [])
    (ha : PA X (e :: es) t) (hdb : (x == ("__debug__" : Str)) = false := by decide) (he : starEach (e :: es) X.env = (false, eval e X.env) :: starEach es X.env := by rfl) (hpl : (backTo pos (starEach es X.env)).any (·.1) = false := by rfl) :
    PE X (.Call (.Name x q) (e :: es) [] pos) (fun σ H Q => t σ H fun vs H1 => sp vs H1 Q E0) :=
  ⟨fun pins s σ H Q I h => wpAny_Call_Name_kw (ld_glob I hg hm (PySem.W.callWith_K (h₀ := X.base) I.ok.mod.kin hk (thn (ha.run pos pins s σ H _ I h) fun us s1 ⟨vs, H1, I1, r, q⟩ => ⟨I1.kIn, run_fnP F hr hot hp hb I1 r q⟩) he hpl) hdb)⟩
/-- which(e): e the exception at a, of a class with the place i -/
def spW (a : Addr) (i : Nat) : Sp := fun vs H Q _ => ∃ G : Hp, Same G H ∧ vs = [.ref a] ∧ ∀ v G' H', Ext G H G' H' → Rp G' v (raisedD (i : Nat)) → Q v H'
def KnW (P : Program) (w : World) (K : PySem.W.Frag) (mg : Str → Option Value) (base : Heap) (x : Str) (k : Nat) : Prop :=
  ∃ (f : Addr) (fd : FuncData) (ps : List Str), (∀ (a : Addr) (oe : Obj) (Dc : Addr) (i : Nat), i < 7 → ExcK K mg Dc i → L2N.Zn (.ref Dc) none oe → (∃ vs, oe.data = .fields vs) → FnP P w K mg base k f fd ps (a, oe) (spW a i)) ∧ mg x = some (.ref f) ∧ PySem.W.keepIn K (.ref f) = true ∧ Binds K fd ps []
end
theorem hot_suite {A : Around} {a : Addr} {oe : Obj} {c : Value} {d : Option Addr} (hz : L2N.Zn c d oe) (hf : ∃ vs, oe.data = .fields vs) : L2H.Hot1 (A.mark (some (.ref a))) (a, oe) := by
  obtain ⟨vs, e⟩ := hf
  exact ⟨rfl, vs, e, hz.2.2 vs e⟩
theorem room_mark {k : Nat} {A : Around} {v : Option Value} (r : Room k A) : L2H.RoomH k (A.mark v) := ⟨r.dp, r.un⟩
/-! ### try: body, except HeapError as n: return which(n) -/
section
variable {X : Cx} {G0 H0 Gm : Hp} {ρ : Cells} {E : Ends} {body : List Stmt} {n f : Str} {np p1 p2 p3 p4 pos pos' : Pos} {k : Nat}
theorem tr_tryW (i : Nat) (Ok : Addr → Nat → Prop) (hok : ∀ C j, Ok C j → j < 7 ∧ ExcK X.K X.mg C j) (KW : KnW X.prog X.w X.K X.mg X.base f k) (hr : Room k X.A) (hN : X.N.Nodup) (hil : i < ρ.length) (hi : X.N[i]? = some n) (hs : X.stack = X.env :: X.outer) (hfr : X.env.frame = some X.env.locals) (hln : X.env.scope.names.lookup n = some .local)
    {Ch : Addr} (hch : X.mg "HeapError" = some (.ref Ch))
    (hb : ∀ (W : WX) (pn : List (Addr × Obj)) (xe : Value → Shared → Prop), L2N.Takes (X.tr pn xe) W → PassesOwn (model X.prog X.w) X.A X.env xe → (∀ C j, Ok C j → Nx G0 H0 Gm ρ (W (.ref C) none)) → TrB (X.tr pn xe) G0 H0 body Gm ρ E)
    (hrt : ∀ (C : Addr) (j : Nat) (v : V) (G' H' : Hp), Ok C j → Ext G0 H0 G' H' → Rp G' v (raisedD (j : Nat)) → E.rt v H')
    (hgf : Gl X f := by rfl) (hgh : Gl X "HeapError" := by rfl) (hd1 : (n == ("__debug__" : Str)) = false := by decide) (hd2 : (n == ("__classdict__" : Str)) = false := by decide) (hd3 : (f == ("__debug__" : Str)) = false := by decide)
    (hst : starEach [.Name n p1] X.env = (false, eval (.Name n p1) X.env) :: starEach [] X.env := by rfl) :
    Tr X G0 H0 (.Try body [.ExceptHandler (some (.Name "HeapError" np)) (some n) [.Return (some (.Call (.Name f p2) [.Name n p1] [] p3)) p4] pos'] [] [] pos) Gm ρ E := fun G σ H s A => by
  refine ws_of (L2N.ps_try_as (i := i) (Wout := fun _ _ _ _ => False) (tb := fun W D σ H => ∀ pn xe, L2N.Takes (X.tr pn xe) W → PassesOwn (model X.prog X.w) X.A X.env xe → wB (X.tr pn xe) body D σ H)
    (ts := fun a cls d D σ H => ∀ oe pn, L2N.Zn cls d oe → (∃ vs, oe.data = .fields vs) → wB (X.suite a ((a, oe) :: pn)) [.Return (some (.Call (.Name f p2) [.Name n p1] [] p3)) p4] D σ H)
    hs hfr hN hi hln ⟨hgh, by decide, .inl hch⟩ (fun _ _ x => by obtain ⟨_, _, _, _, _, _, _, _, _, _, _, _, _, _, _, _, z⟩ := x; exact z.elim)
    (fun W pn xe tk po => ⟨fun pins s σ H D I h => (h pn xe tk po).run pins s I⟩) (fun a oe cls d pn hz hf => ⟨fun pins s σ H D I h => (h oe pn hz hf).run pins s I⟩)) ?_
  intro pn xe tk po
  refine hb _ pn xe tk po (fun C j ok G1 σ1 H1 s1 A1 => ?_) G σ H s A
  obtain ⟨hj, ek⟩ := hok C j ok
  obtain ⟨Ch', hch', hx⟩ := ek.h
  rw [hch] at hch'
  cases hch'
  refine ⟨true, hx, fun _ a ha oe pn' hz hf => ?_, fun z => nomatch z⟩
  obtain ⟨fa, fd, ps, FW, hm, hk, hbd⟩ := KW
  have e1 : (σ1.set i (some (V.ref a)))[i]? = some (some (V.ref a)) := List.getElem?_set_self (by rw [A1.len]; exact hil)
  refine wb_of (pss_one (ps_ret (pe_callP (X := X.suite a ((a, oe) :: pn')) (FW a oe C j hj ek hz hf) (room_mark hr) (hot_suite hz hf) (List.mem_cons_self) hgf hm hk hbd (pa_cons (pe_var (i := i) hi (.inl hln) hd1 hd2) pa_nil hst) hd3 hst))) ?_
  exact ⟨_, e1, G1, A1.ext.s, rfl, fun v G' H' x r => hrt C j v G' H' ok (A1.ext.trans x) r⟩
end
end Hr
/-! Own objects in slots: new ones, changed ones; dicts with keys that are ints or tuples of ints. -/
namespace Hr
open PySem PySem.Spec PyProof.Rows L2

/-! ### own objects -/
section
variable {G0 H0 G H G' H' : Hp} {ρ : Cells} {σ : L2.St} {i : Nat} {v : V}
theorem ne_of_none' {H : Hp} {a b : Addr} {o : HO} (h1 : H a = none) (h2 : H b = some o) : a ≠ b := fun q => by
  rw [q, h2] at h1
  cases h1
/-- new own objects in slot i -/
theorem AtG.setW {fp : List (Addr × HO)} {W : Wc} (A : AtG G0 H0 G ρ σ H) (x : Ext G H G' H') (r : W.R G' v fp) (hf : ∀ y ∈ fp, H y.1 = none ∧ G' y.1 = none ∧ H' y.1 = some y.2 ∧ Mu y.2) : AtG G0 H0 G' (ρ.set i (.w W)) (σ.set i (some v)) H' := by
  have B := A.step x
  have none_m : ∀ {j : Nat} {xs : List D} {o : Option Addr}, (ρ.set i (Cell.w W))[j]? = some (Cell.m xs o) → i ≠ j ∧ ρ[j]? = some (.m xs o) := fun {j xs o} e => cells_set e fun _ _ z => nomatch z
  refine ⟨B.ext, ?_, fun j xs o e => ?_, fun j k q xs ys o o' hjk e1 e2 s1 s2 => ?_, ?_⟩
  · show Sl G' _ (List.map Cell.pur (ρ.set i (.w W)))
    rw [List.map_set]
    exact B.sl.unset
  · obtain ⟨n, e⟩ := none_m e
    obtain ⟨q, ws, e1, e2⟩ := B.own j xs o e
    exact ⟨q, ws, by rw [List.getElem?_set_ne n]; exact e1, e2⟩
  · obtain ⟨n1, e1⟩ := none_m e1
    obtain ⟨n2, e2⟩ := none_m e2
    rw [List.getElem?_set_ne n1] at s1
    rw [List.getElem?_set_ne n2] at s2
    exact A.sep j k q xs ys o o' hjk e1 e2 s1 s2
  · obtain ⟨F, w⟩ := A.wo
    have w' := w.step x
    have old : ∀ {j : Nat} {W' : Wc}, ρ[j]? = some (.w W') → ∀ y ∈ F j, ∀ z ∈ fp, y.1 ≠ z.1 := fun {j W'} e y hy z hz q => by
      obtain ⟨_, _, _, a⟩ := w.own j W' e
      have h1 := (a y hy).2.2.1
      rw [q, (hf z hz).1] at h1
      cases h1
    have oth : ∀ {j : Nat} {W' : Wc}, i ≠ j → (ρ.set i (Cell.w W))[j]? = some (Cell.w W') → ρ[j]? = some (.w W') := fun {j W'} n e => by
      rw [List.getElem?_set_ne n] at e
      exact e
    refine ⟨fun j => if j = i then fp else F j, fun j W' e => ?_, fun j k W1 W2 n e1 e2 y hy z hz => ?_, fun j k W1 xs oo q e1 e2 s y hy => ?_⟩
    · by_cases hj : i = j
      · subst hj
        rw [if_pos rfl]
        by_cases hl : i < ρ.length
        · rw [List.getElem?_set_self hl] at e
          have e' : Cell.w W = Cell.w W' := Option.some.inj e
          injection e' with e'
          subst e'
          exact ⟨v, List.getElem?_set_self (by rw [A.len]; exact hl), r, fun y hy => ⟨A.ext.h.free (hf y hy).1, (hf y hy).2⟩⟩
        · rw [List.getElem?_eq_none (by simpa using hl)] at e
          cases e
      · rw [if_neg (Ne.symm hj), List.getElem?_set_ne hj]
        exact w'.own j W' (oth hj e)
    · by_cases hj : j = i
      · have hk : ¬ k = i := fun z => n (hj.trans z.symm)
        rw [if_pos hj] at hy
        rw [if_neg hk] at hz
        exact fun q => old (oth (Ne.symm hk) e2) z hz y hy q.symm
      · rw [if_neg hj] at hy
        by_cases hk : k = i
        · rw [if_pos hk] at hz
          exact old (oth (Ne.symm hj) e1) y hy z hz
        · rw [if_neg hk] at hz
          exact w'.ww j k W1 W2 n (oth (Ne.symm hj) e1) (oth (Ne.symm hk) e2) y hy z hz
    · obtain ⟨n2, e2⟩ := none_m e2
      rw [List.getElem?_set_ne n2] at s
      by_cases hj : j = i
      · rw [if_pos hj] at hy
        obtain ⟨p', vs, g1, _, _, _, g4, _⟩ := A.own k xs oo e2
        rw [s] at g1
        cases g1
        exact ne_of_none' (hf y hy).1 g4
      · rw [if_neg hj] at hy
        exact w'.wm j k W1 xs oo q (oth (Ne.symm hj) e1) e2 s y hy
/-- the own objects of slot i -/
theorem AtG.atW {W : Wc} (A : AtG G0 H0 G ρ σ H) (hi : ρ[i]? = some (.w W)) : ∃ v fp, σ[i]? = some (some v) ∧ W.R G v fp ∧ (∀ y ∈ fp, H0 y.1 = none ∧ G y.1 = none ∧ H y.1 = some y.2 ∧ Mu y.2) ∧
    (∀ (H' : Hp) (fp' : List (Addr × HO)) (W' : Wc) (v' : V), (∀ b o, (∀ y ∈ fp, y.1 ≠ b) → H b = some o → H' b = some o) → (∀ y ∈ fp', ((∃ z ∈ fp, z.1 = y.1) ∨ H y.1 = none) ∧ G y.1 = none ∧ H' y.1 = some y.2 ∧ Mu y.2) → W'.R G v' fp' →
      AtG G0 H0 G (ρ.set i (.w W')) (σ.set i (some v')) H') := by
  obtain ⟨F, w⟩ := A.wo
  obtain ⟨v, e1, r, a⟩ := w.own i W hi
  have hl : i < ρ.length := (List.getElem?_eq_some_iff.mp hi).1
  refine ⟨v, F i, e1, r, a, fun H' fp' W' v' keep new r' => ?_⟩
  have none_m : ∀ {j : Nat} {xs : List D} {o : Option Addr}, (ρ.set i (Cell.w W'))[j]? = some (Cell.m xs o) → i ≠ j ∧ ρ[j]? = some (.m xs o) := fun {j xs o} e => cells_set e fun _ _ z => nomatch z
  have oth : ∀ {j : Nat} {W2 : Wc}, i ≠ j → (ρ.set i (Cell.w W'))[j]? = some (Cell.w W2) → ρ[j]? = some (.w W2) := fun {j W2} n e => by
    rw [List.getElem?_set_ne n] at e
    exact e
  have nG0 : ∀ b o, H0 b = some o → ∀ y ∈ F i, y.1 ≠ b := fun b o e y hy q => by
    have := (a y hy).1
    rw [q, e] at this
    cases this
  have nG : ∀ b o, G b = some o → ∀ y ∈ F i, y.1 ≠ b := fun b o e y hy q => by
    have := (a y hy).2.1
    rw [q, e] at this
    cases this
  have nother : ∀ {j : Nat} {W2 : Wc}, i ≠ j → ρ[j]? = some (.w W2) → ∀ y ∈ F j, ∀ z ∈ fp', z.1 ≠ y.1 := fun {j W2} n e y hy z hz q => by
    obtain ⟨n1, _⟩ := new z hz
    rcases n1 with ⟨u, hu, e⟩ | n1
    · exact w.ww i j W W2 n hi (by assumption) u hu y hy (e.trans q)
    · obtain ⟨_, _, _, a2⟩ := w.own j W2 e
      have := (a2 y hy).2.2.1
      rw [← q, n1] at this
      cases this
  refine ⟨⟨A.ext.g, fun b o e => keep b o (nG0 b o e) (A.ext.h b o e), fun b o e => keep b o (nG b o e) (A.ext.s b o e), A.ext.f⟩, ?_, fun j xs o e => ?_, fun j k q xs ys o o' hjk e1 e2 s1 s2 => ?_, ?_⟩
  · show Sl G _ (List.map Cell.pur (ρ.set i (.w W')))
    rw [List.map_set]
    exact A.sl.unset
  · obtain ⟨n, e⟩ := none_m e
    obtain ⟨q, ws, g1, g2, g3, g4, g5, g6⟩ := A.own j xs o e
    exact ⟨q, ws, by rw [List.getElem?_set_ne n]; exact g1, g2, g3, g4, keep q _ (fun y hy => w.wm i j W xs o q hi e g1 y hy) g5, g6⟩
  · obtain ⟨n1, e1⟩ := none_m e1
    obtain ⟨n2, e2⟩ := none_m e2
    rw [List.getElem?_set_ne n1] at s1
    rw [List.getElem?_set_ne n2] at s2
    exact A.sep j k q xs ys o o' hjk e1 e2 s1 s2
  · refine ⟨fun j => if j = i then fp' else F j, fun j W2 e => ?_, fun j k W1 W2 n e1 e2 y hy z hz => ?_, fun j k W1 xs oo q e1 e2 s y hy => ?_⟩
    · by_cases hj : i = j
      · subst hj
        rw [if_pos rfl]
        rw [List.getElem?_set_self hl] at e
        have e' : Cell.w W' = Cell.w W2 := Option.some.inj e
        injection e' with e'
        subst e'
        refine ⟨v', List.getElem?_set_self (by rw [A.len]; exact hl), r', fun y hy => ?_⟩
        obtain ⟨n1, n2⟩ := new y hy
        refine ⟨?_, n2⟩
        rcases n1 with ⟨u, hu, e⟩ | n1
        · rw [← e]
          exact (a u hu).1
        · exact A.ext.h.free n1
      · rw [if_neg (Ne.symm hj), List.getElem?_set_ne hj]
        have e' := oth hj e
        obtain ⟨u, f1, f2, f3⟩ := w.own j W2 e'
        exact ⟨u, f1, f2, fun y hy => by
          obtain ⟨b1, b2, b3, b4⟩ := f3 y hy
          exact ⟨b1, b2, keep _ _ (fun z hz => w.ww i j W W2 hj hi e' z hz y hy) b3, b4⟩⟩
    · by_cases hj : j = i
      · have hk : ¬ k = i := fun z => n (hj.trans z.symm)
        rw [if_pos hj] at hy
        rw [if_neg hk] at hz
        exact nother (Ne.symm hk) (oth (Ne.symm hk) e2) z hz y hy
      · rw [if_neg hj] at hy
        by_cases hk : k = i
        · rw [if_pos hk] at hz
          exact fun q => nother (Ne.symm hj) (oth (Ne.symm hj) e1) y hy z hz q.symm
        · rw [if_neg hk] at hz
          exact w.ww j k W1 W2 n (oth (Ne.symm hj) e1) (oth (Ne.symm hk) e2) y hy z hz
    · obtain ⟨n2, e2⟩ := none_m e2
      rw [List.getElem?_set_ne n2] at s
      by_cases hj : j = i
      · rw [if_pos hj] at hy
        obtain ⟨p', vs, g1, _, _, _, g4, _⟩ := A.own k xs oo e2
        rw [s] at g1
        cases g1
        obtain ⟨n1, _⟩ := new y hy
        rcases n1 with ⟨u, hu, e⟩ | n1
        · exact fun z => w.wm i k W xs oo q hi e2 s u hu (e.trans z)
        · exact fun z => by rw [z, g4] at n1; cases n1
      · rw [if_neg hj] at hy
        exact w.wm j k W1 xs oo q (oth (Ne.symm hj) e1) e2 s y hy
/-- own objects that change no more -/
theorem AtG.freezeW {W : Wc} (A : AtG G0 H0 G ρ σ H) (hi : ρ[i]? = some (.w W)) : ∃ G', Same G G' ∧ AtG G0 H0 G' (ρ.set i (.d W.d)) σ H := by
  obtain ⟨F, w⟩ := A.wo
  obtain ⟨v, e1, r, a⟩ := w.own i W hi
  have hl : i < ρ.length := (List.getElem?_eq_some_iff.mp hi).1
  -- G with the own objects of slot i
  let G' : Hp := fun b => match G b with
    | some o => some o
    | none => match (F i).find? fun y : Addr × HO => y.1 == b with
      | some _ => H b
      | none => none
  have sg : Same G G' := fun b o e => by show (match G b with | some o => some o | none => _) = _; rw [e]
  have inH : Same G' H := fun b o e => by
    have e : (match G b with | some o => some o | none => match (F i).find? fun y : Addr × HO => y.1 == b with | some _ => H b | none => none) = some o := e
    cases g : G b with
    | some u =>
      rw [g] at e
      cases e
      exact A.ext.s _ _ g
    | none =>
      rw [g] at e
      cases f : (F i).find? fun y : Addr × HO => y.1 == b with
      | some y => rw [f] at e; exact e
      | none => rw [f] at e; cases e
  have at_ : ∀ y ∈ F i, G' y.1 = some y.2 := fun y hy => by
    obtain ⟨_, a2, a3, _⟩ := a y hy
    show (match G y.1 with | some o => some o | none => match (F i).find? fun z : Addr × HO => z.1 == y.1 with | some _ => H y.1 | none => none) = _
    rw [a2]
    cases f : (F i).find? fun z : Addr × HO => z.1 == y.1 with
    | some z => exact a3
    | none => exact absurd (List.find?_eq_none.mp f y hy) (by simp)
  have out_ : ∀ b, (∀ y ∈ F i, y.1 ≠ b) → G b = none → G' b = none := fun b hb g => by
    show (match G b with | some o => some o | none => match (F i).find? fun z : Addr × HO => z.1 == b with | some _ => H b | none => none) = _
    rw [g]
    cases f : (F i).find? fun z : Addr × HO => z.1 == b with
    | some z => exact absurd (by simpa using List.find?_some f) (hb z (List.mem_of_find?_eq_some f))
    | none => rfl
  refine ⟨G', sg, ⟨A.ext.g.trans sg, A.ext.h, inH, fun q o h m g => ?_⟩, ?_, fun j ys o e => ?_, fun j k q xs ys o o' hjk f1 f2 s1 s2 => ?_, ?_⟩
  · refine out_ q (fun y hy z => ?_) (A.ext.f q o h m g)
    have := (a y hy).1
    rw [z, h] at this
    cases this
  · show Sl _ _ (List.map Cell.pur (ρ.set i (.d W.d)))
    rw [List.map_set]
    have z := (A.sl.mono sg).set (j := i) (v := v) (d := W.d) (W.view (Same.refl G') at_ (W.mono sg r))
    rwa [set_self e1] at z
  · obtain ⟨n, e⟩ := cells_set e fun _ _ z => nomatch z
    obtain ⟨q, us, g1, g2, g3, g4, g5, g6⟩ := A.own j ys o e
    exact ⟨q, us, g1, g2, g3, out_ q (fun y hy => w.wm i j W ys o q hi e g1 y hy) g4, g5, g6.mono sg⟩
  · exact A.sep j k q xs ys o o' hjk (cells_set f1 fun _ _ z => nomatch z).2 (cells_set f2 fun _ _ z => nomatch z).2 s1 s2
  · refine ⟨F, fun j W2 e => ?_, fun j k W1 W2 n f1 f2 => w.ww j k W1 W2 n (cells_setW f1 fun _ z => nomatch z).2 (cells_setW f2 fun _ z => nomatch z).2, fun j k W1 zs oo q f1 f2 s => w.wm j k W1 zs oo q (cells_setW f1 fun _ z => nomatch z).2 (cells_set f2 fun _ _ z => nomatch z).2 s⟩
    obtain ⟨n, e⟩ := cells_setW e fun _ z => nomatch z
    obtain ⟨u, f1, f2, f3⟩ := w.own j W2 e
    exact ⟨u, f1, W2.mono sg f2, fun y hy => by
      obtain ⟨b1, b2, b3, b4⟩ := f3 y hy
      exact ⟨b1, out_ _ (fun z hz => w.ww i j W W2 n hi e z hz y hy) b2, b3, b4⟩⟩
theorem wkn_freezeW {W : Wc} (h : ρ[i]? = some (.w W)) : Wkn G0 H0 ρ (ρ.set i (.d W.d)) := fun G σ H A => A.freezeW h
end
/-- an expression that makes own objects -/
def Dn (X : Cx) (e : Expr) (ρ : Env) (W : Wc) : Prop := ∀ (σ : L2.St) (G H : Hp) (Q : VK), Sl G σ ρ → Same G H → (∀ v fp G' H', Ext G H G' H' → W.R G' v fp → (∀ y ∈ fp, H y.1 = none ∧ G' y.1 = none ∧ H' y.1 = some y.2 ∧ Mu y.2) → Q v H') → wE X e σ H Q
section
variable {X : Cx} {G0 H0 Gm : Hp} {ρ : Cells} {E : Ends} {e a b : Expr} {W : Wc} {d : D} {ds : List D} {i : Nat} {pos pos' pt : Pos} {x y : Str}
/-- x = {} -/
theorem tr_setW (i : Nat) (hN : X.N.Nodup) (hi : X.N[i]? = some x) (hx : Loc X.env.scope x) (he : Dn X e (purE ρ) W) (k : Nx G0 H0 Gm (ρ.set i (.w W)) E.nx) (hs : swapsWith e (some (.Name x pos')) pos.line X.env = pure false := by rfl)
    (hf : X.fn x = true ∨ X.env.scope.names.lookup x = some .local := by first | exact .inl rfl | exact .inr rfl | assumption) : Tr X G0 H0 (.Assign [.Name x pos'] e pos) Gm ρ E := fun G σ H s A =>
  ws_of (ps_set hN hi hx pe_w hs hf) (he σ G H _ A.sl A.ext.s fun v fp G' H' x1 r hf => k G' _ H' (s.trans x1.g) (A.setW x1 r hf))
/-- a, b = {}, e -/
theorem tr_parWD {k1 k2 : Nat} {px py pt2 : Pos} (i j : Nat) (hc : X.calm = true) (hN : X.N.Nodup) (hi : X.N[i]? = some x) (hj : X.N[j]? = some y) (hij : i ≠ j) (hx : X.env.scope.names.lookup x = some .local) (hy : X.env.scope.names.lookup y = some .local)
    (ha : Dn X a (purE ρ) W) (hb : Dv X b (purE ρ) d) (k : Nx G0 H0 Gm ((ρ.set i (.w W)).set j (.d d)) E.nx)
    (hw : swappedStores [.Tuple [.Name x px, .Name y py] k1 pt] (.Tuple [a, b] k2 pt2) X.env = pure (some [x, y]) := by rfl) (hs : swapsWithSole [.Tuple [.Name x px, .Name y py] k1 pt] (.Tuple [a, b] k2 pt2) pos.line X.env = pure false := by rfl)
    (hs1 : starEach [a, b] X.env = (false, eval a X.env) :: starEach [b] X.env := by rfl) (hs2 : starEach [b] X.env = (false, eval b X.env) :: starEach [] X.env := by rfl) :
    Tr X G0 H0 (.Assign [.Tuple [.Name x px, .Name y py] k1 pt] (.Tuple [a, b] k2 pt2) pos) Gm ρ E := fun G σ H s A =>
  ws_of (ps_par hc hN hi hj hij hx hy (pa_cons pe_w (pa_cons pe_w pa_nil hs2) hs1) hw hs) (ha σ G H _ A.sl A.ext.s fun v fp G1 H1 x1 r1 f1 => hb σ G1 H1 _ (A.sl.mono x1.g) x1.s fun w G2 H2 x2 r2 =>
    ⟨v, w, rfl, k G2 _ H2 (s.trans (x1.g.trans x2.g)) (((A.setW x1 r1 f1).step x2).setD r2)⟩)
/-- a, b = [], {} -/
theorem tr_parMW {k1 k2 : Nat} {px py pt2 : Pos} (i j : Nat) (hc : X.calm = true) (hN : X.N.Nodup) (hi : X.N[i]? = some x) (hj : X.N[j]? = some y) (hij : i ≠ j) (hx : X.env.scope.names.lookup x = some .local) (hy : X.env.scope.names.lookup y = some .local)
    (ha : Dl X a (purE ρ) ds) (hb : Dn X b (purE ρ) W) (k : Nx G0 H0 Gm ((ρ.set i (.m ds none)).set j (.w W)) E.nx)
    (hw : swappedStores [.Tuple [.Name x px, .Name y py] k1 pt] (.Tuple [a, b] k2 pt2) X.env = pure (some [x, y]) := by rfl) (hs : swapsWithSole [.Tuple [.Name x px, .Name y py] k1 pt] (.Tuple [a, b] k2 pt2) pos.line X.env = pure false := by rfl)
    (hs1 : starEach [a, b] X.env = (false, eval a X.env) :: starEach [b] X.env := by rfl) (hs2 : starEach [b] X.env = (false, eval b X.env) :: starEach [] X.env := by rfl) :
    Tr X G0 H0 (.Assign [.Tuple [.Name x px, .Name y py] k1 pt] (.Tuple [a, b] k2 pt2) pos) Gm ρ E := fun G σ H s A =>
  ws_of (ps_par hc hN hi hj hij hx hy (pa_cons pe_w (pa_cons pe_w pa_nil hs2) hs1) hw hs) (ha σ G H _ A.sl A.ext.s fun p vs G1 H1 x1 hp gp h1 r1 => hb σ G1 H1 _ (A.sl.mono x1.g) x1.s fun w fp G2 H2 x2 r2 f2 =>
    ⟨.ref p, w, rfl, k G2 _ H2 (s.trans (x1.g.trans x2.g)) ((A.setM (H1 := H1) (i := i) x1 hp gp h1 r1).setW x2 r2 f2)⟩)
/-- a, b = {..}, [..] -/
theorem tr_parWM {k1 k2 : Nat} {px py pt2 : Pos} (i j : Nat) (hc : X.calm = true) (hN : X.N.Nodup) (hi : X.N[i]? = some x) (hj : X.N[j]? = some y) (hij : i ≠ j) (hx : X.env.scope.names.lookup x = some .local) (hy : X.env.scope.names.lookup y = some .local)
    (ha : Dn X a (purE ρ) W) (hb : Dl X b (purE ρ) ds) (k : Nx G0 H0 Gm ((ρ.set i (.w W)).set j (.m ds none)) E.nx)
    (hw : swappedStores [.Tuple [.Name x px, .Name y py] k1 pt] (.Tuple [a, b] k2 pt2) X.env = pure (some [x, y]) := by rfl) (hs : swapsWithSole [.Tuple [.Name x px, .Name y py] k1 pt] (.Tuple [a, b] k2 pt2) pos.line X.env = pure false := by rfl)
    (hs1 : starEach [a, b] X.env = (false, eval a X.env) :: starEach [b] X.env := by rfl) (hs2 : starEach [b] X.env = (false, eval b X.env) :: starEach [] X.env := by rfl) :
    Tr X G0 H0 (.Assign [.Tuple [.Name x px, .Name y py] k1 pt] (.Tuple [a, b] k2 pt2) pos) Gm ρ E := fun G σ H s A =>
  ws_of (ps_par hc hN hi hj hij hx hy (pa_cons pe_w (pa_cons pe_w pa_nil hs2) hs1) hw hs) (ha σ G H _ A.sl A.ext.s fun w fp G1 H1 x1 r1 f1 => hb σ G1 H1 _ (A.sl.mono x1.g) x1.s fun p vs G2 H2 x2 hp gp h2 r2 =>
    ⟨w, .ref p, rfl, k G2 _ H2 (s.trans (x1.g.trans x2.g)) ((A.setW (i := i) x1 r1 f1).setM (H1 := H1) x2 hp gp h2 r2)⟩)
end
/-! ### dicts, by data -/
section
variable {κ : Type} [DecidableEq κ]
def dLook (ks : List (κ × D)) (k : κ) : Option D := (ks.find? fun p => decide (p.1 = k)).map (·.2)
def dPut (ks : List (κ × D)) (k : κ) (d : D) : List (κ × D) := if (ks.any fun p => decide (p.1 = k)) = true then ks.map (fun p => if p.1 = k then (p.1, d) else p) else ks ++ [(k, d)]
end
/-- pairs of a dict stand for pairs of data: f is the keys' -/
inductive Pr {κ κ' : Type} (f : κ' → κ) (G : Hp) : List (κ × V) → List (κ' × D) → Prop
  | nil : Pr f G [] []
  | cons {k : κ'} {v : V} {d : D} {kvs : List (κ × V)} {ks : List (κ' × D)} : Rp G v d → Pr f G kvs ks → Pr f G ((f k, v) :: kvs) ((k, d) :: ks)
section
variable {κ κ' : Type} {f : κ' → κ} {G : Hp}
theorem Pr.of : ∀ {ks : List (κ' × D)} {kvs : List (κ × V)}, kvs.map (·.1) = ks.map (fun p => f p.1) → RpA G (kvs.map (·.2)) (ks.map (·.2)) → Pr f G kvs ks
  | [], [], _, _ => .nil
  | [], _ :: _, e, _ => by cases e
  | _ :: _, [], e, _ => by cases e
  | (k, d) :: ks, (k', v) :: kvs, e, r => by
    rw [List.map_cons, List.map_cons] at e
    injection e with e1 e2
    have e1 : k' = f k := e1
    subst e1
    cases r with
    | cons r1 r2 => exact .cons r1 (Pr.of e2 r2)
theorem Pr.keys : ∀ {kvs : List (κ × V)} {ks : List (κ' × D)}, Pr f G kvs ks → kvs.map (·.1) = ks.map (fun p => f p.1)
  | _, _, .nil => rfl
  | _, _, .cons _ h => by rw [List.map_cons, List.map_cons, h.keys]
theorem Pr.vals : ∀ {kvs : List (κ × V)} {ks : List (κ' × D)}, Pr f G kvs ks → RpA G (kvs.map (·.2)) (ks.map (·.2))
  | _, _, .nil => .nil
  | _, _, .cons r h => .cons r h.vals
theorem Pr.mono {G' : Hp} (s : Same G G') {kvs : List (κ × V)} {ks : List (κ' × D)} (h : Pr f G kvs ks) : Pr f G' kvs ks := Pr.of h.keys (h.vals.mono s)
theorem Pr.len {kvs : List (κ × V)} {ks : List (κ' × D)} (h : Pr f G kvs ks) : kvs.length = ks.length := by
  have := h.vals.length
  rwa [List.length_map, List.length_map] at this
variable [DecidableEq κ] [DecidableEq κ']
theorem Pr.look (hf : ∀ a b, f a = f b → a = b) : ∀ {kvs : List (κ × V)} {ks : List (κ' × D)}, Pr f G kvs ks → ∀ k, match dLook ks k with
    | some d => ∃ v, valV kvs (f k) = some v ∧ Rp G v d
    | none => valV kvs (f k) = none
  | _, _, .nil, k => rfl
  | _, _, .cons (k := j) (v := v) (d := d) (ks := ks) r h, k => by
    by_cases e : j = k
    · subst e
      have e1 : dLook ((j, d) :: ks) j = some d := by simp [dLook, List.find?_cons]
      rw [e1]
      exact ⟨v, valV_pos rfl, r⟩
    · have e1 : dLook ((j, d) :: ks) k = dLook ks k := by simp [dLook, List.find?_cons, e]
      rw [e1, valV_neg (fun z => e (hf _ _ z))]
      exact h.look hf k
theorem Pr.any (hf : ∀ a b, f a = f b → a = b) : ∀ {kvs : List (κ × V)} {ks : List (κ' × D)}, Pr f G kvs ks → ∀ k, (kvs.any fun kv => decide (kv.1 = f k)) = ks.any fun p => decide (p.1 = k)
  | _, _, .nil, k => rfl
  | _, _, .cons (k := j) r h, k => by
    rw [List.any_cons, List.any_cons, h.any hf k]
    congr 1
    by_cases e : j = k
    · rw [decide_eq_true e, decide_eq_true (congrArg f e)]
    · rw [decide_eq_false e, decide_eq_false fun z => e (hf _ _ z)]
theorem Pr.repl (hf : ∀ a b, f a = f b → a = b) {k : κ'} {v : V} {d : D} (rv : Rp G v d) : ∀ {kvs : List (κ × V)} {ks : List (κ' × D)}, Pr f G kvs ks → Pr f G (kvs.map fun kv => if kv.1 = f k then (kv.1, v) else kv) (ks.map fun p => if p.1 = k then (p.1, d) else p)
  | _, _, .nil => .nil
  | _, _, .cons (k := j) r h => by
    rw [List.map_cons, List.map_cons]
    by_cases e : j = k
    · rw [if_pos (congrArg f e), if_pos e]
      exact .cons rv (Pr.repl hf rv h)
    · rw [if_neg (fun z => e (hf _ _ z)), if_neg e]
      exact .cons r (Pr.repl hf rv h)
theorem Pr.app {kvs kvs' : List (κ × V)} {ks ks' : List (κ' × D)} (h : Pr f G kvs ks) (h' : Pr f G kvs' ks') : Pr f G (kvs ++ kvs') (ks ++ ks') := by
  refine Pr.of ?_ ?_
  · rw [List.map_append, List.map_append, h.keys, h'.keys]
  · rw [List.map_append, List.map_append]
    exact h.vals.app h'.vals
theorem Pr.put (hf : ∀ a b, f a = f b → a = b) {kvs : List (κ × V)} {ks : List (κ' × D)} (h : Pr f G kvs ks) {k : κ'} {v : V} {d : D} (rv : Rp G v d) : Pr f G (putK kvs (f k) v) (dPut ks k d) := by
  unfold putK dPut
  rw [h.any hf k]
  split
  · exact h.repl hf rv
  · exact h.app (.cons rv .nil)
end
theorem inlI (a b : Int) (h : (Sum.inl a : Key) = Sum.inl b) : a = b := Sum.inl.inj h
theorem inlT (a b : List Int) (h : (a.map Sum.inl : List Key) = b.map Sum.inl) : a = b := by
  induction a generalizing b with
  | nil => cases b <;> simp_all
  | cons x a ih => cases b with
    | nil => simp at h
    | cons y b => simp only [List.map_cons, List.cons.injEq] at h; rw [Sum.inl.inj h.1, ih b h.2]
theorem dk_inj : ∀ {ks ks' : List (Int × D)}, ks.map (fun p => (PyData.int p.1, p.2)) = ks'.map (fun p => (PyData.int p.1, p.2)) → ks = ks'
  | [], [], _ => rfl
  | [], _ :: _, h => by cases h
  | _ :: _, [], h => by cases h
  | (a, d) :: ks, (a', d') :: ks', h => by
    simp only [List.map_cons, List.cons.injEq, Prod.mk.injEq, PyData.int.injEq] at h
    rw [h.1.1, h.1.2, dk_inj h.2]
theorem ints_inj : ∀ {a b : List Int}, a.map PyData.int = b.map PyData.int → a = b
  | [], [], _ => rfl
  | [], _ :: _, h => by cases h
  | _ :: _, [], h => by cases h
  | x :: a, y :: b, h => by
    simp only [List.map_cons, List.cons.injEq, PyData.int.injEq] at h
    rw [h.1, ints_inj h.2]
theorem dt_inj : ∀ {ks ks' : List (List Int × D)}, ks.map (fun p => (PyData.tuple (p.1.map .int), p.2)) = ks'.map (fun p => (PyData.tuple (p.1.map .int), p.2)) → ks = ks'
  | [], [], _ => rfl
  | [], _ :: _, h => by cases h
  | _ :: _, [], h => by cases h
  | (a, d) :: ks, (a', d') :: ks', h => by
    simp only [List.map_cons, List.cons.injEq, Prod.mk.injEq, PyData.tuple.injEq] at h
    rw [ints_inj h.1.1, h.1.2, dt_inj h.2]
theorem Rp.dkI {G : Hp} {v : V} {ks : List (Int × D)} (r : Rp G v (dkD ks)) : ∃ a kvs, v = .ref a ∧ G a = some (.dK kvs) ∧ Pr Sum.inl G kvs ks := by
  generalize hd : dkD ks = dd at r
  cases r with
  | dk h e ra =>
    simp only [dkD, PyData.dict.injEq, List.cons.injEq, true_and] at hd
    have e2 := dk_inj hd
    subst e2
    exact ⟨_, _, rfl, h, Pr.of e ra⟩
  | raw a => unfold rawD at hd; simp [dkD] at hd
  | dt _ _ _ => simp [dkD, dtD] at hd
  | ins _ _ _ => simp [dkD, insD] at hd
  | _ => simp [dkD] at hd
theorem Rp.dtI {G : Hp} {v : V} {ks : List (List Int × D)} (r : Rp G v (dtD ks)) : ∃ a kvs, v = .ref a ∧ G a = some (.dT kvs) ∧ Pr (fun k => k.map Sum.inl) G kvs ks := by
  generalize hd : dtD ks = dd at r
  cases r with
  | dt h e ra =>
    simp only [dtD, PyData.dict.injEq, List.cons.injEq, true_and] at hd
    have e2 := dt_inj hd
    subst e2
    exact ⟨_, _, rfl, h, Pr.of e ra⟩
  | raw a => unfold rawD at hd; simp [dtD] at hd
  | dk _ _ _ => simp [dkD, dtD] at hd
  | ins _ _ _ => simp [dtD, insD] at hd
  | _ => simp [dtD] at hd
abbrev kT (k : List Int) : List Key := k.map Sum.inl
def wDk (ks : List (Int × D)) : Wc := ⟨fun G v fp => ∃ p kvs, v = .ref p ∧ fp = [(p, .dK kvs)] ∧ Pr Sum.inl G kvs ks, dkD ks, fun s ⟨p, kvs, e1, e2, r⟩ => ⟨p, kvs, e1, e2, r.mono s⟩, fun s a ⟨p, kvs, e1, e2, r⟩ => by
  subst e1 e2
  exact .dk (a _ (List.mem_singleton.mpr rfl)) r.keys (r.vals.mono s)⟩
def wDt (ks : List (List Int × D)) : Wc := ⟨fun G v fp => ∃ p kvs, v = .ref p ∧ fp = [(p, .dT kvs)] ∧ Pr kT G kvs ks, dtD ks, fun s ⟨p, kvs, e1, e2, r⟩ => ⟨p, kvs, e1, e2, r.mono s⟩, fun s a ⟨p, kvs, e1, e2, r⟩ => by
  subst e1 e2
  exact .dt (a _ (List.mem_singleton.mpr rfl)) r.keys (r.vals.mono s)⟩
section
variable {X : Cx} {ρ : Env} {o i e : Expr} {pos : Pos} {d : D} {k : Int} {t : List Int} {ks : List (Int × D)} {kt : List (List Int × D)}
theorem dn_dk : Dn X (.Dict [] [] pos) ρ (wDk []) := fun σ G H Q S s q => we_of pe_dnewK fun p hp => q (.ref p) [(p, .dK [])] G _ (Ext.own s hp) ⟨p, [], rfl, rfl, .nil⟩ fun y hy => by
  rw [List.mem_singleton.mp hy]
  exact ⟨hp, s.free hp, upd_same, trivial⟩
theorem dn_dt : Dn X (.Dict [] [] pos) ρ (wDt []) := fun σ G H Q S s q => we_of pe_dnewT fun p hp => q (.ref p) [(p, .dT [])] G _ (Ext.own s hp) ⟨p, [], rfl, rfl, .nil⟩ fun y hy => by
  rw [List.mem_singleton.mp hy]
  exact ⟨hp, s.free hp, upd_same, trivial⟩
/-- d[k] -/
theorem dv_dkGet (hu : X.A.units + 64 < cLine) (ho : Dv X o ρ (dkD ks)) (hi : Dv X i ρ (.int k)) (h : dLook ks k = some d) (hs : NoSl i := by exact fun _ _ => rfl) : Dv X (.Subscript o i pos) ρ d := fun σ G H Q S s q =>
  we_of (pe_dget (by omega) pe_w pe_w hs) (ho σ G H _ S s fun v G1 H1 x1 r1 => hi σ G1 H1 _ (S.mono x1.g) x1.s fun w G2 H2 x2 r2 => by
    obtain ⟨a, kvs, rfl, h1, pr⟩ := r1.dkI
    cases r2
    have z := pr.look inlI k
    rw [h] at z
    obtain ⟨u, z1, z2⟩ := z
    refine ⟨a, u, rfl, ?_, q u G2 H2 (x1.trans x2) (z2.mono x2.g)⟩
    rw [← z1]
    exact DGet.k (k := Sum.inl k) (x2.h _ _ (x1.s _ _ h1)))
theorem tup_ints {G : Hp} {v : V} (r : Rp G v (tI t)) : ∃ b, v = .ref b ∧ G b = some (.tup ((t.map Sum.inl : List Key).map kV)) := by
  cases r with
  | tup e ra =>
    have := ra.ints
    subst this
    exact ⟨_, rfl, by rw [e, List.map_map] <;> rfl⟩
/-- t in d, t not in d -/
theorem dt_dtIn (hu : X.A.units + 64 < cLine) (hi : Dv X i ρ (tI t)) (ho : Dv X o ρ (dtD kt)) (hm : behindInMarks .In o = false := by rfl) : Dt X (.Compare i [.In] [o] pos) ρ (dLook kt t).isSome := fun σ G H Q S s q =>
  wt_of (pt_cmp (pc_din (by omega) pe_w pe_w) hm) (hi σ G H _ S s fun v G1 H1 x1 r1 => ho σ G1 H1 _ (S.mono x1.g) x1.s fun w G2 H2 x2 r2 => by
    obtain ⟨b, rfl, e1⟩ := tup_ints r1
    obtain ⟨a, kvs, rfl, h1, pr⟩ := r2.dtI
    have z := pr.look inlT t
    refine ⟨a, _, rfl, DGet.t (x2.s _ _ h1) (x2.h _ _ (x1.s _ _ e1)), ?_⟩
    have e : (valV kvs (t.map Sum.inl)).isSome = (dLook kt t).isSome := by
      cases hl : dLook kt t with
      | none =>
        rw [hl] at z
        rw [show valV kvs (t.map Sum.inl) = none from z] <;> rfl
      | some d' =>
        rw [hl] at z
        obtain ⟨u, z1, _⟩ := z
        rw [show valV kvs (t.map Sum.inl) = some u from z1] <;> rfl
    rw [e]
    exact ⟨_, rfl, q H2 (x1.trans x2).less⟩)
theorem dt_dtNotIn (hu : X.A.units + 64 < cLine) (hi : Dv X i ρ (tI t)) (ho : Dv X o ρ (dtD kt)) (hm : behindInMarks .NotIn o = false := by rfl) : Dt X (.Compare i [.NotIn] [o] pos) ρ (!(dLook kt t).isSome) := fun σ G H Q S s q =>
  wt_of (pt_cmp (pc_dnotin (by omega) pe_w pe_w) hm) (hi σ G H _ S s fun v G1 H1 x1 r1 => ho σ G1 H1 _ (S.mono x1.g) x1.s fun w G2 H2 x2 r2 => by
    obtain ⟨b, rfl, e1⟩ := tup_ints r1
    obtain ⟨a, kvs, rfl, h1, pr⟩ := r2.dtI
    have z := pr.look inlT t
    refine ⟨a, _, rfl, DGet.t (x2.s _ _ h1) (x2.h _ _ (x1.s _ _ e1)), ?_⟩
    have e : (valV kvs (t.map Sum.inl)).isSome = (dLook kt t).isSome := by
      cases hl : dLook kt t with
      | none =>
        rw [hl] at z
        rw [show valV kvs (t.map Sum.inl) = none from z] <;> rfl
      | some d' =>
        rw [hl] at z
        obtain ⟨u, z1, _⟩ := z
        rw [show valV kvs (t.map Sum.inl) = some u from z1] <;> rfl
    rw [e]
    exact ⟨_, rfl, q H2 (x1.trans x2).less⟩)
end
section
variable {X : Cx} {G0 H0 Gm : Hp} {ρ : Cells} {E : Ends} {e ix : Expr} {d : D} {k : Int} {t : List Int} {ks : List (Int × D)} {kt : List (List Int × D)} {i : Nat} {pos pos' p1 : Pos} {x : Str}
/-- x[k] = e -/
theorem tr_dkPut (i : Nat) (hu : X.A.units + 64 < cLine) (hi : X.N[i]? = some x) (hv : Vis X.env.scope x) (hm : ρ[i]? = some (.w (wDk ks))) (hix : Dv X ix (purE ρ) (.int k)) (he : Dv X e (purE ρ) d) (hz : ks.length < sizeLine) (kk : Nx G0 H0 Gm (ρ.set i (.w (wDk (dPut ks k d)))) E.nx)
    (hs : swapsWith e (some (.Subscript (.Name x p1) ix pos')) pos.line X.env = pure false := by rfl) (hd : (x == ("__debug__" : Str)) = false := by decide) (hcd : (x == ("__classdict__" : Str)) = false := by decide) : Tr X G0 H0 (.Assign [.Subscript (.Name x p1) ix pos'] e pos) Gm ρ E := fun G σ H s A => by
  refine ws_of (ps_dput (by omega) (pe_var hi hv hd hcd) pe_w pe_w hs) (he σ G H _ A.sl A.ext.s fun v G1 H1 x1 r1 => ?_)
  have A1 := A.step x1
  obtain ⟨v0, _, e1, ⟨p0, kvs0, rfl, rfl, _⟩, _, _⟩ := A1.atW hm
  refine ⟨_, e1, hix σ G1 H1 _ A1.sl A1.ext.s fun w G2 H2 x2 r2 => ?_⟩
  cases r2
  have A2 := A1.step x2
  obtain ⟨v1, fp, e2, ⟨p, kvs, rfl, rfl, pr⟩, hf, up⟩ := A2.atW hm
  rw [e1] at e2
  cases e2
  have hp := hf _ (List.mem_singleton.mpr rfl)
  have z := up (upd H2 p0 (.dK (putK kvs (Sum.inl k) v))) [(p0, .dK (putK kvs (Sum.inl k) v))] (wDk (dPut ks k d)) (.ref p0) (fun b o hb e => by rw [upd_ne (Ne.symm (hb _ (List.mem_singleton.mpr rfl)))]; exact e)
    (fun y hy => by rw [List.mem_singleton.mp hy]; exact ⟨.inl ⟨_, List.mem_singleton.mpr rfl, rfl⟩, hp.2.1, upd_same, trivial⟩) ⟨p0, _, rfl, rfl, pr.put inlI (r1.mono x2.g)⟩
  rw [set_self e1] at z
  exact ⟨p0, _, rfl, DPut.k (k := Sum.inl k) hp.2.2.1 (by rw [pr.len]; exact hz), kk G2 σ _ (s.trans (x1.g.trans x2.g)) z⟩
/-- x[t] = e -/
theorem tr_dtPut (i : Nat) (hu : X.A.units + 64 < cLine) (hi : X.N[i]? = some x) (hv : Vis X.env.scope x) (hm : ρ[i]? = some (.w (wDt kt))) (hix : Dv X ix (purE ρ) (tI t)) (he : Dv X e (purE ρ) d) (hz : kt.length < sizeLine) (kk : Nx G0 H0 Gm (ρ.set i (.w (wDt (dPut kt t d)))) E.nx)
    (hs : swapsWith e (some (.Subscript (.Name x p1) ix pos')) pos.line X.env = pure false := by rfl) (hd : (x == ("__debug__" : Str)) = false := by decide) (hcd : (x == ("__classdict__" : Str)) = false := by decide) : Tr X G0 H0 (.Assign [.Subscript (.Name x p1) ix pos'] e pos) Gm ρ E := fun G σ H s A => by
  refine ws_of (ps_dput (by omega) (pe_var hi hv hd hcd) pe_w pe_w hs) (he σ G H _ A.sl A.ext.s fun v G1 H1 x1 r1 => ?_)
  have A1 := A.step x1
  obtain ⟨v0, _, e1, ⟨p0, kvs0, rfl, rfl, _⟩, _, _⟩ := A1.atW hm
  refine ⟨_, e1, hix σ G1 H1 _ A1.sl A1.ext.s fun w G2 H2 x2 r2 => ?_⟩
  obtain ⟨b, rfl, eb⟩ := tup_ints r2
  have A2 := A1.step x2
  obtain ⟨v1, fp, e2, ⟨p, kvs, rfl, rfl, pr⟩, hf, up⟩ := A2.atW hm
  rw [e1] at e2
  cases e2
  have hp := hf _ (List.mem_singleton.mpr rfl)
  have z := up (upd H2 p0 (.dT (putK kvs (t.map Sum.inl) v))) [(p0, .dT (putK kvs (t.map Sum.inl) v))] (wDt (dPut kt t d)) (.ref p0) (fun b o hb e => by rw [upd_ne (Ne.symm (hb _ (List.mem_singleton.mpr rfl)))]; exact e)
    (fun y hy => by rw [List.mem_singleton.mp hy]; exact ⟨.inl ⟨_, List.mem_singleton.mpr rfl, rfl⟩, hp.2.1, upd_same, trivial⟩) ⟨p0, _, rfl, rfl, Pr.put (f := kT) inlT pr (r1.mono x2.g)⟩
  rw [set_self e1] at z
  exact ⟨p0, _, rfl, DPut.t hp.2.2.1 (x2.s _ _ eb) (by rw [pr.len]; exact hz), kk G2 σ _ (s.trans (x1.g.trans x2.g)) z⟩
end
end Hr
/-! xs.extend(e) of what own objects show; {k: v}; [f, g][i](e). -/
namespace Hr
open PySem PySem.Spec PyProof.Rows L2

theorem ext_flatA {G H G2 H2 : Hp} {vs : List V} {ds : List D} (s : Same G H) (x : Ext H H G2 H2) (r : RpA G2 vs ds) (f : flatA ds = true) : ∃ G', Ext G H G' H2 ∧ RpA G' vs ds := by
  have s1 : Same G H2 := s.trans x.h
  have s2 : Same (tupH G2) H2 := (tupH_same G2).trans x.s
  refine ⟨joinH G (tupH G2), ⟨joinH_l _ _, x.h, joinH_up s1 s2, fun p o h m g => ?_⟩, (r.flat f).mono (joinH_r s1 s2)⟩
  unfold joinH
  rw [g]
  show tupH G2 p = none
  unfold tupH
  rw [x.g _ _ h]
  cases o <;> first | rfl | exact absurd m id
theorem flat_all {ds : List D} (h : ∀ d ∈ ds, flatD d = true) : flatA ds = true := by
  induction ds with
  | nil => simp [flatA]
  | cons d ds ih =>
    rw [flatA, h d List.mem_cons_self, ih fun e he => h e (List.mem_cons_of_mem _ he)] <;> rfl
theorem flat_rows (rows : List (List Int)) : flatA (rows.map tI) = true := flat_all fun d hd => by
  obtain ⟨r, _, rfl⟩ := List.mem_map.mp hd
  exact flat_tI r
section
variable {X : Cx} {G0 H0 Gm : Hp} {ρ : Cells} {E : Ends} {e : Expr} {d : D} {xs ys : List D} {p1 p2 pos pos' : Pos} {x : Str}
theorem tr_extV {oi : Option Addr} (i : Nat) (hb : PE X (.Call (.Attribute (.Name x p1) "extend" p2) [e] [] pos) (tBM X.K "list" rExtend (tVar i) (tCons (wE X e) tNil))) (hm : ρ[i]? = some (.m xs oi)) (he : Dv X e (visE ρ) (.list ys)) (hf : flatA ys = true) (hz : xs.length + ys.length ≤ sizeLine) (k : Nx G0 H0 Gm (ρ.set i (.m (xs ++ ys) oi)) E.nx)
    (hs : swapsWith (.Call (.Attribute (.Name x p1) "extend" p2) [e] [] pos) none pos'.line X.env = pure false := by rfl) : Tr X G0 H0 (.Expr (.Call (.Attribute (.Name x p1) "extend" p2) [e] [] pos) pos') Gm ρ E := fun G σ H s A => by
  obtain ⟨p, vs, e1, h1, r1⟩ := at_own A hm
  refine ws_of (ps_expr hb hs) ⟨_, e1, .inl ⟨rfl, _, SqL.of h1⟩, he σ H H _ A.slV (Same.refl H) fun v G' H' x r => ?_⟩
  cases r with
  | lst e2 r2 =>
    obtain ⟨G2, x2, r3⟩ := ext_flatA A.ext.s x r2 hf
    have B := A.step x2
    exact ⟨p, _, vs, _, rfl, rfl, x.h _ _ h1, x.s _ _ e2, by rw [r1.length, r2.length]; exact hz, k G2 σ _ (s.trans x2.g) (B.mut hm e1 ((r1.mono x2.g).app r3))⟩
end
section
variable {X : Cx} {ρ : Env} {fe k v e : Expr} {es : List Expr} {pos : Pos} {d : D} {ds : List D} {n : Int} {x : Str}
/-- {k: v}, k an int -/
theorem dn_disp1 (hk : Dv X k ρ (.int n)) (hv : Dv X v ρ d) : Dn X (.Dict [some k] [v] pos) ρ (wDk [(n, d)]) := fun σ G H Q S s q =>
  we_of (pe_disp (pps_cons pe_w pe_w pps_nil) rfl rfl (by simp) (by simp)) fun p hp => by
    have x0 : Ext G H G (upd H p (.dK [])) := Ext.own s hp
    refine hk σ G _ _ S x0.s fun w G1 H1 x1 r1 => hv σ G1 H1 _ (S.mono x1.g) x1.s fun u G2 H2 x2 r2 => ?_
    cases r1
    have hp1 : H1 p = some (.dK []) := x1.h _ _ upd_same
    have hp2 : H2 p = some (.dK []) := x2.h _ _ hp1
    have g1 : G1 p = none := x1.f p _ upd_same trivial (s.free hp)
    have g2 : G2 p = none := x2.f p _ hp1 trivial g1
    have x3 := (x0.trans x1).trans x2
    refine ⟨hp2, [(Sum.inl n, u)], rfl, (by show 1 ≤ 15; decide), q (.ref p) [(p, .dK (mergeK [] [(Sum.inl n, u)]))] G2 _ ⟨x3.g, fun b o eb => ?_, same_keep x3.s g2, x3.f⟩ ⟨p, _, rfl, rfl, .cons r2 .nil⟩ fun y hy => ?_⟩
    · rw [upd_ne (ne_of_none eb hp)]
      exact x3.h b o eb
    · rw [List.mem_singleton.mp hy]
      exact ⟨hp, g2, upd_same, trivial⟩
/-- fe(e, ..): fe gives the def at f -/
theorem pe_callF {k0 : Nat} {f : Addr} {fd : FuncData} {ps : List Str} {sp : Sp} {E : L2.St → XK} {tf : TE} {t : TA} (hfe : PE X fe tf) (F : FnOk X.prog X.w X.K X.mg X.base (L2N.CX X.prog X.w) k0 f fd ps sp) (hr : Room k0 X.A) (hk : PySem.W.keepIn X.K (.ref f) = true) (hb : Binds X.K fd ps []) (hx : ∀ σ, PassesAt (L2N.CX X.prog X.w) X σ (E σ)) (ha : PA X (e :: es) t)
    (hcall : eval (.Call fe (e :: es) [] pos) X.env = (do callWith pos (← eval fe X.env) [] (backTo pos (starEach (e :: es) X.env)) (backToKw pos (keywordEach [] X.env)))) (he : starEach (e :: es) X.env = (false, eval e X.env) :: starEach es X.env := by rfl) (hpl : (backTo pos (starEach es X.env)).any (·.1) = false := by rfl) :
    PE X (.Call fe (e :: es) [] pos) (fun σ H Q => tf σ H fun v H1 => v = .ref f ∧ t σ H1 fun vs H2 => sp vs H2 Q (E σ)) := ⟨fun pins s σ H Q I h => by
  rw [hcall]
  refine wpAny_bind (thn (hfe.run pins s σ H _ I h) fun u s1 ⟨v, H1, I1, r1, ev, q1⟩ => ?_)
  subst ev
  cases r1
  exact PySem.W.callWith_K (h₀ := X.base) I1.ok.mod.kin hk (thn (ha.run pos pins s1 σ _ _ I1 q1) fun us s2 ⟨vs, H2, I2, r, q⟩ => ⟨I2.kIn, run_fnS F hr hb (hx σ) I2 r q⟩) he hpl⟩
theorem dv_callF {k0 : Nat} {f : Addr} {fd : FuncData} {ps : List Str} {S : List D → D → Prop} (F : FnOk X.prog X.w X.K X.mg X.base (L2N.CX X.prog X.w) k0 f fd ps (spP S)) (hr : Room k0 X.A) (hk : PySem.W.keepIn X.K (.ref f) = true) (hb : Binds X.K fd ps []) (hfe : Dv X fe ρ (rawD f)) (ha : Da X (e :: es) ρ ds) (hS : S ds d)
    (hcall : eval (.Call fe (e :: es) [] pos) X.env = (do callWith pos (← eval fe X.env) [] (backTo pos (starEach (e :: es) X.env)) (backToKw pos (keywordEach [] X.env))) := by rfl) (he : starEach (e :: es) X.env = (false, eval e X.env) :: starEach es X.env := by rfl) (hpl : (backTo pos (starEach es X.env)).any (·.1) = false := by rfl) : Dv X (.Call fe (e :: es) [] pos) ρ d := fun σ G H Q S0 s q =>
  we_of (pe_callF (E := fun _ => E0) pe_w F hr hk hb (fun σ pins H s e s' I c => passN pins σ H s e s' I c) pa_w hcall he hpl) (hfe σ G H _ S0 s fun v G1 H1 x1 r1 => ⟨raw_is r1, ha σ G1 H1 _ (S0.mono x1.g) x1.s fun vs G2 H2 x2 r2 => ⟨G2, ds, d, x2.s, r2, hS, fun v G3 H3 x3 r3 => q v G3 H3 ((x1.trans x2).trans x3) r3⟩⟩)
theorem dx_callF {k0 : Nat} {f : Addr} {fd : FuncData} {ps : List Str} {R : List D → Str → Prop} (F : FnOk X.prog X.w X.K X.mg X.base (L2N.CX X.prog X.w) k0 f fd ps (spE X.mg R)) (hr : Room k0 X.A) (hk : PySem.W.keepIn X.K (.ref f) = true) (hb : Binds X.K fd ps []) (hfe : Dv X fe ρ (rawD f)) (ha : Da X (e :: es) ρ ds) (hR : R ds x)
    (hcall : eval (.Call fe (e :: es) [] pos) X.env = (do callWith pos (← eval fe X.env) [] (backTo pos (starEach (e :: es) X.env)) (backToKw pos (keywordEach [] X.env))) := by rfl) (he : starEach (e :: es) X.env = (false, eval e X.env) :: starEach es X.env := by rfl) (hpl : (backTo pos (starEach es X.env)).any (·.1) = false := by rfl) : Dx X (.Call fe (e :: es) [] pos) ρ x := fun W C σ G H Q tk hC S0 s q =>
  we_of (pe_callF (E := WE W) pe_w F hr hk hb (fun σ => L2N.passAt tk σ) pa_w hcall he hpl) (hfe σ G H _ S0 s fun v G1 H1 x1 r1 => ⟨raw_is r1, ha σ G1 H1 _ (S0.mono x1.g) x1.s fun vs G2 H2 x2 r2 => ⟨G2, ds, x, C, x2.s, r2, hR, hC, fun G3 H3 x3 => q G3 H3 ((x1.trans x2).trans x3)⟩⟩)
end
/-! what raises -/
def R_state (ds : List D) (x : Str) : Prop := ∃ v, ds = [v] ∧ SeqAt.shaped v = true ∧ shortT v = true ∧ isStB v = false ∧ x = "InvalidState"
def R_stones (ds : List D) (x : Str) : Prop := ∃ v, ds = [v] ∧ SeqAt.shaped v = true ∧ isIntB 1 20 v = false ∧ x = "InvalidNumber"
theorem kit_other {K : PySem.W.Frag} {Dc Cc : Addr} {b : Bool} (t : PySem.W.typeIn K (.ref Cc) = some (.type "type")) (h : PySem.W.hasDictIn K Cc = true) (s : PySem.W.subIn K (.ref Dc) (.ref Cc) = some b) (self : PySem.W.subIn K (.ref Dc) (.ref Dc) = some true) : PySem.W.kitOne K (.ref Dc) (.ref Cc) = some b := by
  unfold PySem.W.kitOne
  by_cases e : Dc = Cc
  · subst e
    rw [self] at s
    rw [if_pos (beq_self_eq_true _)]
    exact s
  · rw [if_neg (by simp [e])]
    obtain ⟨cd, hc, _⟩ := PySem.W.any_some h
    show (if ((PySem.W.clsIn K Cc).isSome && PySem.W.typeIn K (.ref Cc) == some (.type "type")) = true then PySem.W.subIn K (.ref Dc) (.ref Cc) else none) = some b
    rw [if_pos (by rw [hc, t] <;> rfl)]
    exact s
theorem kit_ve {K : PySem.W.Frag} {Dc : Addr} {b : Bool} {T : String} (hT : PySem.W.kitMeta T = true) (s : PySem.W.subIn K (.ref Dc) (.type T) = some b) : PySem.W.kitOne K (.ref Dc) (.type T) = some b := by
  unfold PySem.W.kitOne
  rw [if_neg (by simp)]
  show (if PySem.W.kitMeta T = true then PySem.W.subIn K (.ref Dc) (.type T) else none) = some b
  rw [if_pos hT]
  exact s
end Hr
/-! len(set(list of ints)); what is refused; lists of what is raised. -/
namespace Hr
open PySem PySem.Spec PyProof.Rows L2

def rLenSI (w : World) : List V → Hp → VK → Prop := fun vs H Q => ∃ (a : Addr) (ns : List Int) (c : Nat), vs = [V.ref a] ∧ H a = some (SetO w a (fun j => decide (j ∈ ns)) c) ∧ c < 64 ∧ ∀ ms : List Int, ms.Nodup → (∀ k, k ∈ ms ↔ k ∈ ns) → Q (.int (ms.length : Nat)) H
theorem cr_lenSI {X : Cx} : CallR X (.builtin "len") (rLenSI X.w) := by
  intro pins s σ H vs us Q I r h
  obtain ⟨a, ns, c, rfl, ha, hc, q⟩ := h
  rw [Vals.ref1 r]
  obtain ⟨o, es, ep, t, ho, hex, hdt, g, nd, hm, hb, hf, hn, hr, hl⟩ := (I.hok a _ ha).1
  have hfit : t.fits es.size = true := hf
  refine call_len_set ho hex hdt hfit (by omega) ⟨.int ((es.toList.map keyOf).length : Nat), H, I.tok _, ⟨_, by rw [List.length_map, Array.length_toList]⟩, q (es.toList.map keyOf) nd fun k => ?_⟩
  rw [← decide_eq_true_eq (p := k ∈ ns), ← hm k]
section
variable {X : Cx} {ρ : Env} {e : Expr} {p p1 pos pos1 : Pos} {ns ms : List Int}
theorem dv_lenSetI (hc : X.calm = true) (hgl : Gl X "len") (hml : X.mg "len" = none) (hgs : Gl X "set") (hms : X.mg "set" = none) (ha : Dv X e ρ (lI ns)) (hz : ns.length < 60) (h1 : ms.Nodup) (h2 : ∀ k, k ∈ ms ↔ k ∈ ns)
    (hs : starEach [e] X.env = (false, eval e X.env) :: starEach [] X.env := by rfl) (hs2 : starEach [.Call (.Name "set" p1) [e] [] pos1] X.env = (false, eval (.Call (.Name "set" p1) [e] [] pos1) X.env) :: starEach [] X.env := by rfl) :
    Dv X (.Call (.Name "len" p) [.Call (.Name "set" p1) [e] [] pos1] [] pos) ρ (.int (ms.length : Nat)) := fun σ G H Q S s q =>
  we_of (pe_callB cr_lenSI hgl hml bb_len (pa_cons (pe_callTy (cr_setL hc) hgs hms bb_set pa_w (he := hs) (hpl := by rfl)) pa_nil hs2) (he := hs2) (hpl := by rfl)) (da1 ha hs σ G H _ S s fun vs G1 H1 x1 r1 => by
    obtain ⟨v, rfl, rv⟩ := r1.one
    cases rv with
    | lst e1 ra =>
      have := ra.ints
      subst this
      refine ⟨_, ns, rfl, SqL.of (x1.s _ _ e1), hz, fun a c hcn ha' => ?_⟩
      refine ⟨a, ns, c, rfl, upd_same, by omega, fun ks hk1 hk2 => ?_⟩
      have ek : ks.length = ms.length := ((List.perm_ext_iff_of_nodup hk1 h1).mpr fun k => by rw [hk2, h2]).length_eq
      rw [ek]
      exact q _ G1 _ (x1.trans (Ext.own x1.s ha')) (.int _))
end
theorem sh_raisedL (n : Nat) (i : Int) : Sh 2 (.list (List.replicate n (raisedD i))) := (sha_all fun d hd => by rw [(List.mem_replicate.mp hd).2]; exact sh_raised).lst
theorem map_rep {α : Type} (d : D) : ∀ zs : List α, zs.map (fun _ => d) = List.replicate zs.length d
  | [] => rfl
  | _ :: zs => by rw [List.map_cons, map_rep d zs] <;> rfl
/-- no numbers of stones -/
def offs7 : List D := [.none, .int 0, .int 21, .int (-1), .str "3", .bool true, .tuple [.int 3]]
theorem offs7_no : ∀ v ∈ offs7, SeqAt.shaped v = true ∧ isIntB 1 20 v = false := by
  intro v hv
  simp only [offs7, List.mem_cons, List.not_mem_nil, or_false] at hv
  rcases hv with rfl | rfl | rfl | rfl | rfl | rfl | rfl
  · exact ⟨sh_non.shaped, rfl⟩
  · exact ⟨sh_int.shaped, rfl⟩
  · exact ⟨sh_int.shaped, rfl⟩
  · exact ⟨sh_int.shaped, rfl⟩
  · exact ⟨(sh_str (by decide +kernel)).shaped, rfl⟩
  · exact ⟨sh_bl.shaped, rfl⟩
  · exact ⟨(ShA.tup (n := 0) (sha_cons sh_int sha_nil)).shaped, rfl⟩
/-- asked of a number of stones: g of it, or InvalidNumber -/
def S_ask1 (g : Int → D) (ds : List D) (d : D) : Prop := ∃ v, ds = [v] ∧ ((∃ n : Int, v = .int n ∧ 1 ≤ n ∧ n ≤ 20 ∧ d = g n) ∨ (SeqAt.shaped v = true ∧ isIntB 1 20 v = false ∧ d = raisedD 1))
end Hr
/-! [e for x in range(a)], a and e draw. -/
namespace Hr
open PySem PySem.Spec PyProof.Rows L2

section
variable {G0 H0 G1 H1 G' H' : Hp} {ρ : Cells} {σ : L2.St} {tw j : Nat} {ta : Addr} {ts1 ts' : List D} {ws : List V}
def NoOwn (ρ : Cells) (tw : Nat) : Prop := ∀ i cl, i ≠ tw → ρ[i]? = some cl → (∀ xs o, cl ≠ .m xs o) ∧ ∀ W, cl ≠ .w W
theorem own_tw (hown : NoOwn ρ tw) (htw : tw < ρ.length) {i : Nat} {xs : List D} {o : Option Addr} (e : (ρ.set tw (.m ts' (some ta)))[i]? = some (.m xs o)) : i = tw ∧ xs = ts' ∧ o = some ta := by
  by_cases h : i = tw
  · subst h
    rw [List.getElem?_set_self htw] at e
    have e' : Cell.m ts' (some ta) = Cell.m xs o := Option.some.inj e
    injection e' with e1 e2
    exact ⟨rfl, e1.symm, e2.symm⟩
  · rw [List.getElem?_set_ne (Ne.symm h)] at e
    exact absurd rfl ((hown i _ h e).1 xs o)
theorem own_now (hown : NoOwn ρ tw) {i : Nat} {W : Wc} (e : (ρ.set tw (.m ts' (some ta)))[i]? = some (.w W)) : False := by
  obtain ⟨n, e⟩ := cells_setW e fun _ z => nomatch z
  exact (hown i _ (Ne.symm n) e).2 W rfl
theorem noOwn_set (hown : NoOwn ρ tw) {d : D} : NoOwn (ρ.set j (.d d)) tw := fun i cl hi e => by
  by_cases h : j = i
  · subst h
    by_cases hl : j < ρ.length
    · rw [List.getElem?_set_self hl] at e
      rw [← Option.some.inj e]
      exact And.intro (fun _ _ z => nomatch z) (fun _ z => nomatch z)
    · rw [List.getElem?_eq_none (by simpa using hl)] at e
      cases e
  · rw [List.getElem?_set_ne h] at e
    exact hown i cl hi e
theorem AtG.settle (A1 : AtG G0 H0 G1 (ρ.set tw (.m ts1 (some ta))) σ H1) (hown : NoOwn ρ tw) (htw : tw < ρ.length) (x1 : Same G1 G') (x2 : Same G' H') (x3 : ∀ b o, b ≠ ta → H1 b = some o → H' b = some o) (x4 : ∀ b o, b ≠ ta → H1 b = some o → Mu o → G1 b = none → G' b = none) (gt : G' ta = none) (ht : H' ta = some (.lst ws)) (r : RpA G' ws ts') :
    AtG G0 H0 G' (ρ.set tw (.m ts' (some ta))) σ H' := by
  obtain ⟨t0, ws0, et, eo, ht0, gt0, h2t, r2⟩ := A1.own tw ts1 _ (List.getElem?_set_self htw)
  obtain rfl : ta = t0 := by
    rcases eo with w | w
    · cases w
    · exact Option.some.inj w
  refine ⟨⟨A1.ext.g.trans x1, fun b o e => x3 b o (ne_of_none e ht0) (A1.ext.h b o e), x2, fun q o h m g => x4 q o (ne_of_none h ht0) (A1.ext.h _ _ h) m (A1.ext.f q o h m g)⟩, ?_, fun i xs o e => ?_, fun i k q xs ys o o' hik e1 e2 _ _ => ?_, WOk.none fun i W e => own_now hown e⟩
  · have z := A1.sl.mono x1
    show Sl G' σ (List.map Cell.pur _)
    rw [List.map_set]
    have z' : Sl G' σ (List.map Cell.pur (ρ.set tw (.m ts1 (some ta)))) := z
    rw [List.map_set] at z'
    exact z'
  · obtain ⟨rfl, rfl, rfl⟩ := own_tw hown htw e
    exact ⟨ta, ws, et, .inr rfl, ht0, gt, ht, r⟩
  · obtain ⟨a1, _⟩ := own_tw hown htw e1
    obtain ⟨a2, _⟩ := own_tw hown htw e2
    exact hik (a1.trans a2.symm)
theorem AtG.rebase (A1 : AtG G0 H0 G1 (ρ.set tw (.m ts1 (some ta))) σ H1) (hown : NoOwn ρ tw) (htw : tw < ρ.length) (hjt : j ≠ tw) (k : Int) (f1 : Same G1 G') (f2 : Same G' H') (gt : G' ta = none) (ht : H' ta = some (.lst ws)) (r : RpA G' ws ts') :
    AtG G' (hide H' ta) G' ((ρ.set j (.d (.int k))).set tw (.m ts' (some ta))) ((σ.set j none).set j (some (.int k))) H' := by
  obtain ⟨t0, ws0, et, eo, ht0, gt0, h2t, r2⟩ := A1.own tw ts1 _ (List.getElem?_set_self htw)
  obtain rfl : ta = t0 := by
    rcases eo with w | w
    · cases w
    · exact Option.some.inj w
  have htw' : tw < (ρ.set j (.d (.int k))).length := by rw [List.length_set]; exact htw
  refine ⟨⟨Same.refl _, hide_same H' ta, f2, fun _ _ _ _ g => g⟩, ?_, fun i xs o e => ?_, fun i m q xs ys o o' hik e1 e2 _ _ => ?_, WOk.none fun i W e => own_now (noOwn_set hown) e⟩
  · have z := (((A1.sl.mono f1).unset (j := j) (o := none)).set (j := j) (v := V.int k) (d := .int k) (.int k))
    show Sl G' _ (List.map Cell.pur _)
    rw [List.map_set, List.map_set]
    have z' : Sl G' ((σ.set j none).set j (some (.int k))) (((List.map Cell.pur (ρ.set tw (.m ts1 (some ta)))).set j none).set j (some (.int k))) := z
    rw [List.set_set, List.map_set, List.set_comm _ _ (Ne.symm hjt), List.set_comm _ _ (Ne.symm hjt), List.set_set] at z'
    rw [List.set_set]
    exact z'
  · obtain ⟨rfl, rfl, rfl⟩ := own_tw (noOwn_set hown) htw' e
    exact ⟨ta, ws, by rw [List.getElem?_set_ne hjt, List.getElem?_set_ne hjt]; exact et, .inr rfl, hide_at H' ta, gt, ht, r⟩
  · obtain ⟨a1, _⟩ := own_tw (noOwn_set hown) htw' e1
    obtain ⟨a2, _⟩ := own_tw (noOwn_set hown) htw' e2
    exact hik (a1.trans a2.symm)
end
section
variable {X : Cx} {G0 H0 : Hp} {ρ : Cells} {a elt : Expr} {tw n c : Nat} {ta : Addr} {p py pos pos1 : Pos} {y : Str}
theorem de_lcR {scope : Scope} (j cap ce : Nat) {Pe : Int → Prop} {ns : List Int} {ad : Addr} (hc : X.calm = true) (hN : X.N.Nodup) (ok : BlkOk X.N X.env.scope scope [(y, j)]) (hg : Gl X "range") (hm : X.mg "range" = none)
    (hjt : j ≠ tw) (htw : tw < ρ.length) (hown : NoOwn ρ tw) (hS : Scr X.K H0 ad ns) (hcap : cap ≤ 100)
    (ha : De X G0 H0 a ρ tw ta n c (fun d => ∃ z : Int, d = .int z ∧ 0 ≤ z ∧ z ≤ (cap : Int)))
    (hpg : ∀ (s : Shared) (H : Hp) (C : Addr) (cl : List (Str × Addr)) (fp : List Addr), PG (Blk X scope s H C cl fp) (.Name y py) (gName j))
    (he : ∀ (s : Shared) (H : Hp) (C : Addr) (cl : List (Str × Addr)) (fp : List Addr) (G1 H1 : Hp) (k : Int) (m : Nat), Scr X.K H1 ad ns → m ≤ n + c + cap * ce → De (Blk X scope s H C cl fp) G1 H1 elt (ρ.set j (.d (.int k))) tw ta m ce (fun d => ∃ z : Int, d = .int z ∧ Pe z))
    (hs : ∀ x, foldedSetIterable (.Call (.Name "range" p) [a] [] pos1) X.env x = pure x := by intro _; rfl) (hst : starEach [a] X.env = [(false, eval a X.env)] := by rfl) :
    De X G0 H0 (.ListComp elt [⟨.Name y py, .Call (.Name "range" p) [a] [] pos1, [], 0⟩] scope pos) ρ tw ta n (c + cap * ce + ce) (fun d => ∃ zs : List Int, d = lI zs ∧ zs.length ≤ cap ∧ ∀ z ∈ zs, Pe z) := fun G σ H ts Q hl A q => by
  refine we_of (pe_lc (own := [(y, j)]) hc hN (pi_range1 hg hm (pa_cons pe_w pa_nil (by rw [hst] <;> rfl)) hst) ok hpg (tI2_ok (ifs := [])) tE2_ok hs) ?_
  refine ha G σ H ts _ hl A fun v d G1 H1 ts1 l1 s1 A1 r1 p1 => ?_
  obtain ⟨z, rfl, z0, z1⟩ := p1
  cases r1
  refine ⟨z, rfl, by omega, by omega, fun Dl hD => ?_⟩
  have htm : ∀ ts, (ρ.set tw (.m ts (some ta)))[tw]? = some (.m ts (some ta)) := fun ts => List.getElem?_set_self htw
  obtain ⟨t0, ws0, et, eo, ht0, gt0, h2t, r2⟩ := A1.own tw ts1 _ (htm ts1)
  obtain rfl : ta = t0 := by
    rcases eo with w | w
    · cases w
    · exact Option.some.inj w
  have nD : Dl ≠ ta := fun w => by rw [w, h2t] at hD; cases hD
  -- what holds in the turns
  refine ⟨fun i m H' => m = z.toNat - i ∧ i ≤ z.toNat ∧ ∃ (G' : Hp) (ts' : List D) (ws acc : List V) (zs : List Int), Same G1 G' ∧ Same G' H' ∧ (∀ b o, b ≠ ta → H1 b = some o → H' b = some o) ∧ (∀ b o, b ≠ ta → H1 b = some o → Mu o → G1 b = none → G' b = none) ∧ G' ta = none ∧ H' ta = some (.lst ws) ∧ RpA G' ws ts' ∧ ts'.length ≤ n + c + i * ce ∧
    G' Dl = none ∧ H' Dl = some (.lst acc) ∧ RpA G' acc (zs.map PyData.int) ∧ zs.length = i ∧ ∀ x ∈ zs, Pe x,
    ⟨z.toNat, rfl, Nat.zero_le _, G1, ts1, ws0, [], [], Same.refl _, same_keep A1.ext.s (A1.ext.s.free hD), fun b o hb e => by rw [upd_ne (ne_of_none e hD)]; exact e, fun _ _ _ _ _ g => g, gt0, by rw [upd_ne (Ne.symm nD)]; exact h2t, r2, by omega, A1.ext.s.free hD, upd_same, .nil, rfl, fun x hx => by cases hx⟩, ?_⟩
  rintro i m H' ⟨rfl, hi, G', ts', ws, acc, zs, f1, f2, f3, f4, f5, f6, f7, f8, f9, f10, f11, f12, f13⟩
  by_cases hlt : i < z.toNat
  · refine .inr ⟨hlt, fun H2 => ∃ (G' : Hp) (ts' : List D) (ws acc : List V) (zs : List Int), Same G1 G' ∧ Same G' H2 ∧ (∀ b o, b ≠ ta → H1 b = some o → H2 b = some o) ∧ (∀ b o, b ≠ ta → H1 b = some o → Mu o → G1 b = none → G' b = none) ∧ G' ta = none ∧ H2 ta = some (.lst ws) ∧ RpA G' ws ts' ∧ ts'.length ≤ n + c + (i + 1) * ce ∧
      G' Dl = none ∧ H2 Dl = some (.lst acc) ∧ RpA G' acc (zs.map PyData.int) ∧ zs.length = i + 1 ∧ ∀ x ∈ zs, Pe x, fun H2 h2 => ⟨z.toNat - (i + 1), by omega, rfl, by omega, h2⟩, fun x H2 yy => ?_⟩
    obtain ⟨eH, rfl⟩ := yy
    subst eH
    refine ⟨wipe_off (js := [j]) (vs := [j]) Off.one fun k hk => hk, fun s0 H0' C0 cl0 fp0 => ?_⟩
    have B := A1.rebase hown htw hjt (0 + (i : Int)) f1 f2 f5 f6 f7
    refine di_nil (ρ := purE ((ρ.set j (.d (.int (0 + (i : Int))))).set tw (.m ts' (some ta)))) _ G' _ _ B.sl f2 fun H3 x3 => ?_
    rw [if_pos rfl]
    intro s1 H01 C1 cl1 fp1
    have B3 := A1.rebase hown htw hjt (0 + (i : Int)) f1 x3.s f5 (x3.h _ _ f6) f7
    have hS3 : Scr X.K (hide H3 ta) ad ns := by
      have e1 : Scr X.K H1 ad ns := hS.mono A1.ext.h
      refine (e1.hide h2t).mono fun b o e => ?_
      by_cases hb : b = ta
      · rw [hb, hide_at] at e
        cases e
      · rw [hide_ne hb] at e ⊢
        exact x3.h _ _ (f3 b o hb e)
    have hmul : (i + 1) * ce = i * ce + ce := Nat.succ_mul i ce
    have hle : (i + 1) * ce ≤ cap * ce := Nat.mul_le_mul_right ce (by omega)
    refine he s1 H01 C1 cl1 fp1 G' (hide H3 ta) (0 + (i : Int)) ts'.length hS3 (by omega) G' _ H3 ts' _ (Nat.le_refl _) B3 fun v d G4 H4 ts4 l4 s4 A4 r4 p4 => ?_
    obtain ⟨z', rfl, pz⟩ := p4
    have h3D : (hide H3 ta) Dl = some (.lst acc) := by rw [hide_ne nD]; exact x3.h _ _ f10
    have h4D := A4.ext.h _ _ h3D
    have g4D := A4.ext.f Dl _ h3D trivial f9
    have htw' : tw < (ρ.set j (.d (.int (0 + (i : Int))))).length := by rw [List.length_set]; exact htw
    obtain ⟨t4, ws4, e4, eo4, _, gt4, h4t, r4t⟩ := A4.own tw ts4 _ (List.getElem?_set_self htw')
    obtain rfl : ta = t4 := by
      rcases eo4 with w | w
      · cases w
      · exact Option.some.inj w
    refine ⟨acc, h4D, by rw [f11.length, List.length_map, sizeLine_eq]; omega, G4, ts4, ws4, acc ++ [v], zs ++ [z'], f1.trans s4, same_keep A4.ext.s g4D, fun b o hb e => ?_, fun b o hb e m g => ?_, gt4, by rw [upd_ne (Ne.symm nD)]; exact h4t, r4t, by omega, g4D, upd_same, ?_, by rw [List.length_append, f12] <;> rfl, fun y hy => ?_⟩
    · rw [upd_ne (ne_of_none e hD)]
      exact A4.ext.h _ _ (by rw [hide_ne hb]; exact x3.h _ _ (f3 b o hb e))
    · exact A4.ext.f b o (by rw [hide_ne hb]; exact x3.h _ _ (f3 b o hb e)) m (f4 b o hb e m g)
    · rw [List.map_append]
      exact (f11.mono s4).app (.cons r4 .nil)
    · rcases List.mem_append.mp hy with hy | hy
      · exact f13 y hy
      · rw [List.mem_singleton.mp hy]
        exact pz
  · have ei : i = z.toNat := by omega
    subst ei
    have hle : z.toNat * ce ≤ cap * ce := Nat.mul_le_mul_right ce (by omega)
    have sD : Same G' (upd G' Dl (.lst acc)) := same_new f9
    have s2 : Same (upd G' Dl (.lst acc)) H' := fun b o e => by
      by_cases hb : b = Dl
      · subst hb
        rw [upd_same] at e
        cases e
        exact f10
      · rw [upd_ne hb] at e
        exact f2 _ _ e
    refine .inl ⟨Nat.le_refl _, q (.ref Dl) (lI zs) (upd G' Dl (.lst acc)) H' ts' (by omega) ((s1.trans f1).trans sD) (A1.settle hown htw (f1.trans sD) s2 f3 (fun b o hb e m g => by rw [upd_ne (ne_of_none e hD)]; exact f4 b o hb e m g) (by rw [upd_ne (Ne.symm nD)]; exact f5) f6 (f7.mono sD)) (.lst upd_same (f11.mono sD)) ⟨zs, rfl, by omega, f13⟩⟩
end
theorem cutD_init {α : Type} (xs : List α) : cutD xs none (some (-1)) = xs.dropLast := by
  unfold cutD
  rw [HT.sIx_none, List.drop_zero, Nat.sub_zero, List.dropLast_eq_take]
  have e : HT.sIx xs.length xs.length (some (-1)) = xs.length - 1 := by
    show (if (-1 : Int) < 0 then ((-1) + (xs.length : Int)).toNat else min (-1 : Int).toNat xs.length) = _
    rw [if_pos (by decide)]
    omega
  rw [e]
section
variable {X : Cx} {G0 H0 : Hp} {ρ : Cells} {e : Expr} {tw n c : Nat} {ta : Addr} {p pos : Pos}
theorem de_tupleL {R : List Int → Prop} (hg : Gl X "tuple") (hm : X.mg "tuple" = none) (he : De X G0 H0 e ρ tw ta n c (fun d => ∃ zs : List Int, d = lI zs ∧ R zs)) (hs : starEach [e] X.env = (false, eval e X.env) :: starEach [] X.env := by rfl) :
    De X G0 H0 (.Call (.Name "tuple" p) [e] [] pos) ρ tw ta n c (fun d => ∃ zs : List Int, d = tI zs ∧ R zs) := fun G σ H ts Q hl A q =>
  we_of (pe_callTy call_tuple_of hg hm bb_tuple (pa_cons pe_w pa_nil hs) (he := hs) (hpl := by rfl)) (he G σ H ts _ hl A fun v d G1 H1 ts1 l1 s1 A1 r1 p1 => by
    obtain ⟨zs, rfl, hz⟩ := p1
    cases r1 with
    | lst e1 ra => exact ⟨_, _, rfl, .inl ⟨SqL.of (A1.ext.s _ _ e1), fun l hl => q _ (tI zs) (upd G1 l (.tup _)) _ ts1 l1 (s1.trans (same_new (A1.ext.s.free hl))) (A1.step (Ext.new A1.ext.s hl)) (.tup upd_same (ra.mono (same_new (A1.ext.s.free hl)))) ⟨zs, rfl, hz⟩⟩⟩)
end
/-! what is no state -/
theorem no_tup {es : List D} {v : D} (hm : v ∈ es) (hv : isIntB 1 20 v = false) : isStB (.tuple es) = false := by
  have h : (es.map (isIntB 1 20)).all _root_.id = false := by
    rw [List.all_map]
    refine Bool.eq_false_iff.mpr fun z => ?_
    have := List.all_eq_true.mp z v hm
    have this : isIntB 1 20 v = true := this
    rw [hv] at this
    cases this
  show ((!es.isEmpty && (es.map (isIntB 1 20)).all _root_.id) && _) = false
  rw [h, Bool.and_false, Bool.false_and]
theorem no_desc {xs : List Int} {x y : Int} (h : xs.getLast? = some x) (hy : x < y) : stB (xs ++ [y]) = false := by
  refine Bool.eq_false_iff.mpr fun z => ?_
  unfold stB at z
  simp only [Bool.and_eq_true] at z
  have d := desc_of z.2.2
  rw [List.pairwise_append] at d
  have := d.2.2 x (List.mem_of_getLast? h) y (List.mem_singleton.mpr rfl)
  omega
theorem no_sum {xs : List Int} (h : 20 < xs.sum) : stB xs = false := by
  refine Bool.eq_false_iff.mpr fun z => ?_
  have := stB_sum z
  omega
end Hr
/-! Texts: str(i), join, split, signs, int(s); a for whose ways are many. -/
namespace Hr
open PySem PySem.Spec PyProof.Rows L2

abbrev numS (i : Int) : Str := Str.ofString (toString i)
theorem eqv_str {x y : Str} : PyData.eqv (.str x) (.str y) = decide (x = y) := by
  simp only [PyData.eqv]
  by_cases h : x = y
  · subst h; simp
  · simp [h]
section
variable {X : Cx} {ρ : Env} {a b c e o iter tg : Expr} {p pos apos : Pos} {z y : Str} {i : Int} {n j : Nat}
theorem dv_strI (hg : Gl X "str") (hm : X.mg "str" = none) (ha : Dv X e ρ (.int i)) (hz : i.natAbs.log2 < 1920) (hs : starEach [e] X.env = (false, eval e X.env) :: starEach [] X.env := by rfl) : Dv X (.Call (.Name "str" p) [e] [] pos) ρ (.str (numS i)) :=
  dv_callTy call_str_int (fun G H vs Q s r q => by
    obtain ⟨v, rfl, rv⟩ := r.one
    cases rv
    exact ⟨i, rfl, hz, q _ G H (Ext.refl s) (.str _)⟩) hg hm bb_str (da1 ha hs) (he := hs) (hpl := by rfl)
theorem dv_strS (hg : Gl X "str") (hm : X.mg "str" = none) (ha : Dv X e ρ (.str z)) (hs : starEach [e] X.env = (false, eval e X.env) :: starEach [] X.env := by rfl) : Dv X (.Call (.Name "str" p) [e] [] pos) ρ (.str z) :=
  dv_callTy SkE.call_str_str (fun G H vs Q s r q => by
    obtain ⟨v, rfl, rv⟩ := r.one
    cases rv
    exact ⟨z, rfl, q _ G H (Ext.refl s) (.str _)⟩) hg hm bb_str (da1 ha hs) (he := hs) (hpl := by rfl)
theorem dv_intS (hg : Gl X "int") (hm : X.mg "int" = none) (ha : Dv X e ρ (.str z)) (hz : PySem.intText? z = some i) (hl : z.length ≤ 640) (hs : starEach [e] X.env = (false, eval e X.env) :: starEach [] X.env := by rfl) : Dv X (.Call (.Name "int" p) [e] [] pos) ρ (.int i) :=
  dv_callTy call_int_str (fun G H vs Q s r q => by
    obtain ⟨v, rfl, rv⟩ := r.one
    cases rv
    exact ⟨z, i, rfl, hz, hl, q _ G H (Ext.refl s) (.int _)⟩) hg hm bb_int (da1 ha hs) (he := hs) (hpl := by rfl)
theorem dv_join {ys : List Str} (ho : Dv X o ρ (.str z)) (he : Dv X e ρ (.list (ys.map PyData.str))) (hz : (ys.map (·.length)).sum + ys.length * z.length ≤ 16777216) (hs : starEach [e] X.env = [(false, eval e X.env)] := by rfl) (hbase : attributeBase o "join" X.env (eval o X.env) = eval o X.env := by rfl) (hline : (apos.endLine == pos.line) = true := by rfl) :
    Dv X (.Call (.Attribute o "join" apos) [e] [] pos) ρ (.str (Txt.join z ys)) := fun σ G H Q S s q =>
  we_of (pe_join pe_w pe_w hs hbase hline) (ho σ G H _ S s fun v G1 H1 x1 r1 => by
    cases r1
    refine ⟨⟨z, rfl⟩, he σ G1 H1 _ (S.mono x1.g) x1.s fun w G2 H2 x2 r2 => ?_⟩
    cases r2 with
    | lst e1 ra =>
      have := ra.strs
      subst this
      exact ⟨z, _, ys, rfl, rfl, .inl (SqL.of (x2.s _ _ e1)), hz, q _ G2 H2 (x1.trans x2) (.str _)⟩)
theorem dl_split (ho : Dv X o ρ (.str z)) (he : Dv X e ρ (.str y)) (hb : (y.length == 0) = false) (hl : z.length + 2 ≤ sizeLine) (hs : starEach [e] X.env = [(false, eval e X.env)] := by rfl) (hbase : attributeBase o "split" X.env (eval o X.env) = eval o X.env := by rfl) (hline : (apos.endLine == pos.line) = true := by rfl) :
    Dl X (.Call (.Attribute o "split" apos) [e] [] pos) ρ ((Txt.split z y).map PyData.str) := fun σ G H Q S s q =>
  we_of (pe_split pe_w pe_w hs hbase hline) (ho σ G H _ S s fun v G1 H1 x1 r1 => by
    cases r1
    refine ⟨⟨z, rfl⟩, he σ G1 H1 _ (S.mono x1.g) x1.s fun w G2 H2 x2 r2 => ?_⟩
    cases r2
    exact ⟨z, y, rfl, rfl, hb, hl, fun p hp => q p _ G2 _ ((x1.trans x2).trans (Ext.own x2.s hp)) (x1.h.free (x2.h.free hp)) (x2.s.free hp) upd_same (rpa_strs _)⟩)
theorem ro_sgn {n : Nat} : Ro (fun x y H Q => ∃ (c : Nat) (z : Str), x = .str ⟨#[c]⟩ ∧ y = .str z ∧ Q (.bl (decide (c ∈ z.cps.toList))) H) (.str ⟨#[n]⟩) (.str z) (.bool (decide (n ∈ TL.tl z))) := fun G H x y Q s rx ry q => by
  cases rx
  cases ry
  exact ⟨n, z, rfl, rfl, q _ G H (Ext.refl s) (.bl _)⟩
theorem dv_inSgn (ha : Dv X a ρ (.str ⟨#[n]⟩)) (hb : Dv X b ρ (.str z)) (hm : behindInMarks .In b = false := by rfl) : Dv X (.Compare a [.In] [b] pos) ρ (.bool (decide (n ∈ TL.tl z))) := dv_cmp op_in_sign ro_sgn ha hb hm
theorem dv_ixS (ha : Dv X a ρ (.str z)) (hb : Dv X b ρ (.int i)) (h : atI (TL.tl z) i = some n) (hl : z.length ≤ sizeLine) (hp : PlainIx b := by exact fun _ _ => rfl) : Dv X (.Subscript a b pos) ρ (.str ⟨#[n]⟩) := fun σ G H Q S s q =>
  we_of (pe_ix ix_str pe_w pe_w hp) (ro_run (t1 := wE X a) (r := rIxS) (d := .str ⟨#[n]⟩) ha hb (fun G H x y Q s rx ry q => by
    cases rx
    cases ry
    exact ⟨z, i, n, rfl, rfl, hl, h, q _ G H (Ext.refl s) (.str _)⟩) S s q)
/-- the truth of i <= j <= k -/
theorem dt_chain {i j k : Int} (ha : Dv X a ρ (.int i)) (hb : Dv X b ρ (.int j)) (hc : Dv X c ρ (.int k)) (hm : lastMarks [.LtE, .LtE] [b, c] = false := by with_unfolding_all rfl) :
    Dt X (.Compare a [.LtE, .LtE] [b, c] pos) ρ (decide (i ≤ j) && decide (j ≤ k)) := fun σ G H Q S s q => by
  refine wt_of (pt_chain op_le op_le pe_w pe_w pe_w hm) ?_
  refine ha σ G H _ S s fun x G1 H1 x1 r1 => hb σ G1 H1 _ (S.mono x1.g) x1.s fun y G2 H2 x2 r2 => ?_
  have r1' := r1.mono x2.g
  cases r1'
  cases r2
  refine ⟨i, j, rfl, rfl, decide (i ≤ j), rfl, ?_⟩
  by_cases h : i ≤ j
  · rw [decide_eq_true h, if_pos rfl]
    rw [decide_eq_true h, Bool.true_and] at q
    refine hc σ G2 H2 _ (S.mono (x1.g.trans x2.g)) x2.s fun z G3 H3 x3 r3 => ?_
    cases r3
    exact ⟨j, k, rfl, rfl, _, rfl, q H3 ((x1.trans x2).trans x3).less⟩
  · rw [decide_eq_false h, if_neg Bool.false_ne_true]
    rw [decide_eq_false h, Bool.false_and] at q
    exact ⟨_, rfl, q H2 (x1.trans x2).less⟩
theorem wk_str (h : Dv X iter ρ (.str z)) : Wk X tg iter ρ (gName j) (TL.tl z).length [j] (fun i => [(j, .str ⟨#[(TL.tl z).getD i 0]⟩)]) := by
  refine ⟨_, pi_str pe_w, fun σ G H R S s q => h σ G H _ S s fun v G1 H1 x1 r1 => ?_⟩
  cases r1
  refine ⟨z, rfl, q _ G1 H1 x1 fun G' H' s1 s2 => ⟨by show z.cps.size ≤ _; simp [TL.tl], fun i hi => ⟨by show i < z.cps.size; simpa [TL.tl] using hi, fun x H'' y => ?_⟩⟩⟩
  obtain ⟨rfl, c, hc, rfl⟩ := y
  refine ⟨G', Ext.refl s2, fun σ' ρ' Q' S' k => k _ Off.one (S'.set ?_)⟩
  have e : (TL.tl z).getD i 0 = c := by
    rw [List.getD_eq_getElem?_getD]
    show (z.cps.toList[i]?).getD 0 = c
    rw [Array.getElem?_toList, hc] <;> rfl
  rw [e]
  exact .str _
theorem wt_str (h : Dv X iter ρ (.str z)) : Wt X tg iter ρ (gName j) [j] (TL.tl z) (fun c => [(j, .str ⟨#[c]⟩)]) :=
  ⟨_, wk_str h, fun i x e => by show [(j, PyData.str ⟨#[(TL.tl z).getD i 0]⟩)] = _; rw [List.getD_eq_getElem?_getD, e] <;> rfl⟩
end
/-! a for whose cells may be many -/
section
variable {α : Type} {X : Cx} {G0 H0 Gm : Hp} {ρ : Cells} {E : Ends} {body : List Stmt} {tg iter : Expr} {pos : Pos} {zs : List α}
theorem tr_forTR {g : TG} {js : List Nat} {up : α → List (Nat × D)} (R : Nat → Cells → Prop) (hp : PassesOwn (model X.prog X.w) X.A X.env X.xe) (hc : X.calm = true) (hw : Wt X tg iter (purE ρ) g js zs up) (hg : PG X tg g) (h0 : ∃ ρ0, R 0 ρ0 ∧ Wkn G0 H0 ρ ρ0)
    (hb : ∀ (k : Nat) (z : α) (ρk : Cells) (Gm' : Hp), zs[k]? = some z → R k ρk → Same Gm Gm' → TrB X G0 H0 body Gm' (setC ρk (up z)) { E with nx := AtR G0 H0 Gm' (R (k + 1)), ct := AtR G0 H0 Gm' (R (k + 1)), bk := E.nx })
    (hd : ∀ ρn, R zs.length ρn → Nx G0 H0 Gm ρn E.nx) (hj : ∀ z, (up z).map (·.1) = js := by intro _; rfl)
    (hs : ∀ x, foldedSetIterable iter X.env x = pure x := by intro _; rfl) : Tr X G0 H0 (.For tg iter body [] pos) Gm ρ E := by
  obtain ⟨asg, ⟨wi, hi, hr⟩, ha⟩ := hw
  obtain ⟨ρ0, r0, w0⟩ := h0
  refine fun G σ H s A => ws_of (ps_for hp hc hi hg pb_w hs) (hr σ G H _ A.sl A.ext.s fun J G1 H1 x1 go => ?_)
  obtain ⟨G1', s1', A1⟩ := w0 G1 σ H1 (A.step x1)
  refine ⟨fun k m σ' H' => m = zs.length - k ∧ k ≤ zs.length ∧ AtR G0 H0 G1 (R k) σ' H', ⟨zs.length, rfl, Nat.zero_le _, ρ0, r0, G1', s1', A1⟩, ?_⟩
  rintro k m σ' H' ⟨rfl, hk, ρk, rk, G', s', A'⟩
  by_cases hlt : k < zs.length
  · obtain ⟨z, e, _⟩ := lt_get hlt
    obtain ⟨_, st⟩ := go G' H' s' A'.ext.s
    obtain ⟨hgo, hy⟩ := st k hlt
    refine .inr ⟨hgo, AtR G0 H0 G1 (R (k + 1)), fun σ2 H2 w2 => ⟨zs.length - (k + 1), by omega, rfl, hlt, w2⟩, fun v H2 y => ?_⟩
    obtain ⟨G2, x2, gr⟩ := hy v H2 y
    rw [ha k z e] at gr
    exact gr σ' (purE ρk) _ A'.sl fun σ2 off S2 => hb k z ρk G1 e rk (s.trans x1.g) G2 σ2 H2 (s'.trans x2.g) (A'.asg x2 (by rw [hj z]; exact off) S2)
  · have e : k = zs.length := by omega
    subst e
    obtain ⟨st, _⟩ := go G' H' s' A'.ext.s
    exact .inl ⟨st, hd ρk rk G' σ' H' ((s.trans x1.g).trans s') A'⟩
end
end Hr
/-! Every state, by one look; turned, stepped, gathered. -/
namespace Hr
open PySem PySem.Spec PyProof.Rows L2

/-! ### every state, by one look -/
def genP : Nat → Nat → Nat → List (List Int)
  | 0, _, _ => [[]]
  | k + 1, m, n => [] :: (List.range (min m n)).flatMap fun i => (genP k (i + 1) (n - (i + 1))).map (((i + 1 : Nat) : Int) :: ·)
theorem genP_mem : ∀ (k m n : Nat) (xs : List Int), xs.length ≤ k → (∀ x ∈ xs, 1 ≤ x ∧ x ≤ m) → xs.sum ≤ n → xs.Pairwise (fun a b => b ≤ a) → xs ∈ genP k m n
  | 0, _, _, xs, hl, _, _, _ => by
    cases xs with
    | nil => exact List.mem_singleton.mpr rfl
    | cons x r => simp at hl
  | k + 1, m, n, [], _, _, _, _ => List.mem_cons_self
  | k + 1, m, n, x :: r, hl, h1, h2, h3 => by
    have hx := h1 x List.mem_cons_self
    have h3' := List.pairwise_cons.mp h3
    rw [List.sum_cons] at h2
    have hr := sum_ge_len (xs := r) fun y hy => (h1 y (List.mem_cons_of_mem _ hy)).1
    have ex : x = ((x.toNat - 1 + 1 : Nat) : Int) := by omega
    refine List.mem_cons_of_mem _ (List.mem_flatMap.mpr ⟨x.toNat - 1, List.mem_range.mpr (by omega), ?_⟩)
    refine List.mem_map.mpr ⟨r, genP_mem k (x.toNat - 1 + 1) (n - (x.toNat - 1 + 1)) r (by simpa using hl) (fun y hy => ⟨(h1 y (List.mem_cons_of_mem _ hy)).1, by have := h3'.1 y hy; omega⟩) (by omega) h3'.2, ?_⟩
    rw [← ex]
def allSt : List (List Int) := (genP 20 20 20).drop 1
theorem st_mem {xs : List Int} (h : stB xs = true) : xs ∈ allSt := by
  have hd : descB xs = true := by
    unfold stB at h
    simp only [Bool.and_eq_true] at h
    exact h.2.2
  have m := genP_mem 20 20 20 xs (stB_len h) (fun x hx => stB_all h x hx) (stB_sum h) (desc_of hd)
  have hne := stB_ne h
  unfold allSt
  have e : genP 20 20 20 = [] :: (genP 20 20 20).drop 1 := rfl
  rw [e] at m
  rcases List.mem_cons.mp m with m | m
  · exact absurd m hne
  · exact m
/-! a look in thirds; numbers made plain on the way -/
theorem look {p : List Int → Bool} (h1 : (allSt.take 900).all p = true) (h2 : ((allSt.drop 900).take 900).all p = true) (h3 : ((allSt.drop 900).drop 900).all p = true) {xs : List Int} (hx : stB xs = true) : p xs = true := by
  have m := st_mem hx
  rw [← List.take_append_drop 900 allSt, ← List.take_append_drop 900 (allSt.drop 900)] at m
  rcases List.mem_append.mp m with m | m
  · exact List.all_eq_true.mp h1 xs m
  · rcases List.mem_append.mp m with m | m
    · exact List.all_eq_true.mp h2 xs m
    · exact List.all_eq_true.mp h3 xs m
def fi {β : Type} : Int → (Int → β) → β
  | .ofNat n, k => Nat.rec (motive := fun _ => (Int → β) → β) (fun k => k 0) (fun m _ k => k (.ofNat (m + 1))) n k
  | .negSucc n, k => k (.negSucc n)
theorem fi_eq {β : Type} (x : Int) (k : Int → β) : fi x k = k x := by
  cases x with
  | ofNat n => cases n <;> rfl
  | negSucc n => rfl
def fl {β : Type} : List Int → (List Int → β) → β
  | [], k => k []
  | x :: r, k => fl r fun r' => fi x fun x' => k (x' :: r')
theorem fl_eq {β : Type} : ∀ (xs : List Int) (k : List Int → β), fl xs k = k xs
  | [], k => rfl
  | x :: r, k => by
    show fl r (fun r' => fi x fun x' => k (x' :: r')) = _
    rw [fl_eq r, fi_eq]
def eqI : List Int → List Int → Bool
  | [], [] => true
  | .ofNat n :: xs, .ofNat m :: ys => Nat.beq n m && eqI xs ys
  | _, _ => false
theorem eqI_sound : ∀ {xs ys : List Int}, eqI xs ys = true → xs = ys
  | [], [], _ => rfl
  | .ofNat n :: xs, .ofNat m :: ys, h => by
    have h' : Nat.beq n m = true ∧ eqI xs ys = true := by
      rw [← Bool.and_eq_true]
      exact h
    rw [Nat.eq_of_beq_eq_true h'.1, eqI_sound h'.2]
  | [], _ :: _, h => by cases h
  | _ :: _, [], h => by simp [eqI] at h
  | .negSucc n :: xs, y :: ys, h => by simp [eqI] at h
  | .ofNat n :: xs, .negSucc m :: ys, h => by simp [eqI] at h
/-- one look at all states -/
theorem look1 {p : List Int → Bool} (h : allSt.all p = true) {xs : List Int} (hx : stB xs = true) : p xs = true := List.all_eq_true.mp h xs (st_mem hx)
/-! ### turned, stepped, gathered: of every state -/
def ckTurn (xs : List Int) : Bool := fl xs fun xs => fl (turnI xs) fun t => stB t && (decide (t.sum = xs.sum) && eqI (turnI t) xs)
theorem ckTurn1 : (allSt.take 900).all ckTurn = true := by decide +kernel
theorem ckTurn2 : ((allSt.drop 900).take 900).all ckTurn = true := by decide +kernel
theorem ckTurn3 : ((allSt.drop 900).drop 900).all ckTurn = true := by decide +kernel
theorem turn_st {xs : List Int} (h : stB xs = true) : stB (turnI xs) = true ∧ (turnI xs).sum = xs.sum ∧ turnI (turnI xs) = xs := by
  have z := look ckTurn1 ckTurn2 ckTurn3 h
  unfold ckTurn at z
  simp only [fl_eq, Bool.and_eq_true, decide_eq_true_eq] at z
  exact ⟨z.1, z.2.1, eqI_sound z.2.2⟩
def ckGath (xs : List Int) : Bool := fl xs fun xs => fl (turnI xs) fun t => fl (stepI xs) fun s => fl (gatherI t) fun t => fl (turnI s) fun s => eqI s t
theorem ckGath1 : (allSt.take 900).all ckGath = true := by decide +kernel
theorem ckGath2 : ((allSt.drop 900).take 900).all ckGath = true := by decide +kernel
theorem ckGath3 : ((allSt.drop 900).drop 900).all ckGath = true := by decide +kernel
theorem turn_step {xs : List Int} (h : stB xs = true) : turnI (stepI xs) = gatherI (turnI xs) := by
  have z := look ckGath1 ckGath2 ckGath3 h
  unfold ckGath at z
  simp only [fl_eq] at z
  exact eqI_sound z
theorem gath_st {xs : List Int} (h : stB xs = true) : stB (gatherI xs) = true ∧ (gatherI xs).sum = xs.sum ∧ turnI (gatherI xs) = stepI (turnI xs) := by
  obtain ⟨t1, t2, t3⟩ := turn_st h
  have e := turn_step t1
  rw [t3] at e
  obtain ⟨s1, s2⟩ := step_st t1
  obtain ⟨u1, u2, u3⟩ := turn_st s1
  rw [e] at u1 u2 u3
  exact ⟨u1, by rw [u2, s2, t2], u3⟩
end Hr
/-! The text of a state, and what is the text of one. -/
namespace Hr
open PySem PySem.Spec PyProof.Rows L2

def txtI (xs : List Int) : Str := Txt.join "+" (xs.map numS)
def digL (h : Int) : List Nat := TL.numL h.toNat
def txL (xs : List Int) : List Nat := TL.joinL [43] (xs.map digL)
theorem tl_plus : TL.tl ("+" : Str) = [43] := by rw [TL.tl_ofString] <;> rfl
theorem tl_numS {h : Int} (h0 : 0 ≤ h) : TL.tl (numS h) = digL h := by
  obtain ⟨n, rfl⟩ : ∃ n : Nat, h = n := ⟨h.toNat, by omega⟩
  exact TL.tl_num n
theorem tl_txt {xs : List Int} (h : ∀ x ∈ xs, (0 : Int) ≤ x) : TL.tl (txtI xs) = txL xs := by
  unfold txtI txL
  rw [TL.join_eq, TL.tl_join, tl_plus, List.map_map]
  congr 1
  exact List.map_congr_left fun x hx => tl_numS (h x hx)
/-! words -/
def valW (w : List Nat) : Bool := (decide (1 ≤ w.length) && decide (w.length ≤ 2)) && (w.all (fun c => decide (48 ≤ c) && decide (c ≤ 57)) && !decide (w.headD 0 = 48))
def numW (w : List Nat) : Int := ((w.foldl (fun a c => a * 10 + (c - 48)) 0 : Nat) : Int)
def wordsL (l : List Nat) : List (List Nat) := TL.spl [43] 0 [] l
def parsL (l : List Nat) : Option (List Int) := if ((wordsL l).all valW && stB ((wordsL l).map numW)) = true then some ((wordsL l).map numW) else none
theorem digL_small : ∀ d : Int, 1 ≤ d → d < 100 → valW (digL d) = true ∧ numW (digL d) = d ∧ 43 ∉ digL d := fun d h1 h2 => by
  have z := List.all_eq_true.mp (show (rangeI 1 100).all (fun d => valW (digL d) && (decide (numW (digL d) = d) && !decide (43 ∈ digL d))) = true by decide +kernel) d (rangeI_mem.mpr ⟨h1, h2⟩)
  simp only [Bool.and_eq_true, decide_eq_true_eq, Bool.not_eq_true', decide_eq_false_iff_not] at z
  exact ⟨z.1, z.2.1, z.2.2⟩
theorem val_num {w : List Nat} (h : valW w = true) : ∃ d : Int, 1 ≤ d ∧ d < 100 ∧ w = digL d := by
  unfold valW at h
  simp only [Bool.and_eq_true, decide_eq_true_eq, Bool.not_eq_true', decide_eq_false_iff_not] at h
  obtain ⟨⟨h1, h2⟩, h3, h4⟩ := h
  match w, h1, h2, h3, h4 with
  | [a], _, _, h3, h4 =>
    have a1 := List.all_eq_true.mp h3 a List.mem_cons_self
    simp only [Bool.and_eq_true, decide_eq_true_eq] at a1
    have h4 : ¬ a = 48 := h4
    refine ⟨((a - 48 : Nat) : Int), by omega, by omega, ?_⟩
    unfold digL
    rw [Int.toNat_natCast, TL.numL_lt (by omega)]
    congr 1
    omega
  | [a, b], _, _, h3, h4 =>
    have a1 := List.all_eq_true.mp h3 a List.mem_cons_self
    have b1 := List.all_eq_true.mp h3 b (List.mem_cons_of_mem _ List.mem_cons_self)
    simp only [Bool.and_eq_true, decide_eq_true_eq] at a1 b1
    have h4 : ¬ a = 48 := h4
    refine ⟨(((a - 48) * 10 + (b - 48) : Nat) : Int), by omega, by omega, ?_⟩
    unfold digL
    rw [Int.toNat_natCast, TL.numL_step (by omega), TL.numL_lt (by omega)]
    have e1 : ((a - 48) * 10 + (b - 48)) / 10 = a - 48 := by omega
    have e2 : ((a - 48) * 10 + (b - 48)) % 10 = b - 48 := by omega
    rw [e1, e2]
    show [a, b] = [48 + (a - 48), 48 + (b - 48)]
    rw [show 48 + (a - 48) = a by omega, show 48 + (b - 48) = b by omega]
theorem val_int {z : Str} (h : valW (TL.tl z) = true) : PySem.intText? z = some (numW (TL.tl z)) ∧ z.length ≤ 2 := by
  obtain ⟨d, h1, h2, e⟩ := val_num h
  obtain ⟨n, rfl⟩ : ∃ n : Nat, d = n := ⟨d.toNat, by omega⟩
  have ez : z = Str.ofString (toString ((n : Nat) : Int)) := TL.ext_tl (e.trans (TL.tl_num n).symm)
  obtain ⟨v1, v2, _⟩ := digL_small _ h1 h2
  have hl : z.length ≤ 2 := by
    rw [TL.len_tl, e]
    exact TL.numL_len (by decide) (by omega)
  refine ⟨?_, hl⟩
  rw [e, v2, ez]
  refine TL.int_num ?_
  have := TL.numL_len (n := n) (k := 2) (by decide) (by omega)
  omega
theorem words_str (z : Str) : (Txt.split z "+").map TL.tl = wordsL (TL.tl z) := by
  unfold wordsL
  rw [TL.split_spl z "+" (by rw [tl_plus]; simp) (TL.kind_ok (by decide +kernel)), tl_plus]
theorem pars_of {ps : List (List Nat)} (hne : ps ≠ []) (h43 : ∀ p ∈ ps, 43 ∉ p) : parsL (TL.joinL [43] ps) = if (ps.all valW && stB (ps.map numW)) = true then some (ps.map numW) else none := by
  unfold parsL wordsL
  rw [TL.spl_join hne h43]
theorem dig_st {xs : List Int} (h : stB xs = true) : (∀ x ∈ xs, valW (digL x) = true ∧ numW (digL x) = x ∧ 43 ∉ digL x) ∧ xs ≠ [] := ⟨fun x hx => by
  have := stB_all h x hx
  exact digL_small x (by omega) (by omega), stB_ne h⟩
theorem map_num {xs : List Int} (h : ∀ x ∈ xs, valW (digL x) = true ∧ numW (digL x) = x ∧ 43 ∉ digL x) : (xs.map digL).map numW = xs := by
  rw [List.map_map]
  exact (List.map_congr_left fun x hx => (h x hx).2.1).trans (List.map_id' xs)
theorem pars_txt {xs : List Int} (h : stB xs = true) : parsL (txL xs) = some xs := by
  obtain ⟨h1, h2⟩ := dig_st h
  unfold txL
  rw [pars_of (fun z => h2 (List.map_eq_nil_iff.mp z)) (fun p hp => by obtain ⟨x, hx, rfl⟩ := List.mem_map.mp hp; exact (h1 x hx).2.2), map_num h1, h, List.all_eq_true.mpr (fun p hp => by obtain ⟨x, hx, rfl⟩ := List.mem_map.mp hp; exact (h1 x hx).1)] <;> rfl
theorem num_len {x : Int} (h0 : 0 ≤ x) (h1 : x < 100) : (numS x).length ≤ 2 := by
  rw [TL.len_tl, tl_numS h0]
  exact TL.numL_len (by decide) (by omega)
theorem num_log {x : Int} (h0 : 1 ≤ x) (h1 : x ≤ 20) : x.natAbs.log2 < 1920 := of_decide_eq_true (List.all_eq_true.mp (show (rangeI 1 21).all (fun x => decide (x.natAbs.log2 < 1920)) = true by decide +kernel) x (rangeI_mem.mpr ⟨h0, by omega⟩))
theorem sum_len2 : ∀ {ys : List Str}, (∀ y ∈ ys, y.length ≤ 2) → (ys.map (·.length)).sum ≤ 2 * ys.length
  | [], _ => Nat.le_refl _
  | y :: ys, h => by
    have h1 := h y List.mem_cons_self
    have h2 := sum_len2 fun z hz => h z (List.mem_cons_of_mem _ hz)
    rw [List.map_cons, List.sum_cons, List.length_cons]
    omega
theorem joinL_len : ∀ (ps : List (List Nat)), (∀ p ∈ ps, p.length ≤ 2) → (TL.joinL [43] ps).length ≤ 3 * ps.length
  | [], _ => Nat.zero_le _
  | [p], h => by
    have := h p List.mem_cons_self
    show p.length ≤ 3
    omega
  | p :: q :: r, h => by
    have h1 := h p List.mem_cons_self
    have h2 := joinL_len (q :: r) fun z hz => h z (List.mem_cons_of_mem _ hz)
    show (p ++ ([43] ++ TL.joinL [43] (q :: r))).length ≤ _
    simp only [List.length_append, List.length_cons, List.length_nil] at h2 ⊢
    omega
theorem txt_len {xs : List Int} (h : stB xs = true) : (txtI xs).length ≤ 60 := by
  have hl := stB_len h
  rw [TL.len_tl, tl_txt fun x hx => by have := stB_all h x hx; omega]
  refine Nat.le_trans (joinL_len _ fun p hp => ?_) (by rw [List.length_map]; omega)
  obtain ⟨x, hx, rfl⟩ := List.mem_map.mp hp
  have := stB_all h x hx
  exact TL.numL_len (by decide) (by omega)
theorem txt_pars {xs : List Int} (h : stB xs = true) : parsL (TL.tl (txtI xs)) = some xs := by
  rw [tl_txt fun x hx => by have := stB_all h x hx; omega]
  exact pars_txt h
theorem tl_digits : TL.tl ("0123456789" : Str) = [48, 49, 50, 51, 52, 53, 54, 55, 56, 57] := by rw [TL.tl_ofString] <;> rfl
theorem mem_digits (c : Nat) : decide (c ∈ TL.tl ("0123456789" : Str)) = (decide (48 ≤ c) && decide (c ≤ 57)) := by
  rw [tl_digits, Bool.eq_iff_iff, decide_eq_true_eq, Bool.and_eq_true, decide_eq_true_eq, decide_eq_true_eq]
  simp only [List.mem_cons, List.not_mem_nil, or_false]
  omega
theorem one_zero {z : Str} (c : Nat) (r : List Nat) (h : TL.tl z = c :: r) : decide ((⟨#[c]⟩ : Str) = ("0" : Str)) = decide (c = 48) := by
  have e : TL.tl ("0" : Str) = [48] := by rw [TL.tl_ofString] <;> rfl
  rw [Bool.eq_iff_iff, decide_eq_true_eq, decide_eq_true_eq]
  constructor
  · intro q
    have := congrArg TL.tl q
    rw [e] at this
    exact (List.cons.inj this).1
  · rintro rfl
    exact TL.ext_tl e.symm
/-! words, one by one -/
theorem spl_few : ∀ (l acc : List Nat), (TL.spl [43] 0 acc l).length ≤ l.length + 1 ∧ ∀ w ∈ TL.spl [43] 0 acc l, ∀ c ∈ w, c ∈ acc ∨ c ∈ l
  | [], acc => by
    rw [TL.spl_nil]
    exact ⟨Nat.le_refl _, fun w hw c hc => by rw [List.mem_singleton.mp hw] at hc; exact .inl hc⟩
  | c :: r, acc => by
    cases h : TL.pre [43] (c :: r) with
    | true =>
      rw [TL.spl_hit h]
      obtain ⟨i1, i2⟩ := spl_few r []
      refine ⟨by show (TL.spl [43] 0 [] r).length + 1 ≤ r.length + 1 + 1; omega, fun w hw d hd => ?_⟩
      rcases List.mem_cons.mp hw with rfl | hw
      · exact .inl hd
      · rcases i2 w hw d hd with m | m
        · cases m
        · exact .inr (List.mem_cons_of_mem _ m)
    | false =>
      rw [TL.spl_miss h]
      obtain ⟨i1, i2⟩ := spl_few r (acc ++ [c])
      refine ⟨by show _ ≤ r.length + 1 + 1; omega, fun w hw d hd => ?_⟩
      rcases i2 w hw d hd with m | m
      · rcases List.mem_append.mp m with m | m
        · exact .inl m
        · rw [List.mem_singleton.mp m]
          exact .inr List.mem_cons_self
      · exact .inr (List.mem_cons_of_mem _ m)
theorem split_few {z : Str} (h : z.length ≤ 1000) : (Txt.split z "+").length ≤ 1001 := by
  have := (spl_few (TL.tl z) []).1
  have e := congrArg List.length (words_str z)
  unfold wordsL at e
  rw [List.length_map] at e
  rw [TL.len_tl] at h
  omega
theorem words_mem {z w : Str} (h : w ∈ Txt.split z "+") : TL.tl w ∈ wordsL (TL.tl z) := by
  rw [← words_str]
  exact List.mem_map_of_mem h
theorem words_sgn {z w : Str} (h : w ∈ Txt.split z "+") : ∀ c ∈ TL.tl w, c ∈ TL.tl z := fun c hc => by
  rcases (spl_few (TL.tl z) []).2 _ (words_mem h) c hc with m | m
  · cases m
  · exact m
theorem sgn_ok {z : Str} (h : PyData.strOk z = true) {c : Nat} (hc : c ∈ TL.tl z) : PyData.strOk (⟨#[c]⟩ : Str) = true := by
  unfold PyData.strOk at h ⊢
  rw [← Array.all_toList] at h ⊢
  have := List.all_eq_true.mp h c hc
  simpa using this
theorem pars_is {l : List Nat} {xs : List Int} (h : parsL l = some xs) : (∀ w ∈ wordsL l, valW w = true) ∧ stB xs = true ∧ xs = (wordsL l).map numW := by
  unfold parsL at h
  split at h
  · rename_i q
    rw [Bool.and_eq_true] at q
    cases h
    exact ⟨List.all_eq_true.mp q.1, q.2, rfl⟩
  · cases h
theorem val_cons {w : List Nat} (h : valW w = true) : ∃ c r, w = c :: r := by
  cases w with
  | nil => cases h
  | cons c r => exact ⟨c, r, rfl⟩
def lenW (w : List Nat) : Bool := decide (1 ≤ w.length) && decide (w.length ≤ 2)
def digsW (w : List Nat) : Bool := (w.map fun n => decide (n ∈ TL.tl ("0123456789" : Str))).all _root_.id
theorem digs_eq (w : List Nat) : digsW w = w.all (fun c => decide (48 ≤ c) && decide (c ≤ 57)) := by
  unfold digsW
  rw [List.all_map]
  congr 1
  funext c
  exact mem_digits c
theorem valW_eq (w : List Nat) : valW w = (lenW w && (digsW w && !decide (w.headD 0 = 48))) := by
  rw [digs_eq] <;> rfl
theorem val_len {z : Str} {b : Bool} (h : lenW (TL.tl z) = b) : (!(decide ((1 : Int) ≤ ((z.length : Nat) : Int)) && decide (((z.length : Nat) : Int) ≤ 2))) = !b := by
  rw [← h, TL.len_tl]
  unfold lenW
  congr 2 <;> rw [Bool.eq_iff_iff, decide_eq_true_eq, decide_eq_true_eq] <;> omega
theorem at0 {w : List Nat} {c : Nat} {r : List Nat} (e : w = c :: r) : atI w 0 = some c := by
  rw [e]
  exact (by unfold atI ixN; simp)
theorem num_words {z : Str} (h : digsW (TL.tl z) = true) : PyData.strOk z = true := by
  rw [digs_eq] at h
  unfold PyData.strOk
  rw [← Array.all_toList]
  refine List.all_eq_true.mpr fun c hc => ?_
  have := List.all_eq_true.mp h c hc
  simp only [Bool.and_eq_true, decide_eq_true_eq] at this
  exact decide_eq_true (by omega)
/-! what is promised -/
def S_parse (ds : List D) (d : D) : Prop := ∃ (z : Str) (xs : List Int), ds = [.str z] ∧ z.length ≤ 1000 ∧ parsL (TL.tl z) = some xs ∧ d = tI xs
def NoTx (v : D) : Prop := SeqAt.shaped v = true ∧ ((∀ z, v ≠ .str z) ∨ ∃ z : Str, v = .str z ∧ z.length ≤ 1000 ∧ parsL (TL.tl z) = none)
def R_parse (ds : List D) (x : Str) : Prop := ∃ v, ds = [v] ∧ NoTx v ∧ x = "ParseError"
theorem num_strOk {xs : List Int} (h : stB xs = true) : PyData.strOk (txtI xs) = true := by
  unfold PyData.strOk
  rw [← Array.all_toList]
  show (TL.tl (txtI xs)).all (fun c => decide (c < 0x110000)) = true
  rw [tl_txt fun x hx => by have := stB_all h x hx; omega]
  refine List.all_eq_true.mpr fun c hc => decide_eq_true ?_
  have gen : ∀ (ps : List (List Nat)), (∀ p ∈ ps, ∀ c ∈ p, c ≤ 57) → ∀ c ∈ TL.joinL [43] ps, c ≤ 57 := by
    intro ps
    induction ps with
    | nil => exact fun _ c hc => by cases hc
    | cons p ps ih =>
      intro hp c hc
      cases ps with
      | nil => exact hp p List.mem_cons_self c hc
      | cons q r =>
        have hc : c ∈ p ++ ([43] ++ TL.joinL [43] (q :: r)) := hc
        rcases List.mem_append.mp hc with m | m
        · exact hp p List.mem_cons_self c m
        · rcases List.mem_append.mp m with m | m
          · rw [List.mem_singleton.mp m]; decide
          · exact ih (fun z hz => hp z (List.mem_cons_of_mem _ hz)) c m
  have := gen (xs.map digL) (fun p hp c hc => by
    obtain ⟨x, hx, rfl⟩ := List.mem_map.mp hp
    have v := (dig_st h).1 x hx
    have v1 := v.1
    unfold valW at v1
    simp only [Bool.and_eq_true] at v1
    have := List.all_eq_true.mp v1.2.1 c hc
    simp only [Bool.and_eq_true, decide_eq_true_eq] at this
    exact this.2) c hc
  omega
end Hr
/-! What wants a token: replace, behind a written text. -/
namespace Hr
open PySem PySem.Spec PyProof.Rows L2
structure wK (X : Cx) (e : Expr) (σ : L2.St) (H : Hp) (Q : VK) : Prop where
  run : ∀ (pins : List (Addr × Obj)) (s : Shared), 1 ≤ s.toks → Inv X pins σ H s → wpAny (model X.prog X.w) X.A (eval e X.env) (EP X pins σ Q) X.xe s
def Dk (X : Cx) (e : Expr) (ρ : Env) (d : D) : Prop := ∀ (σ : L2.St) (G H : Hp) (Q : VK), Sl G σ ρ → Same G H → (∀ v G' H', Ext G H G' H' → Rp G' v d → Q v H') → wK X e σ H Q
section
variable {X : Cx} {ρ : Env} {a b e o : Expr} {d : D} {p p' pos apos c0 c1 : Pos} {x y z : Str} {j k : Nat}
theorem pet_k : PET X e (fun σ H Q => wK X e σ H Q) := fun pins s σ H Q h0 I h => h.run pins s h0 I
theorem k_of {t : TE} {σ : L2.St} {H : Hp} {Q : VK} (h : PET X e t) (q : t σ H Q) : wK X e σ H Q := ⟨fun pins s h0 I => h pins s σ H Q h0 I q⟩
theorem dk_repl (ho : Dv X o ρ (.str x)) (hz : x.length + (x.length + 1) * z.length ≤ 16777216) (hyz : (y == z) = false := by decide)
    (hst : starEach [.Constant (.str y) j c0, .Constant (.str z) k c1] X.env = [(false, eval (.Constant (.str y) j c0) X.env), (false, eval (.Constant (.str z) k c1) X.env)] := by rfl)
    (hbase : attributeBase o "replace" X.env (eval o X.env) = eval o X.env := by rfl) (hline : (apos.endLine == pos.line) = true := by rfl) :
    Dk X (.Call (.Attribute o "replace" apos) [.Constant (.str y) j c0, .Constant (.str z) k c1] [] pos) ρ (.str (Txt.replace x y z)) := fun σ G H Q S s q =>
  k_of (CwR.pet_replC pe_w hyz hst hbase hline) (ho σ G H _ S s fun v G1 H1 x1 r1 => by
    cases r1
    exact ⟨x, rfl, hz, q _ G1 H1 x1 (.str _)⟩)
theorem dk_catS (ha : Dk X a ρ (.str x)) (hb : Dv X b ρ (.str y)) (hz : x.length + y.length ≤ sizeLine) : Dk X (.BinOp a .Add b pos) ρ (.str (x ++ y)) := fun σ G H Q S s q =>
  k_of (CwR.pet_op op_add_str pet_k (CwR.PET.of pe_w)) (ha σ G H _ S s fun v G1 H1 x1 r1 => hb σ G1 H1 _ (S.mono x1.g) x1.s fun u G2 H2 x2 r2 => by
    cases r1
    cases r2
    exact ⟨x, y, rfl, rfl, hz, q _ G2 H2 (x1.trans x2) (.str _)⟩)
/-- a text is written just before: there is a token -/
theorem da_strK (he : Dk X e ρ d) (hs : starEach [.Constant (.str z) j c0, e] X.env = (false, eval (.Constant (.str z) j c0) X.env) :: starEach [e] X.env := by rfl) (hs2 : starEach [e] X.env = (false, eval e X.env) :: starEach [] X.env := by rfl) :
    Da X [.Constant (.str z) j c0, e] ρ [.str z, d] := fun σ G H Q S s q => ⟨fun pos pins s0 I => by
  rw [hs]
  show wpAny _ _ (spliced ((false, eval (.Constant (.str z) j c0) X.env) :: backTo pos (starEach [e] X.env))) _ _ s0
  refine Calls.spliced_cons (Calls.Constant_str ?_)
  rw [hs2]
  show wpAny _ _ (spliced ((false, eval e X.env) :: backTo pos (starEach [] X.env))) _ _ _
  refine Calls.spliced_cons (thn ((he σ G H _ S s fun v G1 H1 x1 r1 => q [.str z, v] G1 H1 x1 (.cons (.str z) (.cons r1 .nil))).run pins _ (by show 1 ≤ s0.toks + 1; omega) (I.tok _)) fun u s1 ⟨x, H1, I1, r1, q1⟩ => ?_)
  exact Calls.spliced_nil ⟨[.str z, x], H1, I1, .cons ⟨_, rfl⟩ (.cons r1 .nil), q1⟩⟩
end
end Hr
/-! Texts that are those of no state. -/
namespace Hr
open PySem PySem.Spec PyProof.Rows L2

theorem pre_hit {a : Nat} {r : List Nat} (h : TL.pre [43] (a :: r) = true) : a = 43 := by
  unfold TL.pre at h
  have h : ((a :: r).take 1 == [43]) = true := h
  have := eq_of_beq h
  exact (List.cons.inj this).1
theorem spl_has {c : Nat} (hc : c ≠ 43) : ∀ (l acc : List Nat), (c ∈ acc ∨ c ∈ l) → ∃ w ∈ TL.spl [43] 0 acc l, c ∈ w
  | [], acc, h => by
    rw [TL.spl_nil]
    exact ⟨acc, List.mem_singleton.mpr rfl, h.resolve_right (fun z => by cases z)⟩
  | a :: r, acc, h => by
    cases q : TL.pre [43] (a :: r) with
    | true =>
      rw [TL.spl_hit q]
      have ea := pre_hit q
      rcases h with h | h
      · exact ⟨acc, List.mem_cons_self, h⟩
      · rcases List.mem_cons.mp h with h | h
        · exact absurd (h.trans ea) hc
        · obtain ⟨w, hw, m⟩ := spl_has hc r [] (.inr h)
          exact ⟨w, List.mem_cons_of_mem _ hw, m⟩
    | false =>
      rw [TL.spl_miss q]
      refine spl_has hc r (acc ++ [a]) ?_
      rcases h with h | h
      · exact .inl (List.mem_append_left _ h)
      · rcases List.mem_cons.mp h with h | h
        · exact .inl (List.mem_append_right _ (List.mem_singleton.mpr h))
        · exact .inr h
theorem pars_no {l w : List Nat} (hw : w ∈ wordsL l) (hv : valW w = false) : parsL l = none := by
  unfold parsL
  rw [if_neg]
  intro q
  rw [Bool.and_eq_true] at q
  have := List.all_eq_true.mp q.1 w hw
  rw [hv] at this
  cases this
theorem bad_sgn {l : List Nat} {c : Nat} (hm : c ∈ l) (hc : c ≠ 43) (hd : c < 48 ∨ 57 < c) : parsL l = none := by
  obtain ⟨w, hw, m⟩ := spl_has hc l [] (.inr hm)
  refine pars_no hw ?_
  cases e : valW w with
  | false => rfl
  | true =>
    unfold valW at e
    simp only [Bool.and_eq_true] at e
    have := List.all_eq_true.mp e.2.1 c m
    simp only [Bool.and_eq_true, decide_eq_true_eq] at this
    omega
theorem spl_head : ∀ (l acc : List Nat), ∃ w r, TL.spl [43] 0 acc l = (acc ++ w) :: r
  | [], acc => ⟨[], [], by rw [TL.spl_nil, List.append_nil]⟩
  | a :: r, acc => by
    cases q : TL.pre [43] (a :: r) with
    | true => exact ⟨[], _, by rw [TL.spl_hit q, List.append_nil]⟩
    | false =>
      obtain ⟨w, r', e⟩ := spl_head r (acc ++ [a])
      exact ⟨a :: w, r', by rw [TL.spl_miss q, e, List.append_assoc] <;> rfl⟩
theorem zero_head (l : List Nat) : parsL (48 :: l) = none := by
  have q : TL.pre [43] (48 :: l) = false := rfl
  obtain ⟨w, r, e⟩ := spl_head l [48]
  refine pars_no (w := 48 :: w) ?_ ?_
  · unfold wordsL
    rw [TL.spl_miss q]
    show _ ∈ TL.spl [43] 0 [48] l
    rw [e]
    exact List.mem_cons_self
  · unfold valW
    simp
theorem plus_head (l : List Nat) : parsL (43 :: l) = none := by
  have q : TL.pre [43] (43 :: l) = true := rfl
  refine pars_no (w := []) ?_ rfl
  unfold wordsL
  rw [TL.spl_hit q]
  exact List.mem_cons_self
theorem joinL_snoc (q : List Nat) : ∀ {ps : List (List Nat)}, ps ≠ [] → TL.joinL [43] (ps ++ [q]) = TL.joinL [43] ps ++ 43 :: q
  | [p], _ => rfl
  | p :: p2 :: r, _ => by
    show p ++ ([43] ++ TL.joinL [43] ((p2 :: r) ++ [q])) = (p ++ ([43] ++ TL.joinL [43] (p2 :: r))) ++ 43 :: q
    rw [joinL_snoc q (List.cons_ne_nil p2 r), List.append_assoc, List.append_assoc]
theorem pars_snoc {xs : List Int} (h : stB xs = true) {q : List Nat} (hq : 43 ∉ q) (hn : valW q = false ∨ stB (xs ++ [numW q]) = false) : parsL (txL xs ++ 43 :: q) = none := by
  obtain ⟨h1, h2⟩ := dig_st h
  have hne : xs.map digL ≠ [] := fun z => h2 (List.map_eq_nil_iff.mp z)
  unfold txL
  rw [← joinL_snoc q hne, pars_of (by simp) (fun p hp => by
    rcases List.mem_append.mp hp with hp | hp
    · obtain ⟨x, hx, rfl⟩ := List.mem_map.mp hp
      exact (h1 x hx).2.2
    · rw [List.mem_singleton.mp hp]
      exact hq), List.map_append, map_num h1, if_neg]
  intro z
  rw [Bool.and_eq_true, List.all_append, Bool.and_eq_true] at z
  rcases hn with hn | hn
  · have := z.1.2
    simp [hn] at this
  · have := z.2
    rw [show [q].map numW = [numW q] from rfl, hn] at this
    cases this
theorem str_ok {z : Str} : PyData.strOk z = true ↔ ∀ c ∈ TL.tl z, c < 0x110000 := by
  unfold PyData.strOk
  rw [← Array.all_toList, List.all_eq_true]
  exact ⟨fun h c hc => of_decide_eq_true (h c hc), fun h c hc => decide_eq_true (h c hc)⟩
theorem ok_app {x y : Str} (hx : PyData.strOk x = true) (hy : PyData.strOk y = true) : PyData.strOk (x ++ y) = true := by
  rw [str_ok] at hx hy ⊢
  rw [TL.tl_append]
  intro c hc
  exact (List.mem_append.mp hc).elim (hx c) (hy c)
theorem len_app (x y : Str) : (x ++ y).length = x.length + y.length := by
  rw [TL.len_tl, TL.tl_append, List.length_append, ← TL.len_tl, ← TL.len_tl]
theorem repl_one : ∀ l : List Nat, StrLaws.replL [43] [45] l = l.map fun c => if c = 43 then 45 else c
  | [] => StrLaws.replL_nil
  | c :: r => by
    by_cases h : c = 43
    · subst h
      rw [StrLaws.replL_hit (by simp) rfl]
      show [45] ++ StrLaws.replL [43] [45] r = _
      rw [repl_one r] <;> rfl
    · rw [StrLaws.replL_miss (by intro q; exact h (List.cons.inj (show [c] = [43] from q)).1), repl_one r, List.map_cons, if_neg h]
theorem spl_wlen : ∀ (l acc : List Nat), ∀ w ∈ TL.spl [43] 0 acc l, w.length ≤ acc.length + l.length
  | [], acc => by
    rw [TL.spl_nil]
    intro w hw
    rw [List.mem_singleton.mp hw]
    exact Nat.le_add_right _ _
  | c :: r, acc => by
    intro w hw
    cases h : TL.pre [43] (c :: r) with
    | true =>
      rw [TL.spl_hit h] at hw
      rcases List.mem_cons.mp hw with rfl | hw
      · exact Nat.le_add_right _ _
      · have : w.length ≤ 0 + r.length := spl_wlen r [] w hw
        rw [List.length_cons]
        omega
    | false =>
      rw [TL.spl_miss h] at hw
      have := spl_wlen r (acc ++ [c]) w hw
      rw [List.length_append, List.length_singleton] at this
      rw [List.length_cons]
      omega
theorem word_len {z w : Str} (hz : z.length ≤ 1000) (h : w ∈ Txt.split z "+") : w.length ≤ 1000 := by
  have := spl_wlen (TL.tl z) [] _ (words_mem h)
  rw [TL.len_tl] at hz ⊢
  have e : ([] : List Nat).length = 0 := rfl
  omega
theorem len_cons {w : List Nat} (h : lenW w = true) : ∃ c r, w = c :: r := by
  cases w with
  | nil => cases h
  | cons c r => exact ⟨c, r, rfl⟩
abbrev dashT (t : Str) : Str := Txt.replace t "+" "-"
theorem dash_tl (t : Str) : TL.tl (dashT t) = (TL.tl t).map fun c => if c = 43 then 45 else c := by
  rw [← repl_one]
  have e := StrLaws.replace_list (x := t) (y := "+") (z := "-") (by decide +kernel)
  have e1 : TL.tl ("+" : Str) = [43] := tl_plus
  have e2 : TL.tl ("-" : Str) = [45] := by rw [TL.tl_ofString] <;> rfl
  show (Txt.replace t "+" "-").cps.toList = StrLaws.replL [43] [45] t.cps.toList
  rw [e]
  show StrLaws.replL (TL.tl ("+" : Str)) (TL.tl ("-" : Str)) t.cps.toList = _
  rw [e1, e2]
theorem dash_len (t : Str) : (dashT t).length = t.length := by
  rw [TL.len_tl, dash_tl, List.length_map, ← TL.len_tl]
theorem dash_ok {t : Str} (h : PyData.strOk t = true) : PyData.strOk (dashT t) = true := by
  rw [str_ok] at h ⊢
  rw [dash_tl]
  intro c hc
  obtain ⟨x, hx, rfl⟩ := List.mem_map.mp hc
  show (if x = 43 then 45 else x) < _
  split
  · decide
  · exact h x hx
theorem noTx_str {z : Str} (h1 : PyData.strOk z = true) (h2 : z.length ≤ 1000) (h3 : parsL (TL.tl z) = none) : NoTx (.str z) := ⟨(sh_str h1).shaped, .inr ⟨z, rfl, h2, h3⟩⟩
def oddsA (t : Str) : List D := [.none, .int 5, .str "", .str "+", .str (t ++ "+"), .str ("+" ++ t), .str (t ++ " "), .str (" " ++ t), .str (t ++ "+0"), .str ("0" ++ t)]
def oddsB (t : Str) : List D := [.str (t ++ "+21"), .str "21", .str "1+2", .str "3,1", .str "3 + 1", .str "3++1", .str "x", .str (dashT t ++ "-")]
def oddsC : List D := [.str "10+11", .str "1.0", .str "020", .str "-3", .str "3+01"]
theorem allL {P : D → Prop} {a : D} {l : List D} (h1 : P a) (h2 : ∀ v ∈ l, P v) : ∀ v ∈ a :: l, P v := fun v hv => by
  rcases List.mem_cons.mp hv with rfl | hv
  · exact h1
  · exact h2 v hv
theorem allN {P : D → Prop} : ∀ v ∈ ([] : List D), P v := fun v hv => by cases hv
theorem txt_odd {xs : List Int} (h : stB xs = true) {a b : Str} (ha : a.length ≤ 3) (hb : b.length ≤ 3) (oa : PyData.strOk a = true) (ob : PyData.strOk b = true) (hp : parsL (TL.tl a ++ (txL xs ++ TL.tl b)) = none) : NoTx (.str (a ++ (txtI xs ++ b))) := by
  have hl := txt_len h
  refine noTx_str (ok_app oa (ok_app (num_strOk h) ob)) (by rw [len_app, len_app]; omega) ?_
  rw [TL.tl_append, TL.tl_append, tl_txt fun x hx => by have := stB_all h x hx; omega]
  exact hp
theorem app_nil (x : Str) : x ++ ("" : Str) = x := TL.ext_tl (by rw [TL.tl_append, show TL.tl ("" : Str) = [] from by decide +kernel, List.append_nil])
theorem nil_app (x : Str) : ("" : Str) ++ x = x := TL.ext_tl (by rw [TL.tl_append, show TL.tl ("" : Str) = [] from by decide +kernel, List.nil_append])
theorem odd_back {xs : List Int} (h : stB xs = true) {b : Str} (hb : b.length ≤ 3) (ob : PyData.strOk b = true) (hp : parsL (txL xs ++ TL.tl b) = none) : NoTx (.str (txtI xs ++ b)) := by
  have := txt_odd h (a := "") (b := b) (by decide +kernel) hb (by decide +kernel) ob (by rw [show TL.tl ("" : Str) = [] from by decide +kernel, List.nil_append]; exact hp)
  rwa [nil_app] at this
theorem odd_front {xs : List Int} (h : stB xs = true) {a : Str} (ha : a.length ≤ 3) (oa : PyData.strOk a = true) (hp : parsL (TL.tl a ++ txL xs) = none) : NoTx (.str (a ++ txtI xs)) := by
  have := txt_odd h (a := a) (b := "") ha (by decide +kernel) oa (by decide +kernel) (by rw [show TL.tl ("" : Str) = [] from by decide +kernel, List.append_nil]; exact hp)
  rwa [app_nil] at this
theorem no_21 (xs : List Int) : stB (xs ++ [21]) = false := by
  cases e : stB (xs ++ [21]) with
  | false => rfl
  | true =>
    have := (stB_all e 21 (List.mem_append_right _ (List.mem_singleton.mpr rfl))).2
    omega
theorem odds_no {xs : List Int} (h : stB xs = true) : ∀ v ∈ oddsA (txtI xs) ++ oddsB (txtI xs) ++ oddsC, NoTx v := by
  have hl := txt_len h
  have t1 : TL.tl ("+" : Str) = [43] := tl_plus
  have t2 : TL.tl (" " : Str) = [32] := by decide +kernel
  have t3 : TL.tl ("+0" : Str) = [43, 48] := by decide +kernel
  have t4 : TL.tl ("0" : Str) = [48] := by decide +kernel
  have t5 : TL.tl ("+21" : Str) = [43, 50, 49] := by decide +kernel
  have t6 : TL.tl ("-" : Str) = [45] := by decide +kernel
  unfold oddsA oddsB oddsC
  refine allL ⟨by decide +kernel, .inl fun z q => by cases q⟩ (allL ⟨by decide +kernel, .inl fun z q => by cases q⟩ ?_)
  refine allL (noTx_str (by decide +kernel) (by decide +kernel) (by decide +kernel)) (allL (noTx_str (by decide +kernel) (by decide +kernel) (by decide +kernel)) ?_)
  refine allL (odd_back h (by decide +kernel) (by decide +kernel) (by rw [t1]; exact pars_snoc h (by simp) (.inl rfl))) ?_
  refine allL (odd_front h (by decide +kernel) (by decide +kernel) (by rw [t1]; exact plus_head _)) ?_
  refine allL (odd_back h (by decide +kernel) (by decide +kernel) (by rw [t2]; exact bad_sgn (c := 32) (List.mem_append_right _ (List.mem_singleton.mpr rfl)) (by decide) (.inl (by decide)))) ?_
  refine allL (odd_front h (by decide +kernel) (by decide +kernel) (by rw [t2]; exact bad_sgn (c := 32) (List.mem_append_left _ (List.mem_singleton.mpr rfl)) (by decide) (.inl (by decide)))) ?_
  refine allL (odd_back h (by decide +kernel) (by decide +kernel) (by rw [t3]; exact pars_snoc h (by decide) (.inl rfl))) ?_
  refine allL (odd_front h (by decide +kernel) (by decide +kernel) (by rw [t4]; exact zero_head _)) ?_
  refine allL (odd_back h (by decide +kernel) (by decide +kernel) (by rw [t5]; exact pars_snoc h (by decide) (.inr (no_21 xs)))) ?_
  refine allL (noTx_str (by decide +kernel) (by decide +kernel) (by decide +kernel)) (allL (noTx_str (by decide +kernel) (by decide +kernel) (by decide +kernel)) ?_)
  refine allL (noTx_str (by decide +kernel) (by decide +kernel) (by decide +kernel)) (allL (noTx_str (by decide +kernel) (by decide +kernel) (by decide +kernel)) ?_)
  refine allL (noTx_str (by decide +kernel) (by decide +kernel) (by decide +kernel)) (allL (noTx_str (by decide +kernel) (by decide +kernel) (by decide +kernel)) ?_)
  refine allL (noTx_str (ok_app (dash_ok (num_strOk h)) (by decide +kernel)) (by rw [len_app, dash_len, show ("-" : Str).length = 1 from by decide +kernel]; omega) (by rw [TL.tl_append, t6]; exact bad_sgn (c := 45) (List.mem_append_right _ (List.mem_singleton.mpr rfl)) (by decide) (.inl (by decide)))) ?_
  refine allL (noTx_str (by decide +kernel) (by decide +kernel) (by decide +kernel)) (allL (noTx_str (by decide +kernel) (by decide +kernel) (by decide +kernel)) ?_)
  refine allL (noTx_str (by decide +kernel) (by decide +kernel) (by decide +kernel)) (allL (noTx_str (by decide +kernel) (by decide +kernel) (by decide +kernel)) ?_)
  exact allL (noTx_str (by decide +kernel) (by decide +kernel) (by decide +kernel)) allN
def S_read (ds : List D) (d : D) : Prop := ∃ v, ds = [v] ∧ ((∃ (z : Str) (xs : List Int), v = .str z ∧ z.length ≤ 1000 ∧ parsL (TL.tl z) = some xs ∧ d = tI xs) ∨ (NoTx v ∧ d = raisedD 6))
end Hr
namespace Hr
open PySem PySem.Spec PyProof.Rows L2
/-! ### the text of law_k09_whole_formatting by places -/
def topS (i : Nat) : Stmt := PySem.Challenge.pw_heapround_k09_whole_formatting.main.body.getD i (.Pass ⟨0, 0, 0, 0⟩)
-- 0:value 1:low 2:high
abbrev s_is_integer : Stmt := topS 11
abbrev N_is_integer : List Str := ["value", "low", "high"]
theorem sc_is_integer : FnScope N_is_integer ["value", "low", "high"] (defScope s_is_integer) := ⟨rfl, rfl, rfl, by decide +kernel, rfl, by decide +kernel, by decide +kernel⟩
-- 0:value 1:heap 2:one 3:other
abbrev s_is_state : Stmt := topS 12
abbrev N_is_state : List Str := ["value", "heap", "one", "other"]
theorem sc_is_state : FnScope N_is_state ["value"] (defScope s_is_state) := ⟨rfl, rfl, rfl, by decide +kernel, rfl, by decide +kernel, by decide +kernel⟩
-- 0:state
abbrev s_check_state : Stmt := topS 13
abbrev N_check_state : List Str := ["state"]
theorem sc_check_state : FnScope N_check_state ["state"] (defScope s_check_state) := ⟨rfl, rfl, rfl, by decide +kernel, rfl, by decide +kernel, by decide +kernel⟩
-- 0:state 1:heap
abbrev s_text_of : Stmt := topS 16
abbrev N_text_of : List Str := ["state", "heap"]
theorem sc_text_of : FnScope N_text_of ["state"] (defScope s_text_of) := ⟨rfl, rfl, rfl, by decide +kernel, rfl, by decide +kernel, by decide +kernel⟩
-- 0:state
abbrev s_format_state : Stmt := topS 17
abbrev N_format_state : List Str := ["state"]
theorem sc_format_state : FnScope N_format_state ["state"] (defScope s_format_state) := ⟨rfl, rfl, rfl, by decide +kernel, rfl, by decide +kernel, by decide +kernel⟩
-- 0:text 1:words 2:word 3:state 4:sign
abbrev s_parse_state : Stmt := topS 18
abbrev N_parse_state : List Str := ["text", "words", "word", "state", "sign"]
theorem sc_parse_state : FnScope N_parse_state ["text"] (defScope s_parse_state) := ⟨rfl, rfl, rfl, by decide +kernel, rfl, by decide +kernel, by decide +kernel⟩
-- 0:_law_script 1:_law_k 2:_law_spare 3:_law_again
abbrev s_l_cell_at : Stmt := topS 20
abbrev N_l_cell_at : List Str := ["_law_script", "_law_k", "_law_spare", "_law_again"]
theorem sc_l_cell_at : FnScope N_l_cell_at ["_law_script", "_law_k"] (defScope s_l_cell_at) := ⟨rfl, rfl, rfl, by decide +kernel, rfl, by decide +kernel, by decide +kernel⟩
-- 0:_law_script 1:_law_k 2:_law_many 3:_law_spun
abbrev s_l_mixed : Stmt := topS 21
abbrev N_l_mixed : List Str := ["_law_script", "_law_k", "_law_many", "_law_spun"]
theorem sc_l_mixed : FnScope N_l_mixed ["_law_script", "_law_k", "_law_many"] (defScope s_l_mixed) := ⟨rfl, rfl, rfl, by decide +kernel, rfl, by decide +kernel, by decide +kernel⟩
-- 0:_law_script 1:_law_town 2:_law_many
abbrev s_l_draw : Stmt := topS 22
abbrev N_l_draw : List Str := ["_law_script", "_law_town", "_law_many"]
theorem sc_l_draw : FnScope N_l_draw ["_law_script", "_law_town", "_law_many"] (defScope s_l_draw) := ⟨rfl, rfl, rfl, by decide +kernel, rfl, by decide +kernel, by decide +kernel⟩
-- 0:_law_heaps 1:_law_heap
abbrev s_l_in_order : Stmt := topS 23
abbrev N_l_in_order : List Str := ["_law_heaps", "_law_heap"]
theorem sc_l_in_order : FnScope N_l_in_order ["_law_heaps"] (defScope s_l_in_order) := ⟨rfl, rfl, rfl, by decide +kernel, rfl, by decide +kernel, by decide +kernel⟩
-- 0:_law_script 1:_law_town 2:_law_most 3:_law_left 4:_law_heaps 5:_law_heap
abbrev s_l_some_state : Stmt := topS 24
abbrev N_l_some_state : List Str := ["_law_script", "_law_town", "_law_most", "_law_left", "_law_heaps", "_law_heap"]
theorem sc_l_some_state : FnScope N_l_some_state ["_law_script", "_law_town", "_law_most"] (defScope s_l_some_state) := ⟨rfl, rfl, rfl, by decide +kernel, rfl, by decide +kernel, by decide +kernel⟩
-- 0:_law_e 1:_law_own
abbrev s_l_which : Stmt := topS 25
abbrev N_l_which : List Str := ["_law_e", "_law_own"]
theorem sc_l_which : FnScope N_l_which ["_law_e"] (defScope s_l_which) := ⟨rfl, rfl, rfl, by decide +kernel, rfl, by decide +kernel, by decide +kernel⟩
-- 0:_law_text 1:_law_e
abbrev s_l_read : Stmt := topS 26
abbrev N_l_read : List Str := ["_law_text", "_law_e"]
theorem sc_l_read : FnScope N_l_read ["_law_text"] (defScope s_l_read) := ⟨rfl, rfl, rfl, by decide +kernel, rfl, by decide +kernel, by decide +kernel⟩
-- 0:_law_script 1:_law_town 2:_law_own 3:_law_text 4:_law_odds 5:_law_heap 6:_law_odd
abbrev s_law : Stmt := topS 27
abbrev N_law : List Str := ["_law_script", "_law_town", "_law_own", "_law_text", "_law_odds", "_law_heap", "_law_odd"]
theorem sc_law : FnScope N_law ["_law_script"] (defScope s_law) := ⟨rfl, rfl, rfl, by decide +kernel, rfl, by decide +kernel, by decide +kernel⟩
section
variable {P : Program} {w : World} {K : PySem.W.Frag} {mg : Str → Option Value} {base : Heap}
theorem ok_is_integer {f : Addr} {fd : FuncData} (F : Fun K "is_integer" "is_integer" s_is_integer f fd) (B : Bi mg) : FnOk P w K mg base (L2N.CX P w) 1 f fd ["value", "low", "high"] (spP S_is_integer) := by
  refine fn_p F sc_is_integer (fun ds d h => by obtain ⟨v, lo, hi, rfl, _⟩ := h; rfl) (fun cdv A outer s Hs Ex hr ds d h G H E hrt hnx => ?_)
  obtain ⟨v, lo, hi, rfl, hv, rfl⟩ := h
  have nd := shaped_nd hv
  refine tb_one (tr_ret (d := .bool (isIntB lo hi v)) ?_ hrt)
  by_cases hI : tyN v = "int"
  · cases v with
    | int i =>
      refine (dv_and (k := true) (dv_isi (by rfl) B.isinstance (by rfl) B.int bb_int (vr 0 rfl) (by exact kit_ii)) fun _ =>
        dv_and (k := true) (dv_not (k := false) (dv_isi (by rfl) B.isinstance (by rfl) B.bool bb_bool (vr 0 rfl) (by exact kit_ib))) fun _ => dv_one (dv_chain (vr 1 rfl) (vr 0 rfl) (vr 2 rfl))).to ?_
      show PyData.bool (true && (true && (decide (lo ≤ i) && decide (i ≤ hi)))) = _
      rw [Bool.true_and, Bool.true_and] <;> rfl
    | _ => simp [tyN] at hI
  · by_cases hB : tyN v = "bool"
    · cases v with
      | bool b =>
        exact (dv_and (k := true) (k2 := false) (dv_isi (by rfl) B.isinstance (by rfl) B.int bb_int (vr 0 rfl) (by exact kit_bi)) fun _ =>
          (dv_and (k := false) (k2 := false) (dv_not (k := true) (dv_isi (by rfl) B.isinstance (by rfl) B.bool bb_bool (vr 0 rfl) (by exact kit_bb))) fun z => by cases z)).to rfl
      | _ => simp [tyN] at hB
    · refine (dv_and (k := false) (k2 := false) (dv_isi (by rfl) B.isinstance (by rfl) B.int bb_int (vr 0 rfl) (kit_no_int hI hB nd) nd) fun z => by cases z).to ?_
      cases v <;> first | rfl | exact absurd rfl hI
theorem kn_is_integer (d : Df K mg "is_integer" s_is_integer) (B : Bi mg) : Kn P w K mg base "is_integer" 1 (spP S_is_integer) := d.kn (fun f fd F => ok_is_integer F B) fun _ _ _ _ _ _ us hl => match us, hl with | [_, _, _], _ => rfl
theorem ok_is_state {f : Addr} {fd : FuncData} (F : Fun K "is_state" "is_state" s_is_state f fd) (B : Bi mg) (M : ∃ t, mg "MOST" = some (.int 20 t)) (I : Kn P w K mg base "is_integer" 1 (spP S_is_integer)) : FnOk P w K mg base (L2N.CX P w) 2 f fd ["value"] (spP S_is_state) := by
  obtain ⟨tM, hM⟩ := M
  refine fn_p F sc_is_state (fun ds d h => by obtain ⟨v, rfl, _⟩ := h; rfl) (fun cdv A outer s Hs Ex hr ds d h G H E hrt hnx => ?_)
  obtain ⟨v, rfl, hv, hsm, rfl⟩ := h
  have nd := shaped_nd hv
  by_cases hT : tyN v = "tuple"
  · cases v with
    | tuple es =>
      have hz : es.length ≤ 1000000 := of_decide_eq_true hsm
      refine tb_cons (tr_if (k := false || (es.isEmpty || !(es.map (isIntB 1 20)).all _root_.id)) (Dw.dt (dw_or (k := false) (dt_not (k := true) (dt_val (dv_isi (by rfl) B.isinstance (by rfl) B.tuple bb_tuple (vr 0 rfl) (by exact kit_tt))))
          fun _ => dw_or (k := es.isEmpty) ((dt_eq hr.units (vr 0 rfl) (dv_tup da_nil (Nat.zero_le _)) hv (ShA.tup (n := 0) sha_nil).shaped).to (eqv_nilT es)) fun _ => dw_or1 (dt_not (dt_val (dv_all rfl (by rfl) B.all (Dl.dv ((dl_lcM (own := [("heap", 1)]) (zs := es) (fun x => PyData.bool (isIntB 1 20 x)) rfl sc_is_state.nd (blkOk_by (N := N_is_state) (sc := defScope s_is_state) (by decide +kernel))
            (wt_tup (j := 1) (emb := _root_.id) ((vr 0 rfl).to (by rw [List.map_id]))) (fun _ _ _ _ _ => pgn 1 sc_is_state.nd) (by decide) (by omega) (fun x m s H C cl fp => dv_call I hr (by rfl) (da_cons (vr 1 rfl) (da_cons dv_int (da1 (dv_globI (by rfl) hM)))) ⟨x, 1, 20, rfl, shaped_mem hv x m, rfl⟩)).to (by rw [List.map_map] <;> rfl)))))))) (fun hk => ?_) (fun hk => ?_))
      · refine tb_one (tr_ret (d := .bool (isStB (.tuple es))) (dv_bl.to ?_) hrt)
        show PyData.bool false = PyData.bool ((!es.isEmpty && (es.map (isIntB 1 20)).all _root_.id) && (decide ((es.map intV).sum ≤ 20) && descB (es.map intV)))
        rw [Bool.false_or] at hk
        cases h1 : es.isEmpty with
        | true => rfl
        | false =>
          rw [h1, Bool.false_or] at hk
          have h2 : (es.map (isIntB 1 20)).all _root_.id = false := by simpa using hk
          rw [h2] <;> rfl
      · refine tb_nil (tb_one ?_)
        have h1 : es.isEmpty = false := by
          cases h : es.isEmpty with
          | false => rfl
          | true => rw [h] at hk; simp at hk
        have h2 : (es.map (isIntB 1 20)).all _root_.id = true := by
          rw [h1] at hk
          simpa using hk
        obtain ⟨ns, rfl⟩ : ∃ ns : List Int, es = ns.map PyData.int := ⟨es.map intV, ints_of_all h2⟩
        refine tr_ret (d := .bool (isStB (tI ns))) ?_ hrt
        refine (dv_and (dv_le (dv_sumT rfl (by rfl) B.sum (vr 0 rfl)) (dv_globI (by rfl) hM)) fun _ => dv_one (dv_all rfl (by rfl) B.all (Dl.dv ((dl_lcM (own := [("one", 2), ("other", 3)]) (zs := ns.zip (ns.drop 1)) (fun p => PyData.bool (decide (p.2 ≤ p.1))) rfl sc_is_state.nd (blkOk_by (N := N_is_state) (sc := defScope s_is_state) (by decide +kernel))
            (wt_zipT (j := 2) (k := 3) (emb := PyData.int) (emb' := PyData.int) (by rfl) B.zip (vr 0 rfl) ((dv_slT (vr 0 rfl) (do_some dv_int) do_none).to (by rw [cutD_map]; exact congrArg (fun l => PyData.tuple (List.map PyData.int l)) (cutD_from ns 1)))) (fun _ _ _ _ _ => pgp 2 3 rfl sc_is_state.nd) (by decide) (by rw [List.length_zip]; rw [List.length_map] at hz; omega) (fun x m s H C cl fp => dv_ge (vr 2 rfl) (vr 3 rfl))).to (zip_desc ns))))).to ?_
        rw [isStB_tI]
        unfold stB
        rw [List.isEmpty_map] at h1
        rw [List.map_map] at h2
        have h2' : (ns.map fun x => decide (1 ≤ x) && decide (x ≤ 20)).all _root_.id = true := h2
        rw [h1, h2'] <;> rfl
    | _ => simp [tyN] at hT
  · have hk := kit_no_tuple hT nd
    refine tb_cons (tr_ifT (k := true) (Dw.dt (dw_or (k := true) (k2 := false) (dt_not (k := false) (dt_val (dv_isi (by rfl) B.isinstance (by rfl) B.tuple bb_tuple (vr 0 rfl) hk nd))) fun z => by cases z)) rfl ?_)
    refine tb_one (tr_ret (d := .bool (isStB v)) (dv_bl.to ?_) hrt)
    cases v <;> first | rfl | exact absurd rfl hT
theorem kn_is_state (d : Df K mg "is_state" s_is_state) (B : Bi mg) (M : ∃ t, mg "MOST" = some (.int 20 t)) (I : Kn P w K mg base "is_integer" 1 (spP S_is_integer)) : Kn P w K mg base "is_state" 2 (spP S_is_state) := d.kn (fun f fd F => ok_is_state F B M I) fun _ _ _ _ _ _ us hl => match us, hl with | [_], _ => rfl
theorem ok_check_state {f : Addr} {fd : FuncData} (F : Fun K "check_state" "check_state" s_check_state f fd) (I : Kn P w K mg base "is_state" 2 (spP S_is_state)) : FnOk P w K mg base (L2N.CX P w) 3 f fd ["state"] (spP S_check_state) := by
  refine fn_p F sc_check_state (fun ds d h => by obtain ⟨xs, rfl, _⟩ := h; rfl) (fun cdv A outer s Hs Ex hr ds d h G H E hrt hnx => ?_)
  obtain ⟨xs, rfl, hx, rfl⟩ := h
  refine tb_one (tr_ifF (k := !true) (dt_not (dt_val (dv_call I hr (by rfl) (da1 (vr 0 rfl)) ⟨tI xs, rfl, sh_tI.shaped, decide_eq_true (by rw [List.length_map]; have := stB_len hx; omega), by rw [isStB_tI, hx]⟩))) rfl (tb_nil fun G' σ H' s A => hnx rfl σ G' H' A.ext))
theorem kn_check_state (d : Df K mg "check_state" s_check_state) (I : Kn P w K mg base "is_state" 2 (spP S_is_state)) : Kn P w K mg base "check_state" 3 (spP S_check_state) := d.kn (fun f fd F => ok_check_state F I) fun _ _ _ _ _ _ us hl => match us, hl with | [_], _ => rfl
theorem ok_text_of {f : Addr} {fd : FuncData} (F : Fun K "text_of" "text_of" s_text_of f fd) (B : Bi mg) : FnOk P w K mg base (L2N.CX P w) 1 f fd ["state"] (spP (S_st (fun xs => .str (txtI xs)))) := by
  refine fn_p F sc_text_of (fun ds d h => by obtain ⟨n, rfl, _⟩ := h; rfl) (fun cdv A outer s Hs Ex hr ds d h G H E hrt hnx => ?_)
  obtain ⟨xs, rfl, hx, rfl⟩ := h
  have hl := stB_len hx
  exact tb_one (tr_ret (dv_join (ys := xs.map numS) dv_str (Dl.dv ((dl_lcM (own := [("heap", 1)]) (zs := xs) (fun x => PyData.str (numS x)) rfl sc_text_of.nd (blkOk_by (N := N_text_of) (sc := defScope s_text_of) (by decide +kernel))
    (wt_tup (j := 1) (emb := PyData.int) (vr 0 rfl)) (fun _ _ _ _ _ => pgn 1 sc_text_of.nd) (by decide) (by omega) (fun x m s H C cl fp => dv_strI (by rfl) B.str (vr 1 rfl) (num_log (by have := stB_all hx x m; omega) (by have := stB_all hx x m; omega)))).to (by rw [List.map_map] <;> rfl))) (by
      have := sum_len2 (ys := xs.map numS) (fun y hy => by
        obtain ⟨x, m, rfl⟩ := List.mem_map.mp hy
        have := stB_all hx x m
        exact num_len (by omega) (by omega))
      rw [List.length_map] at this ⊢
      show _ + xs.length * 1 ≤ _
      omega)) hrt)
theorem kn_text_of (d : Df K mg "text_of" s_text_of) (B : Bi mg) : Kn P w K mg base "text_of" 1 (spP (S_st (fun xs => .str (txtI xs)))) := d.kn (fun f fd F => ok_text_of F B) fun _ _ _ _ _ _ us hl => match us, hl with | [_], _ => rfl
theorem ok_format_state {f : Addr} {fd : FuncData} (F : Fun K "format_state" "format_state" s_format_state f fd) (CS : Kn P w K mg base "check_state" 3 (spP S_check_state)) (TO : Kn P w K mg base "text_of" 1 (spP (S_st (fun xs => .str (txtI xs))))) : FnOk P w K mg base (L2N.CX P w) 4 f fd ["state"] (spP (S_st (fun xs => .str (txtI xs)))) := by
  refine fn_p F sc_format_state (fun ds d h => by obtain ⟨n, rfl, _⟩ := h; rfl) (fun cdv A outer s Hs Ex hr ds d h G H E hrt hnx => ?_)
  obtain ⟨xs, rfl, hx, rfl⟩ := h
  refine tb_cons (tr_expr (dv_call CS hr (by rfl) (da1 (vr 0 rfl)) ⟨xs, rfl, hx, rfl⟩) ?_)
  exact tb_one (tr_ret (dv_st TO (hr.mono (by decide)) (vr 0 rfl) hx) hrt)
theorem kn_format_state (d : Df K mg "format_state" s_format_state) (CS : Kn P w K mg base "check_state" 3 (spP S_check_state)) (TO : Kn P w K mg base "text_of" 1 (spP (S_st (fun xs => .str (txtI xs))))) : Kn P w K mg base "format_state" 4 (spP (S_st (fun xs => .str (txtI xs)))) := d.kn (fun f fd F => ok_format_state F CS TO) fun _ _ _ _ _ _ us hl => match us, hl with | [_], _ => rfl
theorem ok_parse_state {f : Addr} {fd : FuncData} (F : Fun K "parse_state" "parse_state" s_parse_state f fd) (B : Bi mg) (DG : ∃ t, mg "DIGITS" = some (.str "0123456789" t)) (IS : Kn P w K mg base "is_state" 2 (spP S_is_state)) : FnOk P w K mg base (L2N.CX P w) 3 f fd ["text"] (spP S_parse) := by
  obtain ⟨tD, hD⟩ := DG
  refine fn_p F sc_parse_state (fun ds d h => by obtain ⟨z, xs, rfl, _⟩ := h; rfl) (fun cdv A outer s Hs Ex hr ds d h G H E hrt hnx => ?_)
  obtain ⟨z, xs, rfl, hz, hp, rfl⟩ := h
  obtain ⟨p1, p2, p3⟩ := pars_is hp
  have hu := hr.units
  have hw := split_few hz
  refine tb_no ((dt_not (k := true) (dt_val (dv_isi (by rfl) B.isinstance (by rfl) B.str bb_str (vr 0 rfl) (by exact kit_ss)))).to rfl) ?_
  refine tb_cons (tr_setM 1 sc_parse_state.nd rfl (by first | exact .inl rfl | exact .inr rfl) (dl_split (vr 0 rfl) dv_str (by rfl) (Nat.le_trans (Nat.add_le_add_right hz 2) (by decide +kernel))) ?_)
  refine TrB.wkn (wkn_freeze (i := 1) rfl) ?_
  refine tb_cons (tr_forT (fun k => [.d (.str z), .d (.list ((Txt.split z "+").map PyData.str)), .un, .un, .un]) PassesOwn.never rfl (wt_list (j := 2) (zs := Txt.split z "+") (emb := PyData.str) (vr 1 rfl)) (pgn 2 sc_parse_state.nd) Wkn.refl (fun k x Gm' e sm => ?_) ?_)
  · have hv := p1 (TL.tl x) (words_mem (List.mem_of_getElem? e))
    obtain ⟨c, r, ec⟩ := val_cons hv
    have hl2 := (val_int hv).2
    rw [valW_eq, Bool.and_eq_true, Bool.and_eq_true] at hv
    obtain ⟨v1, v2, v3⟩ := hv
    have hso : PyData.strOk x = true := num_words v2
    have hz2 : x.length ≤ sizeLine := Nat.le_trans hl2 (by decide +kernel)
    refine tb_no (Dw.dt (dw_orF ((dt_not (dt_chain dv_int (dv_lenS (by rfl) B.len (vr 2 rfl) hz2) dv_int)).to (val_len v1))
      (dw_orF ((dt_not (dt_val (dv_all (bs := (TL.tl x).map fun n => decide (n ∈ TL.tl ("0123456789" : Str))) rfl (by rfl) B.all (Dl.dv ((dl_lcM (own := [("sign", 4)]) (zs := TL.tl x) (fun n => PyData.bool (decide (n ∈ TL.tl ("0123456789" : Str)))) rfl sc_parse_state.nd (blkOk_by (N := N_parse_state) (sc := defScope s_parse_state) (by decide +kernel))
        (wt_str (j := 4) (vr 2 rfl)) (fun _ _ _ _ _ => pgn 4 sc_parse_state.nd) (by decide) (by rw [TL.len_tl] at hl2; omega) (fun x m s H C cl fp => dv_inSgn (vr 4 rfl) (dv_globS (by rfl) hD))).to (by rw [List.map_map] <;> rfl)))))).to (congrArg (!·) v2))
      (dw_or1 ((dt_eq hu (dv_ixS (n := c) (vr 2 rfl) dv_int (at0 ec) hz2) dv_str (sh_str (sgn_ok (z := x) hso (by rw [ec]; exact List.mem_cons_self))).shaped (sh_str (by decide +kernel)).shaped).to (by rw [eqv_str, one_zero c r ec]; rw [ec] at v3; simpa using v3)))))) ?_
    exact tb_nil (nx_at (wkn_drop 2))
  · refine tb_cons (tr_set (d := tI xs) 3 sc_parse_state.nd rfl (by first | exact .inl rfl | exact .inr rfl) ((dv_tupleL (by rfl) B.tuple (Dl.dv (dl_lcM (own := [("word", 2)]) (zs := Txt.split z "+") (fun x => PyData.int (numW (TL.tl x))) rfl sc_parse_state.nd (blkOk_by (N := N_parse_state) (sc := defScope s_parse_state) (by decide +kernel))
      (wt_list (j := 2) (emb := PyData.str) (vr 1 rfl)) (fun _ _ _ _ _ => pgn 2 sc_parse_state.nd) (by decide) (by omega) (fun x m s H C cl fp => dv_intS (by rfl) B.int (vr 2 rfl) (val_int (p1 (TL.tl x) (words_mem m))).1 (by have := (val_int (p1 (TL.tl x) (words_mem m))).2; omega))))).to (by rw [p3, ← words_str, List.map_map]; show _ = PyData.tuple (List.map PyData.int _); rw [List.map_map] <;> rfl)) ?_)
    refine tb_no ((dt_not (dt_val (dv_call IS hr (by rfl) (da1 (vr 3 rfl)) ⟨tI xs, rfl, sh_tI.shaped, by show decide _ = true; exact decide_eq_true (by rw [List.length_map]; have := stB_len p2; omega), rfl⟩))).to (by rw [isStB_tI, p2] <;> rfl)) ?_
    exact tb_one (tr_ret (vr 3 rfl) hrt)
theorem kn_parse_state (d : Df K mg "parse_state" s_parse_state) (B : Bi mg) (DG : ∃ t, mg "DIGITS" = some (.str "0123456789" t)) (IS : Kn P w K mg base "is_state" 2 (spP S_is_state)) : Kn P w K mg base "parse_state" 3 (spP S_parse) := d.kn (fun f fd F => ok_parse_state F B DG IS) fun _ _ _ _ _ _ us hl => match us, hl with | [_], _ => rfl
theorem ok_parse_state_e {f : Addr} {fd : FuncData} (F : Fun K "parse_state" "parse_state" s_parse_state f fd) (B : Bi mg) (DG : ∃ t, mg "DIGITS" = some (.str "0123456789" t)) (IS : Kn P w K mg base "is_state" 2 (spP S_is_state)) (X6 : Exk K mg "ParseError" 6) : FnOk P w K mg base (L2N.CX P w) 3 f fd ["text"] (spE mg R_parse) := by
  obtain ⟨tD, hD⟩ := DG
  obtain ⟨_, C, ec, _⟩ := X6
  refine fn_e F sc_parse_state (fun ds y h => by obtain ⟨v, rfl, _⟩ := h; rfl) (fun cdv A outer s Hs Ex hr ds y Cy h hC G H E tk q => ?_)
  obtain ⟨v, rfl, ⟨hv, h⟩, rfl⟩ := h
  have e := ec.g.symm.trans hC
  cases e
  have hu := hr.units
  have nd := shaped_nd hv
  rcases h with h | ⟨z, rfl, hz, hp⟩
  · have hT : tyN v ≠ "str" := fun z => by
      cases v with
      | str x => exact h x rfl
      | _ => simp [tyN] at z
    exact tb_cons (tr_ifT (k := true) ((dt_not (k := false) (dt_val (dv_isi (by rfl) B.isinstance (by rfl) B.str bb_str (vr 0 rfl) (kit_no_str hT nd) nd))).to rfl) rfl (tb_one (tr_raise ec rfl tk fun G' σ H' s A => q G' H' A.ext)))
  have hso : PyData.strOk z = true := by
    have := SeqAt.canLay_of_shaped hv
    simpa [PyData.canLay, PyData.canLay0] using this
  have hw := split_few hz
  refine tb_no ((dt_not (k := true) (dt_val (dv_isi (by rfl) B.isinstance (by rfl) B.str bb_str (vr 0 rfl) (by exact kit_ss)))).to rfl) ?_
  refine tb_cons (tr_setM 1 sc_parse_state.nd rfl (by first | exact .inl rfl | exact .inr rfl) (dl_split (vr 0 rfl) dv_str (by rfl) (Nat.le_trans (Nat.add_le_add_right hz 2) (by decide +kernel))) ?_)
  refine TrB.wkn (wkn_freeze (i := 1) rfl) ?_
  refine tb_cons (tr_forTR (fun k ρ' => ρ' = [.d (.str z), .d (.list ((Txt.split z "+").map PyData.str)), .un, .un, .un] ∧ ∀ i x, i < k → (Txt.split z "+")[i]? = some x → valW (TL.tl x) = true) (passes_of rfl) rfl (wt_list (j := 2) (zs := Txt.split z "+") (emb := PyData.str) (vr 1 rfl)) (pgn 2 sc_parse_state.nd) ⟨_, ⟨rfl, fun i x h => absurd h (Nat.not_lt_zero i)⟩, Wkn.refl⟩ (fun k x ρk Gm' e rk sm => ?_) (fun ρn rn => ?_))
  · obtain ⟨rfl, hb⟩ := rk
    have hx := List.mem_of_getElem? e
    have hxo : PyData.strOk x = true := by
      rw [str_ok] at hso ⊢
      exact fun c hc => hso c (words_sgn hx c hc)
    have hxl : x.length ≤ 1000 := word_len hz hx
    have hz2 : x.length ≤ sizeLine := Nat.le_trans hxl (by decide +kernel)
    refine tb_one (tr_if (k := !lenW (TL.tl x) || (!digsW (TL.tl x) || decide ((TL.tl x).headD 0 = 48))) (Dw.dt (dw_or (k := !lenW (TL.tl x)) (k2 := !digsW (TL.tl x) || decide ((TL.tl x).headD 0 = 48)) ((dt_not (dt_chain dv_int (dv_lenS (by rfl) B.len (vr 2 rfl) hz2) dv_int)).to (val_len rfl)) fun hl => ?_)) (fun hk => ?_) (fun hk => ?_))
    · have hl : lenW (TL.tl x) = true := by simpa using hl
      obtain ⟨c, r, ec'⟩ := len_cons hl
      have hl2 : (TL.tl x).length ≤ 2 := by
        unfold lenW at hl
        simp only [Bool.and_eq_true, decide_eq_true_eq] at hl
        exact hl.2
      refine dw_or (k := !digsW (TL.tl x)) (k2 := decide ((TL.tl x).headD 0 = 48)) ((dt_not (dt_val (dv_all (bs := (TL.tl x).map fun n => decide (n ∈ TL.tl ("0123456789" : Str))) rfl (by rfl) B.all (Dl.dv ((dl_lcM (own := [("sign", 4)]) (zs := TL.tl x) (fun n => PyData.bool (decide (n ∈ TL.tl ("0123456789" : Str)))) rfl sc_parse_state.nd (blkOk_by (N := N_parse_state) (sc := defScope s_parse_state) (by decide +kernel))
        (wt_str (j := 4) (vr 2 rfl)) (fun _ _ _ _ _ => pgn 4 sc_parse_state.nd) (by decide) (by omega) (fun x m s H C cl fp => dv_inSgn (vr 4 rfl) (dv_globS (by rfl) hD))).to (by rw [List.map_map] <;> rfl)))))).to rfl) fun _ => ?_
      exact dw_or1 ((dt_eq hu (dv_ixS (n := c) (vr 2 rfl) dv_int (at0 ec') hz2) dv_str (sh_str (sgn_ok (z := x) hxo (by rw [ec']; exact List.mem_cons_self))).shaped (sh_str (by decide +kernel)).shaped).to (by rw [eqv_str, one_zero c r ec', ec'] <;> rfl))
    · exact tb_one (tr_raise ec rfl tk fun G' σ H' s A => q G' H' A.ext)
    · refine tb_nil (nx_atR ⟨rfl, fun i x' hi ei => ?_⟩ (wkn_drop 2))
      by_cases hik : i = k
      · subst hik
        rw [e] at ei
        cases ei
        rw [valW_eq]
        simp only [Bool.or_eq_false_iff, Bool.not_eq_false'] at hk
        rw [hk.1, hk.2.1, hk.2.2] <;> rfl
      · exact hb i x' (by omega) ei
  · obtain ⟨rfl, hb⟩ := rn
    have p1 : ∀ x ∈ Txt.split z "+", valW (TL.tl x) = true := fun x hx => by
      obtain ⟨i, hi, e⟩ := List.mem_iff_getElem.mp hx
      exact hb i x hi (by rw [List.getElem?_eq_getElem hi, e])
    refine tb_cons (tr_set (d := tI ((wordsL (TL.tl z)).map numW)) 3 sc_parse_state.nd rfl (by first | exact .inl rfl | exact .inr rfl) ((dv_tupleL (by rfl) B.tuple (Dl.dv (dl_lcM (own := [("word", 2)]) (zs := Txt.split z "+") (fun x => PyData.int (numW (TL.tl x))) rfl sc_parse_state.nd (blkOk_by (N := N_parse_state) (sc := defScope s_parse_state) (by decide +kernel))
      (wt_list (j := 2) (emb := PyData.str) (vr 1 rfl)) (fun _ _ _ _ _ => pgn 2 sc_parse_state.nd) (by decide) (by omega) (fun x m s H C cl fp => dv_intS (by rfl) B.int (vr 2 rfl) (val_int (p1 x m)).1 (by have := (val_int (p1 x m)).2; omega))))).to (by rw [← words_str, List.map_map]; show _ = PyData.tuple (List.map PyData.int _); rw [List.map_map] <;> rfl)) ?_)
    have hno : stB ((wordsL (TL.tl z)).map numW) = false := by
      cases hst : stB ((wordsL (TL.tl z)).map numW) with
      | false => rfl
      | true =>
        unfold parsL at hp
        rw [if_pos] at hp
        · cases hp
        · rw [hst, Bool.and_true, List.all_eq_true]
          intro w hw
          rw [← words_str] at hw
          obtain ⟨x, hx, rfl⟩ := List.mem_map.mp hw
          exact p1 x hx
    have hlw : (wordsL (TL.tl z)).length ≤ 1001 := by
      rw [← words_str, List.length_map]
      exact hw
    exact tb_cons (tr_ifT (k := true) ((dt_not (dt_val (dv_call IS hr (by rfl) (da1 (vr 3 rfl)) ⟨tI ((wordsL (TL.tl z)).map numW), rfl, sh_tI.shaped, by show decide _ = true; exact decide_eq_true (by rw [List.length_map, List.length_map]; omega), rfl⟩))).to (by rw [isStB_tI, hno] <;> rfl)) rfl (tb_one (tr_raise ec rfl tk fun G' σ H' s A => q G' H' A.ext)))
theorem kn_parse_state_e (d : Df K mg "parse_state" s_parse_state) (B : Bi mg) (DG : ∃ t, mg "DIGITS" = some (.str "0123456789" t)) (IS : Kn P w K mg base "is_state" 2 (spP S_is_state)) (X6 : Exk K mg "ParseError" 6) : Kn P w K mg base "parse_state" 3 (spE mg R_parse) := d.kn (fun f fd F => ok_parse_state_e F B DG IS X6) fun _ _ _ _ _ _ us hl => match us, hl with | [_], _ => rfl
theorem at_int {ns : List Int} {i : Int} (h0 : 0 ≤ i) (h1 : i < ns.length) : ∃ z, atI (ns.map V.int) i = some (.int z) := by
  obtain ⟨j, rfl⟩ : ∃ j : Nat, i = j := ⟨i.toNat, by omega⟩
  have hj : j < ns.length := by omega
  exact ⟨ns[j], atI_nat (by rw [List.getElem?_map, List.getElem?_eq_getElem hj]; rfl)⟩
theorem ok_l_cell_at {f : Addr} {fd : FuncData} (F : Fun K "_law_cell_at" "_law_cell_at" s_l_cell_at f fd) (B : Bi mg) : FnOk P w K mg base (L2N.CX P w) 1 f fd ["_law_script", "_law_k"] (spCell K) := by
  refine F.okN sc_l_cell_at (fun vs H Q E h => ?_) (fun cdv A outer s H vs Q E hr h => ?_)
  · obtain ⟨a, ns, k, rfl, _⟩ := h
    rfl
  · obtain ⟨a, ns, k, rfl, hS, hns, h0, h1, q⟩ := h
    refine ⟨_, PSs.nox (pss_cons (ps_if (pt_cmpR op_lt (pv 1) (pe_callB call_len_seq (by rfl) B.len bb_len (pa_cons (pv 0) pa_nil)) (nomark _)) (pss_one (ps_ret (pe_ix ix_list (pv 0) (pv 1) fun _ _ => rfl))) pss_nil)
      (pss_cons (ps_if (pt_cmpR (op_eqD hr.units) (pv 0) (pe_lst pa_nil) (nomark _)) (pss_one (ps_ret pe_int)) pss_nil)
      (pss_cons (ps_set (i := 2) sc_l_cell_at.nd rfl (.inl rfl) (pe_ix ix_list (pv 0) (pe_op op_mod (pv 1) (pe_callB call_len_seq (by rfl) B.len bb_len (pa_cons (pv 0) pa_nil))) fun _ _ => rfl))
      (pss_cons (ps_for PassesOwn.never rfl (pi_range1 (by rfl) B.range (pa_cons (pe_callB (call_min2 rfl) (by rfl) B.min bb_min (pa_cons (pe_op op_fdiv (pv 1) (pe_callB call_len_seq (by rfl) B.len bb_len (pa_cons (pv 0) pa_nil))) (pa_cons pe_int pa_nil))) pa_nil)) (pg_name (i := 3) sc_l_cell_at.nd rfl (.inl rfl))
        (pss_one (ps_set (i := 2) sc_l_cell_at.nd rfl (.inl rfl) (pe_op op_fdiv (pv 2) pe_int))))
      (pss_one (ps_ret (pe_op op_add (pe_op op_add (pe_op op_mul (pe_ix ix_list (pv 0) (pe_op op_mod (pv 1) (pe_callB call_len_seq (by rfl) B.len bb_len (pa_cons (pv 0) pa_nil))) fun _ _ => rfl) pe_int) (pv 1)) (pe_op op_mul (pv 2) pe_int)))))))), ?_⟩
    have hl : (ns.map V.int).length = ns.length := List.length_map _
    refine ⟨_, rfl, _, rfl, a, _, rfl, .inl hS.sq, k, _, rfl, rfl, _, rfl, ?_⟩
    refine ite2 (fun c => ?_) (fun c => ?_)
    · have c' := of_decide_eq_true c
      obtain ⟨z, hz⟩ := at_int (ns := ns) h0 (by rw [← hl]; exact c')
      exact ⟨_, rfl, _, rfl, a, _, k, _, rfl, rfl, hS.sq, hz, q z H (Same.refl H)⟩
    · have c' : ¬ k < (ns.length : Int) := fun z => c (decide_eq_true (by rw [hl]; exact z))
      show tSeq _ _ _ _ _
      refine ⟨_, rfl, Nat.zero_le _, fun p hp => ?_⟩
      have s1 : Same H (upd H p (.lst [])) := same_new hp
      refine ⟨.list (ns.map PyData.int), .list [], .lst ((hS.mono s1).sq) ?_, .lst (SqL.of upd_same) .nil, sh_lI.shaped, (ShA.lst (n := 0) sha_nil).shaped, _, rfl, ?_⟩
      · clear hl c' c h1 hns hS q
        induction ns with
        | nil => exact .nil
        | cons n ns ih => exact .cons (.int n) ih
      refine ite2 (fun c2 => ?_) (fun c2 => ?_)
      · exact q 0 _ s1
      · have hpos : 0 < ns.length := by
          cases ns with
          | nil => exact absurd (by simp [PyData.eqv, PyData.eqvAll]) c2
          | cons n ns => simp
        have hl0 : (0 : Int) < ((ns.map V.int).length : Nat) := by rw [hl]; omega
        have hS1 := hS.mono s1
        have hm0 : 0 ≤ k % (((ns.map V.int).length : Nat) : Int) := Int.emod_nonneg _ (by omega)
        have hm1 : k % (((ns.map V.int).length : Nat) : Int) < (ns.length : Nat) := by
          have := Int.emod_lt_of_pos k hl0
          rw [hl] at this ⊢
          exact this
        obtain ⟨z, hz⟩ := at_int (ns := ns) hm0 hm1
        show tSeq _ _ _ _ _
        refine ⟨_, rfl, _, rfl, _, rfl, a, _, rfl, .inl hS1.sq, k, _, rfl, rfl, hl0, a, _, _, _, rfl, rfl, hS1.sq, hz, ?_⟩
        show tSeq _ _ _ _ _
        refine ⟨_, rfl, _, rfl, a, _, rfl, .inl hS1.sq, k, _, rfl, rfl, ⟨hl0, by rw [hl]; omega⟩, _, _, rfl, ?_⟩
        have hb : (if (60 : Int) < k / (((ns.map V.int).length : Nat) : Int) then (60 : Int) else k / (((ns.map V.int).length : Nat) : Int)) ≤ 60 ∧ 0 ≤ (if (60 : Int) < k / (((ns.map V.int).length : Nat) : Int) then (60 : Int) else k / (((ns.map V.int).length : Nat) : Int)) := by
          have := Int.ediv_nonneg h0 (Int.le_of_lt hl0)
          by_cases h : (60 : Int) < k / (((ns.map V.int).length : Nat) : Int)
          · rw [if_pos h]; omega
          · rw [if_neg h]; omega
        generalize hn : (if (60 : Int) < k / (((ns.map V.int).length : Nat) : Int) then (60 : Int) else k / (((ns.map V.int).length : Nat) : Int)) = nn at hb
        refine ⟨nn, rfl, by omega, by omega, for_range (lo := 0) (n := nn.toNat) (fun _ σ H' => H' = upd H p (.lst []) ∧ ∃ (y : Int) (o : Option V), σ = [some (.ref a), some (.int k), some (.int y), o]) ⟨rfl, z, _, rfl⟩ ?_ ?_⟩
        · rintro i σ H' hi ⟨rfl, y, o, rfl⟩
          exact ⟨_, rfl, y, 1000003, rfl, rfl, ⟨by decide, by decide⟩, rfl, _, _, rfl⟩
        · rintro σ H' ⟨rfl, y, o, rfl⟩
          refine ⟨_, rfl, _, rfl, _, rfl, a, _, rfl, .inl hS1.sq, k, _, rfl, rfl, hl0, a, _, _, _, rfl, rfl, hS1.sq, hz, z, 31, rfl, rfl, .inr ⟨by decide, by decide⟩, _, rfl, _, _, rfl, rfl, _, rfl, y, 101, rfl, rfl, .inr ⟨by decide, by decide⟩, _, _, rfl, rfl, q _ _ s1⟩
theorem kn_l_cell_at (d : Df K mg "_law_cell_at" s_l_cell_at) (B : Bi mg) : Kn P w K mg base "_law_cell_at" 1 (spCell K) := d.kn (fun f fd F => ok_l_cell_at F B) fun _ _ _ _ _ _ us hl => match us, hl with | [_, _], _ => rfl
theorem ok_l_mixed {f : Addr} {fd : FuncData} (F : Fun K "_law_mixed" "_law_mixed" s_l_mixed f fd) (B : Bi mg) (C : Kn P w K mg base "_law_cell_at" 1 (spCell K)) : FnOk P w K mg base (L2N.CX P w) 2 f fd ["_law_script", "_law_k", "_law_many"] (spMix K) := by
  obtain ⟨fc, fdc, psc, FC, mC, kC, bC⟩ := C
  refine F.okN sc_l_mixed (fun vs H Q E h => ?_) (fun cdv A outer s H vs Q E hr h => ?_)
  · obtain ⟨a, ns, k, m, rfl, _⟩ := h
    rfl
  · obtain ⟨a, ns, k, m, rfl, hS, hns, h0, h1, hm, q⟩ := h
    refine ⟨_, PSs.nox (pss_cons (ps_set (i := 3) sc_l_mixed.nd rfl (.inl rfl) (pe_op op_mod (pe_op op_add (pe_op op_add (pe_op op_mul (pe_call FC hr (by rfl) mC kC bC .nil passN (pa_cons (pv 0) (pa_cons (pv 1) pa_nil))) pe_int) (pe_op op_mul pe_int (pv 1))) pe_int) pe_int))
      (pss_one (ps_ret (pe_op op_mod (pe_op op_mod (pe_op op_mod (pe_op op_pow (pv 3) pe_int) pe_int) pe_int) (pv 2))))), ?_⟩
    refine ⟨_, rfl, _, rfl, a, ns, k, rfl, hS, hns, h0, h1, fun z H' s' => ?_⟩
    refine ⟨z, 1103515245, rfl, rfl, .inr ⟨by decide, by decide⟩, _, rfl, 7919, k, rfl, rfl, .inl ⟨by decide, by decide⟩, _, _, rfl, rfl, _, _, rfl, rfl, _, 2147483647, rfl, rfl, (show (0 : Int) < 2147483647 by decide), ?_⟩
    have hx0 : 0 ≤ (z * 1103515245 + 7919 * k + 12345) % 2147483647 := Int.emod_nonneg _ (by decide)
    have hx1 : (z * 1103515245 + 7919 * k + 12345) % 2147483647 < 2147483647 := Int.emod_lt_of_pos _ (by decide)
    refine ⟨_, rfl, (z * 1103515245 + 7919 * k + 12345) % 2147483647, 5, rfl, rfl, ⟨by decide, by decide, by omega⟩, _, 2147483647, rfl, rfl, (show (0 : Int) < 2147483647 by decide), _, 999983, rfl, rfl, (show (0 : Int) < 999983 by decide), _, rfl, _, m, rfl, rfl, hm, ?_⟩
    exact q _ H' s' (Int.emod_nonneg _ (by omega)) (Int.emod_lt_of_pos _ hm)
theorem kn_l_mixed (d : Df K mg "_law_mixed" s_l_mixed) (B : Bi mg) (C : Kn P w K mg base "_law_cell_at" 1 (spCell K)) : Kn P w K mg base "_law_mixed" 2 (spMix K) := d.kn (fun f fd F => ok_l_mixed F B C) fun _ _ _ _ _ _ us hl => match us, hl with | [_, _, _], _ => rfl
theorem ok_l_draw {f : Addr} {fd : FuncData} (F : Fun K "_law_draw" "_law_draw" s_l_draw f fd) (B : Bi mg) (M : Kn P w K mg base "_law_mixed" 2 (spMix K)) : FnOk P w K mg base (L2N.CX P w) 3 f fd ["_law_script", "_law_town", "_law_many"] (spTown K 1 S_draw) := by
  obtain ⟨fm, fdm, psm, FM, mM, kM, bM⟩ := M
  refine fn_town F sc_l_draw (fun ds P h => by obtain ⟨m, rfl, _⟩ := h; rfl) (fun cdv A outer s Hs Ex hr ad t ns ts ds Pd G0 H0 E hP hS hns hc hrt => ?_)
  obtain ⟨m, rfl, hm, hp⟩ := hP
  refine tb_cons (tr_app 1 (bm_app 1) rfl dv_int (szl (by omega)) ?_)
  refine tb_one (fun G σ H sm A => ?_)
  have A' : AtG G0 H0 G [.d (rawD ad), .m (ts ++ [PyData.int 0]) (some t), .d (.int m)] σ H := A
  obtain ⟨v0, e0, r0⟩ := A'.sl.2 0 _ rfl
  have ev0 : v0 = .ref ad := raw_is r0
  subst ev0
  obtain ⟨t', ws, e1, eo, _, _, h1, r1⟩ := A'.own 1 _ _ rfl
  obtain ⟨v2, e2, r2⟩ := A'.sl.2 2 _ rfl
  cases r2
  refine ws_of (ps_ret (pe_call FM hr (by rfl) mM kM bM .nil passN (pa_cons (pv 0) (pa_cons (pe_callB call_len_seq (by rfl) B.len bb_len (pa_cons (pv 1) pa_nil)) (pa_cons (pv 2) pa_nil))))) ?_
  have hl : ws.length = ts.length + 1 := by rw [r1.length, List.length_append]; rfl
  refine ⟨_, e0, _, e1, t', ws, rfl, .inl (SqL.of h1), _, e2, ad, ns, _, m, rfl, hS.mono A'.ext.h, hns, by omega, by omega, hm, fun z H' s' h0 h1 => ?_⟩
  have B' : AtG G0 H0 G [.d (rawD ad), .m (ts ++ [PyData.int 0]) (some t), .d (.int m)] σ H' := A'.step ⟨Same.refl G, s', A'.ext.s.trans s', fun _ _ _ _ g => g⟩
  exact hrt (.int z) (.int z) G H' σ 1 _ _ B' rfl (by rw [List.length_append]; exact Nat.le_refl _) (.int z) (hp z h0 h1)
theorem kn_l_draw (d : Df K mg "_law_draw" s_l_draw) (B : Bi mg) (M : Kn P w K mg base "_law_mixed" 2 (spMix K)) : Kn P w K mg base "_law_draw" 3 (spTown K 1 S_draw) := d.kn (fun f fd F => ok_l_draw F B M) fun _ _ _ _ _ _ us hl => match us, hl with | [_, _, _], _ => rfl
theorem ok_l_in_order {f : Addr} {fd : FuncData} (F : Fun K "_law_in_order" "_law_in_order" s_l_in_order f fd) (B : Bi mg) : FnOk P w K mg base (L2N.CX P w) 1 f fd ["_law_heaps"] (spP S_tidy) := by
  refine fn_p F sc_l_in_order (fun ds d h => by obtain ⟨xs, rfl, _⟩ := h; rfl) (fun cdv A outer s Hs Ex hr ds d h G H E hrt hnx => ?_)
  obtain ⟨xs, rfl, hx, rfl⟩ := h
  refine tb_one (tr_ret (d := tI (tidyI xs)) ?_ hrt)
  refine dv_tupleL (by rfl) B.tuple (Dl.dv ?_) (xs := (tidyI xs).map PyData.int)
  refine (dl_rev (Dl.dv (dl_sorted (by rfl) B.sorted (ns := xs.filter (fun h => decide (0 < h))) (Dl.dv ?_)))).to ?_
  · exact dl_lcT (own := [("_law_heap", 1)]) (fun h => decide (0 < h)) PyData.int rfl sc_l_in_order.nd (blkOk_by (N := N_l_in_order) (sc := defScope s_l_in_order) (by decide +kernel)) (wt_list (j := 1) (vr 0 rfl))
      (fun _ _ _ _ _ => pgn 1 sc_l_in_order.nd) (by decide) (Nat.le_trans hx (by decide)) (fun x m s H C cl fp => di_one (dt_gt (vr 1 rfl) dv_int)) (fun x m hb s H C cl fp => vr 1 rfl)
  · rw [← List.map_reverse]
    rfl
theorem kn_l_in_order (d : Df K mg "_law_in_order" s_l_in_order) (B : Bi mg) : Kn P w K mg base "_law_in_order" 1 (spP S_tidy) := d.kn (fun f fd F => ok_l_in_order F B) fun _ _ _ _ _ _ us hl => match us, hl with | [_], _ => rfl
theorem ok_l_some_state {f : Addr} {fd : FuncData} (F : Fun K "_law_some_state" "_law_some_state" s_l_some_state f fd) (B : Bi mg) (Dr : Kn P w K mg base "_law_draw" 3 (spTown K 1 S_draw)) (O : Kn P w K mg base "_law_in_order" 1 (spP S_tidy)) :
    FnOk P w K mg base (L2N.CX P w) 4 f fd ["_law_script", "_law_town", "_law_most"] (spTown K 41 S_some) := by
  refine fn_town F sc_l_some_state (fun ds P h => by obtain ⟨m, rfl, _⟩ := h; rfl) (fun cdv A outer s Hs Ex hr ad t ns ts ds Pd G0 H0 E hP hS hns hc hrt => ?_)
  obtain ⟨m, rfl, hm, hm20, hp⟩ := hP
  refine tb_cons (tr_parEM (tw := 1) (ta := t) (n := ts.length) (cc := 1) (P := fun d => ∃ i j, d = .int (i + j) ∧ i = 1 ∧ (0 ≤ j ∧ j < m)) 3 4 rfl sc_l_some_state.nd rfl rfl (by decide) rfl rfl
    ((de_add (Pb := fun i => i = 1) (Pc := fun j => 0 ≤ j ∧ j < m) ((de_pure dv_int).weak (fun d e => ⟨1, e, rfl⟩) (Nat.le_refl 0)) (de_town (S := S_draw) (Pa := fun d => d = .int m) (j := 0) (c := 0) Dr hr (by rfl) hS hns (by decide) rfl rfl (.inl rfl) rfl (.inl rfl) (by simp) (de_pure (vr 2 rfl)) (by omega) (fun d e => ⟨m, by rw [e], hm, fun z h0 h1 => ⟨z, rfl, h0, h1⟩⟩))).weak (fun d h => h) (by omega))
    (dl_lst da_nil (Nat.zero_le _)) rfl (Nat.le_refl _) (fun d ts1 p1 l1 => ?_))
  obtain ⟨i, z, rfl, rfl, z0, z1⟩ := p1
  refine tb_cons (tr_while (α := Int × List Int × List D) (fun a => 0 ≤ a.1 ∧ a.2.1.sum + a.1 ≤ m ∧ 1 ≤ a.2.1.sum + a.1 ∧ (∀ h ∈ a.2.1, (1 : Int) ≤ h) ∧ (a.2.2.length : Int) + 2 * a.1 ≤ ts.length + 41)
    (fun a => [.d (rawD ad), .m a.2.2 (some t), .d (.int m), .d (.int a.1), .m (a.2.1.map PyData.int) none, .un]) (fun a => a.1.toNat) (fun a => decide (0 < a.1)) (1 + z, [], ts1) PassesOwn.never
    ⟨by show (0 : Int) ≤ 1 + z; omega, by show (0 : Int) + (1 + z) ≤ m; omega, by show (1 : Int) ≤ 0 + (1 + z); omega, (fun h hh => by cases hh), by show (ts1.length : Int) + 2 * (1 + z) ≤ ts.length + 41; omega⟩ Wkn.refl (fun a ia => dt_gt (vr 3 rfl) dv_int) (fun a ia hb => ?_) (fun a ia hb => ?_))
  · obtain ⟨l, hs, tw⟩ := a
    obtain ⟨i0, i1, i2, i3, i4⟩ := ia
    have i0 : (0 : Int) ≤ l := i0
    have i1 : hs.sum + l ≤ m := i1
    have i2 : 1 ≤ hs.sum + l := i2
    have i3 : ∀ h ∈ hs, (1 : Int) ≤ h := i3
    have i4 : (tw.length : Int) + 2 * l ≤ ts.length + 41 := i4
    have hb : 0 < l := of_decide_eq_true hb
    refine tb_cons (tr_setE (tw := 1) (ta := t) (n := tw.length) (cc := 2) (P := fun d => ∃ h, d = .int h ∧ 1 ≤ h ∧ h ≤ l) 5 sc_l_some_state.nd rfl (.inl rfl)
      ((de_add (c := 0) (c' := 2) (Pb := fun i => i = 1) (Pc := fun j => 0 ≤ j ∧ j < l) ((de_pure dv_int).weak (fun d e => ⟨1, e, rfl⟩) (Nat.le_refl 0))
        (de_town (S := S_draw) (c := 1) (cf := 1) (Pa := fun d => ∃ i, d = .int i ∧ 1 ≤ i ∧ i ≤ l) (j := 0) Dr hr (by rfl) hS hns (by decide) rfl rfl (.inl rfl) rfl (.inl rfl) (by simp)
          ((de_min (c := 0) (c' := 1) (Pb := fun i => i = l) (Pc := fun j => 2 ≤ j) rfl (by rfl) B.min ((de_pure (vr 3 rfl)).weak (fun d e => ⟨l, e, rfl⟩) (Nat.le_refl 0))
            ((de_add (c := 0) (c' := 1) (Pb := fun i => i = 2) (Pc := fun j => 0 ≤ j ∧ j < 6) ((de_pure dv_int).weak (fun d e => ⟨2, e, rfl⟩) (Nat.le_refl 0))
              (de_town (S := S_draw) (c := 0) (cf := 1) (Pa := fun d => d = .int 6) (j := 0) Dr hr (by rfl) hS hns (by decide) rfl rfl (.inl rfl) rfl (.inl rfl) (by simp) (de_pure dv_int) (by omega) (fun d e => ⟨6, by rw [e], by decide, fun z h0 h1 => ⟨z, rfl, h0, h1⟩⟩))).weak
              (fun d h => by obtain ⟨i, j, rfl, rfl, j0, j1⟩ := h; exact ⟨2 + j, rfl, by omega⟩) (Nat.le_refl _))).weak
            (fun d h => by obtain ⟨i, j, rfl, rfl, j0⟩ := h; exact ⟨min i j, rfl, by omega, by omega⟩) (Nat.le_refl _))
          (by omega) (fun d h => by obtain ⟨i, rfl, h1, h2⟩ := h; exact ⟨i, rfl, by omega, fun z z0 z1 => ⟨z, rfl, z0, by omega⟩⟩))).weak
        (fun d h => by obtain ⟨i, j, rfl, rfl, j0, j1⟩ := h; exact ⟨1 + j, rfl, by omega, by omega⟩) (by omega)) rfl (Nat.le_refl _) (fun d ts2 p2 l2 => ?_))
    obtain ⟨h, rfl, h1, h2⟩ := p2
    have hln : (hs.length : Int) ≤ hs.sum := sum_ge_len i3
    refine tb_cons (tr_app 4 (bm_app 4) rfl (vr 5 rfl) (szl (by rw [List.length_map]; show hs.length < 1000000; omega)) ?_)
    refine tb_one (tr_aug 3 ip_sub sc_l_some_state.nd rfl (.inl rfl) rfl (vr 5 rfl) ?_)
    refine nx_while (l - h, hs ++ [h], ts2) ⟨by show (0 : Int) ≤ l - h; omega, ?_, ?_, fun y hy => ?_, ?_⟩ (by show (l - h).toNat < l.toNat; omega) ?_
    · show (hs ++ [h]).sum + (l - h) ≤ m
      rw [List.sum_append, List.sum_singleton]; omega
    · show 1 ≤ (hs ++ [h]).sum + (l - h)
      rw [List.sum_append, List.sum_singleton]; omega
    · rcases List.mem_append.mp hy with hy | hy
      · exact i3 y hy
      · rw [List.mem_singleton.mp hy]; exact h1
    · show (ts2.length : Int) + 2 * (l - h) ≤ ts.length + 41
      omega
    · have w := (wkn_drop (G0 := G0) (H0 := H0) (ρ := [.d (rawD ad), .m ts2 (some t), .d (.int m), .d (.int (l - h)), .m ((hs ++ [h]).map PyData.int) none, .d (.int h)]) 5)
      rw [List.map_append] at w ⊢
      exact w
  · obtain ⟨l, hs, tw⟩ := a
    obtain ⟨i0, i1, i2, i3, i4⟩ := ia
    have i0 : (0 : Int) ≤ l := i0
    have i1 : hs.sum + l ≤ m := i1
    have i2 : 1 ≤ hs.sum + l := i2
    have i3 : ∀ h ∈ hs, (1 : Int) ≤ h := i3
    have i4 : (tw.length : Int) + 2 * l ≤ ts.length + 41 := i4
    have hb : ¬ 0 < l := of_decide_eq_false hb
    have hln : (hs.length : Int) ≤ hs.sum := sum_ge_len i3
    obtain ⟨t1, t2⟩ := tidy_st (xs := hs) (fun e => by rw [e] at i2; simp at i2; omega) i3 (by omega)
    refine TrB.wkn (wkn_freeze (i := 4) rfl) (tb_one (tr_retA (d := tI (tidyI hs)) (dv_call O (hr.mono (by decide)) rfl (da1 (vr 4 rfl)) ⟨hs, rfl, by omega, rfl⟩) fun v G' H' σ' A' r' => ?_))
    exact hrt v _ G' H' σ' 1 _ tw A' rfl (by omega) r' (hp _ t1 (by rw [t2]; omega))
theorem kn_l_some_state (d : Df K mg "_law_some_state" s_l_some_state) (B : Bi mg) (Dr : Kn P w K mg base "_law_draw" 3 (spTown K 1 S_draw)) (O : Kn P w K mg base "_law_in_order" 1 (spP S_tidy)) : Kn P w K mg base "_law_some_state" 4 (spTown K 41 S_some) := d.kn (fun f fd F => ok_l_some_state F B Dr O) fun _ _ _ _ _ _ us hl => match us, hl with | [_, _, _], _ => rfl
theorem ok_l_which {f : Addr} {fd : FuncData} (F : Fun K "_law_which" "_law_which" s_l_which f fd) (B : Bi mg) (a : Addr) (oe : Obj) (Dc : Addr) (i : Nat) (hi : i < 7) (ek : ExcK K mg Dc i) (hz : L2N.Zn (.ref Dc) none oe) (hf : ∃ vs, oe.data = .fields vs) : FnP P w K mg base 1 f fd ["_law_e"] (a, oe) (spW a i) := by
  obtain ⟨oc, od, kV, doc, pm, an, cdv, ct, osl, rfl, lk, hcd⟩ := F.ex
  refine fn_ofP (k := 0) lk hcd sc_l_which (fun vs H Q E h => by obtain ⟨G, _, rfl, _⟩ := h; rfl) (fun A outer s H vs Q E hot hr h => ?_)
  obtain ⟨G, sg, rfl, q⟩ := h
  refine (?_ : TrB (cxP P w K mg base N_l_which "_law_which" (defScope s_l_which) f cdv A outer s H E (a, oe)) G H (defBody s_l_which) G (argC N_l_which [rawD a]) { nx := fun _ H' => Q .non H', rt := Q }) G (L2.start N_l_which [.ref a]) H (Same.refl G) (argC_at sg (.cons (.raw a) .nil))
  have cr : CallR (cxP P w K mg base N_l_which "_law_which" (defScope s_l_which) f cdv A outer s H E (a, oe)) (.builtin "isinstance") (rIsE K Dc a) := cr_isE (X := cxP P w K mg base N_l_which "_law_which" (defScope s_l_which) f cdv A outer s H E (a, oe)) (List.mem_singleton.mpr rfl) ek.c hz.zc hf
  have hu : (A.deeper (envOfC "_law_which" (defScope s_l_which) s.heap.objs.size f cdv)).units + 65 < cLine := by have := hr.un; omega
  have hu4 : (A.deeper (envOfC "_law_which" (defScope s_l_which) s.heap.objs.size f cdv)).units + 64 < cLine := by omega
  obtain ⟨C0, m0, k0⟩ := ek.w 0 (by decide)
  obtain ⟨C1, m1, k1⟩ := ek.w 1 (by decide)
  obtain ⟨C2, m2, k2⟩ := ek.w 2 (by decide)
  obtain ⟨C3, m3, k3⟩ := ek.w 3 (by decide)
  obtain ⟨C4, m4, k4⟩ := ek.w 4 (by decide)
  obtain ⟨C5, m5, k5⟩ := ek.w 5 (by decide)
  obtain ⟨C6, m6, k6⟩ := ek.w 6 (by decide)
  have shB : ∀ bs : List Bool, SeqAt.shaped (.list (bs.map PyData.bool)) = true := fun bs => (ShA.lst (n := 0) (sha_map fun _ => sh_bl)).shaped
  refine tb_cons (tr_setM 1 sc_l_which.nd rfl (by first | exact .inl rfl | exact .inr rfl) (dl_lst (ds := [decide (0 = i), decide (1 = i), decide (2 = i)].map PyData.bool) (da_cons (dv_isE cr (by rfl) B.isinstance (vr 0 rfl) m0 k0) (da_cons (dv_isE cr (by rfl) B.isinstance (vr 0 rfl) m1 k1) (da1 (dv_isE cr (by rfl) B.isinstance (vr 0 rfl) m2 k2)))) (sz (by show 3 ≤ 1000000; decide))) ?_)
  refine tb_cons (tr_ext (ys := [decide (3 = i), decide (4 = i), decide (5 = i)].map PyData.bool) 1 (bm_ext 1) rfl (Dl.dv (dl_lst (da_cons (dv_isE cr (by rfl) B.isinstance (vr 0 rfl) m3 k3) (da_cons (dv_isE cr (by rfl) B.isinstance (vr 0 rfl) m4 k4) (da1 (dv_isE cr (by rfl) B.isinstance (vr 0 rfl) m5 k5)))) (sz (by show 3 ≤ 1000000; decide)))) (sz (by show 6 ≤ 1000000; decide)) ?_)
  refine tb_cons (tr_app 1 (bm_app 1) rfl (dv_isE cr (by rfl) B.isinstance (vr 0 rfl) m6 k6) (szl (by show 6 < 1000000; decide)) ?_)
  show TrB _ _ _ _ _ [.d (rawD a), .m ([decide (0 = i), decide (1 = i), decide (2 = i), decide (3 = i), decide (4 = i), decide (5 = i), decide (6 = i)].map PyData.bool) none] _
  have hc1 : ([decide (0 = i), decide (1 = i), decide (2 = i), decide (3 = i), decide (4 = i), decide (5 = i), decide (6 = i)].map PyData.bool).countP (fun z => PyData.eqv z (.bool true)) = 1 := by
    rcases (by omega : i = 0 ∨ i = 1 ∨ i = 2 ∨ i = 3 ∨ i = 4 ∨ i = 5 ∨ i = 6) with rfl | rfl | rfl | rfl | rfl | rfl | rfl <;> simp [List.countP_cons, eqv_bool]
  have hat : ([decide (0 = i), decide (1 = i), decide (2 = i), decide (3 = i), decide (4 = i), decide (5 = i), decide (6 = i)].map PyData.bool)[i]? = some (.bool true) := by
    rcases (by omega : i = 0 ∨ i = 1 ∨ i = 2 ∨ i = 3 ∨ i = 4 ∨ i = 5 ∨ i = 6) with rfl | rfl | rfl | rfl | rfl | rfl | rfl <;> rfl
  have hno : ∀ (m : Nat) (z : PyData), m < i → ([decide (0 = i), decide (1 = i), decide (2 = i), decide (3 = i), decide (4 = i), decide (5 = i), decide (6 = i)].map PyData.bool)[m]? = some z → PyData.eqv z (.bool true) = false := fun m z hm e => by
    have hm7 : m < 7 := by omega
    have e2 : ([decide (0 = i), decide (1 = i), decide (2 = i), decide (3 = i), decide (4 = i), decide (5 = i), decide (6 = i)].map PyData.bool)[m]? = some (.bool (decide (m = i))) := by
      rcases (by omega : m = 0 ∨ m = 1 ∨ m = 2 ∨ m = 3 ∨ m = 4 ∨ m = 5 ∨ m = 6) with rfl | rfl | rfl | rfl | rfl | rfl | rfl <;> rfl
    rw [e2, decide_eq_false (by omega)] at e
    cases e
    rw [eqv_bool] <;> rfl
  refine tb_no (Dw.dt (dw_orF ((dt_ne hu4 (dv_countD hu (vr 1 rfl) dv_bl (shB _) sh_bl.shaped) dv_int sh_int.shaped sh_int.shaped).to (by rw [hc1, eqv_int] <;> rfl)) (dw_or1 (dt_not (k := true) (dt_val (dv_isEV (tn := "ValueError") cr (by rfl) B.isinstance (vr 0 rfl) ek.ve (by decide +kernel) ek.v)))))) ?_
  refine TrB.wkn (wkn_freeze (i := 1) rfl) ?_
  exact tb_one (tr_ret (d := raisedD (i : Nat)) (dv_tup (da_cons dv_str (da1 (dv_indexD hu (vr 1 rfl) dv_bl (shB _) sh_bl.shaped hat (by rw [eqv_bool] <;> rfl) hno))) (sz (by show 2 ≤ 1000000; decide))) fun v G' H' x r => q v G' H' x r)
theorem kn_l_which (d : Df K mg "_law_which" s_l_which) (B : Bi mg) : KnW P w K mg base "_law_which" 1 := by
  obtain ⟨f, fd, F, hm⟩ := d
  exact ⟨f, fd, ["_law_e"], fun a oe Dc i hi ek hz hf => ok_l_which F B a oe Dc i hi ek hz hf, hm, F.kp, F.binds fun _ _ _ _ _ _ us hl => match us, hl with | [_], _ => rfl⟩
theorem ok_l_read {f : Addr} {fd : FuncData} (F : Fun K "_law_read" "_law_read" s_l_read f fd) (X6 : Exk K mg "ParseError" 6) (WH : KnW P w K mg base "_law_which" 1) (PS : Kn P w K mg base "parse_state" 3 (spP S_parse)) (PE : Kn P w K mg base "parse_state" 3 (spE mg R_parse)) :
    FnOk P w K mg base (L2N.CX P w) 4 f fd ["_law_text"] (spP S_read) := by
  obtain ⟨_, C1, ec, ek⟩ := X6
  obtain ⟨Ch, hch, _⟩ := id ek.h
  refine fn_p F sc_l_read (fun ds d h => by obtain ⟨v, rfl, _⟩ := h; rfl) (fun cdv A outer s Hs Ex hr ds d h G H E hrt hnx => ?_)
  obtain ⟨v, rfl, h⟩ := h
  refine tb_one (tr_tryW (k := 1) 1 (fun C j => C = C1 ∧ j = 6 ∧ d = raisedD 6) (fun C j h => by obtain ⟨rfl, rfl, _⟩ := h; exact ⟨by decide, ek⟩) WH (hr.mono (by decide)) sc_l_read.nd (by show 1 < 2; decide) rfl rfl rfl rfl hch (fun W pn xe tk po k => ?_) (fun C j u G' H' ok x r => by obtain ⟨_, rfl, rfl⟩ := ok; exact hrt u G' H' x r))
  rcases h with ⟨z, xs, rfl, hz, hp, rfl⟩ | ⟨hn, rfl⟩
  · exact tb_one (tr_ret (dv_call PS hr (by rfl) (da1 (vr 0 rfl)) ⟨z, xs, rfl, hz, hp, rfl⟩) hrt)
  · exact tb_one (tr_retX (dx_call PE hr (by rfl) (da1 (vr 0 rfl)) ⟨v, rfl, hn, rfl⟩) ec.g tk (k C1 6 ⟨rfl, rfl, rfl⟩))
theorem kn_l_read (d : Df K mg "_law_read" s_l_read) (X6 : Exk K mg "ParseError" 6) (WH : KnW P w K mg base "_law_which" 1) (PS : Kn P w K mg base "parse_state" 3 (spP S_parse)) (PE : Kn P w K mg base "parse_state" 3 (spE mg R_parse)) :
    Kn P w K mg base "_law_read" 4 (spP S_read) := d.kn (fun f fd F => ok_l_read F X6 WH PS PE) fun _ _ _ _ _ _ us hl => match us, hl with | [_], _ => rfl
theorem ok_law_k09 {f : Addr} {fd : FuncData} (F : Fun K "law" "law" s_law f fd) (B : Bi mg) (SS : Kn P w K mg base "_law_some_state" 4 (spTown K 41 S_some)) (FS : Kn P w K mg base "format_state" 4 (spP (S_st (fun xs => .str (txtI xs))))) (RD : Kn P w K mg base "_law_read" 4 (spP S_read)) : FnOk P w K mg base (L2N.CX P w) 5 f fd ["_law_script"] (spLaw K) := by
  refine fn_law F sc_law (fun cdv A outer s Hs Ex hr ad ns G H0 E hS hns hrt => ?_)
  have hu := hr.units
  show TrB _ _ _ _ _ [.d (rawD ad), .un, .un, .un, .un, .un, .un] _
  refine tb_cons (tr_setT 1 (by simp) sc_law.nd rfl (by first | exact .inl rfl | exact .inr rfl) (dl_lst da_nil (Nat.zero_le _)) fun ta => ?_)
  refine tb_cons (tr_town (n := 0) (P := fun d => ∃ xs, d = tI xs ∧ stB xs = true) 2 SS hr hS hns sc_law.nd dv_int ⟨20, rfl, by decide, by decide, fun xs h1 _ => ⟨xs, rfl, h1⟩⟩ (Nat.le_refl _) (by decide) (fun d ts1 p1 l1 => ?_))
  obtain ⟨xs, rfl, hx⟩ := p1
  have hl := stB_len hx
  have htl := txt_len hx
  have hso := num_strOk hx
  refine tb_cons (tr_set (d := .str (txtI xs)) 3 sc_law.nd rfl (by first | exact .inl rfl | exact .inr rfl) (dv_join (ys := xs.map numS) dv_str (Dl.dv ((dl_lcM (own := [("_law_heap", 5)]) (zs := xs) (fun x => PyData.str (numS x)) rfl sc_law.nd (blkOk_by (N := N_law) (sc := defScope s_law) (by decide +kernel))
    (wt_tup (j := 5) (emb := PyData.int) (vr 2 rfl)) (fun _ _ _ _ _ => pgn 5 sc_law.nd) (by decide) (by omega) (fun x m s H C cl fp => dv_strI (by rfl) B.str (vr 5 rfl) (num_log (by have := stB_all hx x m; omega) (by have := stB_all hx x m; omega)))).to (by rw [List.map_map] <;> rfl))) (by
      have := sum_len2 (ys := xs.map numS) (fun y hy => by
        obtain ⟨x, m, rfl⟩ := List.mem_map.mp hy
        have := stB_all hx x m
        exact num_len (by omega) (by omega))
      rw [List.length_map] at this ⊢
      show _ + xs.length * 1 ≤ _
      omega)) ?_)
  refine tb_no (Dw.dt (dw_orF (dt_neF (d := .str (txtI xs)) hu (dv_st FS hr (vr 2 rfl) hx) (vr 3 rfl) (sh_str hso).shaped)
    (dw_or1 (dt_neF (d := tI xs) hu (dv_call RD hr (by rfl) (da1 (vr 3 rfl)) ⟨.str (txtI xs), rfl, .inl ⟨txtI xs, xs, rfl, by omega, txt_pars hx, rfl⟩⟩) (vr 2 rfl) sh_tI.shaped)))) ?_
  have cz : ∀ {a b : Str} {n m : Nat}, a.length ≤ n → b.length ≤ m → n + m ≤ 1000 → a.length + b.length ≤ sizeLine := fun h1 h2 h3 => Nat.le_trans (Nat.le_trans (Nat.add_le_add h1 h2) h3) (by decide +kernel)
  refine tb_cons (tr_setM 4 sc_law.nd rfl (by first | exact .inl rfl | exact .inr rfl) (dl_lst (ds := oddsA (txtI xs)) (da_cons dv_non (da_cons dv_int (da_cons dv_str (da_cons dv_str (da_cons (dv_catS (vr 3 rfl) dv_str (cz (n := 60) (m := 3) htl (by decide +kernel) (by decide))) (da_cons (dv_catS dv_str (vr 3 rfl) (cz (n := 3) (m := 60) (by decide +kernel) htl (by decide)))
    (da_cons (dv_catS (vr 3 rfl) dv_str (cz (n := 60) (m := 3) htl (by decide +kernel) (by decide))) (da_cons (dv_catS dv_str (vr 3 rfl) (cz (n := 3) (m := 60) (by decide +kernel) htl (by decide))) (da_cons (dv_catS (vr 3 rfl) dv_str (cz (n := 60) (m := 3) htl (by decide +kernel) (by decide))) (da1 (dv_catS dv_str (vr 3 rfl) (cz (n := 3) (m := 60) (by decide +kernel) htl (by decide))))))))))))) (sz (by show 10 ≤ 1000000; decide))) ?_)
  refine tb_cons (tr_extV 4 (bm_ext 4) rfl (Dl.dv (dl_lst (ds := oddsB (txtI xs)) (da_cons (dv_catS (vr 3 rfl) dv_str (cz (n := 60) (m := 3) htl (by decide +kernel) (by decide))) (da_cons dv_str (da_cons dv_str (da_cons dv_str (da_cons dv_str (da_cons dv_str (da_strK (dk_catS (dk_repl (vr 3 rfl) (by show _ + _ * 1 ≤ _; omega)) dv_str (cz (n := 60) (m := 3) (by rw [dash_len]; exact htl) (by decide +kernel) (by decide)))))))))) (sz (by show 8 ≤ 1000000; decide)))) (by simp [oddsB, flatA, flatD]) (by show 10 + 8 ≤ sizeLine; decide +kernel) ?_)
  refine tb_cons (tr_extV 4 (bm_ext 4) rfl (Dl.dv (dl_lst (ds := oddsC) (da_cons dv_str (da_cons dv_str (da_cons dv_str (da_cons dv_str (da1 dv_str))))) (sz (by show 5 ≤ 1000000; decide)))) (by simp [oddsC, flatA, flatD]) (by show 18 + 5 ≤ sizeLine; decide +kernel) ?_)
  have hod := odds_no hx
  refine TrB.wkn (wkn_freeze (i := 4) rfl) ?_
  exact tb_one (tr_ret (dv_andT (dv_eqT (d := .list (List.replicate 23 (raisedD 6))) hu (Dl.dv ((dl_lcM (own := [("_law_odd", 6)]) (zs := oddsA (txtI xs) ++ oddsB (txtI xs) ++ oddsC) (fun _ => raisedD 6) rfl sc_law.nd (blkOk_by (N := N_law) (sc := defScope s_law) (by decide +kernel))
      (wt_list (j := 6) (emb := _root_.id) ((vr 4 rfl).to (by rw [List.map_id]))) (fun _ _ _ _ _ => pgn 6 sc_law.nd) (by decide) (by show 23 ≤ 10000000; decide) (fun v m s H C cl fp => dv_call RD hr (by rfl) (da1 (vr 6 rfl)) ⟨v, rfl, .inr ⟨hod v m, rfl⟩⟩)).to (map_rep _ _)))
    (Dl.dv ((dl_rep (k := 23) (Dl.dv (dl_lst (da1 (dv_tup (da_cons dv_str (da1 dv_int)) (sz (by show 2 ≤ 1000000; decide)))) (sz (by show 1 ≤ 1000000; decide)))) ((dv_lenL (by rfl) B.len (vr 4 rfl)).to rfl) (by decide) (by decide) (sz (by show 1 * 23 ≤ 1000000; decide))).to rfl)) (sh_raisedL 23 6).shaped)
    (dv_one (dv_eqT (d := tI [20]) hu (dv_call RD hr (by rfl) (da1 dv_str) ⟨.str "20", rfl, .inl ⟨"20", [20], rfl, by decide +kernel, by decide +kernel, rfl⟩⟩) (dv_tup (da1 dv_int) (sz (by show 1 ≤ 1000000; decide))) sh_tI.shaped))) hrt)
end
end Hr
namespace Hr
open PySem PySem.Spec PyProof.Rows L2
/-! ### what the top has written -/
theorem all_mk {l : PySem.W.OpenLaw} {w : World} {K : PySem.W.Frag} {h : Heap} {mg : Str → Option Value} {fa : Addr} (X : K.In h) (G : h.Ns mainGlobals mg) (hfa : mg "law" = some (.ref fa))
    {od0 an0 : Option Addr} {sl0 : Array (Option Value)} {oc0 kV0 dc0 pm0 cd0 ct0 : Value} {f0 : Addr}
    {od1 an1 : Option Addr} {sl1 : Array (Option Value)} {oc1 kV1 dc1 pm1 cd1 ct1 : Value} {f1 : Addr}
    {od2 an2 : Option Addr} {sl2 : Array (Option Value)} {oc2 kV2 dc2 pm2 cd2 ct2 : Value} {f2 : Addr}
    {od3 an3 : Option Addr} {sl3 : Array (Option Value)} {oc3 kV3 dc3 pm3 cd3 ct3 : Value} {f3 : Addr}
    {od4 an4 : Option Addr} {sl4 : Array (Option Value)} {oc4 kV4 dc4 pm4 cd4 ct4 : Value} {f4 : Addr}
    {od5 an5 : Option Addr} {sl5 : Array (Option Value)} {oc5 kV5 dc5 pm5 cd5 ct5 : Value} {f5 : Addr}
    {od6 an6 : Option Addr} {sl6 : Array (Option Value)} {oc6 kV6 dc6 pm6 cd6 ct6 : Value} {f6 : Addr}
    {od7 an7 : Option Addr} {sl7 : Array (Option Value)} {oc7 kV7 dc7 pm7 cd7 ct7 : Value} {f7 : Addr}
    {od8 an8 : Option Addr} {sl8 : Array (Option Value)} {oc8 kV8 dc8 pm8 cd8 ct8 : Value} {f8 : Addr}
    {od9 an9 : Option Addr} {sl9 : Array (Option Value)} {oc9 kV9 dc9 pm9 cd9 ct9 : Value} {f9 : Addr}
    {od10 an10 : Option Addr} {sl10 : Array (Option Value)} {oc10 kV10 dc10 pm10 cd10 ct10 : Value} {f10 : Addr}
    {od11 an11 : Option Addr} {sl11 : Array (Option Value)} {oc11 kV11 dc11 pm11 cd11 ct11 : Value} {f11 : Addr}
    {od12 an12 : Option Addr} {sl12 : Array (Option Value)} {oc12 kV12 dc12 pm12 cd12 ct12 : Value} {f12 : Addr}
    {od13 an13 : Option Addr} {sl13 : Array (Option Value)} {oc13 kV13 dc13 pm13 cd13 ct13 : Value} {f13 : Addr}
    {tM : Tok}
    {tG : Tok}
    {eE0 eE1 eE2 eE3 eE4 eE5 eE6 eE7 : Addr}
    (a0 : PySem.W.nsIn K mainGlobals "is_integer" = some (some (.ref f0))) (l0 : K.lookup f0 = some ⟨oc0, od0, .func (PySem.W.fnOf "is_integer" "is_integer" (defArgs s_is_integer) (defBody s_is_integer) (defScope s_is_integer) .none kV0 dc0 pm0 an0 cd0 ct0), sl0⟩) (c0 : PySem.W.codeIn K cd0 "is_integer" = true) (k0 : PySem.W.keepIn K (.ref f0) = true)
    (a1 : PySem.W.nsIn K mainGlobals "is_state" = some (some (.ref f1))) (l1 : K.lookup f1 = some ⟨oc1, od1, .func (PySem.W.fnOf "is_state" "is_state" (defArgs s_is_state) (defBody s_is_state) (defScope s_is_state) .none kV1 dc1 pm1 an1 cd1 ct1), sl1⟩) (c1 : PySem.W.codeIn K cd1 "is_state" = true) (k1 : PySem.W.keepIn K (.ref f1) = true)
    (a2 : PySem.W.nsIn K mainGlobals "check_state" = some (some (.ref f2))) (l2 : K.lookup f2 = some ⟨oc2, od2, .func (PySem.W.fnOf "check_state" "check_state" (defArgs s_check_state) (defBody s_check_state) (defScope s_check_state) .none kV2 dc2 pm2 an2 cd2 ct2), sl2⟩) (c2 : PySem.W.codeIn K cd2 "check_state" = true) (k2 : PySem.W.keepIn K (.ref f2) = true)
    (a3 : PySem.W.nsIn K mainGlobals "text_of" = some (some (.ref f3))) (l3 : K.lookup f3 = some ⟨oc3, od3, .func (PySem.W.fnOf "text_of" "text_of" (defArgs s_text_of) (defBody s_text_of) (defScope s_text_of) .none kV3 dc3 pm3 an3 cd3 ct3), sl3⟩) (c3 : PySem.W.codeIn K cd3 "text_of" = true) (k3 : PySem.W.keepIn K (.ref f3) = true)
    (a4 : PySem.W.nsIn K mainGlobals "format_state" = some (some (.ref f4))) (l4 : K.lookup f4 = some ⟨oc4, od4, .func (PySem.W.fnOf "format_state" "format_state" (defArgs s_format_state) (defBody s_format_state) (defScope s_format_state) .none kV4 dc4 pm4 an4 cd4 ct4), sl4⟩) (c4 : PySem.W.codeIn K cd4 "format_state" = true) (k4 : PySem.W.keepIn K (.ref f4) = true)
    (a5 : PySem.W.nsIn K mainGlobals "parse_state" = some (some (.ref f5))) (l5 : K.lookup f5 = some ⟨oc5, od5, .func (PySem.W.fnOf "parse_state" "parse_state" (defArgs s_parse_state) (defBody s_parse_state) (defScope s_parse_state) .none kV5 dc5 pm5 an5 cd5 ct5), sl5⟩) (c5 : PySem.W.codeIn K cd5 "parse_state" = true) (k5 : PySem.W.keepIn K (.ref f5) = true)
    (a6 : PySem.W.nsIn K mainGlobals "_law_cell_at" = some (some (.ref f6))) (l6 : K.lookup f6 = some ⟨oc6, od6, .func (PySem.W.fnOf "_law_cell_at" "_law_cell_at" (defArgs s_l_cell_at) (defBody s_l_cell_at) (defScope s_l_cell_at) .none kV6 dc6 pm6 an6 cd6 ct6), sl6⟩) (c6 : PySem.W.codeIn K cd6 "_law_cell_at" = true) (k6 : PySem.W.keepIn K (.ref f6) = true)
    (a7 : PySem.W.nsIn K mainGlobals "_law_mixed" = some (some (.ref f7))) (l7 : K.lookup f7 = some ⟨oc7, od7, .func (PySem.W.fnOf "_law_mixed" "_law_mixed" (defArgs s_l_mixed) (defBody s_l_mixed) (defScope s_l_mixed) .none kV7 dc7 pm7 an7 cd7 ct7), sl7⟩) (c7 : PySem.W.codeIn K cd7 "_law_mixed" = true) (k7 : PySem.W.keepIn K (.ref f7) = true)
    (a8 : PySem.W.nsIn K mainGlobals "_law_draw" = some (some (.ref f8))) (l8 : K.lookup f8 = some ⟨oc8, od8, .func (PySem.W.fnOf "_law_draw" "_law_draw" (defArgs s_l_draw) (defBody s_l_draw) (defScope s_l_draw) .none kV8 dc8 pm8 an8 cd8 ct8), sl8⟩) (c8 : PySem.W.codeIn K cd8 "_law_draw" = true) (k8 : PySem.W.keepIn K (.ref f8) = true)
    (a9 : PySem.W.nsIn K mainGlobals "_law_in_order" = some (some (.ref f9))) (l9 : K.lookup f9 = some ⟨oc9, od9, .func (PySem.W.fnOf "_law_in_order" "_law_in_order" (defArgs s_l_in_order) (defBody s_l_in_order) (defScope s_l_in_order) .none kV9 dc9 pm9 an9 cd9 ct9), sl9⟩) (c9 : PySem.W.codeIn K cd9 "_law_in_order" = true) (k9 : PySem.W.keepIn K (.ref f9) = true)
    (a10 : PySem.W.nsIn K mainGlobals "_law_some_state" = some (some (.ref f10))) (l10 : K.lookup f10 = some ⟨oc10, od10, .func (PySem.W.fnOf "_law_some_state" "_law_some_state" (defArgs s_l_some_state) (defBody s_l_some_state) (defScope s_l_some_state) .none kV10 dc10 pm10 an10 cd10 ct10), sl10⟩) (c10 : PySem.W.codeIn K cd10 "_law_some_state" = true) (k10 : PySem.W.keepIn K (.ref f10) = true)
    (a11 : PySem.W.nsIn K mainGlobals "_law_which" = some (some (.ref f11))) (l11 : K.lookup f11 = some ⟨oc11, od11, .func (PySem.W.fnOf "_law_which" "_law_which" (defArgs s_l_which) (defBody s_l_which) (defScope s_l_which) .none kV11 dc11 pm11 an11 cd11 ct11), sl11⟩) (c11 : PySem.W.codeIn K cd11 "_law_which" = true) (k11 : PySem.W.keepIn K (.ref f11) = true)
    (a12 : PySem.W.nsIn K mainGlobals "_law_read" = some (some (.ref f12))) (l12 : K.lookup f12 = some ⟨oc12, od12, .func (PySem.W.fnOf "_law_read" "_law_read" (defArgs s_l_read) (defBody s_l_read) (defScope s_l_read) .none kV12 dc12 pm12 an12 cd12 ct12), sl12⟩) (c12 : PySem.W.codeIn K cd12 "_law_read" = true) (k12 : PySem.W.keepIn K (.ref f12) = true)
    (a13 : PySem.W.nsIn K mainGlobals "law" = some (some (.ref f13))) (l13 : K.lookup f13 = some ⟨oc13, od13, .func (PySem.W.fnOf "law" "law" (defArgs s_law) (defBody s_law) (defScope s_law) .none kV13 dc13 pm13 an13 cd13 ct13), sl13⟩) (c13 : PySem.W.codeIn K cd13 "law" = true) (k13 : PySem.W.keepIn K (.ref f13) = true)
    (aM : PySem.W.nsIn K mainGlobals "MOST" = some (some (.int 20 tM)))
    (aG : PySem.W.nsIn K mainGlobals "DIGITS" = some (some (.str "0123456789" tG)))
    (aE0 : PySem.W.nsIn K mainGlobals "InvalidState" = some (some (.ref eE0)))
    (aE1 : PySem.W.nsIn K mainGlobals "InvalidNumber" = some (some (.ref eE1)))
    (aE2 : PySem.W.nsIn K mainGlobals "InvalidMarks" = some (some (.ref eE2)))
    (aE3 : PySem.W.nsIn K mainGlobals "DoesNotReturn" = some (some (.ref eE3)))
    (aE4 : PySem.W.nsIn K mainGlobals "NotReached" = some (some (.ref eE4)))
    (aE5 : PySem.W.nsIn K mainGlobals "NothingToUndo" = some (some (.ref eE5)))
    (aE6 : PySem.W.nsIn K mainGlobals "ParseError" = some (some (.ref eE6)))
    (aE7 : PySem.W.nsIn K mainGlobals "HeapError" = some (some (.ref eE7)))
    (tE0 : PySem.W.typeIn K (.ref eE0) = some (.type "type"))
    (hE0 : PySem.W.hasDictIn K eE0 = true)
    (tE1 : PySem.W.typeIn K (.ref eE1) = some (.type "type"))
    (hE1 : PySem.W.hasDictIn K eE1 = true)
    (tE2 : PySem.W.typeIn K (.ref eE2) = some (.type "type"))
    (hE2 : PySem.W.hasDictIn K eE2 = true)
    (tE3 : PySem.W.typeIn K (.ref eE3) = some (.type "type"))
    (hE3 : PySem.W.hasDictIn K eE3 = true)
    (tE4 : PySem.W.typeIn K (.ref eE4) = some (.type "type"))
    (hE4 : PySem.W.hasDictIn K eE4 = true)
    (tE5 : PySem.W.typeIn K (.ref eE5) = some (.type "type"))
    (hE5 : PySem.W.hasDictIn K eE5 = true)
    (tE6 : PySem.W.typeIn K (.ref eE6) = some (.type "type"))
    (hE6 : PySem.W.hasDictIn K eE6 = true)
    (tE7 : PySem.W.typeIn K (.ref eE7) = some (.type "type"))
    (hE7 : PySem.W.hasDictIn K eE7 = true)
    (bE7 : PySem.W.subIn K (.ref eE7) (.type "BaseException") = some true)
    (snE : PySem.W.specialIn K (.builtin "object.__class__") "__get__" = some (some (.builtin "getset_descriptor.__get__")))
    (tkE : PySem.W.takesIn K (.builtin "object.__class__") = some true)
    (zVE : PySem.W.nsIn K mainGlobals "ValueError" = some none)
    (xE6 : PySem.W.excIn K eE6 [.type "ValueError", .type "Exception", .type "BaseException", .type "object"] "ValueError.__new__" = true)
    (kE6 : PySem.W.keepIn K (.ref eE6) = true)
    (bE6 : PySem.W.subIn K (.ref eE6) (.type "BaseException") = some true)
    (gaE6 : PySem.W.findIn K (.ref eE6) "__getattribute__" = some (some (.builtin "BaseException.__getattribute__")))
    (ggE6 : PySem.W.findIn K (.ref eE6) "__getattr__" = some none)
    (caE6 : PySem.W.findIn K (.ref eE6) "__class__" = some (some (.builtin "object.__class__")))
    (moE6 : PySem.W.mroIn K eE6 (.type "object") = some true)
    (vE6 : PySem.W.subIn K (.ref eE6) (.type "ValueError") = some true)
    (sE6_0 : PySem.W.subIn K (.ref eE6) (.ref eE0) = some false)
    (sE6_1 : PySem.W.subIn K (.ref eE6) (.ref eE1) = some false)
    (sE6_2 : PySem.W.subIn K (.ref eE6) (.ref eE2) = some false)
    (sE6_3 : PySem.W.subIn K (.ref eE6) (.ref eE3) = some false)
    (sE6_4 : PySem.W.subIn K (.ref eE6) (.ref eE4) = some false)
    (sE6_5 : PySem.W.subIn K (.ref eE6) (.ref eE5) = some false)
    (sE6_6 : PySem.W.subIn K (.ref eE6) (.ref eE6) = some true)
    (sE6_7 : PySem.W.subIn K (.ref eE6) (.ref eE7) = some true)
    (z_len : PySem.W.nsIn K mainGlobals "len" = some none)
    (z_sum : PySem.W.nsIn K mainGlobals "sum" = some none)
    (z_tuple : PySem.W.nsIn K mainGlobals "tuple" = some none)
    (z_sorted : PySem.W.nsIn K mainGlobals "sorted" = some none)
    (z_range : PySem.W.nsIn K mainGlobals "range" = some none)
    (z_min : PySem.W.nsIn K mainGlobals "min" = some none)
    (z_max : PySem.W.nsIn K mainGlobals "max" = some none)
    (z_all : PySem.W.nsIn K mainGlobals "all" = some none)
    (z_isinstance : PySem.W.nsIn K mainGlobals "isinstance" = some none)
    (z_int : PySem.W.nsIn K mainGlobals "int" = some none)
    (z_bool : PySem.W.nsIn K mainGlobals "bool" = some none)
    (z_str : PySem.W.nsIn K mainGlobals "str" = some none)
    (z_list : PySem.W.nsIn K mainGlobals "list" = some none)
    (z_zip : PySem.W.nsIn K mainGlobals "zip" = some none)
    (z_enumerate : PySem.W.nsIn K mainGlobals "enumerate" = some none)
    (z_set : PySem.W.nsIn K mainGlobals "set" = some none) :
    ∃ fd : FuncData, (∀ (s : Shared) (v : Value), BindsTo s fd ⟨[v], []⟩ [("_law_script", v)]) ∧ ∀ base : Heap, K.In base → base.Ns mainGlobals mg → FnOk l.prog w K mg base (L2N.CX l.prog w) 5 fa fd ["_law_script"] (spLaw K) := by
  have e := hfa.symm.trans (PySem.W.mg_of X G a13)
  cases e
  have B : Bi mg := ⟨PySem.W.mg_none_of X G z_len, PySem.W.mg_none_of X G z_sum, PySem.W.mg_none_of X G z_tuple, PySem.W.mg_none_of X G z_sorted, PySem.W.mg_none_of X G z_range, PySem.W.mg_none_of X G z_min, PySem.W.mg_none_of X G z_max, PySem.W.mg_none_of X G z_all, PySem.W.mg_none_of X G z_isinstance, PySem.W.mg_none_of X G z_int, PySem.W.mg_none_of X G z_bool, PySem.W.mg_none_of X G z_str, PySem.W.mg_none_of X G z_list, PySem.W.mg_none_of X G z_zip, PySem.W.mg_none_of X G z_enumerate, PySem.W.mg_none_of X G z_set⟩
  have M : ∃ t, mg "MOST" = some (.int 20 t) := ⟨tM, PySem.W.mg_of X G aM⟩
  have DG : ∃ t, mg "DIGITS" = some (.str "0123456789" t) := ⟨tG, PySem.W.mg_of X G aG⟩
  have d0 : Df K mg "is_integer" s_is_integer := df_mk X G a0 l0 c0 k0
  have d1 : Df K mg "is_state" s_is_state := df_mk X G a1 l1 c1 k1
  have d2 : Df K mg "check_state" s_check_state := df_mk X G a2 l2 c2 k2
  have d3 : Df K mg "text_of" s_text_of := df_mk X G a3 l3 c3 k3
  have d4 : Df K mg "format_state" s_format_state := df_mk X G a4 l4 c4 k4
  have d5 : Df K mg "parse_state" s_parse_state := df_mk X G a5 l5 c5 k5
  have d6 : Df K mg "_law_cell_at" s_l_cell_at := df_mk X G a6 l6 c6 k6
  have d7 : Df K mg "_law_mixed" s_l_mixed := df_mk X G a7 l7 c7 k7
  have d8 : Df K mg "_law_draw" s_l_draw := df_mk X G a8 l8 c8 k8
  have d9 : Df K mg "_law_in_order" s_l_in_order := df_mk X G a9 l9 c9 k9
  have d10 : Df K mg "_law_some_state" s_l_some_state := df_mk X G a10 l10 c10 k10
  have d11 : Df K mg "_law_which" s_l_which := df_mk X G a11 l11 c11 k11
  have d12 : Df K mg "_law_read" s_l_read := df_mk X G a12 l12 c12 k12
  have X6 : Exk K mg "ParseError" 6 := ⟨by decide, eE6, ⟨PySem.W.mg_of X G aE6, xE6, kE6, bE6, tE6⟩, ⟨⟨gaE6, ggE6, bE6, hE6, caE6, snE, tkE, moE6⟩, fun j hj => match j, hj with | 0, _ => ⟨_, PySem.W.mg_of X G aE0, kit_other tE0 hE0 sE6_0 sE6_6⟩ | 1, _ => ⟨_, PySem.W.mg_of X G aE1, kit_other tE1 hE1 sE6_1 sE6_6⟩ | 2, _ => ⟨_, PySem.W.mg_of X G aE2, kit_other tE2 hE2 sE6_2 sE6_6⟩ | 3, _ => ⟨_, PySem.W.mg_of X G aE3, kit_other tE3 hE3 sE6_3 sE6_6⟩ | 4, _ => ⟨_, PySem.W.mg_of X G aE4, kit_other tE4 hE4 sE6_4 sE6_6⟩ | 5, _ => ⟨_, PySem.W.mg_of X G aE5, kit_other tE5 hE5 sE6_5 sE6_6⟩ | 6, _ => ⟨_, PySem.W.mg_of X G aE6, kit_other tE6 hE6 sE6_6 sE6_6⟩ | n + 7, h => absurd h (by omega), kit_ve (by decide +kernel) vE6, PySem.W.mg_none_of X G zVE, ⟨eE7, PySem.W.mg_of X G aE7, PySem.W.exm_ref bE7 hE7 tE7 sE6_7⟩⟩⟩
  have k_l_cell_at := fun base : Heap => kn_l_cell_at (P := l.prog) (w := w) (base := base) d6 B
  have k_l_mixed := fun base : Heap => kn_l_mixed (P := l.prog) (w := w) (base := base) d7 B (k_l_cell_at base)
  have k_l_draw := fun base : Heap => kn_l_draw (P := l.prog) (w := w) (base := base) d8 B (k_l_mixed base)
  have k_l_in_order := fun base : Heap => kn_l_in_order (P := l.prog) (w := w) (base := base) d9 B
  have k_l_some_state := fun base : Heap => kn_l_some_state (P := l.prog) (w := w) (base := base) d10 B (k_l_draw base) (k_l_in_order base)
  have k_is_integer := fun base : Heap => kn_is_integer (P := l.prog) (w := w) (base := base) d0 B
  have k_is_state := fun base : Heap => kn_is_state (P := l.prog) (w := w) (base := base) d1 B M (k_is_integer base)
  have k_check_state := fun base : Heap => kn_check_state (P := l.prog) (w := w) (base := base) d2 (k_is_state base)
  have k_text_of := fun base : Heap => kn_text_of (P := l.prog) (w := w) (base := base) d3 B
  have k_format_state := fun base : Heap => kn_format_state (P := l.prog) (w := w) (base := base) d4 (k_check_state base) (k_text_of base)
  have k_l_which := fun base : Heap => kn_l_which (P := l.prog) (w := w) (base := base) d11 B
  have k_parse_state := fun base : Heap => kn_parse_state (P := l.prog) (w := w) (base := base) d5 B DG (k_is_state base)
  have k_parse_state_e := fun base : Heap => kn_parse_state_e (P := l.prog) (w := w) (base := base) d5 B DG (k_is_state base) X6
  have k_l_read := fun base : Heap => kn_l_read (P := l.prog) (w := w) (base := base) d12 X6 (k_l_which base) (k_parse_state base) (k_parse_state_e base)
  exact ⟨PySem.W.fnOf "law" "law" (defArgs s_law) (defBody s_law) (defScope s_law) .none kV13 dc13 pm13 an13 cd13 ct13, fun s v => .of_eq rfl, fun base _ _ => ok_law_k09 (fun_mk (st := s_law) l13 c13 k13) B (k_l_some_state base) (k_format_state base) (k_l_read base)⟩
end Hr
open PySem PySem.W PyProof.Rows in
set_option maxRecDepth 100000 in
set_option maxHeartbeats 0 in
theorem PySem.Challenge.cw_heapround_k09_whole_formatting_holds : PySem.Challenge.rw_heapround_k09_whole_formatting.Holds := by
  w_on; o_law; k_head; (case hw => w_witness2)
  k_fill
  refine L2.walk_of (l := PySem.Challenge.rw_heapround_k09_whole_formatting) (n := 63) (k := 5) (x := "_law_script") (CX := fun w => L2N.CX (PySem.Challenge.rw_heapround_k09_whole_formatting).prog w) (sp := fun w => Hr.spLaw _) rfl (by decide) rfl ⟨rfl, by decide, by decide⟩ (fun w h Y => PySem.W.kIn_of Y) ?F (fun _ _ a ns hl hO hS => ⟨a, ns, rfl, Hr.Scr.of hO hS, Nat.le_trans hl (by decide), fun _ => rfl⟩) (fun _ _ _ _ _ h => by obtain ⟨_, _, _, _, _, _, _, _, _, _, _, _, h⟩ := h; exact h)
  case F =>
    intro w mg fa h KX G hmg
    refine' Hr.all_mk (l := PySem.Challenge.rw_heapround_k09_whole_formatting) KX G hmg ?a0 ?l0 ?c0 ?k0 ?a1 ?l1 ?c1 ?k1 ?a2 ?l2 ?c2 ?k2 ?a3 ?l3 ?c3 ?k3 ?a4 ?l4 ?c4 ?k4 ?a5 ?l5 ?c5 ?k5 ?a6 ?l6 ?c6 ?k6 ?a7 ?l7 ?c7 ?k7 ?a8 ?l8 ?c8 ?k8 ?a9 ?l9 ?c9 ?k9 ?a10 ?l10 ?c10 ?k10 ?a11 ?l11 ?c11 ?k11 ?a12 ?l12 ?c12 ?k12 ?a13 ?l13 ?c13 ?k13 ?aM ?aG ?aE0 ?aE1 ?aE2 ?aE3 ?aE4 ?aE5 ?aE6 ?aE7 ?tE0 ?hE0 ?tE1 ?hE1 ?tE2 ?hE2 ?tE3 ?hE3 ?tE4 ?hE4 ?tE5 ?hE5 ?tE6 ?hE6 ?tE7 ?hE7 ?bE7 ?snE ?tkE ?zVE ?xE6 ?kE6 ?bE6 ?gaE6 ?ggE6 ?caE6 ?moE6 ?vE6 ?sE6_0 ?sE6_1 ?sE6_2 ?sE6_3 ?sE6_4 ?sE6_5 ?sE6_6 ?sE6_7 ?z_len ?z_sum ?z_tuple ?z_sorted ?z_range ?z_min ?z_max ?z_all ?z_isinstance ?z_int ?z_bool ?z_str ?z_list ?z_zip ?z_enumerate ?z_set
    (case a0 => k_is)
    (case l0 => k_is)
    (case c0 => k_is)
    (case k0 => k_is)
    (case a1 => k_is)
    (case l1 => k_is)
    (case c1 => k_is)
    (case k1 => k_is)
    (case a2 => k_is)
    (case l2 => k_is)
    (case c2 => k_is)
    (case k2 => k_is)
    (case a3 => k_is)
    (case l3 => k_is)
    (case c3 => k_is)
    (case k3 => k_is)
    (case a4 => k_is)
    (case l4 => k_is)
    (case c4 => k_is)
    (case k4 => k_is)
    (case a5 => k_is)
    (case l5 => k_is)
    (case c5 => k_is)
    (case k5 => k_is)
    (case a6 => k_is)
    (case l6 => k_is)
    (case c6 => k_is)
    (case k6 => k_is)
    (case a7 => k_is)
    (case l7 => k_is)
    (case c7 => k_is)
    (case k7 => k_is)
    (case a8 => k_is)
    (case l8 => k_is)
    (case c8 => k_is)
    (case k8 => k_is)
    (case a9 => k_is)
    (case l9 => k_is)
    (case c9 => k_is)
    (case k9 => k_is)
    (case a10 => k_is)
    (case l10 => k_is)
    (case c10 => k_is)
    (case k10 => k_is)
    (case a11 => k_is)
    (case l11 => k_is)
    (case c11 => k_is)
    (case k11 => k_is)
    (case a12 => k_is)
    (case l12 => k_is)
    (case c12 => k_is)
    (case k12 => k_is)
    (case a13 => k_is)
    (case l13 => k_is)
    (case c13 => k_is)
    (case k13 => k_is)
    (case aM => k_is)
    (case aG => k_is)
    (case aE0 => k_is)
    (case aE1 => k_is)
    (case aE2 => k_is)
    (case aE3 => k_is)
    (case aE4 => k_is)
    (case aE5 => k_is)
    (case aE6 => k_is)
    (case aE7 => k_is)
    (case tE0 => k_is)
    (case hE0 => k_is)
    (case tE1 => k_is)
    (case hE1 => k_is)
    (case tE2 => k_is)
    (case hE2 => k_is)
    (case tE3 => k_is)
    (case hE3 => k_is)
    (case tE4 => k_is)
    (case hE4 => k_is)
    (case tE5 => k_is)
    (case hE5 => k_is)
    (case tE6 => k_is)
    (case hE6 => k_is)
    (case tE7 => k_is)
    (case hE7 => k_is)
    (case bE7 => k_is)
    (case snE => k_is)
    (case tkE => k_is)
    (case zVE => k_is)
    (case xE6 => k_exc)
    (case kE6 => k_is)
    (case bE6 => k_is)
    (case gaE6 => k_is)
    (case ggE6 => k_is)
    (case caE6 => k_is)
    (case moE6 => k_is)
    (case vE6 => k_is)
    (case sE6_0 => k_is)
    (case sE6_1 => k_is)
    (case sE6_2 => k_is)
    (case sE6_3 => k_is)
    (case sE6_4 => k_is)
    (case sE6_5 => k_is)
    (case sE6_6 => first | rfl | k_is)
    (case sE6_7 => k_is)
    (case z_len => k_is)
    (case z_sum => k_is)
    (case z_tuple => k_is)
    (case z_sorted => k_is)
    (case z_range => k_is)
    (case z_min => k_is)
    (case z_max => k_is)
    (case z_all => k_is)
    (case z_isinstance => k_is)
    (case z_int => k_is)
    (case z_bool => k_is)
    (case z_str => k_is)
    (case z_list => k_is)
    (case z_zip => k_is)
    (case z_enumerate => k_is)
    (case z_set => k_is)
#print axioms PySem.Challenge.cw_heapround_k09_whole_formatting_holds
