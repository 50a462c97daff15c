import PyProof.Rows.All
import Wide.All
import OpenK.AllK
import Wide.FinOn
import HandS.ForMost
import HandS.Exc
import HandS.TryOnly
import HandS.ExcOwn
import HandS.WordsExc
import HandS.ExcInit
import HandS.ExcField
import HandS.IsInst
import HandS.Walk
import HandS.Zip
import HandS.TupAny
import HandS.TupLe
import HandS.TupSets
import HandS.Conv
import HandS.Wide
import HandS.FStr
import HandS.Strs
import HandS.SortInts
import HandS.Codes
import HandS.Small
import PySem.Challenge.RW_firstneed_k70_whole_numbers_states_and_t
import KE.SortData
import HandS.SetFor
import HandS.Text
import HandS.TupLen
import HandS.Iter
import KE.KDictWalk
import HandS.ForSpec
import PyProof.ReprRoads
import HandS.Lambda
import HandS.Style
import HandS.EndTab
import HandS.ForExc
set_option Elab.async false
set_option linter.all false
set_option maxRecDepth 100000
/-! Data over the layer: a value that reads as a datum of any depth (dicts too), and judgements that say to which datum an expression comes. -/
namespace K7
open PySem PySem.Spec PyProof.Rows L2

/-! ### a value is a datum -/
def kD : Key → PyData
  | .inl i => .int i
  | .inr x => .str x
def keyD (k : List Key) : PyData := .tuple (k.map kD)
mutual
inductive Da (K : PySem.W.Frag) (H : Hp) : V → PyData → Prop
  | non : Da K H V.non PyData.none
  | bl (b : Bool) : Da K H (V.bl b) (PyData.bool b)
  | int (n : Int) : Da K H (V.int n) (PyData.int n)
  | str (z : Str) : Da K H (V.str z) (PyData.str z)
  | lst {p : Addr} {vs : List V} {es : List PyData} (h1 : SqL K H p vs) (h2 : DaAll K H vs es) : Da K H (V.ref p) (PyData.list es)
  | tup {p : Addr} {vs : List V} {es : List PyData} (h1 : H p = some (.tup vs)) (h2 : DaAll K H vs es) : Da K H (V.ref p) (PyData.tuple es)
  | dct {p : Addr} {kvs : List (List Key × V)} {es : List PyData} (h1 : H p = some (.dT kvs)) (h2 : DaAll K H (kvs.map Prod.snd) es) : Da K H (V.ref p) (PyData.dict ((kvs.map fun q => keyD q.1).zip es))
inductive DaAll (K : PySem.W.Frag) (H : Hp) : List V → List PyData → Prop
  | nil : DaAll K H [] []
  | cons {v : V} {vs : List V} {e : PyData} {es : List PyData} (h1 : Da K H v e) (h2 : DaAll K H vs es) : DaAll K H (v :: vs) (e :: es)
end

theorem same_rd {H H' : Hp} {a : Addr} {u : HO} (e : Same H H') (r : Rd H a u) : Rd H' a u := by
  rcases r with r | ⟨o, r⟩
  · exact .inl (e _ _ r)
  · exact .inr ⟨o, e _ _ r⟩
theorem same_t {K : PySem.W.Frag} {H H' : Hp} {a : Addr} {vs : List V} (e : Same H H') (r : SqT K H a vs) : SqT K H' a vs := by
  rcases r with r | r
  · exact .inl (same_rd e r)
  · exact .inr r
theorem same_new {H : Hp} {p : Addr} {o : HO} (h : H p = none) : Same H (upd H p o) := fun b u e => by
  rw [upd_ne (ne_of_none e h)]
  exact e
theorem same_mut {H H' : Hp} {p : Addr} {o : HO} (e : Same H H') (h : H p = none) : Same H (upd H' p o) := fun b u q => by
  rw [upd_ne (ne_of_none q h)]
  exact e _ _ q
mutual
theorem Da.mono {K : PySem.W.Frag} {H H' : Hp} (e : Same H H') : ∀ {v : V} {d : PyData}, Da K H v d → Da K H' v d
  | _, _, .non => .non
  | _, _, .bl b => .bl b
  | _, _, .int n => .int n
  | _, _, .str z => .str z
  | _, _, .lst h1 h2 => .lst (e.seq h1) (DaAll.mono e h2)
  | _, _, .tup h1 h2 => .tup (e _ _ h1) (DaAll.mono e h2)
  | _, _, .dct h1 h2 => .dct (e _ _ h1) (DaAll.mono e h2)
theorem DaAll.mono {K : PySem.W.Frag} {H H' : Hp} (e : Same H H') : ∀ {vs : List V} {ds : List PyData}, DaAll K H vs ds → DaAll K H' vs ds
  | _, _, .nil => .nil
  | _, _, .cons h1 h2 => .cons (Da.mono e h1) (DaAll.mono e h2)
end
theorem DaAll.length {K : PySem.W.Frag} {H : Hp} : ∀ {vs : List V} {ds : List PyData}, DaAll K H vs ds → vs.length = ds.length
  | _, _, .nil => rfl
  | _, _, .cons _ h => by rw [List.length_cons, List.length_cons, DaAll.length h]
theorem DaAll.at {K : PySem.W.Frag} {H : Hp} : ∀ {vs : List V} {ds : List PyData} {i : Nat} {d : PyData}, DaAll K H vs ds → ds[i]? = some d → ∃ v, vs[i]? = some v ∧ Da K H v d
  | _, _, _, _, .nil, e => by simp at e
  | _, _, 0, d, .cons h1 _, e => by
    have e' := Option.some.inj e
    subst e'
    exact ⟨_, rfl, h1⟩
  | _, _, i + 1, d, .cons _ h2, e => by
    obtain ⟨v, e1, q⟩ := DaAll.at (i := i) h2 (by simpa using e)
    exact ⟨v, by simpa using e1, q⟩
theorem DaAll.at' {K : PySem.W.Frag} {H : Hp} : ∀ {vs : List V} {ds : List PyData} {i : Nat} {v : V}, DaAll K H vs ds → vs[i]? = some v → ∃ d, ds[i]? = some d ∧ Da K H v d
  | _, _, _, _, .nil, e => by simp at e
  | _, _, 0, v, .cons h1 _, e => by
    have e' := Option.some.inj e
    subst e'
    exact ⟨_, rfl, h1⟩
  | _, _, i + 1, v, .cons _ h2, e => by
    obtain ⟨d, e1, q⟩ := DaAll.at' (i := i) h2 (by simpa using e)
    exact ⟨d, by simpa using e1, q⟩
theorem DaAll.snoc {K : PySem.W.Frag} {H : Hp} : ∀ {vs : List V} {ds : List PyData} {v : V} {d : PyData}, DaAll K H vs ds → Da K H v d → DaAll K H (vs ++ [v]) (ds ++ [d])
  | _, _, _, _, .nil, q => .cons q .nil
  | _, _, _, _, .cons h1 h2, q => .cons h1 (DaAll.snoc h2 q)
theorem DaAll.app {K : PySem.W.Frag} {H : Hp} : ∀ {vs ws : List V} {ds es : List PyData}, DaAll K H vs ds → DaAll K H ws es → DaAll K H (vs ++ ws) (ds ++ es)
  | _, _, _, _, .nil, q => q
  | _, _, _, _, .cons h1 h2, q => .cons h1 (DaAll.app h2 q)

mutual
/-- no list, no dict anywhere in it -/
def imm : PyData → Bool
  | .tuple es => immAll es
  | .list _ => false
  | .dict _ => false
  | _ => true
def immAll : List PyData → Bool
  | [] => true
  | d :: ds => imm d && immAll ds
end
mutual
theorem Da.write {K : PySem.W.Frag} {H : Hp} {p : Addr} {u o : HO} (hp : H p = some u) (hu : Mut (some u)) : ∀ {v : V} {d : PyData}, imm d = true → Da K H v d → Da K (upd H p o) v d
  | _, _, _, .non => .non
  | _, _, _, .bl b => .bl b
  | _, _, _, .int n => .int n
  | _, _, _, .str z => .str z
  | _, _, hi, .lst _ _ => by simp [imm] at hi
  | _, _, hi, .tup (p := q) h1 h2 => .tup (by
      rw [upd_ne (ne_of h1 hp (by rintro rfl; exact hu))]
      exact h1) (DaAll.write hp hu (by simpa [imm] using hi) h2)
  | _, _, hi, .dct _ _ => by simp [imm] at hi
theorem DaAll.write {K : PySem.W.Frag} {H : Hp} {p : Addr} {u o : HO} (hp : H p = some u) (hu : Mut (some u)) : ∀ {vs : List V} {ds : List PyData}, immAll ds = true → DaAll K H vs ds → DaAll K (upd H p o) vs ds
  | _, _, _, .nil => .nil
  | _ :: _, e0 :: es0, hi, .cons h1 h2 => by
    have hi' : imm e0 = true ∧ immAll es0 = true := by simpa [immAll] using hi
    exact .cons (Da.write hp hu hi'.1 h1) (DaAll.write hp hu hi'.2 h2)
end
theorem immAll_mem : ∀ {ds : List PyData}, (∀ d ∈ ds, imm d = true) → immAll ds = true
  | [], _ => by simp [immAll]
  | d :: ds, h => by
    simp only [immAll, Bool.and_eq_true]
    exact ⟨h d (List.mem_cons_self ..), immAll_mem fun e he => h e (List.mem_cons_of_mem _ he)⟩

/-! ### slots -/
abbrev Sk := List (Option PyData)
/-- what the slots hold, as data -/
structure Sl (K : PySem.W.Frag) (σ : L2.St) (H : Hp) (l : Sk) : Prop where
  len : σ.length = l.length
  has : ∀ (i : Nat) (d : PyData), l[i]? = some (some d) → ∃ x, σ[i]? = some (some x) ∧ Da K H x d
theorem Sl.mono {K : PySem.W.Frag} {σ : L2.St} {H H' : Hp} {l : Sk} (s : Sl K σ H l) (e : Same H H') : Sl K σ H' l := ⟨s.len, fun i d q => by
  obtain ⟨x, e1, e2⟩ := s.has i d q
  exact ⟨x, e1, e2.mono e⟩⟩
theorem Sl.set {K : PySem.W.Frag} {σ : L2.St} {H : Hp} {l : Sk} (s : Sl K σ H l) (i : Nat) {x : V} {d : PyData} (h : Da K H x d) : Sl K (σ.set i (some x)) H (l.set i (some d)) := by
  refine ⟨by rw [List.length_set, List.length_set, s.len], fun j e q => ?_⟩
  by_cases hj : i = j
  · subst hj
    by_cases hl : i < l.length
    · rw [List.getElem?_set_self hl] at q
      have q' := Option.some.inj (Option.some.inj q)
      subst q'
      exact ⟨x, by rw [List.getElem?_set_self (by rw [s.len]; exact hl)], h⟩
    · rw [List.getElem?_eq_none (by rw [List.length_set]; omega)] at q
      cases q
  · rw [List.getElem?_set_ne hj] at q ⊢
    exact s.has j e q
/-- a slot of which nothing is known any more -/
theorem Sl.unset {K : PySem.W.Frag} {σ : L2.St} {H : Hp} {l : Sk} (s : Sl K σ H l) (i : Nat) {x : Option V} : Sl K (σ.set i x) H (l.set i none) := by
  refine ⟨by rw [List.length_set, List.length_set, s.len], fun j e q => ?_⟩
  by_cases hj : i = j
  · subst hj
    by_cases hl : i < l.length
    · rw [List.getElem?_set_self hl] at q
      cases Option.some.inj q
    · rw [List.getElem?_eq_none (by rw [List.length_set]; omega)] at q
      cases q
  · rw [List.getElem?_set_ne hj] at q ⊢
    exact s.has j e q
def wipeK (l : Sk) : List Nat → Sk
  | [] => l
  | v :: vs => (wipeK l vs).set v none
theorem Sl.wipe {K : PySem.W.Frag} {σ : L2.St} {H : Hp} {l : Sk} (s : Sl K σ H l) : ∀ vs : List Nat, Sl K (wipe σ vs) H (wipeK l vs)
  | [] => s
  | v :: vs => (Sl.wipe s vs).unset v
theorem Sl.less {K : PySem.W.Frag} {σ : L2.St} {H : Hp} {l l' : Sk} (s : Sl K σ H l) (hl : l'.length = l.length) (h : ∀ (i : Nat) (d : PyData), l'[i]? = some (some d) → l[i]? = some (some d)) : Sl K σ H l' :=
  ⟨s.len.trans hl.symm, fun i d q => s.has i d (h i d q)⟩
theorem sl_start {K : PySem.W.Frag} {H : Hp} {vs : List V} {ds : List PyData} {N : List Str} (h : DaAll K H vs ds) : ∀ (l : Sk), l = (ds.map some) ++ List.replicate (N.length - ds.length) none → Sl K (L2.start N vs) H l := by
  intro l e
  subst e
  have hl := h.length
  refine ⟨by unfold L2.start; simp [hl], fun i d q => ?_⟩
  by_cases hi : i < ds.length
  · rw [List.getElem?_append_left (by rw [List.length_map]; exact hi), List.getElem?_map] at q
    cases e : ds[i]? with
    | none => rw [e] at q; cases q
    | some d' =>
      rw [e] at q
      have q' : d' = d := Option.some.inj (Option.some.inj q)
      subst q'
      obtain ⟨x, e1, e2⟩ := h.at e
      refine ⟨x, ?_, e2⟩
      unfold L2.start
      rw [List.getElem?_append_left (by rw [List.length_map, hl]; exact hi), List.getElem?_map, e1]
      rfl
  · rw [List.getElem?_append_right (by rw [List.length_map]; omega)] at q
    rw [List.getElem?_replicate] at q
    split at q <;> cases q
end K7


set_option Elab.async false
set_option linter.all false
set_option maxRecDepth 100000
/-! Judgements: with the slots l an expression comes to the datum d. -/
namespace K7
open PySem PySem.Spec PyProof.Rows L2

theorem peImp {X : Cx} {e : Expr} {t t' : TE} (h : PE X e t) (k : ∀ σ H Q, t' σ H Q → t σ H Q) : PE X e t' := ⟨fun pins s σ H Q I q => h.run pins s σ H Q I (k σ H Q q)⟩
theorem ptImp {X : Cx} {e : Expr} {t t' : TT} (h : PT X e t) (k : ∀ σ H Q, t' σ H Q → t σ H Q) : PT X e t' := ⟨fun pins s σ H Q I q => h.run pins s σ H Q I (k σ H Q q)⟩
theorem pwImp {X : Cx} {e : Expr} {t t' : TT} (h : PW X e t) (k : ∀ σ H Q, t' σ H Q → t σ H Q) : PW X e t' := ⟨fun wh pins s σ H Q I q => h.run wh pins s σ H Q I (k σ H Q q)⟩
theorem paImp {X : Cx} {es : List Expr} {t t' : TA} (h : PA X es t) (k : ∀ σ H Q, t' σ H Q → t σ H Q) : PA X es t' := ⟨fun pos pins s σ H Q I q => h.run pos pins s σ H Q I (k σ H Q q)⟩
theorem pssImp {X : Cx} {ss : List Stmt} {t t' : TS} (h : PSs X ss t) (k : ∀ D σ H, t' D σ H → t D σ H) : PSs X ss t' := ⟨fun pins s σ H D I q => h.run pins s σ H D I (k D σ H q)⟩
theorem psImp {X : Cx} {ss : Stmt} {t t' : TS} (h : PS X ss t) (k : ∀ D σ H, t' D σ H → t D σ H) : PS X ss t' := ⟨fun pins s σ H D I q => h.run pins s σ H D I (k D σ H q)⟩
def tBot : TE := fun _ _ _ => False
def ttBot : TT := fun _ _ _ => False
def tsBot : TS := fun _ _ _ => False
theorem peBot {X : Cx} {e : Expr} : PE X e tBot := ⟨fun _ _ _ _ _ _ q => q.elim⟩
theorem ptBot {X : Cx} {e : Expr} : PT X e ttBot := ⟨fun _ _ _ _ _ _ q => q.elim⟩
theorem pwBot {X : Cx} {e : Expr} : PW X e ttBot := ⟨fun _ _ _ _ _ _ _ q => q.elim⟩
theorem pssBot {X : Cx} {ss : List Stmt} : PSs X ss tsBot := ⟨fun _ _ _ _ _ _ q => q.elim⟩

def tD (K : PySem.W.Frag) (l : Sk) (d : PyData) : TE := fun σ H Q => Sl K σ H l ∧ ∀ x H', Same H H' → Da K H' x d → Q x H'
def tDt (K : PySem.W.Frag) (l : Sk) (b : Bool) : TT := fun σ H Q => Sl K σ H l ∧ ∀ H', Same H H' → Q b H'
def tDs (K : PySem.W.Frag) (l : Sk) (ds : List PyData) : TA := fun σ H Q => Sl K σ H l ∧ ∀ xs H', Same H H' → DaAll K H' xs ds → Q xs H'
def tDr (K : PySem.W.Frag) (l : Sk) (d : PyData) : TS := fun D σ H => Sl K σ H l ∧ ∀ x H', Same H H' → Da K H' x d → D.rt x H'
/-- with the slots l, e comes to d -/
abbrev PD (X : Cx) (l : Sk) (e : Expr) (d : PyData) : Prop := PE X e (tD X.K l d)
abbrev PDT (X : Cx) (l : Sk) (e : Expr) (b : Bool) : Prop := PT X e (tDt X.K l b)
abbrev PDW (X : Cx) (l : Sk) (e : Expr) (b : Bool) : Prop := PW X e (tDt X.K l b)
abbrev PDA (X : Cx) (l : Sk) (es : List Expr) (ds : List PyData) : Prop := PA X es (tDs X.K l ds)
/-- the statements return d -/
abbrev PR (X : Cx) (l : Sk) (ss : List Stmt) (d : PyData) : Prop := PSs X ss (tDr X.K l d)
/-- what is asked of an operation's reading -/
def OpD (K : PySem.W.Frag) (r : R2) (a b d : PyData) : Prop := ∀ x y H Q, Da K H x a → Da K H y b → (∀ z H', Same H H' → Da K H' z d → Q z H') → r x y H Q
def CallD (K : PySem.W.Frag) (r : List V → Hp → VK → Prop) (ds : List PyData) (d : PyData) : Prop := ∀ vs H Q, DaAll K H vs ds → (∀ z H', Same H H' → Da K H' z d → Q z H') → r vs H Q

section
variable {X : Cx} {l : Sk} {a b c e : Expr} {es rest : List Expr} {pos : Pos} {d d1 d2 d3 : PyData}

/-! names and constants -/
theorem pd_var (i : Nat) {x : Str} {p : Pos} (h : l[i]? = some (some d) := by rfl) (hN : X.N[i]? = some x := by rfl) (hv : Vis X.env.scope x := by first | exact Or.inl rfl | exact Or.inr (Or.inl rfl) | exact Or.inr (Or.inr rfl))
    (hd : (x == ("__debug__" : Str)) = false := by decide) (hcd : (x == ("__classdict__" : Str)) = false := by decide) : PD X l (.Name x p) d :=
  peImp (pe_var (i := i) hN hv hd hcd) fun σ H Q ⟨s, k⟩ => by
    obtain ⟨v, e1, e2⟩ := s.has i d h
    exact ⟨v, e1, k v H (Same.refl H) e2⟩
theorem pd_c {v : V} (h : PE X e (tC v)) (q : ∀ H, Da X.K H v d) : PD X l e d := peImp h fun σ H Q ⟨_, k⟩ => k v H (Same.refl H) (q H)
theorem pd_int {i : Int} {j : Nat} {p : Pos} : PD X l (.Constant (.int i) j p) (.int i) := pd_c pe_int fun _ => .int i
theorem pd_bool {i : Bool} {j : Nat} {p : Pos} : PD X l (.Constant (.bool i) j p) (.bool i) := pd_c pe_bl fun _ => .bl i
theorem pd_none {j : Nat} {p : Pos} : PD X l (.Constant .none j p) .none := pd_c pe_non fun _ => .non
theorem pd_str {i : Str} {j : Nat} {p : Pos} : PD X l (.Constant (.str i) j p) (.str i) := pd_c pe_str fun _ => .str i
theorem pd_gint {x : Str} {i : Int} {p : Pos} (h : ∃ t, X.mg x = some (.int i t)) (hg : Gl X x := by rfl) (hd : (x == ("__debug__" : Str)) = false := by decide) : PD X l (.Name x p) (.int i) := by
  obtain ⟨t, h⟩ := h
  exact pd_c (pe_glob hg h (v := .int i) ⟨t, rfl⟩ hd) fun _ => .int i
theorem pd_gstr {x : Str} {z : Str} {p : Pos} (h : ∃ t, X.mg x = some (.str z t)) (hg : Gl X x := by rfl) (hd : (x == ("__debug__" : Str)) = false := by decide) : PD X l (.Name x p) (.str z) := by
  obtain ⟨t, h⟩ := h
  exact pd_c (pe_glob hg h (v := .str z) ⟨t, rfl⟩ hd) fun _ => .str z

/-! argument lists, displays -/
theorem pda_nil : PDA X l [] [] := paImp pa_nil fun σ H Q ⟨_, k⟩ => k [] H (Same.refl H) .nil
theorem pda_cons {ds : List PyData} (h : PD X l e d) (r : PDA X l es ds) (hs : starEach (e :: es) X.env = (false, eval e X.env) :: starEach es X.env := by rfl) : PDA X l (e :: es) (d :: ds) :=
  paImp (pa_cons h r hs) fun σ H Q ⟨s, k⟩ => ⟨s, fun x H1 e1 q1 => ⟨s.mono e1, fun xs H2 e2 q2 => k (x :: xs) H2 (e1.trans e2) (.cons (q1.mono e2) q2)⟩⟩
theorem pda1 (h : PD X l e d) (hs : starEach [e] X.env = (false, eval e X.env) :: starEach [] X.env := by rfl) : PDA X l [e] [d] := pda_cons h pda_nil hs
theorem sz5 {n : Nat} (h : n ≤ 100000) : n ≤ sizeLine := Nat.le_trans h (by decide)
theorem pd_tup {ds : List PyData} {c' : Nat} (h : PDA X l es ds) (hl : ds.length ≤ 100000) : PD X l (.Tuple es c' pos) (.tuple ds) :=
  peImp (pe_tup h) fun σ H Q ⟨s, k⟩ => ⟨s, fun xs H1 e1 q1 => ⟨by rw [q1.length]; exact sz5 hl, fun p hp => k (.ref p) _ (e1.trans (same_new hp)) (.tup upd_same (q1.mono (same_new hp)))⟩⟩
theorem pd_lst {ds : List PyData} (h : PDA X l es ds) (hl : ds.length ≤ 100000) : PD X l (.List es pos) (.list ds) :=
  peImp (pe_lst h) fun σ H Q ⟨s, k⟩ => ⟨s, fun xs H1 e1 q1 => ⟨by rw [q1.length]; exact sz5 hl, fun p hp => k (.ref p) _ (e1.trans (same_new hp)) (.lst (SqL.of upd_same) (q1.mono (same_new hp)))⟩⟩
theorem pd_unit {c' : Nat} : PD X l (.Tuple [] c' pos) (.tuple []) := pd_tup pda_nil (Nat.zero_le _)
theorem pd_nil : PD X l (.List [] pos) (.list []) := pd_lst pda_nil (Nat.zero_le _)

/-! conditions -/
theorem pd_ifT (h : PDT X l c true) (ha : PD X l a d) : PD X l (.IfExp c a b pos) d :=
  peImp (pe_ifExp h ha (peBot (e := b))) fun σ H Q ⟨s, k⟩ => ⟨s, fun H1 e1 => by
    refine L2.iteT ?_
    exact ⟨s.mono e1, fun x H2 e2 q => k x H2 (e1.trans e2) q⟩⟩
theorem pd_ifF (h : PDT X l c false) (hb : PD X l b d) : PD X l (.IfExp c a b pos) d :=
  peImp (pe_ifExp h (peBot (e := a)) hb) fun σ H Q ⟨s, k⟩ => ⟨s, fun H1 e1 => by
    refine L2.iteF ?_
    exact ⟨s.mono e1, fun x H2 e2 q => k x H2 (e1.trans e2) q⟩⟩
theorem pd_one {op : BoolOp} (h : PD X l a d) : PD X l (.BoolOp op [a] pos) d := pe_one h
theorem pd_andT (h : PD X l a (.bool true)) (r : PD X l (.BoolOp .And (b :: rest) pos) d) : PD X l (.BoolOp .And (a :: b :: rest) pos) d :=
  peImp (pe_and h r) fun σ H Q ⟨s, k⟩ => ⟨s, fun x H1 e1 q1 => by
    cases q1
    exact ⟨true, rfl, L2.iteT ⟨s.mono e1, fun y H2 e2 q => k y H2 (e1.trans e2) q⟩⟩⟩
theorem pd_andF (h : PD X l a (.bool false)) : PD X l (.BoolOp .And (a :: b :: rest) pos) (.bool false) :=
  peImp (pe_and h (peBot (e := .BoolOp .And (b :: rest) pos))) fun σ H Q ⟨s, k⟩ => ⟨s, fun x H1 e1 q1 => by
    cases q1
    exact ⟨false, rfl, L2.iteF (k _ H1 e1 (.bl false))⟩⟩
theorem pd_not {v : Bool} (h : PD X l a (.bool v)) : PD X l (.UnaryOp .Not a pos) (.bool (!v)) :=
  peImp (pe_not h) fun σ H Q ⟨s, k⟩ => ⟨s, fun x H1 e1 q1 => by
    cases q1
    exact ⟨v, rfl, k _ H1 e1 (.bl _)⟩⟩
theorem pdt_val {v : Bool} (h : PD X l a (.bool v)) (he : ∀ whole, isTrue a X.env whole = (do let v ← whole; standAt a.pos; holding [v] (truthy v)) := by intro _; rfl) : PDT X l a v :=
  ptImp (pt_val h he) fun σ H Q ⟨s, k⟩ => ⟨s, fun x H1 e1 q1 => by
    cases q1
    exact ⟨v, rfl, k H1 e1⟩⟩
theorem pdt_not {v : Bool} (h : PDT X l a v) : PDT X l (.UnaryOp .Not a pos) (!v) := ptImp (pt_not h) fun σ H Q ⟨s, k⟩ => ⟨s, fun H1 e1 => k H1 e1⟩
theorem pdt_w {v : Bool} (h : PDW X l a v) : PDT X l a v := h.pt
theorem pdw_or1 {v : Bool} (h : PDT X l a v) : PDW X l (.BoolOp .Or [a] pos) v := pw_or1 h
theorem pdw_orT (h : PDT X l a true) : PDW X l (.BoolOp .Or (a :: b :: rest) pos) true :=
  pwImp (pw_or h (pwBot (e := .BoolOp .Or (b :: rest) pos))) fun σ H Q ⟨s, k⟩ => ⟨s, fun H1 e1 => by
    refine L2.iteT ?_
    exact k H1 e1⟩
theorem pdw_orF {v : Bool} (h : PDT X l a false) (r : PDW X l (.BoolOp .Or (b :: rest) pos) v) : PDW X l (.BoolOp .Or (a :: b :: rest) pos) v :=
  pwImp (pw_or h r) fun σ H Q ⟨s, k⟩ => ⟨s, fun H1 e1 => by
    refine L2.iteF ?_
    exact ⟨s.mono e1, fun H2 e2 => k H2 (e1.trans e2)⟩⟩
theorem pdw_and1 {v : Bool} (h : PDT X l a v) : PDW X l (.BoolOp .And [a] pos) v := pw_and1 h
theorem pdw_andF (h : PDT X l a false) : PDW X l (.BoolOp .And (a :: b :: rest) pos) false :=
  pwImp (pw_and h (pwBot (e := .BoolOp .And (b :: rest) pos))) fun σ H Q ⟨s, k⟩ => ⟨s, fun H1 e1 => by
    refine L2.iteF ?_
    exact k H1 e1⟩
theorem pdw_andT {v : Bool} (h : PDT X l a true) (r : PDW X l (.BoolOp .And (b :: rest) pos) v) : PDW X l (.BoolOp .And (a :: b :: rest) pos) v :=
  pwImp (pw_and h r) fun σ H Q ⟨s, k⟩ => ⟨s, fun H1 e1 => by
    refine L2.iteT ?_
    exact ⟨s.mono e1, fun H2 e2 => k H2 (e1.trans e2)⟩⟩

/-! operations -/
theorem pd_bin {op : Operator} {r : R2} (ho : OpR X (binaryOp op) r) (hr : OpD X.K r d1 d2 d) (ha : PD X l a d1) (hb : PD X l b d2) : PD X l (.BinOp a op b pos) d :=
  peImp (pe_op ho ha hb) fun σ H Q ⟨s, k⟩ => ⟨s, fun x H1 e1 q1 => ⟨s.mono e1, fun y H2 e2 q2 => hr x y H2 Q (q1.mono e2) q2 fun z H3 e3 q3 => k z H3 ((e1.trans e2).trans e3) q3⟩⟩
theorem pd_cmp {op : CmpOp} {r : R2} (ho : OpR X (compareOp op) r) (hr : OpD X.K r d1 d2 d) (ha : PD X l a d1) (hb : PD X l b d2) (hm : behindInMarks op b = false := by first | exact nomark _ | rfl) : PD X l (.Compare a [op] [b] pos) d :=
  peImp (pe_cmpR ho ha hb hm) fun σ H Q ⟨s, k⟩ => ⟨s, fun x H1 e1 q1 => ⟨s.mono e1, fun y H2 e2 q2 => hr x y H2 Q (q1.mono e2) q2 fun z H3 e3 q3 => k z H3 ((e1.trans e2).trans e3) q3⟩⟩
theorem pdt_cmp {op : CmpOp} {r : R2} {v : Bool} (ho : OpR X (compareOp op) r) (hr : OpD X.K r d1 d2 (.bool v)) (ha : PD X l a d1) (hb : PD X l b d2) (hm : behindInMarks op b = false := by first | exact nomark _ | rfl) : PDT X l (.Compare a [op] [b] pos) v :=
  ptImp (pt_cmpR ho ha hb hm) fun σ H Q ⟨s, k⟩ => ⟨s, fun x H1 e1 q1 => ⟨s.mono e1, fun y H2 e2 q2 => hr x y H2 _ (q1.mono e2) q2 fun z H3 e3 q3 => by
    cases q3
    exact ⟨v, rfl, k H3 ((e1.trans e2).trans e3)⟩⟩⟩
theorem pd_chainT {op op' : CmpOp} {r r' : R2} (ho : OpR X (compareOp op) r) (ho' : OpR X (compareOp op') r') (hr : OpD X.K r d1 d2 (.bool true)) (hr' : OpD X.K r' d2 d3 d) (ha : PD X l a d1) (hb : PD X l b d2) (hc : PD X l c d3)
    (hm : lastMarks [op, op'] [b, c] = false := by with_unfolding_all rfl) : PD X l (.Compare a [op, op'] [b, c] pos) d :=
  peImp (pe_chain ho ho' ha hb hc hm) fun σ H Q ⟨s, k⟩ => ⟨s, fun x H1 e1 q1 => ⟨s.mono e1, fun y H2 e2 q2 => hr x y H2 _ (q1.mono e2) q2 fun z H3 e3 q3 => by
    cases q3
    refine ⟨true, rfl, ?_⟩
    refine L2.iteT ?_
    exact ⟨s.mono ((e1.trans e2).trans e3), fun w' H4 e4 q4 => hr' y w' H4 Q (q2.mono (e3.trans e4)) q4 fun z' H5 e5 q5 => k z' H5 ((((e1.trans e2).trans e3).trans e4).trans e5) q5⟩⟩⟩
theorem pd_chainF {op op' : CmpOp} {r r' : R2} (ho : OpR X (compareOp op) r) (ho' : OpR X (compareOp op') r') (hr : OpD X.K r d1 d2 (.bool false)) (ha : PD X l a d1) (hb : PD X l b d2)
    (hm : lastMarks [op, op'] [b, c] = false := by with_unfolding_all rfl) : PD X l (.Compare a [op, op'] [b, c] pos) (.bool false) :=
  peImp (pe_chain ho ho' ha hb (peBot (e := c)) hm) fun σ H Q ⟨s, k⟩ => ⟨s, fun x H1 e1 q1 => ⟨s.mono e1, fun y H2 e2 q2 => hr x y H2 _ (q1.mono e2) q2 fun z H3 e3 q3 => by
    cases q3
    refine ⟨false, rfl, ?_⟩
    refine L2.iteF ?_
    exact k _ H3 ((e1.trans e2).trans e3) (.bl false)⟩⟩
theorem pdt_chainT {op op' : CmpOp} {r r' : R2} {v : Bool} (ho : OpR X (compareOp op) r) (ho' : OpR X (compareOp op') r') (hr : OpD X.K r d1 d2 (.bool true)) (hr' : OpD X.K r' d2 d3 (.bool v)) (ha : PD X l a d1) (hb : PD X l b d2) (hc : PD X l c d3)
    (hm : lastMarks [op, op'] [b, c] = false := by with_unfolding_all rfl) : PDT X l (.Compare a [op, op'] [b, c] pos) v :=
  ptImp (pt_chain ho ho' ha hb hc hm) fun σ H Q ⟨s, k⟩ => ⟨s, fun x H1 e1 q1 => ⟨s.mono e1, fun y H2 e2 q2 => hr x y H2 _ (q1.mono e2) q2 fun z H3 e3 q3 => by
    cases q3
    refine ⟨true, rfl, ?_⟩
    refine L2.iteT ?_
    exact ⟨s.mono ((e1.trans e2).trans e3), fun w' H4 e4 q4 => hr' y w' H4 _ (q2.mono (e3.trans e4)) q4 fun z' H5 e5 q5 => by
      cases q5
      exact ⟨v, rfl, k H5 ((((e1.trans e2).trans e3).trans e4).trans e5)⟩⟩⟩⟩
theorem pdt_chainF {op op' : CmpOp} {r r' : R2} (ho : OpR X (compareOp op) r) (ho' : OpR X (compareOp op') r') (hr : OpD X.K r d1 d2 (.bool false)) (ha : PD X l a d1) (hb : PD X l b d2)
    (hm : lastMarks [op, op'] [b, c] = false := by with_unfolding_all rfl) : PDT X l (.Compare a [op, op'] [b, c] pos) false :=
  ptImp (pt_chain ho ho' ha hb (peBot (e := c)) hm) fun σ H Q ⟨s, k⟩ => ⟨s, fun x H1 e1 q1 => ⟨s.mono e1, fun y H2 e2 q2 => hr x y H2 _ (q1.mono e2) q2 fun z H3 e3 q3 => by
    cases q3
    refine ⟨false, rfl, ?_⟩
    refine L2.iteF ?_
    exact ⟨false, rfl, k H3 ((e1.trans e2).trans e3)⟩⟩⟩

/-! calls -/
theorem pd_callB {id : String} {x : Str} {r : List V → Hp → VK → Prop} {ds : List PyData} {p : Pos} (hc : CallR X (.builtin id) r) (hm : X.mg x = none) (hv : bootBuiltins x = some (.builtin id)) (hr : CallD X.K r ds d) (ha : PDA X l (e :: es) ds) (hg : Gl X x := by rfl)
    (hn : x ≠ "__name__" := by decide) (hdb : (x == ("__debug__" : Str)) = false := by decide) (he : starEach (e :: es) X.env = (false, eval e X.env) :: starEach es X.env := by rfl) (hpl : (backTo pos (starEach es X.env)).any (·.1) = false := by rfl) :
    PD X l (.Call (.Name x p) (e :: es) [] pos) d :=
  peImp (pe_callB hc hg hm hv ha hn hdb he hpl) fun σ H Q ⟨s, k⟩ => ⟨s, fun vs H1 e1 q1 => hr vs H1 Q q1 fun z H2 e2 q2 => k z H2 (e1.trans e2) q2⟩
theorem pd_callTy {T : String} {x : Str} {r : List V → Hp → VK → Prop} {ds : List PyData} {p : Pos} (hc : CallR X (.type T) r) (hm : X.mg x = none) (hv : bootBuiltins x = some (.type T)) (hr : CallD X.K r ds d) (ha : PDA X l (e :: es) ds) (hg : Gl X x := by rfl)
    (hn : x ≠ "__name__" := by decide) (hdb : (x == ("__debug__" : Str)) = false := by decide) (he : starEach (e :: es) X.env = (false, eval e X.env) :: starEach es X.env := by rfl) (hpl : (backTo pos (starEach es X.env)).any (·.1) = false := by rfl) :
    PD X l (.Call (.Name x p) (e :: es) [] pos) d :=
  peImp (pe_callTy hc hg hm hv ha hn hdb he hpl) fun σ H Q ⟨s, k⟩ => ⟨s, fun vs H1 e1 q1 => hr vs H1 Q q1 fun z H2 e2 q2 => k z H2 (e1.trans e2) q2⟩
end
/-- a def of the module by its name, with its promise -/
def Fk (P : Program) (w : World) (K : PySem.W.Frag) (mg : Str → Option Value) (base : Heap) (CX : CXT) (k : Nat) (x : Str) (sp : Sp) : Prop :=
  ∃ (f : Addr) (fd : FuncData) (ps : List Str), FnOk P w K mg base CX k f fd ps sp ∧ mg x = some (.ref f) ∧ PySem.W.keepIn K (.ref f) = true ∧ Binds K fd ps []
/-- the promise of a def that makes data of data -/
def spD (K : PySem.W.Frag) (dom : List PyData → PyData → Prop) : Sp := fun vs H Q _ => ∃ ds d, DaAll K H vs ds ∧ dom ds d ∧ ∀ x H', Same H H' → Da K H' x d → Q x H'
section
variable {X : Cx} {l : Sk} {e : Expr} {es : List Expr} {pos : Pos} {d : PyData}
theorem pd_call {k j : Nat} {x : Str} {dom : List PyData → PyData → Prop} {ds : List PyData} {p : Pos} (c : Fk X.prog X.w X.K X.mg X.base CX0 k x (spD X.K dom)) (hr : Room j X.A) (hk : k ≤ j) (ha : PDA X l (e :: es) ds) (hd : dom ds d) (hg : Gl X x := by rfl)
    (hdb : (x == ("__debug__" : Str)) = false := by decide) (he : starEach (e :: es) X.env = (false, eval e X.env) :: starEach es X.env := by rfl) (hpl : (backTo pos (starEach es X.env)).any (·.1) = false := by rfl) : PD X l (.Call (.Name x p) (e :: es) [] pos) d := by
  obtain ⟨f, fd, ps, F, hm, hkp, hb⟩ := c
  exact peImp (pe_call F (hr.mono hk) hg hm hkp hb .nil pass0 ha hdb he hpl) fun σ H Q ⟨s, k⟩ => ⟨s, fun vs H1 e1 q1 => by
    show spD X.K dom (vs ++ []) H1 Q E0
    rw [List.append_nil]
    exact ⟨ds, d, q1, hd, fun x H2 e2 q2 => k x H2 (e1.trans e2) q2⟩⟩

/-! statements -/
theorem pr_ret {rest : List Stmt} (h : PD X l e d) : PR X l (.Return (some e) pos :: rest) d :=
  pssImp (pss_cons (ps_ret h) (pssBot (ss := rest))) fun D σ H ⟨s, k⟩ => ⟨s, fun x H1 e1 q1 => k x H1 e1 q1⟩
theorem pr_asg (i : Nat) {rest : List Stmt} {x : Str} {p : Pos} {d1 : PyData} (h : PD X l e d1) (r : PR X (l.set i (some d1)) rest d) (nd : X.N.Nodup) (hi : X.N[i]? = some x := by rfl) (hx : Loc X.env.scope x := by first | exact .inl rfl | exact .inr rfl)
    (hf : X.fn x = true ∨ X.env.scope.names.lookup x = some .local := by first | exact .inl rfl | exact .inr rfl)
    (hs : swapsWith e (some (.Name x p)) pos.line X.env = pure false := by rfl) : PR X l (.Assign [.Name x p] e pos :: rest) d :=
  pssImp (pss_cons (ps_set (i := i) nd hi hx h (hf := hf) (hs := hs)) r) fun D σ H ⟨s, k⟩ => ⟨s, fun y H1 e1 q1 => ⟨(s.mono e1).set i q1, fun z H2 e2 q2 => k z H2 (e1.trans e2) q2⟩⟩
theorem pr_ifT {c : Expr} {body orelse rest : List Stmt} (h : PDT X l c true) (r : PR X l body d) : PR X l (.If c body orelse pos :: rest) d :=
  pssImp (pss_cons (ps_if h r (pssBot (ss := orelse))) (pssBot (ss := rest))) fun D σ H ⟨s, k⟩ => ⟨s, fun H1 e1 => by
    refine L2.iteT ?_
    exact ⟨s.mono e1, fun z H2 e2 q2 => k z H2 (e1.trans e2) q2⟩⟩
theorem pr_ifF {c : Expr} {body rest : List Stmt} (h : PDT X l c false) (r : PR X l rest d) : PR X l (.If c body [] pos :: rest) d :=
  pssImp (pss_cons (ps_if h (pssBot (ss := body)) pss_nil) r) fun D σ H ⟨s, k⟩ => ⟨s, fun H1 e1 => by
    refine L2.iteF ?_
    exact ⟨s.mono e1, fun z H2 e2 q2 => k z H2 (e1.trans e2) q2⟩⟩
theorem pr_expr {rest : List Stmt} {d1 : PyData} (h : PD X l e d1) (r : PR X l rest d) (hs : swapsWith e none pos.line X.env = pure false := by rfl) : PR X l (.Expr e pos :: rest) d :=
  pssImp (pss_cons (ps_expr h (hs := hs)) r) fun D σ H ⟨s, k⟩ => ⟨s, fun y H1 e1 q1 => ⟨s.mono e1, fun z H2 e2 q2 => k z H2 (e1.trans e2) q2⟩⟩
/-- the end of a body: None -/
theorem pr_end {D : Ends} {σ : L2.St} {H : Hp} (s : Sl X.K σ H l) : tNext D σ H = D.nx σ H := rfl
end
/-- a def that makes data of data, by its body -/
theorem fn_data {P : Program} {w : World} {K : PySem.W.Frag} {mg : Str → Option Value} {base : Heap} {x qual : Str} {st : Stmt} {f : Addr} {fd : FuncData} {N ps : List Str} {k : Nat} {dom : List PyData → PyData → Prop} (F : Fun K x qual st f fd) (S : FnScope N ps (defScope st))
    (len : ∀ ds d, dom ds d → ds.length = ps.length)
    (body : ∀ (cdv : Value) (A : Around) (outer : List Env) (s : Shared) (H : Hp) (E : XK) (ds : List PyData) (d : PyData), Room k (A.deeper (envOfC qual (defScope st) s.heap.objs.size f cdv)) → dom ds d →
      PR (cxOf CX0 P w K mg base N qual (defScope st) f cdv A outer s H E).nox (ds.map some ++ List.replicate (N.length - ds.length) none) (defBody st) d) : FnOk P w K mg base CX0 (k + 1) f fd ps (spD K dom) := by
  refine F.ok S (fun vs H Q E h => ?_) (fun cdv A outer s H vs Q E hr h => ?_)
  · obtain ⟨ds, d, h1, h2, _⟩ := h
    rw [h1.length]
    exact len ds d h2
  · obtain ⟨ds, d, h1, h2, h3⟩ := h
    exact ⟨_, body cdv A outer s H E ds d hr h2, sl_start h1 _ rfl, h3⟩
end K7


set_option Elab.async false
set_option linter.all false
set_option maxRecDepth 100000
/-! Operations, built-ins, methods and comprehensions over data. -/
namespace K7
open PySem PySem.Spec PyProof.Rows L2

/-! ### lists of plain data -/
section
variable {K : PySem.W.Frag} {H : Hp}
theorem da_ints : ∀ ns : List Int, DaAll K H (ns.map V.int) (ns.map .int)
  | [] => .nil
  | n :: ns => .cons (.int n) (da_ints ns)
theorem da_strs : ∀ ns : List Str, DaAll K H (ns.map V.str) (ns.map .str)
  | [] => .nil
  | n :: ns => .cons (.str n) (da_strs ns)
theorem da_bls : ∀ ns : List Bool, DaAll K H (ns.map V.bl) (ns.map .bool)
  | [] => .nil
  | n :: ns => .cons (.bl n) (da_bls ns)
theorem ints_da : ∀ {ns : List Int} {vs : List V}, DaAll K H vs (ns.map .int) → vs = ns.map V.int
  | [], _, .nil => rfl
  | n :: ns, _, .cons (.int _) h2 => by rw [ints_da h2]; rfl
theorem strs_da : ∀ {ns : List Str} {vs : List V}, DaAll K H vs (ns.map .str) → vs = ns.map V.str
  | [], _, .nil => rfl
  | n :: ns, _, .cons (.str _) h2 => by rw [strs_da h2]; rfl
theorem bls_da : ∀ {ns : List Bool} {vs : List V}, DaAll K H vs (ns.map .bool) → vs = ns.map V.bl
  | [], _, .nil => rfl
  | n :: ns, _, .cons (.bl _) h2 => by rw [bls_da h2]; rfl
/-- a tuple of ints -/
abbrev eNs (ns : List Int) : PyData := .tuple (ns.map .int)
theorem eNs_at {x : V} {ns : List Int} (h : Da K H x (eNs ns)) : ∃ p, x = .ref p ∧ H p = some (.tup (ns.map V.int)) := by
  cases h with
  | tup h1 h2 => exact ⟨_, rfl, ints_da h2 ▸ h1⟩
theorem eNs_of {p : Addr} {ns : List Int} (h : H p = some (.tup (ns.map V.int))) : Da K H (.ref p) (eNs ns) := .tup h (da_ints ns)
/-- data without dicts, by the layer's own words -/
theorem Da.str_inv {x : V} {z : Str} (h : Da K H x (.str z)) : x = .str z := by cases h; rfl
theorem Da.int_inv {x : V} {z : Int} (h : Da K H x (.int z)) : x = .int z := by cases h; rfl
theorem Da.bool_inv {x : V} {z : Bool} (h : Da K H x (.bool z)) : x = .bl z := by cases h; rfl
theorem Da.none_inv {x : V} (h : Da K H x .none) : x = .non := by cases h; rfl
mutual
theorem Da.dp : ∀ {v : V} {d : PyData}, d.hasDict = false → Da K H v d → Dp K H v d
  | _, _, _, .non => .non
  | _, _, _, .bl b => .bl b
  | _, _, _, .int n => .int n
  | _, _, _, .str z => .str z
  | _, _, hd, .lst h1 h2 => .lst h1 (DaAll.dp (by simpa [PyData.hasDict] using hd) h2)
  | _, _, hd, .tup h1 h2 => .tup (SqT.of h1) (DaAll.dp (by simpa [PyData.hasDict] using hd) h2)
  | _, _, hd, .dct _ _ => by simp [PyData.hasDict] at hd
theorem DaAll.dp : ∀ {vs : List V} {ds : List PyData}, PyData.hasDictAll ds = false → DaAll K H vs ds → DpAll K H vs ds
  | _, _, _, .nil => .nil
  | _ :: _, e0 :: es0, hd, .cons h1 h2 => by
    have hd' : e0.hasDict = false ∧ PyData.hasDictAll es0 = false := by simpa [PyData.hasDictAll] using hd
    exact .cons (Da.dp hd'.1 h1) (DaAll.dp hd'.2 h2)
end
end

/-! ### operations -/
section
variable {K : PySem.W.Frag}
theorem opd_I0 {g : Int → Int → V} {i j : Int} {d : PyData} (h : ∀ H, Da K H (g i j) d) : OpD K (rI0 g) (.int i) (.int j) d := fun x y H Q hx hy k => by
  cases hx; cases hy
  exact ⟨i, j, rfl, rfl, k _ H (Same.refl H) (h H)⟩
theorem opd_I {C : Int → Int → Prop} {g : Int → Int → V} {i j : Int} {d : PyData} (hc : C i j) (h : ∀ H, Da K H (g i j) d) : OpD K (rI C g) (.int i) (.int j) d := fun x y H Q hx hy k => by
  cases hx; cases hy
  exact ⟨i, j, rfl, rfl, hc, k _ H (Same.refl H) (h H)⟩
theorem opd_lt {i j : Int} : OpD K (rI0 fun i j => .bl (decide (i < j))) (.int i) (.int j) (.bool (decide (i < j))) := opd_I0 fun _ => .bl _
theorem opd_le {i j : Int} : OpD K (rI0 fun i j => .bl (decide (i ≤ j))) (.int i) (.int j) (.bool (decide (i ≤ j))) := opd_I0 fun _ => .bl _
theorem opd_gt {i j : Int} : OpD K (rI0 fun i j => .bl (decide (j < i))) (.int i) (.int j) (.bool (decide (j < i))) := opd_I0 fun _ => .bl _
theorem opd_eqS {a b : Str} : OpD K rEq (.str a) (.str b) (.bool (decide (a = b))) := fun x y H Q hx hy k => by
  cases hx; cases hy
  refine ⟨rfl, k _ H (Same.refl H) ?_⟩
  rw [show decide (V.str a = V.str b) = decide (a = b) by simp]
  exact .bl _
theorem opd_neS {a b : Str} : OpD K rNe (.str a) (.str b) (.bool (!decide (a = b))) := fun x y H Q hx hy k => by
  cases hx; cases hy
  refine ⟨rfl, k _ H (Same.refl H) ?_⟩
  rw [show decide (V.str a = V.str b) = decide (a = b) by simp]
  exact .bl _
theorem opd_neI {a b : Int} : OpD K rNe (.int a) (.int b) (.bool (!decide (a = b))) := fun x y H Q hx hy k => by
  cases hx; cases hy
  refine ⟨rfl, k _ H (Same.refl H) ?_⟩
  rw [show decide (V.int a = V.int b) = decide (a = b) by simp]
  exact .bl _
theorem opd_isN {d : PyData} : OpD K (fun x y H Q => y = .non ∧ Q (.bl (decide (x = .non))) H) d .none (.bool (match d with | .none => true | _ => false)) := fun x y H Q hx hy k => by
  cases hy
  refine ⟨rfl, k _ H (Same.refl H) ?_⟩
  cases hx <;> simp <;> exact .bl _
theorem opd_notN {d : PyData} : OpD K (fun x y H Q => y = .non ∧ Q (.bl (!decide (x = .non))) H) d .none (.bool (match d with | .none => false | _ => true)) := fun x y H Q hx hy k => by
  cases hy
  refine ⟨rfl, k _ H (Same.refl H) ?_⟩
  cases hx <;> simp <;> exact .bl _
theorem opd_addS {a b : Str} (h : a.length + b.length ≤ sizeLine) : OpD K (fun x y H Q => ∃ i j, x = .str i ∧ y = .str j ∧ i.length + j.length ≤ sizeLine ∧ Q (.str (i ++ j)) H) (.str a) (.str b) (.str (a ++ b)) := fun x y H Q hx hy k => by
  cases hx; cases hy
  exact ⟨a, b, rfl, rfl, h, k _ H (Same.refl H) (.str _)⟩
theorem opd_inS {c : Nat} {z : Str} : OpD K (fun x y H Q => ∃ (c : Nat) (z : Str), x = .str ⟨#[c]⟩ ∧ y = .str z ∧ Q (.bl (decide (c ∈ z.cps.toList))) H) (.str ⟨#[c]⟩) (.str z) (.bool (decide (c ∈ z.cps.toList))) := fun x y H Q hx hy k => by
  cases hx; cases hy
  exact ⟨c, z, rfl, rfl, k _ H (Same.refl H) (.bl _)⟩
theorem opd_niS {c : Nat} {z : Str} : OpD K (fun x y H Q => ∃ (c : Nat) (z : Str), x = .str ⟨#[c]⟩ ∧ y = .str z ∧ Q (.bl (!decide (c ∈ z.cps.toList))) H) (.str ⟨#[c]⟩) (.str z) (.bool (!decide (c ∈ z.cps.toList))) := fun x y H Q hx hy k => by
  cases hx; cases hy
  exact ⟨c, z, rfl, rfl, k _ H (Same.refl H) (.bl _)⟩
theorem opd_eqD {d e : PyData} (h1 : d.hasDict = false) (h2 : e.hasDict = false) (s1 : SeqAt.shaped d = true) (s2 : SeqAt.shaped e = true) : OpD K (rEqD K) d e (.bool (PyData.eqv d e)) := fun x y H Q hx hy k =>
  ⟨d, e, hx.dp h1, hy.dp h2, s1, s2, k _ H (Same.refl H) (.bl _)⟩
theorem opd_neD {d e : PyData} (h1 : d.hasDict = false) (h2 : e.hasDict = false) (s1 : SeqAt.shaped d = true) (s2 : SeqAt.shaped e = true) : OpD K (rNeD K) d e (.bool (!PyData.eqv d e)) := fun x y H Q hx hy k =>
  ⟨d, e, hx.dp h1, hy.dp h2, s1, s2, k _ H (Same.refl H) (.bl _)⟩
theorem opd_ltT {ns ms : List Int} : OpD K (rLtT K) (eNs ns) (eNs ms) (.bool (HT.lexLt ns ms)) := fun x y H Q hx hy k => by
  obtain ⟨p, rfl, h1⟩ := eNs_at hx
  obtain ⟨q, rfl, h2⟩ := eNs_at hy
  exact ⟨p, q, ns, ms, rfl, rfl, SqT.of h1, SqT.of h2, k _ H (Same.refl H) (.bl _)⟩
def leLex (ns ms : List Int) : Bool := Ob.lexAt (fun j => decide (ns.getD j 0 = ms.getD j 0)) (fun j => decide (ns.getD j 0 ≤ ms.getD j 0)) (decide (ns.length ≤ ms.length)) 0 (min ns.length ms.length)
theorem opd_leT {ns ms : List Int} : OpD K (rLeT K) (eNs ns) (eNs ms) (.bool (leLex ns ms)) := fun x y H Q hx hy k => by
  obtain ⟨p, rfl, h1⟩ := eNs_at hx
  obtain ⟨q, rfl, h2⟩ := eNs_at hy
  exact ⟨p, q, ns, ms, rfl, rfl, SqT.of h1, SqT.of h2, k _ H (Same.refl H) (.bl _)⟩
/-- None in a list of ints and Nones -/
def eOI : Option Int → PyData
  | some i => .int i
  | none => .none
def vOI : Option Int → V
  | some i => .int i
  | none => .non
theorem ois_da {H : Hp} : ∀ {os : List (Option Int)} {vs : List V}, DaAll K H vs (os.map eOI) → vs = os.map vOI
  | [], _, .nil => rfl
  | some i :: os, _, .cons (.int _) h2 => by rw [ois_da h2]; rfl
  | none :: os, _, .cons .non h2 => by rw [ois_da h2]; rfl
theorem flat_vOI (os : List (Option Int)) : (os.map vOI).all flatV = true := by
  rw [List.all_eq_true]
  intro x hx
  obtain ⟨o, _, rfl⟩ := List.mem_map.mp hx
  cases o <;> rfl
theorem inV_vOI : ∀ os : List (Option Int), inV .non (os.map vOI) = os.any Option.isNone
  | [] => rfl
  | some i :: os => by
    have h := inV_vOI os
    unfold inV at h ⊢
    rw [List.map_cons, List.any_cons, List.any_cons, h]
    rfl
  | none :: os => by
    have h := inV_vOI os
    unfold inV at h ⊢
    rw [List.map_cons, List.any_cons, List.any_cons, h]
    rfl
theorem opd_noneIn {os : List (Option Int)} : OpD K (rIn K false) .none (.list (os.map eOI)) (.bool (os.any Option.isNone)) := fun x y H Q hx hy k => by
  cases hx
  cases hy with
  | lst h1 h2 =>
    have e := ois_da h2
    subst e
    refine ⟨_, _, rfl, .inl h1, rfl, flat_vOI os, k _ H (Same.refl H) ?_⟩
    rw [inV_vOI]
    exact .bl _
/-- an item of a tuple or list -/
theorem opd_ixT {ds : List PyData} {i : Nat} {d : PyData} (h : ds[i]? = some d) : OpD K (rIxT K) (.tuple ds) (.int (i : Nat)) d := fun x y H Q hx hy k => by
  cases hy
  cases hx with
  | tup h1 h2 =>
    obtain ⟨v, e1, q⟩ := h2.at h
    exact ⟨_, _, _, v, rfl, rfl, SqT.of h1, atI_nat e1, k v H (Same.refl H) q⟩
theorem opd_ixL {ds : List PyData} {i : Nat} {d : PyData} (h : ds[i]? = some d) : OpD K (rIxL K) (.list ds) (.int (i : Nat)) d := fun x y H Q hx hy k => by
  cases hy
  cases hx with
  | lst h1 h2 =>
    obtain ⟨v, e1, q⟩ := h2.at h
    exact ⟨_, _, _, v, rfl, rfl, h1, atI_nat e1, k v H (Same.refl H) q⟩
theorem opd_ixS {z : Str} {i : Nat} {c : Nat} (hz : z.length ≤ sizeLine) (h : z.cps.toList[i]? = some c) : OpD K rIxS (.str z) (.int (i : Nat)) (.str ⟨#[c]⟩) := fun x y H Q hx hy k => by
  cases hy
  cases hx
  exact ⟨z, _, c, rfl, rfl, hz, atI_nat h, k _ H (Same.refl H) (.str _)⟩
end
section
variable {X : Cx} {l : Sk} {a b e o : Expr} {pos : Pos} {d d1 d2 : PyData}
theorem pd_ix {r : R2} (hr : IxR X r) (ho : OpD X.K r d1 d2 d) (ha : PD X l a d1) (hb : PD X l b d2) (hs : PlainIx b := by exact fun _ _ => rfl) : PD X l (.Subscript a b pos) d :=
  peImp (pe_ix hr ha hb hs) fun σ H Q ⟨s, k⟩ => ⟨s, fun x H1 e1 q1 => ⟨s.mono e1, fun y H2 e2 q2 => ho x y H2 Q (q1.mono e2) q2 fun z H3 e3 q3 => k z H3 ((e1.trans e2).trans e3) q3⟩⟩

/-! ### built-ins -/
theorem cd_lenS {z : Str} (h : z.length ≤ sizeLine) : CallD X.K (fun xs H Q => ∃ x n, xs = [x] ∧ LenV X.K x H n ∧ Q (.int n) H) [.str z] (.int (z.length : Nat)) := fun vs H Q hv k => by
  cases hv with
  | cons h1 h2 =>
    cases h2
    cases h1
    exact ⟨_, z.length, rfl, ⟨h, rfl⟩, k _ H (Same.refl H) (.int _)⟩
theorem cd_lenL {ds : List PyData} : CallD X.K (fun xs H Q => ∃ x n, xs = [x] ∧ LenV X.K x H n ∧ Q (.int n) H) [.list ds] (.int (ds.length : Nat)) := fun vs H Q hv k => by
  cases hv with
  | cons h1 h2 =>
    cases h2
    cases h1 with
    | lst g1 g2 =>
      refine ⟨_, ds.length, rfl, .inl ⟨_, g1, g2.length.symm⟩, k _ H (Same.refl H) (.int _)⟩
theorem cd_lenT {ds : List PyData} : CallD X.K (fun xs H Q => ∃ x n, xs = [x] ∧ LenV X.K x H n ∧ Q (.int n) H) [.tuple ds] (.int (ds.length : Nat)) := fun vs H Q hv k => by
  cases hv with
  | cons h1 h2 =>
    cases h2
    cases h1 with
    | tup g1 g2 =>
      refine ⟨_, ds.length, rfl, .inr ⟨_, SqT.of g1, g2.length.symm⟩, k _ H (Same.refl H) (.int _)⟩
theorem cd_all {bs : List Bool} : CallD X.K (rAll X.K) [.list (bs.map .bool)] (.bool (bs.all id)) := fun vs H Q hv k => by
  cases hv with
  | cons h1 h2 =>
    cases h2
    cases h1 with
    | lst g1 g2 =>
      have e := bls_da g2
      subst e
      exact ⟨_, bs, rfl, g1, k _ H (Same.refl H) (.bl _)⟩
theorem cd_strI {i : Int} (h : i.natAbs.log2 < 1920) : CallD X.K (fun xs H Q => ∃ i, xs = [.int i] ∧ i.natAbs.log2 < 1920 ∧ Q (.str (toString i)) H) [.int i] (.str (toString i)) := fun vs H Q hv k => by
  cases hv with
  | cons h1 h2 =>
    cases h2
    cases h1
    exact ⟨i, rfl, h, k _ H (Same.refl H) (.str _)⟩
theorem cd_intS {z : Str} {n : Int} (h : PySem.intText? z = some n) (hl : z.length ≤ 640) : CallD X.K (fun xs H Q => ∃ a n, xs = [.str a] ∧ PySem.intText? a = some n ∧ a.length ≤ 640 ∧ Q (.int n) H) [.str z] (.int n) := fun vs H Q hv k => by
  cases hv with
  | cons h1 h2 =>
    cases h2
    cases h1
    exact ⟨z, n, rfl, h, hl, k _ H (Same.refl H) (.int _)⟩
theorem cd_tupL {ds : List PyData} : CallD X.K (fun xs H Q => ∃ p ys, xs = [.ref p] ∧ ((SqL X.K H p ys ∧ ∀ l, H l = none → Q (.ref l) (upd H l (.tup ys))) ∨ (SqT X.K H p ys ∧ Q (.ref p) H))) [.list ds] (.tuple ds) := fun vs H Q hv k => by
  cases hv with
  | cons h1 h2 =>
    cases h2
    cases h1 with
    | lst g1 g2 => exact ⟨_, _, rfl, .inl ⟨g1, fun q hq => k _ _ (same_new hq) (.tup upd_same (g2.mono (same_new hq)))⟩⟩
theorem cd_lstT {ds : List PyData} : CallD X.K (fun xs H Q => ∃ p ys, xs = [.ref p] ∧ (SqL X.K H p ys ∨ SqT X.K H p ys) ∧ ∀ l, H l = none → Q (.ref l) (upd H l (.lst ys))) [.tuple ds] (.list ds) := fun vs H Q hv k => by
  cases hv with
  | cons h1 h2 =>
    cases h2
    cases h1 with
    | tup g1 g2 => exact ⟨_, _, rfl, .inr (SqT.of g1), fun q hq => k _ _ (same_new hq) (.lst (SqL.of upd_same) (g2.mono (same_new hq)))⟩
/-- what type a datum is of -/
def tyOf : PyData → String
  | .none => "NoneType"
  | .bool _ => "bool"
  | .int _ => "int"
  | .str _ => "str"
  | .list _ => "list"
  | .tuple _ => "tuple"
  | .dict _ => "dict"
theorem Da.ty {H : Hp} {x : V} {d : PyData} (h : Da X.K H x d) (hf : ∀ ds, d ≠ .list ds) : TyX X.K H x (.type (tyOf d)) := by
  cases h with
  | non => exact .base .non
  | bl b => exact .base (.bl b)
  | int n => exact .base (.int n)
  | str z => exact .base (.str z)
  | lst _ _ => exact absurd rfl (hf _)
  | dct h1 _ => exact .base (.dT h1)
  | tup h1 _ => exact .base (.tup h1)
theorem cd_isi {T : String} {r : Bool} (hf : ∀ ds, d ≠ .list ds) (h : kitB (tyOf d) T = some r) : ∀ vs H Q, (∃ x, vs = [x, .ty T] ∧ Da X.K H x d) → (∀ z H', Same H H' → Da X.K H' z (.bool r) → Q z H') → rIsi X.K vs H Q := fun vs H Q hv k => by
  obtain ⟨x, rfl, hx⟩ := hv
  exact ⟨x, .ty T, .type (tyOf d), .type T, r, rfl, .ty T, hx.ty hf, kit_ty h, k _ H (Same.refl H) (.bl r)⟩
/-- isinstance(x, T), T a built-in type -/
theorem pd_isi {T : String} {x : Str} {r : Bool} {p p' : Pos} (hm : X.mg "isinstance" = none) (hT : X.mg x = none) (hv : bootBuiltins x = some (.type T)) (ha : PD X l a d) (hf : ∀ ds, d ≠ .list ds) (h : kitB (tyOf d) T = some r) (hg : Gl X "isinstance" := by rfl) (hgT : Gl X x := by rfl)
    (hn : x ≠ "__name__" := by decide) (hdb : (x == ("__debug__" : Str)) = false := by decide) (he : starEach [a, .Name x p'] X.env = (false, eval a X.env) :: starEach [.Name x p'] X.env := by rfl) (hpl : (backTo pos (starEach [.Name x p'] X.env)).any (·.1) = false := by rfl)
    (he2 : starEach [.Name x p'] X.env = (false, eval (.Name x p') X.env) :: starEach [] X.env := by rfl) :
    PD X l (.Call (.Name "isinstance" p) [a, .Name x p'] [] pos) (.bool r) := by
  have hA : PA X [a, .Name x p'] (fun σ H Q => Sl X.K σ H l ∧ ∀ y H', Same H H' → Da X.K H' y d → Q [y, .ty T] H') :=
    paImp (pa_cons ha (pa_cons (pe_bltn (v := .ty T) hgT hT hv rfl hn hdb) pa_nil he2) he) fun σ H Q ⟨s, k⟩ => ⟨s, fun y H1 e1 q1 => k y H1 e1 q1⟩
  exact peImp (pe_callB call_isi hg hm (by decide +kernel) hA (by decide) (by decide) he hpl) fun σ H Q ⟨s, k⟩ => ⟨s, fun y H1 e1 q1 => cd_isi hf h [y, .ty T] H1 Q ⟨y, rfl, q1⟩ fun z H2 e2 q2 => k z H2 (e1.trans e2) q2⟩

/-! ### texts' methods -/
theorem pd_split {z y : Str} {apos : Pos} (ho : PD X l o (.str z)) (he : PD X l e (.str y)) (hy : (y.length == 0) = false) (hz : z.length + 2 ≤ sizeLine) (hs : starEach [e] X.env = [(false, eval e X.env)] := by rfl) (hbase : attributeBase o "split" X.env (eval o X.env) = eval o X.env := by rfl)
    (hline : (apos.endLine == pos.line) = true := by rfl) : PD X l (.Call (.Attribute o "split" apos) [e] [] pos) (.list ((Txt.split z y).map .str)) :=
  peImp (pe_split ho he hs hbase hline) fun σ H Q ⟨s, k⟩ => ⟨s, fun x H1 e1 q1 => by
    cases q1
    refine ⟨⟨z, rfl⟩, s.mono e1, fun y' H2 e2 q2 => ?_⟩
    cases q2
    exact ⟨z, y, rfl, rfl, hy, hz, fun p hp => k _ _ ((e1.trans e2).trans (same_new hp)) (.lst (SqL.of upd_same) (da_strs _))⟩⟩
theorem pd_join {z : Str} {ys : List Str} {apos : Pos} (ho : PD X l o (.str z)) (he : PD X l e (.list (ys.map .str))) (hz : (ys.map (·.length)).sum + ys.length * z.length ≤ 16777216) (hs : starEach [e] X.env = [(false, eval e X.env)] := by rfl)
    (hbase : attributeBase o "join" X.env (eval o X.env) = eval o X.env := by rfl) (hline : (apos.endLine == pos.line) = true := by rfl) : PD X l (.Call (.Attribute o "join" apos) [e] [] pos) (.str (Txt.join z ys)) :=
  peImp (pe_join ho he hs hbase hline) fun σ H Q ⟨s, k⟩ => ⟨s, fun x H1 e1 q1 => by
    cases q1
    refine ⟨⟨z, rfl⟩, s.mono e1, fun y' H2 e2 q2 => ?_⟩
    cases q2 with
    | lst g1 g2 =>
      have e := strs_da g2
      subst e
      exact ⟨z, _, ys, rfl, rfl, .inl g1, hz, k _ H2 (e1.trans e2) (.str _)⟩⟩
end

/-! ### what a loop or comprehension walks -/
/-- one name takes each of the data ds in turn -/
def Src (X : Cx) (l : Sk) (tg iter : Expr) (ds : List PyData) : Prop := ∃ wi, PI X tg iter wi ∧ ∀ σ H (R : It → Hp → Prop), Sl X.K σ H l →
  (∀ J H1 (G : Hp → Prop), Same H H1 → G H1 → (∀ Ha Hb, Same Ha Hb → G Ha → G Hb) → Walk J ds.length G (fun j Ha x Hb => Hb = Ha ∧ ∃ d, ds[j]? = some d ∧ Da X.K Ha x d) → R J H1) → wi σ H R
section
variable {X : Cx} {l : Sk} {e iter tg : Expr} {pos : Pos} {d : PyData} {ds : List PyData}
theorem src_list (h : PD X l iter (.list ds)) : Src X l tg iter ds := by
  refine ⟨_, pi_list h, fun σ H R s k => ⟨s, fun x H1 e1 q1 => ?_⟩⟩
  cases q1 with
  | lst g1 g2 =>
    rename_i p vs
    refine ⟨p, rfl, ⟨vs, g1⟩, k _ H1 (fun H' => SqL X.K H' p vs ∧ DaAll X.K H' vs ds) e1 ⟨g1, g2⟩ (fun Ha Hb e q => ⟨e.seq q.1, q.2.mono e⟩) ?_⟩
    rw [← g2.length]
    refine Walk.mono walk_list (fun H q => q.1) fun i H x H' hi q y => ?_
    obtain ⟨y1, y2⟩ := y
    obtain ⟨d', e', q'⟩ := q.2.at' y2
    exact ⟨y1, d', e', q'⟩
theorem src_tup (h : PD X l iter (.tuple ds)) : Src X l tg iter ds := by
  refine ⟨_, pi_tup h, fun σ H R s k => ⟨s, fun x H1 e1 q1 => ?_⟩⟩
  cases q1 with
  | tup g1 g2 =>
    rename_i p vs
    refine ⟨p, rfl, ⟨vs, SqT.of g1⟩, k _ H1 (fun H' => SqT X.K H' p vs ∧ DaAll X.K H' vs ds) e1 ⟨SqT.of g1, g2⟩ (fun Ha Hb e q => ⟨same_t e q.1, q.2.mono e⟩) ?_⟩
    rw [← g2.length]
    refine Walk.mono walk_tup (fun H q => q.1) fun i H x H' hi q y => ?_
    obtain ⟨y1, y2⟩ := y
    obtain ⟨d', e', q'⟩ := q.2.at' y2
    exact ⟨y1, d', e', q'⟩
theorem src_str {z : Str} (h : PD X l iter (.str z)) : Src X l tg iter (z.cps.toList.map fun c => .str ⟨#[c]⟩) := by
  refine ⟨_, pi_str h, fun σ H R s k => ⟨s, fun x H1 e1 q1 => ?_⟩⟩
  cases q1
  refine ⟨z, rfl, k _ H1 (fun _ => True) e1 trivial (fun _ _ _ q => q) ?_⟩
  have hl : (z.cps.toList.map fun c => PyData.str ⟨#[c]⟩).length = z.cps.size := by simp
  rw [hl]
  refine Walk.mono walk_str (fun H q => q) fun i H x H' hi q y => ?_
  obtain ⟨y1, c, y2, rfl⟩ := y
  refine ⟨y1, .str ⟨#[c]⟩, ?_, .str _⟩
  rw [List.getElem?_map, Array.getElem?_toList, y2]
  rfl
end
/-- the same, with a wish of its own -/
def SrcP (X : Cx) (l : Sk) (Pre : L2.St → Hp → Prop) (tg iter : Expr) (ds : List PyData) : Prop := ∃ wi, PI X tg iter wi ∧ ∀ σ H (R : It → Hp → Prop), Sl X.K σ H l → Pre σ H →
  (∀ J H1 (G : Hp → Prop), Same H H1 → G H1 → (∀ Ha Hb, Same Ha Hb → G Ha → G Hb) → Walk J ds.length G (fun j Ha x Hb => Hb = Ha ∧ ∃ d, ds[j]? = some d ∧ Da X.K Ha x d) → R J H1) → wi σ H R
theorem Src.p {X : Cx} {l : Sk} {tg iter : Expr} {ds : List PyData} (h : Src X l tg iter ds) : SrcP X l (fun _ _ => True) tg iter ds := by
  obtain ⟨wi, h1, h2⟩ := h
  exact ⟨wi, h1, fun σ H R s _ k => h2 σ H R s k⟩
/-- [elt for x in iter if test]: f the element's datum, g whether it is kept -/

def tElt (K : PySem.W.Frag) (l : Sk) (i : Nat) (ds : List PyData) (p : PyData → Bool) (f : PyData → PyData) : TE := fun σ H Q => ∃ d ∈ ds, p d = true ∧ tD K ((wipeK l [i]).set i (some d)) (f d) σ H Q
theorem lc_of {X : Cx} {Pre : L2.St → Hp → Prop} {l : Sk} {i : Nat} {wi : TI} {ds : List PyData} {p : PyData → Bool} {f : PyData → PyData} {tt : TT}
    (hwi : ∀ σ H (R : It → Hp → Prop), Sl X.K σ H l → Pre σ H →
      (∀ J H1 (G : Hp → Prop), Same H H1 → G H1 → (∀ Ha Hb, Same Ha Hb → G Ha → G Hb) → Walk J ds.length G (fun j Ha x Hb => Hb = Ha ∧ ∃ d, ds[j]? = some d ∧ Da X.K Ha x d) → R J H1) → wi σ H R)
    (hl : ds.length ≤ 100000) (hi : ∀ d ∈ ds, p d = true → imm (f d) = true) (htt : ∀ d ∈ ds, ∀ σ H Q, tDt X.K ((wipeK l [i]).set i (some d)) (p d) σ H Q → tt σ H Q) {σ : L2.St} {H : Hp} {Q : VK}
    (h : Pre σ H ∧ tD X.K l (.list ((ds.filter p).map f)) σ H Q) : tLc wi (gName i) tt (tElt X.K l i ds p f) [i] σ H Q := by
  obtain ⟨pre, s, k⟩ := h
  refine hwi σ H _ s pre fun J H1 G e1 g1 gm w => fun D hD => ?_
  have hlen : ∀ m, ((ds.take m).filter p).length ≤ 100000 := fun m => Nat.le_trans (List.length_filter_le _ _) (Nat.le_trans (by rw [List.length_take]; omega) hl)
  refine lc_it (vs := [i]) (σ := σ) (g := gName i) (tt := tt) (te := tElt X.K l i ds p f) (Qd := fun H' => Q (V.ref D) H') w (fun m H' => Same H1 H' ∧ ∃ vs, H' D = some (.lst vs) ∧ DaAll X.K H' vs (((ds.take m).filter p).map f)) ⟨same_new hD, [], upd_same, .nil⟩ (fun m H' _ q => gm _ _ q.1 g1) (fun m y Ha Hb hm q yy => ?_) fun H' q => ?_
  · obtain ⟨rfl, d, hd, hda⟩ := yy
    obtain ⟨eS, vs, hDv, hvs⟩ := q
    have hmem : d ∈ ds := List.mem_of_getElem? hd
    have htk : ds.take (m + 1) = ds.take m ++ [d] := by
      rw [List.take_add_one, hd]
      rfl
    have hsl : Sl X.K ((wipe σ [i]).set i (some y)) Hb ((wipeK l [i]).set i (some d)) := ((s.mono (e1.trans eS)).wipe [i]).set i hda
    refine ⟨by simp [wipe], ?_⟩
    refine htt d hmem _ Hb _ ⟨hsl, fun H3 e3 => ?_⟩
    by_cases hp : p d = true
    · rw [hp]
      refine L2.iteT ⟨d, hmem, hp, hsl.mono e3, fun z H4 e4 hz => ⟨vs, e4 _ _ (e3 _ _ hDv), ?_, same_mut ((eS.trans e3).trans e4) hD, vs ++ [z], upd_same, ?_⟩⟩
      · have := hvs.length
        rw [List.length_map] at this
        rw [this]
        exact Nat.lt_of_le_of_lt (hlen m) (by decide)
      · rw [htk, List.filter_append, List.filter_cons, if_pos hp, List.filter_nil, List.map_append]
        have hD4 : H4 D = some (.lst vs) := e4 _ _ (e3 _ _ hDv)
        have i1 : immAll (((ds.take m).filter p).map f) = true := immAll_mem fun e he => by
          obtain ⟨d', h1, rfl⟩ := List.mem_map.mp he
          exact hi d' (List.mem_of_mem_take (List.mem_filter.mp h1).1) (List.mem_filter.mp h1).2
        exact DaAll.snoc (DaAll.write hD4 trivial i1 (hvs.mono (e3.trans e4))) (Da.write hD4 trivial (hi d hmem hp) hz)
    · have hp' : p d = false := by simpa using hp
      rw [hp']
      refine L2.iteF ⟨eS.trans e3, vs, e3 _ _ hDv, ?_⟩
      rw [htk, List.filter_append, List.filter_cons, if_neg hp, List.filter_nil, List.append_nil]
      exact hvs.mono e3
  · obtain ⟨eS, vs, hDv, hvs⟩ := q
    rw [List.take_length] at hvs
    exact k _ H' (e1.trans eS) (.lst (SqL.of hDv) hvs)
theorem walk_compP {X : Cx} {Pre : L2.St → Hp → Prop} {l : Sk} {x : Str} {i : Nat} {px pos : Pos} {elt iter : Expr} {ifs : List Expr} {scope : Scope} {ds : List PyData} {p : PyData → Bool} {f : PyData → PyData} {tt : TT}
    (hs : SrcP X l Pre (.Name x px) iter ds) (nd : X.N.Nodup) (ok : blkC X.N X.env.scope scope [(x, i)] = true) (hl : ds.length ≤ 100000) (hi : ∀ d ∈ ds, p d = true → imm (f d) = true)
    (hn : X.N[i]? = some x) (hx : Loc (compEnvC scope [] 0 X.env).scope x) (hfn : scope.names.lookup x = some .cell ∨ (compEnvC scope [] 0 X.env).scope.names.lookup x = some .local)
    (ht : ∀ (s : Shared) (H : Hp) (C : Addr) (cl : List (Str × Addr)) (fp : List Addr), PTs (X.blk s H scope (compEnvC scope cl C X.env) fp) ifs tt)
    (htt : ∀ d ∈ ds, ∀ σ H Q, tDt X.K ((wipeK l [i]).set i (some d)) (p d) σ H Q → tt σ H Q)
    (he : ∀ (s : Shared) (H : Hp) (C : Addr) (cl : List (Str × Addr)) (fp : List Addr), ∀ d ∈ ds, p d = true → PD (X.blk s H scope (compEnvC scope cl C X.env) fp) ((wipeK l [i]).set i (some d)) elt (f d))
    (hc : X.calm = true := by rfl) (hfs : ∀ y, foldedSetIterable iter X.env y = pure y := by intro _; rfl) :
    PE X (.ListComp elt [⟨.Name x px, iter, ifs, 0⟩] scope pos) (fun σ H Q => Pre σ H ∧ tD X.K l (.list ((ds.filter p).map f)) σ H Q) := by
  obtain ⟨wi, hpi, hwi⟩ := hs
  refine peImp (pe_lc (own := [(x, i)]) (te := tElt X.K l i ds p f) hc nd hpi (blkOk_by ok)
    (fun s H C cl fp => pg_name (i := i) nd hn hx (by
      rcases hfn with q | q
      · left
        show (scope.names.lookup x == some .cell) = true
        rw [q]
        rfl
      · exact .inr q)) ht (fun s H C cl fp => ?_) hfs) fun σ H Q h => lc_of hwi hl hi htt h
  · refine ⟨fun pins s' σ' H' Q' I q => ?_⟩
    obtain ⟨d, hd, hp, q⟩ := q
    exact (he s H C cl fp d hd hp).run pins s' σ' H' Q' I q
theorem set_compP {X : Cx} {Pre : L2.St → Hp → Prop} {l : Sk} {x : Str} {i : Nat} {px pos spos py : Pos} {y : Str} {m : Nat} {elt iter : Expr} {ifs : List Expr} {scope : Scope} {ds : List PyData} {p : PyData → Bool} {f : PyData → PyData} {tt : TT}
    (hs : SrcP X l Pre (.Name x px) iter ds) (nd : X.N.Nodup) (ok : blkC X.N X.env.scope scope [(x, i)] = true) (hl : ds.length ≤ 100000) (hi : ∀ d ∈ ds, p d = true → imm (f d) = true)
    (hn : X.N[i]? = some x) (hx : Loc (compEnvC scope [] 0 X.env).scope x) (hfn : scope.names.lookup x = some .cell ∨ (compEnvC scope [] 0 X.env).scope.names.lookup x = some .local)
    (ht : ∀ (s : Shared) (H : Hp) (C : Addr) (cl : List (Str × Addr)) (fp : List Addr), PTs (X.blk s H scope (compEnvC scope cl C X.env) fp) ifs tt)
    (htt : ∀ d ∈ ds, ∀ σ H Q, tDt X.K ((wipeK l [i]).set i (some d)) (p d) σ H Q → tt σ H Q)
    (he : ∀ (s : Shared) (H : Hp) (C : Addr) (cl : List (Str × Addr)) (fp : List Addr), ∀ d ∈ ds, p d = true → PD (X.blk s H scope (compEnvC scope cl C X.env) fp) ((wipeK l [i]).set i (some d)) elt (f d))
    (hc : X.calm = true := by rfl) (hfs : ∀ y, foldedSetIterable iter X.env y = pure y := by intro _; rfl)
    (hy : X.N[m]? = some y) (hyl : X.env.scope.names.lookup y = some .local) (hsw : swapsWith (.ListComp elt [⟨.Name x px, iter, ifs, 0⟩] scope pos) (some (.Name y py)) spos.line X.env = pure true) :
    PS X (.Assign [.Name y py] (.ListComp elt [⟨.Name x px, iter, ifs, 0⟩] scope pos) spos) (fun D σ H => Pre σ H ∧ Sl X.K σ H l ∧ ∀ z H', Same H H' → Da X.K H' z (.list ((ds.filter p).map f)) → D.nx (σ.set m (some z)) H') := by
  obtain ⟨wi, hpi, hwi⟩ := hs
  refine psImp (ps_setLc (i := m) (own := [(x, i)]) (te := tElt X.K l i ds p f) hc nd hy hyl hsw hpi (blkOk_by ok)
    (fun s H C cl fp => pg_name (i := i) nd hn hx (by
      rcases hfn with q | q
      · left
        show (scope.names.lookup x == some .cell) = true
        rw [q]
        rfl
      · exact .inr q)) ht (fun s H C cl fp => ?_) hfs) fun D σ H h => lc_of hwi hl hi htt h
  refine ⟨fun pins s' σ' H' Q' I q => ?_⟩
  obtain ⟨d, hd, hp, q⟩ := q
  exact (he s H C cl fp d hd hp).run pins s' σ' H' Q' I q
theorem walk_comp {X : Cx} {l : Sk} {x : Str} {i : Nat} {px pos : Pos} {elt iter : Expr} {ifs : List Expr} {scope : Scope} {ds : List PyData} {p : PyData → Bool} {f : PyData → PyData} {tt : TT}
    (hs : Src X l (.Name x px) iter ds) (nd : X.N.Nodup) (ok : blkC X.N X.env.scope scope [(x, i)] = true) (hl : ds.length ≤ 100000) (hi : ∀ d ∈ ds, p d = true → imm (f d) = true)
    (hn : X.N[i]? = some x) (hx : Loc (compEnvC scope [] 0 X.env).scope x) (hfn : scope.names.lookup x = some .cell ∨ (compEnvC scope [] 0 X.env).scope.names.lookup x = some .local)
    (ht : ∀ (s : Shared) (H : Hp) (C : Addr) (cl : List (Str × Addr)) (fp : List Addr), PTs (X.blk s H scope (compEnvC scope cl C X.env) fp) ifs tt)
    (htt : ∀ d ∈ ds, ∀ σ H Q, tDt X.K ((wipeK l [i]).set i (some d)) (p d) σ H Q → tt σ H Q)
    (he : ∀ (s : Shared) (H : Hp) (C : Addr) (cl : List (Str × Addr)) (fp : List Addr), ∀ d ∈ ds, p d = true → PD (X.blk s H scope (compEnvC scope cl C X.env) fp) ((wipeK l [i]).set i (some d)) elt (f d))
    (hc : X.calm = true := by rfl) (hfs : ∀ y, foldedSetIterable iter X.env y = pure y := by intro _; rfl) :
    PD X l (.ListComp elt [⟨.Name x px, iter, ifs, 0⟩] scope pos) (.list ((ds.filter p).map f)) := peImp (walk_compP (Pre := fun _ _ => True) (ifs := ifs) (pos := pos) hs.p nd ok hl hi hn hx hfn ht htt he hc hfs) fun σ H Q q => ⟨trivial, q⟩
/-- without tests -/
theorem pd_comp {X : Cx} {l : Sk} {x : Str} (i : Nat) {px pos : Pos} {elt iter : Expr} {scope : Scope} {ds : List PyData} (f : PyData → PyData)
    (hs : Src X l (.Name x px) iter ds) (nd : X.N.Nodup) (ok : blkC X.N X.env.scope scope [(x, i)] = true) (hl : ds.length ≤ 100000) (hi : ∀ d ∈ ds, imm (f d) = true)
    (he : ∀ (s : Shared) (H : Hp) (C : Addr) (cl : List (Str × Addr)) (fp : List Addr), ∀ d ∈ ds, PD (X.blk s H scope (compEnvC scope cl C X.env) fp) ((wipeK l [i]).set i (some d)) elt (f d))
    (hn : X.N[i]? = some x := by rfl) (hx : Loc (compEnvC scope [] 0 X.env).scope x := by first | exact .inl rfl | exact .inr rfl) (hfn : scope.names.lookup x = some .cell ∨ (compEnvC scope [] 0 X.env).scope.names.lookup x = some .local := by first | exact .inl rfl | exact .inr rfl)
    (hc : X.calm = true := by rfl) (hfs : ∀ y, foldedSetIterable iter X.env y = pure y := by intro _; rfl) :
    PD X l (.ListComp elt [⟨.Name x px, iter, [], 0⟩] scope pos) (.list (ds.map f)) := by
  have h := walk_comp (p := fun _ => true) (f := f) (pos := pos) hs nd ok hl (fun d hd _ => hi d hd) hn hx hfn (tt := tYes) (fun s H C cl fp => pts_nil) (fun d hd σ H Q q => q.2 H (Same.refl H)) (fun s H C cl fp d hd _ => he s H C cl fp d hd) hc hfs
  rw [List.filter_eq_self.mpr (by intros; rfl)] at h
  exact h
/-- with one test -/
theorem pd_compIf {X : Cx} {l : Sk} {x : Str} (i : Nat) {px pos : Pos} {elt iter test : Expr} {scope : Scope} {ds : List PyData} (p : PyData → Bool) (f : PyData → PyData)
    (hs : Src X l (.Name x px) iter ds) (nd : X.N.Nodup) (ok : blkC X.N X.env.scope scope [(x, i)] = true) (hl : ds.length ≤ 100000) (hi : ∀ d ∈ ds, p d = true → imm (f d) = true)
    (ht : ∀ (s : Shared) (H : Hp) (C : Addr) (cl : List (Str × Addr)) (fp : List Addr), ∀ d ∈ ds, PDT (X.blk s H scope (compEnvC scope cl C X.env) fp) ((wipeK l [i]).set i (some d)) test (p d))
    (he : ∀ (s : Shared) (H : Hp) (C : Addr) (cl : List (Str × Addr)) (fp : List Addr), ∀ d ∈ ds, p d = true → PD (X.blk s H scope (compEnvC scope cl C X.env) fp) ((wipeK l [i]).set i (some d)) elt (f d))
    (hn : X.N[i]? = some x := by rfl) (hx : Loc (compEnvC scope [] 0 X.env).scope x := by first | exact .inl rfl | exact .inr rfl) (hfn : scope.names.lookup x = some .cell ∨ (compEnvC scope [] 0 X.env).scope.names.lookup x = some .local := by first | exact .inl rfl | exact .inr rfl)
    (hc : X.calm = true := by rfl) (hfs : ∀ y, foldedSetIterable iter X.env y = pure y := by intro _; rfl) :
    PD X l (.ListComp elt [⟨.Name x px, iter, [test], 0⟩] scope pos) (.list ((ds.filter p).map f)) :=
  walk_comp (pos := pos) (tt := fun σ H Q => ∃ d ∈ ds, tDt X.K ((wipeK l [i]).set i (some d)) (p d) σ H Q) hs nd ok hl hi hn hx hfn
    (fun s H C cl fp => pts_one ⟨fun pins s' σ' H' Q' I q => by
      obtain ⟨d, hd, q⟩ := q
      exact (ht s H C cl fp d hd).run pins s' σ' H' Q' I q⟩) (fun d hd σ H Q q => ⟨d, hd, q⟩) he hc hfs
end K7


set_option Elab.async false
set_option linter.all false
set_option maxRecDepth 100000
/-! The text by places, the module's names, the first defs. -/
namespace K7
open PySem PySem.Spec PyProof.Rows L2

def top (i : Nat) : Stmt := PySem.Challenge.pw_firstneed_k70_whole_numbers_states_and_t.main.body.getD i (.Pass ⟨0, 0, 0, 0⟩)
/-- the module's names: built-ins that are not hidden, constants -/
structure Gt (mg : Str → Option Value) : Prop where
  isinstance : mg "isinstance" = none
  int : mg "int" = none
  bool : mg "bool" = none
  str : mg "str" = none
  tuple : mg "tuple" = none
  dict : mg "dict" = none
  list : mg "list" = none
  set : mg "set" = none
  len : mg "len" = none
  all : mg "all" = none
  zip : mg "zip" = none
  enumerate : mg "enumerate" = none
  sorted : mg "sorted" = none
  max : mg "max" = none
  min : mg "min" = none
  abs : mg "abs" = none
  range : mg "range" = none
  repr : mg "repr" = none
  LONGEST : ∃ t, mg "LONGEST" = some (.int (10 ^ 60) t)
  MAX_DIGITS : ∃ t, mg "MAX_DIGITS" = some (.int 60 t)
  DIGITS : ∃ t, mg "DIGITS" = some (.str "0123456789" t)
  NOTHING : ∃ t, mg "NOTHING" = some (.str "-" t)
  NONE : ∃ t, mg "NONE" = some (.str "none" t)
  BAR : ∃ t, mg "BAR" = some (.str " | " t)
  BETWEEN : ∃ t, mg "BETWEEN" = some (.str "; " t)

section
variable {X : Cx} {l : Sk} {a : Expr} {pos : Pos}
theorem pd_neg {i : Int} (h : PD X l a (.int i)) : PD X l (.UnaryOp .USub a pos) (.int (-i)) :=
  peImp (pe_un un_neg h) fun σ H Q ⟨s, k⟩ => ⟨s, fun x H1 e1 q1 => by
    cases q1
    exact ⟨i, rfl, k _ H1 e1 (.int _)⟩⟩
end

abbrev sIsInt : Stmt := top 2
abbrev sIsWithin : Stmt := top 3
theorem scIsInt : FnScope ["value"] ["value"] (defScope sIsInt) := ⟨rfl, rfl, rfl, by decide +kernel, rfl, by decide +kernel, by decide +kernel⟩
theorem scIsWithin : FnScope ["value", "least", "most"] ["value", "least", "most"] (defScope sIsWithin) := ⟨rfl, rfl, rfl, by decide +kernel, rfl, by decide +kernel, by decide +kernel⟩
def big : Int := 10 ^ 60
section
variable {P : Program} {w : World} {K : PySem.W.Frag} {mg : Str → Option Value} {base : Heap} {f : Addr} {fd : FuncData}
def domIsInt (ds : List PyData) (d : PyData) : Prop := ∃ i : Int, ds = [.int i] ∧ d = .bool (decide (-(10 ^ 60) < i) && decide (i < 10 ^ 60))
theorem ok_isInt (F : Fun K "is_integer" "is_integer" sIsInt f fd) (g : Gt mg) : FnOk P w K mg base CX0 1 f fd ["value"] (spD K domIsInt) := by
  refine fn_data F scIsInt (fun ds d ⟨i, h, _⟩ => by rw [h]; rfl) fun cdv A outer s H E ds d hr h => ?_
  obtain ⟨i, rfl, rfl⟩ := h
  refine pr_ret (pd_andT (pd_isi (d := .int i) (T := "int") g.isinstance g.int (by decide +kernel) (pd_var 0) (fun _ q => by cases q) (show kitB "int" "int" = some true by decide +kernel)) (pd_andT (pd_not (pd_isi (d := .int i) (T := "bool") (r := false) g.isinstance g.bool (by decide +kernel) (pd_var 0) (fun _ q => by cases q) (show kitB "int" "bool" = some false by decide +kernel))) (pd_one ?_)))
  by_cases h1 : -(10 ^ 60) < i
  · rw [decide_eq_true h1, Bool.true_and]
    exact pd_chainT op_lt op_lt (by rw [← decide_eq_true h1]; exact opd_lt) opd_lt (pd_neg (pd_gint g.LONGEST)) (pd_var 0) (pd_gint g.LONGEST)
  · rw [decide_eq_false h1, Bool.false_and]
    exact pd_chainF op_lt op_lt (by rw [← decide_eq_false h1]; exact opd_lt) (pd_neg (pd_gint g.LONGEST)) (pd_var 0)
def domIsWithin (ds : List PyData) (d : PyData) : Prop := ∃ i a b : Int, ds = [.int i, .int a, .int b] ∧ d = .bool ((decide (-(10 ^ 60) < i) && decide (i < 10 ^ 60)) && (decide (a ≤ i) && decide (i ≤ b)))
theorem ok_isWithin (F : Fun K "is_within" "is_within" sIsWithin f fd) (c : Fk P w K mg base CX0 1 "is_integer" (spD K domIsInt)) : FnOk P w K mg base CX0 2 f fd ["value", "least", "most"] (spD K domIsWithin) := by
  refine fn_data F scIsWithin (fun ds d ⟨i, a, b, h, _⟩ => by rw [h]; rfl) fun cdv A outer s H E ds d hr h => ?_
  obtain ⟨i, a, b, rfl, rfl⟩ := h
  have hc : ∀ v, (decide (-(10 ^ 60) < i) && decide (i < 10 ^ 60)) = v → domIsInt [.int i] (.bool v) := fun v e => ⟨i, rfl, by rw [e]⟩
  cases e : (decide (-(10 ^ 60) < i) && decide (i < 10 ^ 60)) with
  | false => exact pr_ret (pd_andF (pd_call c hr (Nat.le_refl _) (pda1 (pd_var 0)) (hc _ e)))
  | true =>
    refine pr_ret (pd_andT (pd_call c hr (Nat.le_refl _) (pda1 (pd_var 0)) (hc _ e)) (pd_one ?_))
    by_cases h1 : a ≤ i
    · rw [decide_eq_true h1, Bool.true_and]
      exact pd_chainT op_le op_le (by rw [← decide_eq_true h1]; exact opd_le) opd_le (pd_var 1) (pd_var 0) (pd_var 2)
    · rw [decide_eq_false h1, Bool.false_and]
      exact pd_chainF op_le op_le (by rw [← decide_eq_false h1]; exact opd_le) (pd_var 1) (pd_var 0)
end
end K7


set_option Elab.async false
set_option linter.all false
set_option maxRecDepth 100000
/-! Sorting of tuples of ints of any arity, the empty one too. -/
namespace K7
open PySem PySem.W PySem.Calls PyProof.Rows
section
variable {prog : Program} {w : World} {A : Around} {E : Value → Shared → Prop} {s : Shared}
theorem tup_lt_call {l b : Addr} {items items2 : Array Value} {e r : Nat → Bool} {Q : Value → Shared → Prop} (hl : s.heap.IsTuple l items) (hb : s.heap.IsTuple b items2)
    (he : ∀ j (h1 : j < items.size) (h2 : j < items2.size), SeqAt.EqAt A.in1 s items[j] items2[j] (e j)) (hr : ∀ j (h1 : j < items.size) (h2 : j < items2.size), e j = false → SeqAt.RcLt A.in1 s items[j] items2[j] (r j))
    (h : Q (.bool (SeqAt.firstLt e r (decide (items.size < items2.size)) (List.range (min items.size items2.size)))) s) : wpAny (model prog w) A (call (.builtin "tuple.__lt__") [.ref l, .ref b]) Q E s := by
  obtain ⟨⟨c1, dd, data, sl⟩, ho, hc, n, hd⟩ := id hl
  obtain ⟨⟨c2, dd2, data2, sl2⟩, ho2, hc2, n2, hd2⟩ := id hb
  simp only at hc hd hc2 hd2
  subst hc hd hc2 hd2
  exact call_meets F.slot_tuple_lt ⟨_, ho, rfl⟩ F.entry_tuple_lt (F.args_tuple_lt_2 _ _) (SeqAt.tuple_ltAt l b items items2 n n2 dd dd2 sl sl2 e r) ⟨ho, ho2, he, hr, h⟩
/-- one tuple of ints against another, as sorting compares values of one type -/
theorem one_tup {xs ys : List Int} {a b : Value} {as bs : List Addr} {Q : Bool → Shared → Prop} (ra : Reads s.heap a (eNs xs) as) (rb : Reads s.heap b (eNs ys) bs) (hu : A.units + 1 < cLine) (hq : Q (dataLt (eNs xs) (eNs ys)) s) : wpAny (model prog w) A (oneLt' true a b) Q E s := by
  have hal : alikeAll (xs.map .int) (ys.map .int) = true := alike_ints xs ys
  have hd1 : PyData.depthAll (xs.map .int) = 0 := depth_ints xs
  cases ra with
  | @tuple l o vs n _ as₁ h1 h2 h3 h4 =>
    cases rb with
    | @tuple l' o' vs' n' _ bs₁ k1 k2 k3 k4 =>
      have n1 : vs.size = (xs.map PyData.int).length := by simpa using SeqAt.ReadsAll.length _ _ _ h4
      have n2 : vs'.size = (ys.map PyData.int).length := by simpa using SeqAt.ReadsAll.length _ _ _ k4
      have hroom : A.in1.units + min (PyData.depthAll (xs.map .int)) (PyData.depthAll (ys.map .int)) < cLine := by
        rw [hd1, Nat.zero_min]
        show A.units + 1 + 0 < cLine
        omega
      rw [dataLt_tuple, ← firstLt_toks _ _ hal, ← n1, ← n2] at hq
      rw [oneLt'_eq]
      simp only [if_true]
      refine wpAny_bind (wpAny_cRoomFor (by omega) ?_)
      refine wpAny_bind (wpAny_callSpecialIfBound?_slot (T := "tuple") ⟨_, h1, h2⟩ F.slot_tuple_lt (tup_lt_call (e := SeqAt.pairEq (xs.map .int) (ys.map .int)) (r := fun j => dataLt ((xs.map PyData.int).getD j .none) ((ys.map PyData.int).getD j .none)) ⟨_, h1, h2, _, h3⟩ ⟨_, k1, k2, _, k3⟩ (fun j j1 j2 => ?_) (fun j j1 j2 hj => ?_) ?_))
      · have := eqAt_alikeAll _ _ A.in1 s vs.toList vs'.toList _ _ h4 k4 hal hroom j (by simpa using j1) (by simpa using j2)
        simpa using this
      · have := rcLt_alikeAll _ _ A.in1 s vs.toList vs'.toList _ _ h4 k4 hal hroom j (by simpa using j1) (by simpa using j2) hj
        simpa using this
      · exact wpAny_truthy_bool hq
end
section
variable {M : Model} {A : Around} {E : Value → Shared → Prop} {s : Shared}
theorem firsts_any : ∀ (vs : List Value) (cs : List (List Int)) {Q : List (Option Value) → Shared → Prop}, EachIs (fun v c => ∃ as, Reads s.heap v (eNs c) as) vs cs →
    (∀ os : List (Option Value), os.map Option.isSome = cs.map (fun c => !c.isEmpty) → Q os s) → wpAny M A (vs.mapM firstOfTuple') Q E s
  | [], [], _, _, h => by rw [List.mapM_nil]; exact wpAny_pure (h [] rfl)
  | v :: vs, c :: cs, Q, .cons h1 h2, h => by
    obtain ⟨as, r⟩ := h1
    rw [List.mapM_cons]
    refine wpAny_bind ?_
    rw [kas_first_eq]
    cases r with
    | @tuple a o items n _ _ ho hc hd hr =>
      refine wpAny_bind (Looks.here (show Looks M s.heap (typeOf (.ref a)) o.cls from (Looks.ld ho).andThen .now) ?_)
      rw [hc, if_neg (by first | decide | simp)]
      refine wpAny_bind (listItems_at ho hd (wpAny_pure ?_))
      refine wpAny_bind (firsts_any vs cs (Q := fun bs s' => wpAny M A (pure (items[0]? :: bs)) Q E s') h2 fun os e => wpAny_pure (h _ ?_))
      have hl : items.size = (c.map PyData.int).length := by simpa using SeqAt.ReadsAll.length _ _ _ hr
      rw [List.map_cons, List.map_cons, e]
      congr 1
      cases c with
      | nil =>
        have : items.size = 0 := by simpa using hl
        simp [this]
      | cons x c =>
        have : 0 < items.size := by simp at hl; omega
        simp [this]
theorem kind_mixed {vs : List Value} {cs : List (List Int)} {Q : SortKind → Shared → Prop} (e : EachIs (fun v c => ∃ as, Reads s.heap v (eNs c) as) vs cs) (hne : ¬ ∀ c ∈ cs, c ≠ [])
    (h : Q (if (cs.head?.map List.isEmpty) = some false then general' else oneType') s) : wpAny M A (keyKind' vs.toArray) Q E s := by
  rw [kat_kind_eq, List.mapM_toArray, map_eq_pure_bind]
  refine wpAny_bind (wpAny_bind (firsts_any vs cs e fun os eo => wpAny_pure ?_))
  have hall : ¬ (os.toArray.all fun x => x.isSome) = true := fun q => hne fun c hc => by
    simp only [List.all_toArray, List.all_eq_true] at q
    rintro rfl
    have hm : false ∈ os.map Option.isSome := by
      rw [eo]
      exact List.mem_map.mpr ⟨[], hc, rfl⟩
    obtain ⟨o, ho, e'⟩ := List.mem_map.mp hm
    have := q o ho
    rw [e'] at this
    cases this
  rw [if_neg hall]
  obtain ⟨v0, vr, c0, cr, rfl, rfl, _⟩ : ∃ v0 vr c0 cr, vs = v0 :: vr ∧ cs = c0 :: cr ∧ True := by
    cases e with
    | nil => exact absurd (fun c hc => absurd hc (by simp)) hne
    | cons h1 h2 => exact ⟨_, _, _, _, rfl, rfl, trivial⟩
  obtain ⟨o0, orr, rfl, e0⟩ : ∃ o0 orr, os = o0 :: orr ∧ o0.isSome = !c0.isEmpty := by
    cases os with
    | nil => simp at eo
    | cons o0 orr => exact ⟨o0, orr, rfl, by simpa using (List.cons.inj eo).1⟩
  have h0 : ((o0 :: orr).toArray[0]?.bind id).isSome = !c0.isEmpty := by
    show ((some o0).bind id).isSome = _
    exact e0
  rw [h0]
  cases hc : c0.isEmpty with
  | false =>
    simp only [Bool.not_false, if_true]
    have h' : Q general' s := by simpa [hc] using h
    exact wpAny_pure h'
  | true =>
    simp only [Bool.not_true, Bool.false_eq_true, if_false]
    have h' : Q oneType' s := by simpa [hc] using h
    rw [oneTypeOnly'_eq, List.mapM_toArray, map_eq_pure_bind]
    refine wpAny_bind (wpAny_bind (wpAny_bind (kas_mapM (r := Value.type "tuple") _ (fun v hv Q' hq => ?_) (wpAny_pure ?_))))
    · obtain ⟨c, _, as, r⟩ := e.left v hv
      exact (looks_reads r).here hq
    · have hall2 : ((List.map (fun _ => Value.type "tuple") (v0 :: vr)).toArray.all fun x => x == Value.type "tuple") = true := by
        simp only [List.all_toArray, List.all_map, List.all_eq_true]
        intro _ _
        exact beq_self_eq_true _
      have h00 : (List.map (fun _ => Value.type "tuple") (v0 :: vr)).toArray[0]? = some (Value.type "tuple") := by simp
      rw [h00]
      simp only [hall2, if_true]
      exact wpAny_pure (wpAny_pure h')
end
section
variable {prog : Program} {w : World} {A : Around} {E : Value → Shared → Prop} {s : Shared}
theorem alike_tups (cs : List (List Int)) : AllAlike (cs.map eNs) := AllAlike.of fun b b' => by
  show alike (.tuple (b.map .int)) (.tuple (b'.map .int)) = true
  rw [alike]
  exact alike_ints b b'
theorem each_eNs {R : Value → PyData → Prop} : ∀ {vs : List Value} {cs : List (List Int)}, EachIs (fun v c => R v (eNs c)) vs cs → EachIs R vs (cs.map eNs)
  | _, _, .nil => .nil
  | _, _, .cons h1 t => .cons h1 (each_eNs t)
theorem sorts_tups {vs : List Value} {cs : List (List Int)} (e : EachIs (fun v c => ∃ as, Reads s.heap v (eNs c) as) vs cs) (hu : A.units + 1 < cLine) : SortsAt prog w A s (dataKind s.heap (cs.map eNs)) vs := by
  have hal := alike_tups cs
  have hd : ∀ c : List Int, (eNs c).depth = 1 := fun c => by
    show PyData.depth (.tuple (c.map .int)) = 1
    rw [PyData.depth, depth_ints]
  have hu' : ∀ d, d ∈ cs.map eNs → A.units + d.depth < cLine := fun d hd' => by
    obtain ⟨c, _, rfl⟩ := List.mem_map.mp hd'
    rw [hd]
    exact hu
  by_cases hne : ∀ c ∈ cs, c ≠ []
  · refine SortsAt.data (each_eNs e) hal (.inl fun d hd' => ?_) hu'
    obtain ⟨c, hc, rfl⟩ := List.mem_map.mp hd'
    cases c with
    | nil => exact absurd rfl (hne _ hc)
    | cons x c => exact ⟨_, _, rfl⟩
  · refine ⟨fun v hv => ?_, ?_⟩
    · obtain ⟨c, hc, as, r⟩ := e.left v hv
      exact ⟨_, dataKind_some hal (List.mem_map.mpr ⟨c, hc, rfl⟩) r⟩
    · refine ⟨if (cs.head?.map List.isEmpty) = some false then general' else oneType', ?_, fun _ E Q hq => kind_mixed e hne hq⟩
      intro E x y a b Q ha hb hq
      obtain ⟨d, as, hd1, ra, rfl⟩ := dataKind_inv ha
      obtain ⟨d', as', hd2, rb, rfl⟩ := dataKind_inv hb
      obtain ⟨c, _, rfl⟩ := List.mem_map.mp hd1
      obtain ⟨c', _, rfl⟩ := List.mem_map.mp hd2
      have hq' : Q (dataLt (eNs c) (eNs c')) s := hq
      by_cases hf : (cs.head?.map List.isEmpty) = some false
      · rw [if_pos hf]
        show wpAny (model prog w) A (oneLt' false x y) Q E s
        exact oneLt_alike (fun h => by cases h) ra rb (hal _ hd1 _ hd2) (fun h => by cases h) (by rw [hd, hd]; exact hu) hq'
      · rw [if_neg hf, keyLt'_oneType]
        exact one_tup ra rb hu hq'
end
end K7


set_option Elab.async false
set_option linter.all false
set_option maxRecDepth 100000
/-! Plain: strict orders, sorting without repetition. -/
namespace K7
open PySem PySem.Spec PyProof.Rows L2

structure Sto {α : Type} (lt : α → α → Bool) : Prop where
  irr : ∀ a, lt a a = false
  trans : ∀ a b c, lt a b = true → lt b c = true → lt a c = true
  tri : ∀ a b, lt a b = false → lt b a = false → a = b
def ltI (a b : Int) : Bool := decide (a < b)
theorem sto_int : Sto ltI := ⟨fun a => by simp [ltI], fun a b c h1 h2 => by simp [ltI] at *; omega, fun a b h1 h2 => by simp [ltI] at *; omega⟩
theorem lx_irr : ∀ a : List Int, HT.lexLt a a = false
  | [] => rfl
  | x :: xs => by rw [HT.lexLt_cons, if_pos rfl]; exact lx_irr xs
theorem lx_trans : ∀ a b c : List Int, HT.lexLt a b = true → HT.lexLt b c = true → HT.lexLt a c = true
  | [], [], _, h, _ => by cases h
  | [], _ :: _, [], _, h => by cases h
  | [], _ :: _, _ :: _, _, _ => rfl
  | _ :: _, [], _, h, _ => by cases h
  | _ :: _, _ :: _, [], _, h => by cases h
  | x :: xs, y :: ys, z :: zs, h1, h2 => by
    rw [HT.lexLt_cons] at h1 h2 ⊢
    by_cases e1 : x = y
    · subst e1
      rw [if_pos rfl] at h1
      by_cases e2 : x = z
      · subst e2
        rw [if_pos rfl] at h2 ⊢
        exact lx_trans xs ys zs h1 h2
      · rw [if_neg e2] at h2 ⊢
        exact h2
    · rw [if_neg e1] at h1
      have h1' := of_decide_eq_true h1
      by_cases e2 : y = z
      · subst e2
        rw [if_neg e1]
        exact h1
      · rw [if_neg e2] at h2
        have h2' := of_decide_eq_true h2
        rw [if_neg (by omega)]
        exact decide_eq_true (by omega)
theorem lx_tri : ∀ a b : List Int, HT.lexLt a b = false → HT.lexLt b a = false → a = b
  | [], [], _, _ => rfl
  | [], _ :: _, h, _ => by cases h
  | _ :: _, [], _, h => by cases h
  | x :: xs, y :: ys, h1, h2 => by
    rw [HT.lexLt_cons] at h1 h2
    by_cases e1 : x = y
    · subst e1
      rw [if_pos rfl] at h1 h2
      rw [lx_tri xs ys h1 h2]
    · rw [if_neg e1] at h1
      rw [if_neg (fun e => e1 e.symm)] at h2
      have a := of_decide_eq_false h1
      have b := of_decide_eq_false h2
      omega
theorem sto_lx : Sto HT.lexLt := ⟨lx_irr, lx_trans, lx_tri⟩
theorem lx_dec : ∀ xs ys : List Int, HT.lexLt xs ys = decide (xs < ys)
  | [], [] => by simp [HT.lexLt_nil_nil]
  | [], y :: ys => by simp [HT.lexLt_nil_cons]
  | x :: xs, [] => by simp [HT.lexLt_cons_nil]
  | x :: xs, y :: ys => by
    rw [HT.lexLt_cons, lx_dec xs ys]
    by_cases e : x = y
    · subst e
      rw [if_pos rfl]
      congr 1
      simp [List.cons_lt_cons_iff]
    · rw [if_neg e]
      congr 1
      simp [List.cons_lt_cons_iff, e]
/-- le by lt -/
def lxLe (a b : List Int) : Bool := !HT.lexLt b a
theorem lexAt_le : ∀ (xs ys : List Int) (us vs : List Int) (i : Nat), us.length = i → vs.length = i →
    Ob.lexAt (fun j => decide ((us ++ xs).getD j 0 = (vs ++ ys).getD j 0)) (fun j => decide ((us ++ xs).getD j 0 ≤ (vs ++ ys).getD j 0)) (decide ((us ++ xs).length ≤ (vs ++ ys).length)) i (min xs.length ys.length) = lxLe xs ys
  | [], ys, us, vs, i, h1, h2 => by
    rw [List.length_nil, Nat.zero_min, Ob.lexAt_zero]
    cases ys <;> simp [lxLe, HT.lexLt_cons_nil, HT.lexLt_nil_nil, h1, h2]
  | x :: xs, [], us, vs, i, h1, h2 => by
    rw [List.length_nil, Nat.min_zero, Ob.lexAt_zero]
    simp [lxLe, HT.lexLt_nil_cons, h1, h2]
  | x :: xs, y :: ys, us, vs, i, h1, h2 => by
    have e1 : (us ++ x :: xs).getD i 0 = x := by simp [← h1]
    have e2 : (vs ++ y :: ys).getD i 0 = y := by simp [← h2]
    have hm : min (x :: xs).length (y :: ys).length = min xs.length ys.length + 1 := by simp only [List.length_cons]; omega
    rw [hm, Ob.lexAt_succ]
    simp only [e1, e2]
    have ih := lexAt_le xs ys (us ++ [x]) (vs ++ [y]) (i + 1) (by simp [h1]) (by simp [h2])
    simp only [List.append_assoc, List.singleton_append] at ih
    rw [ih]
    unfold lxLe
    rw [HT.lexLt_cons]
    by_cases e : x = y
    · subst e
      simp
    · rw [if_neg (by simpa using e), if_neg (fun q => e q.symm)]
      rw [← decide_not]
      congr 1
      simp
theorem leLex_eq (xs ys : List Int) : leLex xs ys = lxLe xs ys := lexAt_le xs ys [] [] 0 rfl rfl

section
variable {α : Type} {lt : α → α → Bool}
def uins (lt : α → α → Bool) (x : α) : List α → List α
  | [] => [x]
  | y :: ys => if lt x y then x :: y :: ys else if lt y x then y :: uins lt x ys else y :: ys
/-- ascending, each one once -/
def usort (lt : α → α → Bool) (l : List α) : List α := l.foldr (uins lt) []
theorem uins_mem (S : Sto lt) (x z : α) : ∀ l : List α, z ∈ uins lt x l ↔ z = x ∨ z ∈ l
  | [] => by simp [uins]
  | y :: ys => by
    unfold uins
    split
    · simp
    · split
      · rw [List.mem_cons, uins_mem S x z ys, List.mem_cons]
        constructor
        · rintro (h | h | h)
          · exact .inr (.inl h)
          · exact .inl h
          · exact .inr (.inr h)
        · rintro (h | h | h)
          · exact .inr (.inl h)
          · exact .inl h
          · exact .inr (.inr h)
      · rename_i h1 h2
        have e := S.tri x y (by simpa using h1) (by simpa using h2)
        subst e
        simp
theorem uins_pw (S : Sto lt) (x : α) : ∀ l : List α, l.Pairwise (fun a b => lt a b = true) → (uins lt x l).Pairwise (fun a b => lt a b = true)
  | [], _ => by simp [uins]
  | y :: ys, h => by
    have h1 := List.pairwise_cons.mp h
    unfold uins
    split
    · rename_i hx
      refine List.pairwise_cons.mpr ⟨fun z hz => ?_, h⟩
      rcases List.mem_cons.mp hz with rfl | hz
      · exact hx
      · exact S.trans _ _ _ hx (h1.1 z hz)
    · split
      · rename_i hy
        refine List.pairwise_cons.mpr ⟨fun z hz => ?_, uins_pw S x ys h1.2⟩
        rcases (uins_mem S x z ys).mp hz with rfl | hz
        · exact hy
        · exact h1.1 z hz
      · exact h
theorem usort_mem (S : Sto lt) (z : α) : ∀ l : List α, z ∈ usort lt l ↔ z ∈ l
  | [] => by simp [usort]
  | x :: xs => by
    show z ∈ uins lt x (usort lt xs) ↔ _
    rw [uins_mem S, usort_mem S z xs, List.mem_cons]
theorem usort_pw (S : Sto lt) : ∀ l : List α, (usort lt l).Pairwise (fun a b => lt a b = true)
  | [] => by simp [usort]
  | x :: xs => uins_pw S x _ (usort_pw S xs)
theorem pw_nodup (S : Sto lt) {l : List α} (h : l.Pairwise (fun a b => lt a b = true)) : l.Nodup := h.imp fun {a b} q e => by
  subst e
  rw [S.irr] at q
  cases q
/-- ascending lists with the same members are one -/
theorem pw_unique (S : Sto lt) : ∀ {l m : List α}, l.Pairwise (fun a b => lt a b = true) → m.Pairwise (fun a b => lt a b = true) → (∀ z, z ∈ l ↔ z ∈ m) → l = m
  | [], [], _, _, _ => rfl
  | [], y :: m, _, _, h => by have := (h y).mpr (by simp); cases this
  | x :: l, [], _, _, h => by have := (h x).mp (by simp); cases this
  | x :: l, y :: m, h1, h2, h => by
    have a := List.pairwise_cons.mp h1
    have b := List.pairwise_cons.mp h2
    have exy : x = y := by
      rcases List.mem_cons.mp ((h x).mp (by simp)) with e | e
      · exact e
      rcases List.mem_cons.mp ((h y).mpr (by simp)) with e' | e'
      · exact e'.symm
      have q1 := b.1 x e
      have q2 := a.1 y e'
      have q3 := S.trans _ _ _ q1 q2
      rw [S.irr] at q3
      cases q3
    subst exy
    congr 1
    refine pw_unique S a.2 b.2 fun z => ⟨fun hz => ?_, fun hz => ?_⟩
    · rcases List.mem_cons.mp ((h z).mp (List.mem_cons_of_mem _ hz)) with e | e
      · subst e
        have q := a.1 z hz
        rw [S.irr] at q
        cases q
      · exact e
    · rcases List.mem_cons.mp ((h z).mpr (List.mem_cons_of_mem _ hz)) with e | e
      · subst e
        have q := b.1 z hz
        rw [S.irr] at q
        cases q
      · exact e
theorem usort_of (S : Sto lt) {l m : List α} (h : m.Pairwise (fun a b => lt a b = true)) (e : ∀ z, z ∈ m ↔ z ∈ l) : m = usort lt l :=
  pw_unique S h (usort_pw S l) fun z => (e z).trans (usort_mem S z l).symm
/-- adjacent ones ascend -/
def risesB (lt : α → α → Bool) (l : List α) : Bool := (l.zip (l.drop 1)).all fun p => lt p.1 p.2
theorem risesB_cons (x y : α) (l : List α) : risesB lt (x :: y :: l) = (lt x y && risesB lt (y :: l)) := by
  unfold risesB
  simp
theorem risesB_pw (S : Sto lt) : ∀ l : List α, risesB lt l = true ↔ l.Pairwise (fun a b => lt a b = true)
  | [] => by simp [risesB]
  | [x] => by simp [risesB]
  | x :: y :: l => by
    rw [risesB_cons, Bool.and_eq_true, risesB_pw S (y :: l)]
    constructor
    · rintro ⟨h1, h2⟩
      refine List.pairwise_cons.mpr ⟨fun z hz => ?_, h2⟩
      rcases List.mem_cons.mp hz with rfl | hz
      · exact h1
      · exact S.trans _ _ _ h1 ((List.pairwise_cons.mp h2).1 z hz)
    · intro h
      have q := List.pairwise_cons.mp h
      exact ⟨q.1 y (by simp), q.2⟩
/-- a list is its ascending version just where it ascends -/
theorem eq_usort [DecidableEq α] (S : Sto lt) (l : List α) : decide (l = usort lt l) = risesB lt l := by
  by_cases h : risesB lt l = true
  · rw [h]
    exact decide_eq_true (usort_of S ((risesB_pw S l).mp h) fun z => Iff.rfl)
  · have h' : risesB lt l = false := by simpa using h
    rw [h']
    refine decide_eq_false fun e => h ((risesB_pw S l).mpr ?_)
    rw [e]
    exact usort_pw S l
theorem usort_len (S : Sto lt) {l : List α} (h : l.Nodup) : (usort lt l).Perm l := by
  refine (List.perm_ext_iff_of_nodup (pw_nodup S (usort_pw S l)) h).mpr fun z => usort_mem S z l
/-- sorted by "not behind", each one once: ascending -/
theorem sorted_strict (S : Sto lt) {l : List α} (nd : l.Nodup) (h : l.Pairwise (fun a b => (!lt b a) = true)) : l.Pairwise (fun a b => lt a b = true) := by
  refine List.Pairwise.imp (R := fun a b => (!lt b a) = true ∧ a ≠ b) (fun {a b} q => ?_) (List.pairwise_and_iff.mpr ⟨h, nd⟩)
  cases e : lt a b with
  | true => rfl
  | false =>
    have e2 : lt b a = false := by simpa using q.1
    exact absurd (S.tri a b e e2) q.2
theorem ms_usort (S : Sto lt) {l : List α} (nd : l.Nodup) : l.mergeSort (fun a b => !lt b a) = usort lt l := by
  have p := List.mergeSort_perm l (fun a b => !lt b a)
  refine usort_of S (sorted_strict S (p.nodup_iff.mpr nd) (List.pairwise_mergeSort (fun a b c h1 h2 => ?_) (fun a b => ?_) l)) fun z => p.mem_iff
  · have a1 : lt b a = false := by simpa using h1
    have a2 : lt c b = false := by simpa using h2
    cases e : lt c a with
    | false => rfl
    | true =>
      exfalso
      cases e2 : lt a b with
      | true =>
        have := S.trans _ _ _ e e2
        rw [a2] at this
        cases this
      | false =>
        have q := S.tri a b e2 a1
        subst q
        rw [a2] at e
        cases e
  · cases e : lt b a with
    | false => rfl
    | true =>
      cases e2 : lt a b with
      | false => rfl
      | true =>
        have := S.trans _ _ _ e e2
        rw [S.irr] at this
        cases this
end
end K7


set_option Elab.async false
set_option linter.all false
set_option maxRecDepth 100000
set_option maxHeartbeats 1000000
/-! sorted(list), sorted(set(..)) over data. -/
namespace K7
open PySem PySem.Spec PyProof.Rows L2
open PySem.W (EachIs dataKind sortVals SortsAt)

theorem dataLe_eNs : PySem.W.dataLe false eNs = fun a b => !HT.lexLt b a := by
  funext a b
  show (!PySem.W.dataLt (eNs b) (eNs a)) = _
  rw [PySem.W.dataLt_tuple]
  have h : PySem.W.rowLt (b.map .int) (a.map .int) = decide (b < a) := PySem.W.dataLt_ints b a
  unfold PySem.W.rowLt at h
  rw [h, lx_dec]
section
variable {prog : Program} {w : World} {A : Around} {E : Value → Shared → Prop} {s : Shared} {β : Type}
theorem each_mono {R R' : Value → β → Prop} (h : ∀ v b, R v b → R' v b) : ∀ {vs : List Value} {bs : List β}, EachIs R vs bs → EachIs R' vs bs
  | _, _, .nil => .nil
  | _, _, .cons a t => .cons (h _ _ a) (each_mono h t)
theorem each_len {R : Value → β → Prop} : ∀ {vs : List Value} {bs : List β}, EachIs R vs bs → vs.length = bs.length
  | _, _, .nil => rfl
  | _, _, .cons a t => by rw [List.length_cons, List.length_cons, each_len t]
/-- list.sort of tuples of ints, each one once -/
theorem call_sortTs {R : Value → List Int → Prop} {a : Addr} {vs : List Value} {cs : List (List Int)} {n : Nat} {Q : Value → Shared → Prop} (ho : s.heap.get? a = some (seqObj "list" vs.toArray n)) (e : EachIs R vs cs)
    (er : EachIs (fun v c => ∃ as, Reads (PySem.W.sortingHeap s.heap a vs) v (eNs c) as) vs cs) (nd : cs.Nodup) (hL : vs.length ≤ sizeLine) (hu : A.units + 2 < cLine)
    (h : ∀ out : List Value, EachIs R out (usort HT.lexLt cs) → Q .none { s with heap := sortedHeap s.heap a vs out.toArray }) : wpAny (model prog w) A (call (.builtin "list.sort") [.ref a]) Q E s := by
  refine wpAny_call_entry slot_list_sort ⟨_, ho, rfl⟩ entry_list_sort (PySem.W.list_sort_vals (κ := dataKind (PySem.W.sortingHeap s.heap a vs) (cs.map eNs)) ho (sorts_tups (s := { s with heap := PySem.W.sortingHeap s.heap a vs }) er (by show A.units + 1 + 1 < cLine; omega)) hL ⟨.none, rfl, ?_⟩) (args_list_sort _)
  have q := PySem.W.sortVals_data (R := R) (enc := eNs) false e er (alike_tups cs)
  rw [dataLe_eNs, ms_usort sto_lx nd] at q
  exact h _ q
theorem call_sortedTs {R : Value → List Int → Prop} {l : Addr} {vs : List Value} {cs : List (List Int)} {Q : Value → Shared → Prop} (hl : s.heap.IsList l vs.toArray) (e : EachIs R vs cs) (er : EachIs (fun v c => ∃ as, Reads s.heap v (eNs c) as) vs cs) (nd : cs.Nodup) (hL : vs.length ≤ sizeLine) (hu : A.units + 3 < cLine)
    (h : ∀ out : List Value, EachIs R out (usort HT.lexLt cs) → Q (.ref (s.heap.objs.size + 1)) { s with heap := sortedAll s.heap vs out.toArray }) : wpAny (model prog w) A (call (.builtin "sorted") [.ref l]) Q E s := by
  have er' : EachIs (fun v c => ∃ as, Reads (PySem.W.sortingHeap (PySem.W.copyHeap s.heap vs) (s.heap.objs.size + 1) vs) v (eNs c) as) vs cs := each_mono (fun _ _ ⟨as, r⟩ => ⟨as, PyProof.Rows.Reads.keeps (fun _ _ => PySem.W.sorting_copy_old) r⟩) er
  refine PySem.W.sorted_vals (κ := dataKind (PySem.W.sortingHeap (PySem.W.copyHeap s.heap vs) (s.heap.objs.size + 1) vs) (cs.map eNs)) hl (sorts_tups (s := { s with heap := PySem.W.sortingHeap (PySem.W.copyHeap s.heap vs) (s.heap.objs.size + 1) vs }) er' (by show A.units + 1 + 1 + 1 < cLine; omega)) hL ?_
  have q := PySem.W.sortVals_data (R := R) (enc := eNs) false e er' (alike_tups cs)
  rw [dataLe_eNs, ms_usort sto_lx nd] at q
  exact h _ q
end
section
variable {K : PySem.W.Frag} {H : Hp}
/-- references to tuples of ints -/
def RefT (K : PySem.W.Frag) (H : Hp) (v : Value) (c : List Int) : Prop := ∃ p, v = .ref p ∧ H p = some (.tup (c.map V.int))
theorem refT_of : ∀ {cs : List (List Int)} {vs : List V} {us : List Value}, DaAll K H vs (cs.map eNs) → Vals vs us → EachIs (RefT K H) us cs
  | [], _, _, .nil, .nil => .nil
  | c :: cs, _, _, .cons h1 h2, .cons r1 r2 => by
    obtain ⟨p, rfl, hp⟩ := eNs_at h1
    cases r1
    exact .cons ⟨p, rfl, hp⟩ (refT_of h2 r2)
theorem of_refT : ∀ {cs : List (List Int)} {us : List Value}, EachIs (RefT K H) us cs → ∃ vs, Vals vs us ∧ DaAll K H vs (cs.map eNs)
  | [], _, .nil => ⟨[], .nil, .nil⟩
  | c :: cs, _, .cons ⟨p, e, hp⟩ t => by
    subst e
    obtain ⟨vs, r, d⟩ := of_refT t
    exact ⟨.ref p :: vs, .cons rfl r, .cons (eNs_of hp) d⟩
end
theorem no_dict_ints : ∀ ns : List Int, PyData.hasDictAll (ns.map .int) = false
  | [] => by simp [PyData.hasDictAll]
  | n :: ns => by
    show PyData.hasDictAll (.int n :: ns.map .int) = false
    rw [PyData.hasDictAll, no_dict_ints ns]
    simp [PyData.hasDict]
theorem no_dict_eNs (c : List Int) : (eNs c).hasDict = false := by
  show PyData.hasDict (.tuple (c.map .int)) = false
  rw [PyData.hasDict]
  exact no_dict_ints c
section
variable {X : Cx}
theorem Inv.readsT {pins : List (Addr × Obj)} {σ : L2.St} {H : Hp} {s : Shared} (I : Inv X pins σ H s) {v : Value} {c : List Int} (h : RefT X.K H v c) : ∃ as, Reads s.heap v (eNs c) as := by
  obtain ⟨p, rfl, hp⟩ := h
  exact Dp.reads I (eNs c) (.ref p) _ ((eNs_of hp).dp (no_dict_eNs c)) rfl
/-- sorted(list of tuples of ints), each one once -/
def rSoT (K : PySem.W.Frag) : List V → Hp → VK → Prop := fun vs H Q => ∃ (a : Addr) (xs : List V) (cs : List (List Int)), vs = [V.ref a] ∧ SqL K H a xs ∧ DaAll K H xs (cs.map eNs) ∧ cs.Nodup ∧
  ∀ ys p, DaAll K H ys ((usort HT.lexLt cs).map eNs) → H p = none → Q (.ref p) (upd H p (.lst ys))
theorem cr_soT (hu : X.A.units + 64 < cLine) : CallR X (.builtin "sorted") (rSoT X.K) := by
  intro pins s σ H vs us Q I r h
  obtain ⟨a, xs, cs, rfl, hs, hd, nd, q⟩ := h
  obtain ⟨its, rv, hl, hz⟩ := I.list hs
  rw [Vals.ref1 r]
  have e := refT_of hd rv
  refine call_sortedTs (R := RefT X.K H) hl.isList e (each_mono (fun v c h => Inv.readsT I h) e) nd (by rw [← rv.length]; exact hz) (by omega) fun out ho => ?_
  obtain ⟨ys, ry, dy⟩ := of_refT ho
  obtain ⟨ep, he⟩ := PyProof.Rows.sortedAll_at s.heap its out.toArray
  have hlen : ys.length ≤ sizeLine := by
    rw [dy.length, List.length_map, (usort_len sto_lx nd).length_eq]
    have := hd.length
    rw [List.length_map] at this
    rw [← this]
    exact hz
  exact ⟨.ref _, upd H (s.heap.objs.size + 1) (.lst ys), I.laid (t' := s.toks) (fun _ _ => PyProof.Rows.sortedAll_old) (Nat.le_succ _) ⟨hlen, out, ep, ry, he⟩, rfl, q ys _ dy (I.hok.fresh (Nat.le_succ _))⟩
theorem cd_soT {cs : List (List Int)} (nd : cs.Nodup) : CallD X.K (rSoT X.K) [.list (cs.map eNs)] (.list ((usort HT.lexLt cs).map eNs)) := fun vs H Q hv k => by
  cases hv with
  | cons h1 h2 =>
    cases h2
    cases h1 with
    | lst g1 g2 => exact ⟨_, _, cs, rfl, g1, g2, nd, fun ys p dy hp => k _ _ (same_new hp) (.lst (SqL.of upd_same) (dy.mono (same_new hp)))⟩
theorem usortI_of {ns ns' : List Int} (nd : ns.Nodup) (h : ns'.Perm ns) (hp : ns'.Pairwise (· ≤ ·)) : ns' = usort ltI ns := by
  refine usort_of sto_int (sorted_strict sto_int (h.nodup_iff.mpr nd) (hp.imp fun {a b} q => ?_)) fun z => h.mem_iff
  show (!decide (b < a)) = true
  rw [Bool.not_eq_true', decide_eq_false_iff_not]
  omega
theorem cd_soI {ns : List Int} (nd : ns.Nodup) : CallD X.K (rSortedI X.K) [.list (ns.map .int)] (.list ((usort ltI ns).map .int)) := fun vs H Q hv k => by
  cases hv with
  | cons h1 h2 =>
    cases h2
    cases h1 with
    | lst g1 g2 =>
      have e := ints_da g2
      subst e
      exact ⟨_, ns, rfl, g1, fun ns' p h3 h4 hp => by
        rw [usortI_of nd h3 h4]
        exact k _ _ (same_new hp) (.lst (SqL.of upd_same) (da_ints _))⟩

/-! ### sorted(set(t)), t a tuple of ints -/
/-- set(t) -/
def rSeI (K : PySem.W.Frag) (w : World) : List V → Hp → VK → Prop := fun xs H Q => ∃ (l : Addr) (ns : List Int), xs = [V.ref l] ∧ SqT K H l (ns.map V.int) ∧ ns.length < 4000 ∧
  ∀ a c, H a = none → Q (.ref a) (upd H a (SetO w a (fun j => decide (j ∈ ns)) c))
theorem cr_seI (hc : X.calm = true) : CallR X (.type "set") (rSeI X.K X.w) := by
  intro pins s σ H xs us Q I r h
  obtain ⟨l, ns, rfl, hl, hf, q⟩ := h
  rw [Vals.ref1 r]
  obtain ⟨its, rv, pt, hz⟩ := I.tuple hl
  have hn : H s.heap.objs.size = none := I.hok.fresh (Nat.le_refl _)
  refine call_set_tupI ns (I.ok.hd hc) (show s.heap.IsTuple l its.toArray from pt) (ints_of_vals rv) (by unfold scanBound; omega) fun h' tk c R hcn k => ?_
  exact ⟨.ref s.heap.objs.size, upd H s.heap.objs.size (SetO X.w s.heap.objs.size _ c), I.laid (t' := tk) k (Nat.le_refl _) (setO_new R), rfl, q _ c hn⟩
/-- sorted(set of ints), any number of them -/
def rSoSI (w : World) : List V → Hp → VK → Prop := fun vs H Q => ∃ (a : Addr) (S : Int → Bool) (n : Nat), vs = [V.ref a] ∧ H a = some (SetO w a S n) ∧
  ∀ (ns : List Int) (p : Addr), ns.Pairwise (· < ·) → (∀ k : Int, k ∈ ns ↔ S k = true) → H p = none → Q (.ref p) (upd H p (.lst (ns.map V.int)))
end
section
variable {P : Program} {w : World} {A : Around} {E : Value → Shared → Prop} {s : Shared} {a : Addr} {S : Int → Bool} {n : Nat}
theorem call_sortedSI {Q : Value → Shared → Prop} (R : SetR w s.heap a S n) (hh : A.handled = none)
    (hQ : ∀ s' p (out : Array Value) (c : Nat) (ns : List Int), (∀ b o, s.heap.get? b = some o → s'.heap.get? b = some o) → s'.gens = s.gens → s'.os = s.os → s.heap.objs.size ≤ p → s'.heap.get? p = some (seqObj "list" out c) →
      IntsAre out.toList ns → ns.Pairwise (· < ·) → (∀ k, k ∈ ns ↔ S k = true) → ns.length < 4096 → Q (.ref p) s') : wpAny (model P w) A (call (.builtin "sorted") [.ref a]) Q E s := by
  obtain ⟨o, es, ep, t, ho, hex, hd, g, nd, hm, hb, hf, hn, hr, hl⟩ := R
  refine Calls.call_function_entry kind_sorted plain_sorted entry_sorted (args_sorted1 _) ?_
  unfold Builtin.«sorted»
  refine wpAny_bind (m := checkCount "sorted" 1 1 _) (wpAny_pure ?_)
  refine wpAny_bind (collect_set (A := A.in1) hh ⟨o, ho, hex.1, hd⟩ hf hb hr hl fun s1 vs k1 hz g1 o1 pm => ?_)
  have hvl : vs.length = es.size := by rw [pm.length_eq, List.length_map, Array.length_toList]
  have hvs : vs.length ≤ sizeLine := by
    rw [hvl, sizeLine_eq]
    unfold scanBound at hb
    omega
  have hI : IntsAre vs (vs.map SrtO.iv) := SrtO.ints_iv fun v hv => by
    obtain ⟨e, he, q⟩ := List.mem_map.mp (pm.mem_iff.mp hv)
    obtain ⟨k, tk, h1, _⟩ := g e he
    exact ⟨k, tk, q.symm.trans h1⟩
  have pk : (vs.map SrtO.iv).Perm (es.toList.map keyOf) := by
    have q := pm.map SrtO.iv
    rw [List.map_map] at q
    have ee : es.toList.map (SrtO.iv ∘ fun x => x.2) = es.toList.map keyOf := List.map_congr_left fun e he => by
      obtain ⟨k, tk, h1, _⟩ := g e he
      show SrtO.iv e.2 = keyOf e
      unfold keyOf
      rw [h1]
      rfl
    rw [ee] at q
    exact q
  refine wpAny_bind (wpAny_newList ?_ hvs)
  have hoL : (s1.heap.push (seqObj "list" vs.toArray 0)).get? s1.heap.objs.size = some (seqObj "list" vs.toArray 0) := Heap.get?_push_size _ rfl
  refine wpAny_bind (wpAny_holding (wpAny_call_entry slot_list_sort ⟨_, hoL, rfl⟩ entry_list_sort (SrtO.list_sort_ord (s := { s1 with heap := s1.heap.push (seqObj "list" vs.toArray 0) }) SrtO.swo_int hoL hvs (fun h2 => SrtO.ints_sortable hI h2) fun out b1 b2 => ⟨_, rfl, ?_⟩) (args_list_sort _)))
  obtain ⟨k2, k3, k4⟩ := SrtO.ints_out hI b1 b2
  obtain ⟨c, hc⟩ := sortedHeap_at (vs := vs) (out := out.toArray) hoL
  have pn : (out.map SrtO.iv).Perm (es.toList.map keyOf) := k3.trans pk
  have ndo : (out.map SrtO.iv).Nodup := pn.nodup_iff.mpr nd
  refine wpAny_pure ⟨_, rfl, hQ _ s1.heap.objs.size out.toArray c (out.map SrtO.iv) (fun b u e => ?_) g1 o1 hz hc k2 ?_ (fun k => by rw [pn.mem_iff, ← hm k]) ?_⟩
  · have q := k1 b u e
    have hlt := Heap.lt_size q
    show (sortedHeap (s1.heap.push (seqObj "list" vs.toArray 0)) s1.heap.objs.size vs out.toArray).get? b = some u
    rw [sortedHeap_old (Nat.ne_of_lt hlt) (by rw [size_push']; exact Nat.lt_succ_of_lt hlt)]
    exact Heap.get?_push_of_some _ q
  · refine List.Pairwise.imp (R := fun a b => a ≤ b ∧ a ≠ b) (fun {x y} h => by have := h.1; have := h.2; omega) (List.pairwise_and_iff.mpr ⟨k4, ndo⟩)
  · have := pn.length_eq
    rw [this, List.length_map, Array.length_toList]
    exact hb
end
section
variable {X : Cx}
theorem cr_soSI (hc : X.calm = true) : CallR X (.builtin "sorted") (rSoSI X.w) := by
  intro pins s σ H vs us Q I r h
  obtain ⟨a, S, n, rfl, ha, q⟩ := h
  have R := setO_get I ha
  rw [Vals.ref1 r]
  refine call_sortedSI R (I.ok.hd hc) fun s' p out c ns k g o hp hg hi hs hm hl => ?_
  have hn : H p = none := I.hok.fresh hp
  have hlen : (ns.map V.int).length ≤ sizeLine := by
    rw [List.length_map, sizeLine_eq]
    omega
  have J : Inv X pins σ (upd H p (.lst (ns.map V.int))) s' := I.call' (ch := []) o (Un.laid k hp hn) (I.hok.laid k hp ⟨hlen, out.toList, c, vals_of_ints hi, hg⟩) (by rw [g]; exact I.bare) (fun _ z => nomatch z)
  exact ⟨.ref p, _, J, rfl, q ns p hs hm hn⟩
end
section
variable {X : Cx} {l : Sk} {e : Expr} {pos : Pos}
theorem ltI_pw {ns : List Int} (h : ns.Pairwise (· < ·)) : ns.Pairwise (fun a b => ltI a b = true) := h.imp fun {a b} q => decide_eq_true q
/-- sorted(set(t)), t a tuple of ints -/
theorem pd_soSetI {ns : List Int} {p p' pos' : Pos} (hm : X.mg "sorted" = none) (hm2 : X.mg "set" = none) (h : PD X l e (eNs ns)) (hn : ns.length < 4000) (hc : X.calm = true := by rfl) (hg : Gl X "sorted" := by rfl) (hg2 : Gl X "set" := by rfl)
    (he : starEach [.Call (.Name "set" p') [e] [] pos'] X.env = (false, eval (.Call (.Name "set" p') [e] [] pos') X.env) :: starEach [] X.env := by rfl) (he2 : starEach [e] X.env = (false, eval e X.env) :: starEach [] X.env := by rfl) :
    PD X l (.Call (.Name "sorted" p) [.Call (.Name "set" p') [e] [] pos'] [] pos) (.list ((usort ltI ns).map .int)) :=
  peImp (pe_callB (cr_soSI hc) hg hm (by decide +kernel) (pa_cons (pe_callTy (cr_seI hc) hg2 hm2 (by decide +kernel) (pa_cons h pa_nil he2) (by decide) (by decide) he2 (by rfl)) pa_nil he) (by decide) (by decide) he (by rfl)) fun σ H Q ⟨s, k⟩ => ⟨s, fun x H1 e1 q1 => by
    obtain ⟨p, rfl, h1⟩ := eNs_at q1
    refine ⟨p, ns, rfl, SqT.of h1, hn, fun a c ha => ⟨a, _, c, rfl, upd_same, fun ns' q h2 h3 hq => ?_⟩⟩
    have e2 : ns' = usort ltI ns := usort_of sto_int (ltI_pw h2) fun z => (h3 z).trans decide_eq_true_iff
    rw [e2]
    exact k _ _ ((e1.trans (same_new ha)).trans (same_new hq)) (.lst (SqL.of upd_same) (da_ints _))⟩
end
end K7


set_option Elab.async false
set_option linter.all false
set_option maxRecDepth 100000
set_option maxHeartbeats 1000000
/-! sorted(set(list of tuples of ints)). -/
namespace K7
open PySem PySem.Spec PyProof.Rows L2
open PySem.W (EachIs dataKind sortVals SortsAt)
theorem perm_lift {α β : Type} (f : α → β) {vs ws : List β} (h : vs.Perm ws) : ∀ L : List α, ws = L.map f → ∃ L1 : List α, L1.Perm L ∧ vs = L1.map f := by
  induction h with
  | nil =>
    intro L e
    cases L with
    | nil => exact ⟨[], .nil, rfl⟩
    | cons a L => cases e
  | cons x h ih =>
    intro L e
    cases L with
    | nil => cases e
    | cons a L =>
      rw [List.map_cons] at e
      injection e with e1 e2
      obtain ⟨L1, p, q⟩ := ih L e2
      exact ⟨a :: L1, p.cons a, by rw [List.map_cons, e1, q]⟩
  | swap x y l =>
    intro L e
    cases L with
    | nil => cases e
    | cons a L =>
      cases L with
      | nil => simp at e
      | cons b L =>
        rw [List.map_cons, List.map_cons] at e
        injection e with e1 e2
        injection e2 with e2 e3
        exact ⟨b :: a :: L, .swap _ _ _, by rw [List.map_cons, List.map_cons, e1, e2, e3]⟩
  | trans h1 h2 ih1 ih2 =>
    intro L e
    obtain ⟨L1, p1, q1⟩ := ih2 L e
    obtain ⟨L2, p2, q2⟩ := ih1 L1 q1
    exact ⟨L2, p2.trans p1, q2⟩
theorem each_refs (h : Heap) : ∀ L : List (Addr × List Int), (∀ p ∈ L, ∃ as, Reads h (.ref p.1) (eNs p.2) as) → EachIs (fun v c => ∃ as, Reads h v (eNs c) as) (L.map fun q => Value.ref q.1) (L.map (·.2))
  | [], _ => .nil
  | p :: L, q => .cons (q p (List.mem_cons_self ..)) (each_refs h L fun x hx => q x (List.mem_cons_of_mem _ hx))
theorem each_refs2 (R : Value → List Int → Prop) : ∀ L : List (Addr × List Int), (∀ p ∈ L, R (.ref p.1) p.2) → EachIs R (L.map fun q => Value.ref q.1) (L.map (·.2))
  | [], _ => .nil
  | p :: L, q => .cons (q p (List.mem_cons_self ..)) (each_refs2 R L fun x hx => q x (List.mem_cons_of_mem _ hx))
section
variable {P : Program} {w : World} {A : Around} {E : Value → Shared → Prop} {s : Shared} {a : Addr} {L : List (Addr × List Int)} {es : Array (Int × Value)} {ep : Nat} {t : SetTable}
theorem call_sortedST {R : Value → List Int → Prop} {Q : Value → Shared → Prop} (T : SetTR P w s.heap a L es ep t) (hh : A.handled = none) (hu : A.units + 4 < cLine) (hk : ∀ p ∈ L, ∃ as, Reads s.heap (.ref p.1) (eNs p.2) as) (hR : ∀ p ∈ L, R (.ref p.1) p.2)
    (hQ : ∀ s' p (out : List Value) (c : Nat), (∀ b o, s.heap.get? b = some o → s'.heap.get? b = some o) → s'.gens = s.gens → s'.os = s.os → s.heap.objs.size ≤ p → s'.heap.get? p = some (seqObj "list" out.toArray c) →
      EachIs R out (usort HT.lexLt (L.map (·.2))) → Q (.ref p) s') : wpAny (model P w) A (call (.builtin "sorted") [.ref a]) Q E s := by
  obtain ⟨o, ho, hex, hd⟩ := T.ob
  have hsz := T.size
  have hfew := T.few
  refine Calls.call_function_entry kind_sorted plain_sorted entry_sorted (args_sorted1 _) ?_
  unfold Builtin.«sorted»
  refine wpAny_bind (m := checkCount "sorted" 1 1 _) (wpAny_pure ?_)
  refine wpAny_bind (collect_set (A := A.in1) hh ⟨o, ho, hex.1, hd⟩ T.fits (by unfold scanBound; omega) T.tab.ris T.led fun s1 vs k1 hz g1 o1 pm => ?_)
  have hes : es.toList.map (·.2) = L.map fun q => Value.ref q.1 := by
    rw [T.rows]
    unfold rowsOf
    rw [List.map_map] <;> rfl
  rw [hes] at pm
  obtain ⟨L1, p1, e1⟩ := perm_lift (fun q : Addr × List Int => Value.ref q.1) pm L rfl
  subst e1
  have hvl : (L1.map fun q => Value.ref q.1).length < 64 := by rw [pm.length_eq, List.length_map]; exact hfew
  have hvs : (L1.map fun q => Value.ref q.1).length ≤ sizeLine := by rw [sizeLine_eq]; omega
  refine wpAny_bind (wpAny_newList ?_ hvs)
  have hoL : (s1.heap.push (seqObj "list" (L1.map fun q => Value.ref q.1).toArray 0)).get? s1.heap.objs.size = some (seqObj "list" (L1.map fun q => Value.ref q.1).toArray 0) := Heap.get?_push_size _ rfl
  have nd1 : (L1.map (·.2)).Nodup := (p1.map (·.2)).nodup_iff.mpr T.nd
  have us : usort HT.lexLt (L1.map (·.2)) = usort HT.lexLt (L.map (·.2)) := usort_of sto_lx (usort_pw sto_lx _) fun z => (usort_mem sto_lx z _).trans (p1.map (·.2)).mem_iff
  refine wpAny_bind (wpAny_holding (call_sortTs (s := { s1 with heap := s1.heap.push (seqObj "list" (L1.map fun q => Value.ref q.1).toArray 0) }) (R := R) hoL (each_refs2 R L1 fun p hp => hR p (p1.mem_iff.mp hp)) (each_refs _ L1 fun p hp => ?_) nd1 hvs (by show A.units + 1 + 2 < cLine; omega) fun out ho => ?_))
  · obtain ⟨as, r⟩ := hk p (p1.mem_iff.mp hp)
    refine ⟨as, PyProof.Rows.Reads.keeps (fun b o q => ?_) r⟩
    have q1 := k1 b o q
    have hlt := Heap.lt_size q1
    exact PySem.W.sortingHeap_old (Nat.ne_of_lt hlt) (Heap.get?_push_of_some _ q1)
  · obtain ⟨c, hc⟩ := sortedHeap_at (vs := L1.map fun q => Value.ref q.1) (out := out.toArray) hoL
    rw [us] at ho
    refine wpAny_pure ⟨_, rfl, hQ _ s1.heap.objs.size out c (fun b u e => ?_) g1 o1 hz hc ho⟩
    have q := k1 b u e
    have hlt := Heap.lt_size q
    show (sortedHeap (s1.heap.push (seqObj "list" (L1.map fun q => Value.ref q.1).toArray 0)) s1.heap.objs.size (L1.map fun q => Value.ref q.1) out.toArray).get? b = some u
    rw [sortedHeap_old (Nat.ne_of_lt hlt) (by rw [size_push']; exact Nat.lt_succ_of_lt hlt)]
    exact Heap.get?_push_of_some _ q
end
section
variable {X : Cx}
/-- sorted(set of tuples of ints) -/
def rSoST (K : PySem.W.Frag) (P : Program) (w : World) : List V → Hp → VK → Prop := fun vs H Q => ∃ (a : Addr) (L : List (Addr × List Int)), vs = [V.ref a] ∧ H a = some (SetTO P w a L) ∧ (∀ p ∈ L, H p.1 = some (.tup (p.2.map V.int))) ∧
  ∀ ys p, DaAll K H ys ((usort HT.lexLt (L.map (·.2))).map eNs) → H p = none → Q (.ref p) (upd H p (.lst ys))
theorem cr_soST (hc : X.calm = true) (hu : X.A.units + 64 < cLine) : CallR X (.builtin "sorted") (rSoST X.K X.prog X.w) := by
  intro pins s σ H vs us Q I r h
  obtain ⟨a, L, rfl, ha, hk, q⟩ := h
  have R0 : SetT0 X.prog X.w s.heap a L := (I.hok a _ ha).1
  obtain ⟨es, ep, t, T⟩ := R0.full fun p hp => Inv.isT I (SqT.of (hk p hp))
  rw [Vals.ref1 r]
  refine call_sortedST (R := RefT X.K H) T (I.ok.hd hc) (by omega) (fun p hp => Inv.readsT I ⟨p.1, rfl, hk p hp⟩) (fun p hp => ⟨p.1, rfl, hk p hp⟩) fun s' p out c k g o hp hg ho => ?_
  have hn : H p = none := I.hok.fresh hp
  obtain ⟨ys, ry, dy⟩ := of_refT ho
  have hlen : ys.length ≤ sizeLine := by
    rw [dy.length, List.length_map, (usort_len sto_lx T.nd).length_eq, List.length_map, sizeLine_eq]
    have := T.few
    omega
  have J : Inv X pins σ (upd H p (.lst ys)) s' := I.call' (ch := []) o (Un.laid k hp hn) (I.hok.laid k hp ⟨hlen, out, c, ry, hg⟩) (by rw [g]; exact I.bare) (fun _ z => nomatch z)
  exact ⟨.ref p, _, J, rfl, q ys p dy hn⟩
end
theorem refs_ks {K : PySem.W.Frag} {H : Hp} : ∀ {cs : List (List Int)} {vs : List V}, DaAll K H vs (cs.map eNs) → ∃ ks : List (Addr × List Int), vs = ks.map (fun p => V.ref p.1) ∧ cs = ks.map (·.2) ∧ ∀ p ∈ ks, H p.1 = some (.tup (p.2.map V.int))
  | [], _, .nil => ⟨[], rfl, rfl, fun p h => nomatch h⟩
  | c :: cs, _, .cons h1 h2 => by
    obtain ⟨a, rfl, ha⟩ := eNs_at h1
    obtain ⟨ks, e1, e2, q⟩ := refs_ks h2
    subst e1 e2
    refine ⟨(a, c) :: ks, rfl, rfl, fun p hp => ?_⟩
    rcases List.mem_cons.mp hp with rfl | hp
    · exact ha
    · exact q p hp
section
variable {X : Cx} {l : Sk} {e : Expr} {pos : Pos}
/-- sorted(set(xs)), as a reading -/
theorem pe_soSetT {te : TE} {p p' pos' : Pos} (hm : X.mg "sorted" = none) (hm2 : X.mg "set" = none) (hu : X.A.units + 64 < cLine) (h : PE X e te) (hc : X.calm = true := by rfl) (hg : Gl X "sorted" := by rfl) (hg2 : Gl X "set" := by rfl)
    (he : starEach [.Call (.Name "set" p') [e] [] pos'] X.env = (false, eval (.Call (.Name "set" p') [e] [] pos') X.env) :: starEach [] X.env := by rfl) (he2 : starEach [e] X.env = (false, eval e X.env) :: starEach [] X.env := by rfl) :
    PE X (.Call (.Name "sorted" p) [.Call (.Name "set" p') [e] [] pos'] [] pos) (fun σ H Q => te σ H fun x H1 => rSetOfT X.K X.prog X.w [x] H1 fun y H2 => rSoST X.K X.prog X.w [y] H2 Q) :=
  peImp (pe_callB (cr_soST hc hu) hg hm (by decide +kernel) (pa_cons (pe_callTy (cr_setOfT hc hu) hg2 hm2 (by decide +kernel) (pa_cons h pa_nil he2) (by decide) (by decide) he2 (by rfl)) pa_nil he) (by decide) (by decide) he (by rfl)) fun σ H Q q => q
theorem setT_sorted {H : Hp} {x : V} {cs : List (List Int)} {Q : V → Hp → Prop} (h : Da X.K H x (.list (cs.map eNs))) (hn : cs.length < 64) (k : ∀ z H', Same H H' → Da X.K H' z (.list ((usort HT.lexLt cs).map eNs)) → Q z H') :
    rSetOfT X.K X.prog X.w [x] H fun y H2 => rSoST X.K X.prog X.w [y] H2 Q := by
  cases h with
  | lst h1 h2 =>
    obtain ⟨ks, e1, e2, hk⟩ := refs_ks h2
    subst e1
    refine ⟨_, ks, rfl, h1, fun p hp => SqT.of (hk p hp), by rw [e2, List.length_map] at hn; exact hn, fun a L ha hs hs2 => ⟨a, L, rfl, upd_same, fun p hp => same_new ha _ _ (hk p (hs p hp)), fun ys q dy hq => ?_⟩⟩
    have eu : usort HT.lexLt (L.map (·.2)) = usort HT.lexLt cs := usort_of sto_lx (usort_pw sto_lx _) fun z => by
      rw [usort_mem sto_lx, e2]
      constructor
      · intro hz
        obtain ⟨p, hp, rfl⟩ := List.mem_map.mp hz
        exact List.mem_map.mpr ⟨p, hs p hp, rfl⟩
      · intro hz
        obtain ⟨p, hp, rfl⟩ := List.mem_map.mp hz
        exact hs2 p hp
    rw [← eu] at k
    exact k _ _ ((same_new ha).trans (same_new hq)) (.lst (SqL.of upd_same) (dy.mono (same_new hq)))
theorem pd_soSetT {cs : List (List Int)} {p p' pos' : Pos} (hm : X.mg "sorted" = none) (hm2 : X.mg "set" = none) (hu : X.A.units + 64 < cLine) (h : PD X l e (.list (cs.map eNs))) (hn : cs.length < 64) (hc : X.calm = true := by rfl) (hg : Gl X "sorted" := by rfl) (hg2 : Gl X "set" := by rfl)
    (he : starEach [.Call (.Name "set" p') [e] [] pos'] X.env = (false, eval (.Call (.Name "set" p') [e] [] pos') X.env) :: starEach [] X.env := by rfl) (he2 : starEach [e] X.env = (false, eval e X.env) :: starEach [] X.env := by rfl) :
    PD X l (.Call (.Name "sorted" p) [.Call (.Name "set" p') [e] [] pos'] [] pos) (.list ((usort HT.lexLt cs).map eNs)) :=
  peImp (pe_soSetT hm hm2 hu h hc hg hg2 he he2) fun σ H Q ⟨s, k⟩ => ⟨s, fun x H1 e1 q1 => setT_sorted q1 hn fun z H2 e2 q2 => k z H2 (e1.trans e2) q2⟩
end
end K7


set_option Elab.async false
set_option linter.all false
set_option maxRecDepth 100000
/-! Plain: what the texts say. -/
namespace K7
open PySem PySem.Spec PyProof.Rows L2
open TL (tl spl pre numL joinL)

/-! ### lengths of what a text is split to -/
def total (m : Nat) (L : List (List Nat)) : Nat := (L.map List.length).sum + m * (L.length - 1)
theorem spl_ne (S : List Nat) : ∀ (l : List Nat) (k : Nat) (acc : List Nat), spl S k acc l ≠ []
  | [], k, acc => by rw [TL.spl_nil]; simp
  | c :: r, 0, acc => by
    cases h : pre S (c :: r) with
    | true => rw [TL.spl_hit h]; simp
    | false => rw [TL.spl_miss h]; exact spl_ne S r 0 _
  | c :: r, k + 1, acc => spl_ne S r k acc
theorem pre_len {S l : List Nat} (h : pre S l = true) : S.length ≤ l.length := by
  have e : l.take S.length = S := eq_of_beq h
  have := congrArg List.length e
  rw [List.length_take] at this
  omega
theorem total_cons (m : Nat) (p : List Nat) {L : List (List Nat)} (h : L ≠ []) : total m (p :: L) = p.length + m + total m L := by
  unfold total
  cases L with
  | nil => exact absurd rfl h
  | cons q L =>
    simp only [List.map_cons, List.sum_cons, List.length_cons, Nat.add_sub_cancel]
    rw [Nat.mul_add]
    omega
theorem spl_total {S : List Nat} (hS : S ≠ []) : ∀ (l : List Nat) (k : Nat) (acc : List Nat), k ≤ l.length → total S.length (spl S k acc l) = acc.length + (l.length - k)
  | [], k, acc, _ => by rw [TL.spl_nil]; simp [total]
  | c :: r, 0, acc, _ => by
    cases h : pre S (c :: r) with
    | true =>
      have h1 := pre_len h
      have h2 : 0 < S.length := List.length_pos_iff.mpr hS
      rw [List.length_cons] at h1
      rw [TL.spl_hit h, total_cons _ _ (spl_ne _ _ _ _), spl_total hS r (S.length - 1) [] (by omega), List.length_cons, List.length_nil]
      omega
    | false =>
      rw [TL.spl_miss h, spl_total hS r 0 _ (Nat.zero_le _), List.length_append, List.length_cons, List.length_nil, List.length_cons]
      omega
  | c :: r, k + 1, acc, h => by
    show total S.length (spl S k acc r) = _
    rw [spl_total hS r k acc (by rw [List.length_cons] at h; omega), List.length_cons]
    omega
/-- a plain separator -/
structure Sep (y : Str) : Prop where
  ne : tl y ≠ []
  plain : y.cps.all (· < 256) = true
theorem split_tl {y : Str} (s : Sep y) (z : Str) : (Txt.split z y).map tl = spl (tl y) 0 [] (tl z) := TL.split_spl z y s.ne (TL.kind_ok s.plain)
theorem split_total {y : Str} (s : Sep y) (z : Str) : total y.length ((Txt.split z y).map tl) = z.length := by
  rw [split_tl s, TL.len_tl y, spl_total s.ne _ _ _ (Nat.zero_le _), TL.len_tl z, List.length_nil]
  omega
theorem split_ne {y : Str} (s : Sep y) (z : Str) : Txt.split z y ≠ [] := fun e => by
  have h := split_tl s z
  rw [e] at h
  exact spl_ne _ _ _ _ h.symm
theorem sep_pos {y : Str} (s : Sep y) : 1 ≤ y.length := by
  rw [TL.len_tl]
  exact List.length_pos_iff.mpr s.ne
theorem sum_ge {L : List Nat} {n : Nat} (h : n ∈ L) : n ≤ L.sum := by
  induction L with
  | nil => cases h
  | cons m L ih =>
    rw [List.sum_cons]
    rcases List.mem_cons.mp h with rfl | h
    · omega
    · have := ih h
      omega
theorem split_piece {y : Str} (s : Sep y) {z w : Str} (h : w ∈ Txt.split z y) : w.length ≤ z.length := by
  have q := split_total s z
  unfold total at q
  have h1 : w.length ∈ ((Txt.split z y).map tl).map List.length := by
    rw [TL.len_tl w]
    exact List.mem_map.mpr ⟨tl w, List.mem_map.mpr ⟨w, h, rfl⟩, rfl⟩
  have := sum_ge h1
  omega
theorem split_count {y : Str} (s : Sep y) (z : Str) : (Txt.split z y).length ≤ z.length + 1 := by
  have q := split_total s z
  unfold total at q
  rw [List.length_map] at q
  have h1 := sep_pos s
  have : (Txt.split z y).length - 1 ≤ y.length * ((Txt.split z y).length - 1) := Nat.le_mul_of_pos_left _ h1
  omega
/-- pieces that are not empty -/
theorem sum_pos : ∀ {L : List Nat}, (∀ n ∈ L, 1 ≤ n) → L.length ≤ L.sum
  | [], _ => Nat.le_refl _
  | n :: L, h => by
    have := sum_pos (L := L) fun m hm => h m (List.mem_cons_of_mem _ hm)
    have := h n (List.mem_cons_self ..)
    rw [List.length_cons, List.sum_cons]
    omega
theorem split_full {y : Str} (s : Sep y) {z : Str} (h : ∀ w ∈ Txt.split z y, 1 ≤ w.length) : (Txt.split z y).length + y.length * ((Txt.split z y).length - 1) ≤ z.length := by
  have q := split_total s z
  unfold total at q
  rw [List.length_map] at q
  have h1 := sum_pos (L := ((Txt.split z y).map tl).map List.length) (fun n hn => by
    obtain ⟨p, hp, rfl⟩ := List.mem_map.mp hn
    obtain ⟨w, hw, rfl⟩ := List.mem_map.mp hp
    rw [← TL.len_tl]
    exact h w hw)
  rw [List.length_map, List.length_map] at h1
  omega

/-! ### numbers -/
def dig (c : Nat) : Bool := decide (48 ≤ c ∧ c ≤ 57)
def okL (l : List Nat) : Bool := decide (1 ≤ l.length) && decide (l.length ≤ 60) && l.all dig
def ledL (l : List Nat) : Bool := decide (l = [48]) || !decide (l.head? = some 48)
def numOf (w : Str) : Option Int := if okL (tl w) && ledL (tl w) then some ((NumText.digitsVal (tl w) : Nat) : Int) else none
theorem all_dig {l : List Nat} (h : l.all dig = true) : NumText.AllDigits l := fun c hc => by
  have := List.all_eq_true.mp h c hc
  exact of_decide_eq_true this
theorem fold_bd : ∀ (l : List Nat) (a : Nat), NumText.AllDigits l → l.foldl (fun acc c => acc * 10 + (c - 48)) a < (a + 1) * 10 ^ l.length
  | [], a, _ => by simp
  | c :: l, a, h => by
    have h1 := h.head
    have h2 := fold_bd l (a * 10 + (c - 48)) h.tail
    rw [List.foldl_cons, List.length_cons]
    refine Nat.lt_of_lt_of_le h2 ?_
    rw [Nat.pow_succ, Nat.mul_comm (10 ^ l.length) 10, ← Nat.mul_assoc]
    exact Nat.mul_le_mul_right _ (by omega)
theorem val_bd {l : List Nat} (h : NumText.AllDigits l) : NumText.digitsVal l < 10 ^ l.length := by
  have := fold_bd l 0 h
  rw [Nat.zero_add, Nat.one_mul] at this
  exact this
/-- a number of a text -/
def Nm (n : Int) : Prop := 0 ≤ n ∧ n < 10 ^ 60
theorem numOf_nm {w : Str} {n : Int} (h : numOf w = some n) : Nm n := by
  unfold numOf at h
  split at h
  · rename_i hc
    have e := Option.some.inj h
    subst e
    rw [Bool.and_eq_true] at hc
    have hk := hc.1
    unfold okL at hk
    rw [Bool.and_eq_true, Bool.and_eq_true, decide_eq_true_eq, decide_eq_true_eq] at hk
    have h1 := val_bd (all_dig hk.2)
    have h2 : (10 : Nat) ^ (tl w).length ≤ 10 ^ 60 := Nat.pow_le_pow_right (by decide) hk.1.2
    refine ⟨Int.natCast_nonneg _, ?_⟩
    have h3 : NumText.digitsVal (tl w) < 10 ^ 60 := Nat.lt_of_lt_of_le h1 h2
    have h4 : ((NumText.digitsVal (tl w) : Nat) : Int) < ((10 ^ 60 : Nat) : Int) := Int.ofNat_lt.mpr h3
    exact h4
  · cases h
/-- the text of a number -/
abbrev sN (n : Int) : Str := Str.ofString (toString n)
theorem nm_nat {n : Int} (h : Nm n) : ∃ k : Nat, n = (k : Int) ∧ k < 10 ^ 60 := by
  obtain ⟨k, rfl⟩ := Int.eq_ofNat_of_zero_le h.1
  refine ⟨k, rfl, ?_⟩
  have h2 := h.2
  have h4 : ((k : Nat) : Int) < ((10 ^ 60 : Nat) : Int) := h2
  exact Int.ofNat_lt.mp h4
theorem numL_head : ∀ n : Nat, 0 < n → ∃ c r, numL n = c :: r ∧ c ≠ 48
  | n, h => by
    by_cases h10 : n < 10
    · exact ⟨48 + n, [], TL.numL_lt h10, by omega⟩
    · obtain ⟨c, r, e, hc⟩ := numL_head (n / 10) (by omega)
      exact ⟨c, r ++ [48 + n % 10], by rw [TL.numL_step (by omega), e]; rfl, hc⟩
theorem numOf_sN {n : Int} (h : Nm n) : numOf (sN n) = some n := by
  obtain ⟨k, rfl, hk⟩ := nm_nat h
  have e : tl (sN (k : Int)) = numL k := TL.tl_num k
  unfold numOf
  rw [e]
  have h1 : okL (numL k) = true := by
    unfold okL
    rw [Bool.and_eq_true, Bool.and_eq_true, decide_eq_true_eq, decide_eq_true_eq]
    refine ⟨⟨List.length_pos_iff.mpr (TL.numL_ne k), TL.numL_len (by decide) hk⟩, ?_⟩
    rw [List.all_eq_true]
    intro c hc
    exact decide_eq_true (TL.numL_digits k c hc)
  have h2 : ledL (numL k) = true := by
    unfold ledL
    by_cases h0 : k = 0
    · subst h0
      rfl
    · obtain ⟨c, r, e, hc⟩ := numL_head k (by omega)
      rw [e]
      simp [hc]
  rw [h1, h2, Bool.and_true, if_pos rfl, TL.numL_val]
def seqO {α : Type} : List (Option α) → Option (List α)
  | [] => some []
  | none :: _ => none
  | some a :: os => (seqO os).map (a :: ·)
theorem seqO_some {α : Type} : ∀ as : List α, seqO (as.map some) = some as
  | [] => rfl
  | a :: as => by
    show (seqO (as.map some)).map (a :: ·) = _
    rw [seqO_some as]
    rfl
theorem seqO_inv {α : Type} : ∀ {os : List (Option α)} {as : List α}, seqO os = some as → os = as.map some
  | [], as, h => by
    have e := Option.some.inj h
    subst e
    rfl
  | none :: os, as, h => by cases h
  | some a :: os, as, h => by
    cases e : seqO os with
    | none =>
      have h' : (seqO os).map (a :: ·) = some as := h
      rw [e] at h'
      cases h'
    | some bs =>
      have h' : (seqO os).map (a :: ·) = some as := h
      rw [e] at h'
      have e2 : a :: bs = as := Option.some.inj h'
      rw [← e2, List.map_cons, seqO_inv e]
theorem seqO_none {α : Type} : ∀ {os : List (Option α)}, seqO os = none → os.any Option.isNone = true
  | [], h => by cases h
  | none :: os, _ => rfl
  | some a :: os, h => by
    have h' : (seqO os).map (a :: ·) = none := h
    have e : seqO os = none := by
      cases e : seqO os with
      | none => rfl
      | some bs => rw [e] at h'; cases h'
    rw [List.any_cons, seqO_none e, Bool.or_true]
theorem any_none {α : Type} (os : List (Option α)) : os.any Option.isNone = (seqO os).isNone := by
  cases e : seqO os with
  | none => exact seqO_none e
  | some as =>
    rw [seqO_inv e]
    simp
def numbersOf (z : Str) : Option (List Int) := if z = "-" then some [] else seqO ((Txt.split z " ").map numOf)
/-- the text of numbers -/
def lineOf (ns : List Int) : Str := if ns = [] then "-" else Txt.join " " (ns.map sN)
theorem sep_sp : Sep " " := ⟨by decide +kernel, by decide +kernel⟩
theorem sep_bar : Sep " | " := ⟨by decide +kernel, by decide +kernel⟩
theorem sep_sc : Sep "; " := ⟨by decide +kernel, by decide +kernel⟩
theorem sep_co : Sep ": " := ⟨by decide +kernel, by decide +kernel⟩
theorem sep_nl : Sep "\n" := ⟨by decide +kernel, by decide +kernel⟩
theorem seqO_all {α : Type} {P : α → Prop} {f : Str → Option α} {ws : List Str} {as : List α} (h : seqO (ws.map f) = some as) (hf : ∀ w a, f w = some a → P a) : ∀ a ∈ as, P a := by
  have e := seqO_inv h
  intro a ha
  have h1 : some a ∈ ws.map f := by rw [e]; exact List.mem_map.mpr ⟨a, ha, rfl⟩
  obtain ⟨w, _, hw⟩ := List.mem_map.mp h1
  exact hf w a hw
theorem numbersOf_nm {z : Str} {ns : List Int} (h : numbersOf z = some ns) : ∀ n ∈ ns, Nm n := by
  unfold numbersOf at h
  split at h
  · have e := Option.some.inj h
    subst e
    intro n hn
    cases hn
  · exact seqO_all h fun w a => numOf_nm
theorem numbersOf_len {z : Str} {ns : List Int} (h : numbersOf z = some ns) : ns.length ≤ z.length + 1 := by
  unfold numbersOf at h
  split at h
  · have e := Option.some.inj h
    subst e
    exact Nat.zero_le _
  · have e := congrArg List.length (seqO_inv h)
    rw [List.length_map, List.length_map] at e
    rw [← e]
    exact split_count sep_sp z
theorem numbersOf_pos {z : Str} {ns : List Int} (h : numbersOf z = some ns) : 1 ≤ z.length := by
  rcases Nat.eq_zero_or_pos z.length with e | e
  · exfalso
    have ez : z = ("" : Str) := TL.ext_tl (by
      rw [TL.len_tl] at e
      rw [List.length_eq_zero_iff.mp e]
      decide +kernel)
    subst ez
    revert h
    unfold numbersOf
    rw [if_neg (by decide +kernel)]
    have : (Txt.split ("" : Str) " ").map tl = [[]] := by rw [split_tl sep_sp]; decide +kernel
    have e2 : Txt.split ("" : Str) " " = [("" : Str)] := TL.map_tl_inj (this.trans (by decide +kernel))
    rw [e2]
    have e3 : numOf "" = none := by decide +kernel
    simp only [List.map_cons, e3, seqO]
    intro h
    cases h
  · exact e
abbrev rises (ns : List Int) : Bool := risesB ltI ns
abbrev risesT (cs : List (List Int)) : Bool := risesB HT.lexLt cs
abbrev St2 := List Int × List (List Int)
def classesOf (c : Str) : List (Option (List Int)) := if c = "none" then [] else (Txt.split c "; ").map numbersOf
def stMk (oa : Option (List Int)) (ocs : List (Option (List Int))) : Option St2 := match oa, seqO ocs with
  | some a, some cs => if rises a && cs.all rises && risesT cs then some (a, cs) else none
  | _, _ => none
def stateOf (z : Str) : Option St2 := match Txt.split z " | " with
  | [h, c] => stMk (numbersOf h) (classesOf c)
  | _ => none
def rowMk (ok : Option (List Int)) (os : Option St2) : Option (List Int × St2) := match ok, os with
  | some key, some st => if key.length = 2 then some (key, st) else none
  | _, _ => none
def rowOf (z : Str) : Option (List Int × St2) := match Txt.split z ": " with
  | [k, s] => rowMk (numbersOf k) (stateOf s)
  | _ => none
abbrev Tab := List (List Int × St2)
/-- k stands behind the last key -/
def after (k : List Int) (acc : Tab) : Bool := match acc.getLast? with
  | none => true
  | some q => !lxLe k q.1
def tabGo : List Str → Tab → Except Nat Tab
  | [], acc => .ok acc
  | ln :: lns, acc => match rowOf ln with
    | none => .error acc.length
    | some r => if after r.1 acc then tabGo lns (acc ++ [r]) else .error acc.length
def linesOf (z : Str) : List Str := if z = "none" then [] else Txt.split z "\n"
def tableOf (z : Str) : Except Nat Tab := tabGo (linesOf z) []
end K7


set_option Elab.async false
set_option linter.all false
set_option maxRecDepth 100000
/-! Plain: texts that are written are read again; how long they are. -/
namespace K7
open PySem PySem.Spec PyProof.Rows L2
open TL (tl spl pre numL joinL)

theorem tl_txtjoin (y : Str) (ps : List Str) : tl (Txt.join y ps) = joinL (tl y) (ps.map tl) := by rw [TL.join_eq, TL.tl_join]
theorem joinL_mem {S : List Nat} {c : Nat} : ∀ {ps : List (List Nat)}, c ∈ joinL S ps → c ∈ S ∨ ∃ p ∈ ps, c ∈ p
  | [], h => nomatch h
  | [p], h => .inr ⟨p, List.mem_singleton.mpr rfl, h⟩
  | p :: q :: r, h => by
    have h' : c ∈ p ++ (S ++ joinL S (q :: r)) := h
    rw [List.mem_append, List.mem_append] at h'
    rcases h' with h' | h' | h'
    · exact .inr ⟨p, List.mem_cons_self .., h'⟩
    · exact .inl h'
    · rcases joinL_mem h' with z | ⟨x, hx, hc⟩
      · exact .inl z
      · exact .inr ⟨x, List.mem_cons_of_mem _ hx, hc⟩
theorem joinL_has {S : List Nat} {c : Nat} : ∀ {ps : List (List Nat)} {p : List Nat}, p ∈ ps → c ∈ p → c ∈ joinL S ps
  | [p0], p, h, hc => by
    rw [List.mem_singleton] at h
    subst h
    exact hc
  | p0 :: q :: r, p, h, hc => by
    show c ∈ p0 ++ (S ++ joinL S (q :: r))
    rw [List.mem_append, List.mem_append]
    rcases List.mem_cons.mp h with rfl | h
    · exact .inl hc
    · exact .inr (.inr (joinL_has h hc))
theorem joinL_len {S : List Nat} : ∀ {ps : List (List Nat)}, (joinL S ps).length = total S.length ps
  | [] => by simp [joinL, total]
  | [p] => by simp [joinL, total]
  | p :: q :: r => by
    show (p ++ (S ++ joinL S (q :: r))).length = _
    rw [List.length_append, List.length_append, joinL_len, total_cons S.length p (L := q :: r) (List.cons_ne_nil _ _)]
    omega
/-- signs of a numbers' text -/
def lineSign (c : Nat) : Prop := c = 32 ∨ c = 45 ∨ (48 ≤ c ∧ c ≤ 57)
theorem tl_sN {n : Int} (h : Nm n) : ∃ k : Nat, n = k ∧ tl (sN n) = numL k := by
  obtain ⟨k, rfl, _⟩ := nm_nat h
  exact ⟨k, rfl, TL.tl_num k⟩
theorem tl_line {ns : List Int} (h : ∀ n ∈ ns, Nm n) : ∀ c ∈ tl (lineOf ns), lineSign c := by
  unfold lineOf
  split
  · intro c hc
    have : tl ("-" : Str) = [45] := by decide +kernel
    rw [this] at hc
    exact .inr (.inl (List.mem_singleton.mp hc))
  · intro c hc
    rw [tl_txtjoin] at hc
    rcases joinL_mem hc with z | ⟨p, hp, hc⟩
    · have : tl (" " : Str) = [32] := by decide +kernel
      rw [this] at z
      exact .inl (List.mem_singleton.mp z)
    · rw [List.map_map] at hp
      obtain ⟨n, hn, rfl⟩ := List.mem_map.mp hp
      obtain ⟨k, _, e⟩ := tl_sN (h n hn)
      have hc' : c ∈ tl (sN n) := hc
      rw [e] at hc'
      exact .inr (.inr (TL.numL_digits k c hc'))
theorem numbersOf_line {ns : List Int} (h : ∀ n ∈ ns, Nm n) : numbersOf (lineOf ns) = some ns := by
  by_cases e : ns = []
  · subst e
    decide +kernel
  · unfold numbersOf
    have hne : lineOf ns ≠ "-" := by
      unfold lineOf
      rw [if_neg e]
      intro q
      have q' := congrArg tl q
      rw [tl_txtjoin] at q'
      have e45 : tl ("-" : Str) = [45] := by decide +kernel
      have e32 : tl (" " : Str) = [32] := by decide +kernel
      rw [e45] at q'
      have hm : 45 ∈ joinL (tl (" " : Str)) ((ns.map sN).map tl) := by rw [q']; simp
      rcases joinL_mem hm with z | ⟨p, hp, hc⟩
      · rw [e32] at z
        exact absurd (List.mem_singleton.mp z) (by decide)
      · rw [List.map_map] at hp
        obtain ⟨n, hn, rfl⟩ := List.mem_map.mp hp
        obtain ⟨k, _, e⟩ := tl_sN (h n hn)
        have hc' : 45 ∈ tl (sN n) := hc
        rw [e] at hc'
        have := TL.numL_digits k 45 hc'
        omega
    rw [if_neg hne]
    unfold lineOf
    rw [if_neg e, TL.split_join (s := 32) (S := []) (by decide +kernel) sep_sp.plain (by simpa using e)]
    · rw [List.map_map]
      have : ns.map (numOf ∘ sN) = ns.map some := List.map_congr_left fun n hn => numOf_sN (h n hn)
      rw [this, seqO_some]
    · intro p hp
      obtain ⟨n, hn, rfl⟩ := List.mem_map.mp hp
      obtain ⟨k, _, e⟩ := tl_sN (h n hn)
      rw [e]
      exact TL.numL_free (.inl (by decide))
/-- the text of the classes, of a state -/
def clsOf (cs : List (List Int)) : Str := if cs = [] then "none" else Txt.join "; " (cs.map lineOf)
def stLine (st : St2) : Str := lineOf st.1 ++ " | " ++ clsOf st.2
/-- a state with ascending numbers -/
structure StOk (st : St2) : Prop where
  n1 : ∀ n ∈ st.1, Nm n
  n2 : ∀ c ∈ st.2, ∀ n ∈ c, Nm n
  r1 : rises st.1 = true
  r2 : st.2.all rises = true
  r3 : risesT st.2 = true
theorem cls_sign {cs : List (List Int)} (h : ∀ c ∈ cs, ∀ n ∈ c, Nm n) (hne : cs ≠ []) : ∀ c ∈ tl (clsOf cs), lineSign c ∨ c = 59 := by
  unfold clsOf
  rw [if_neg hne]
  intro c hc
  rw [tl_txtjoin] at hc
  rcases joinL_mem hc with z | ⟨p, hp, hc⟩
  · have : tl ("; " : Str) = [59, 32] := by decide +kernel
    rw [this] at z
    simp only [List.mem_cons, List.not_mem_nil, or_false] at z
    rcases z with rfl | rfl
    · exact .inr rfl
    · exact .inl (.inl rfl)
  · rw [List.map_map] at hp
    obtain ⟨x, hx, rfl⟩ := List.mem_map.mp hp
    exact .inl (tl_line (h x hx) c hc)
theorem cls_free {cs : List (List Int)} (h : ∀ c ∈ cs, ∀ n ∈ c, Nm n) : ∀ c ∈ tl (clsOf cs), (lineSign c ∨ c = 59) ∨ c ∈ [110, 111, 101] := by
  by_cases e : cs = []
  · subst e
    intro c hc
    have : tl (clsOf []) = [110, 111, 110, 101] := by decide +kernel
    rw [this] at hc
    right
    simp at hc ⊢
    omega
  · intro c hc
    exact .inl (cls_sign h e c hc)
theorem classesOf_cls {cs : List (List Int)} (h : ∀ c ∈ cs, ∀ n ∈ c, Nm n) : classesOf (clsOf cs) = cs.map some := by
  unfold classesOf
  by_cases e : cs = []
  · subst e
    rw [if_pos (by decide +kernel)]
    rfl
  · have hne : clsOf cs ≠ "none" := fun q => by
      have h1 : (110 : Nat) ∈ tl (clsOf cs) := by rw [q]; decide +kernel
      rcases cls_sign h e 110 h1 with z | z
      · rcases z with z | z | z <;> omega
      · omega
    rw [if_neg hne]
    unfold clsOf
    rw [if_neg e, TL.split_join (s := 59) (S := [32]) (by decide +kernel) sep_sc.plain (by simpa using e)]
    · rw [List.map_map]
      exact List.map_congr_left fun c hc => numbersOf_line (h c hc)
    · intro p hp
      obtain ⟨c, hc, rfl⟩ := List.mem_map.mp hp
      intro hm
      rcases tl_line (h c hc) 59 hm with z | z | z <;> omega
theorem bar_free : ∀ (p rest : List Nat), 124 ∉ p → ∀ i, i < p.length → pre [32, 124, 32] ((p ++ ([32, 124, 32] ++ rest)).drop i) = false
  | [], _, _, i, hi => absurd hi (Nat.not_lt_zero _)
  | c :: p, rest, h, i + 1, hi => by
    rw [List.cons_append, List.drop_succ_cons]
    exact bar_free p rest (fun z => h (List.mem_cons_of_mem _ z)) i (by rw [List.length_cons] at hi; omega)
  | c :: p, rest, h, 0, hi => by
    rw [List.drop_zero]
    cases p with
    | nil =>
      cases e : pre [32, 124, 32] ([c] ++ ([32, 124, 32] ++ rest)) with
      | false => rfl
      | true =>
        have q : ([c] ++ ([32, 124, 32] ++ rest)).take 3 = [32, 124, 32] := eq_of_beq e
        simp at q
    | cons d p =>
      cases e : pre [32, 124, 32] (c :: d :: p ++ ([32, 124, 32] ++ rest)) with
      | false => rfl
      | true =>
        have q : (c :: d :: p ++ ([32, 124, 32] ++ rest)).take 3 = [32, 124, 32] := eq_of_beq e
        rw [List.cons_append, List.cons_append, List.take_succ_cons, List.take_succ_cons] at q
        injection q with _ q
        injection q with q _
        exact absurd (by rw [q]; simp) h
theorem bar_last : ∀ (p : List Nat), 124 ∉ p → ∀ i, i < p.length → pre [32, 124, 32] (p.drop i) = false
  | [], _, i, hi => absurd hi (Nat.not_lt_zero _)
  | c :: p, h, i + 1, hi => by
    rw [List.drop_succ_cons]
    exact bar_last p (fun z => h (List.mem_cons_of_mem _ z)) i (by rw [List.length_cons] at hi; omega)
  | c :: p, h, 0, hi => by
    rw [List.drop_zero]
    cases p with
    | nil =>
      cases e : pre [32, 124, 32] [c] with
      | false => rfl
      | true =>
        have q : ([c] : List Nat).take 3 = [32, 124, 32] := eq_of_beq e
        simp at q
    | cons d p =>
      cases e : pre [32, 124, 32] (c :: d :: p) with
      | false => rfl
      | true =>
        have q : (c :: d :: p).take 3 = [32, 124, 32] := eq_of_beq e
        rw [List.take_succ_cons, List.take_succ_cons] at q
        injection q with _ q
        injection q with q _
        exact absurd (by rw [q]; simp) h
theorem split_bar {a b : Str} (ha : 124 ∉ tl a) (hb : 124 ∉ tl b) : Txt.split (a ++ " | " ++ b) " | " = [a, b] := by
  refine TL.map_tl_inj ?_
  have e : tl (" | " : Str) = [32, 124, 32] := by decide +kernel
  rw [split_tl sep_bar, TL.tl_append, TL.tl_append, e, List.append_assoc, TL.spl_part (by simp) (bar_free _ _ ha), TL.spl_last (bar_last _ hb)]
  rfl
theorem split_co {a b : Str} (ha : 58 ∉ tl a) (hb : 58 ∉ tl b) : Txt.split (a ++ ": " ++ b) ": " = [a, b] := by
  refine TL.map_tl_inj ?_
  have e : tl (": " : Str) = [58, 32] := by decide +kernel
  rw [split_tl sep_co, TL.tl_append, TL.tl_append, e, List.append_assoc, TL.spl_part1 ha, TL.spl_last1 hb]
  rfl
theorem stateOf_line {st : St2} (h : StOk st) : stateOf (stLine st) = some st := by
  unfold stateOf stLine
  rw [split_bar]
  · show stMk (numbersOf (lineOf st.1)) (classesOf (clsOf st.2)) = some st
    rw [numbersOf_line h.n1, classesOf_cls h.n2]
    unfold stMk
    rw [seqO_some]
    simp only [h.r1, h.r2, h.r3, Bool.and_self, if_true]
  · intro hm
    rcases tl_line h.n1 124 hm with z | z | z <;> omega
  · intro hm
    rcases cls_free h.n2 124 hm with (z | z) | z
    · rcases z with z | z | z <;> omega
    · omega
    · simp at z
/-- no sign of a row's parts -/
theorem stLine_free {st : St2} (h : StOk st) {c : Nat} (hc : c = 58 ∨ c = 10) : c ∉ tl (stLine st) := fun hm => by
  have e : tl (" | " : Str) = [32, 124, 32] := by decide +kernel
  unfold stLine at hm
  rw [TL.tl_append, TL.tl_append, e, List.mem_append, List.mem_append] at hm
  rcases hm with (hm | hm) | hm
  · rcases tl_line h.n1 c hm with z | z | z <;> omega
  · simp at hm
    omega
  · rcases cls_free h.n2 c hm with (z | z) | z
    · rcases z with z | z | z <;> omega
    · omega
    · simp at z
      omega
def rowLine (r : List Int × St2) : Str := lineOf r.1 ++ ": " ++ stLine r.2
structure RowOk (r : List Int × St2) : Prop where
  k : ∀ n ∈ r.1, Nm n
  l : r.1.length = 2
  s : StOk r.2
theorem line_free {ns : List Int} (h : ∀ n ∈ ns, Nm n) {c : Nat} (hc : c = 58 ∨ c = 10) : c ∉ tl (lineOf ns) := fun hm => by
  rcases tl_line h c hm with z | z | z <;> omega
theorem rowOf_line {r : List Int × St2} (h : RowOk r) : rowOf (rowLine r) = some r := by
  unfold rowOf rowLine
  rw [split_co (line_free h.k (.inl rfl)) (stLine_free h.s (.inl rfl))]
  show rowMk (numbersOf (lineOf r.1)) (stateOf (stLine r.2)) = _
  rw [numbersOf_line h.k, stateOf_line h.s]
  show (if r.1.length = 2 then some (r.1, r.2) else none) = _
  rw [if_pos h.l]
theorem rowLine_free {r : List Int × St2} (h : RowOk r) : 10 ∉ tl (rowLine r) := fun hm => by
  have e : tl (": " : Str) = [58, 32] := by decide +kernel
  unfold rowLine at hm
  rw [TL.tl_append, TL.tl_append, e, List.mem_append, List.mem_append] at hm
  rcases hm with (hm | hm) | hm
  · exact line_free h.k (.inr rfl) hm
  · simp at hm
  · exact stLine_free h.s (.inr rfl) hm
def tabText (rows : Tab) : Str := if rows = [] then "none" else Txt.join "\n" (rows.map rowLine)
theorem linesOf_tab {rows : Tab} (h : ∀ r ∈ rows, RowOk r) : linesOf (tabText rows) = rows.map rowLine := by
  unfold linesOf tabText
  by_cases e : rows = []
  · subst e
    rw [if_pos rfl, if_pos rfl]
    rfl
  · rw [if_neg e, if_neg]
    · refine TL.split_join (s := 10) (S := []) (by decide +kernel) sep_nl.plain (by simpa using e) fun p hp => ?_
      obtain ⟨r, hr, rfl⟩ := List.mem_map.mp hp
      exact rowLine_free (h r hr)
    · intro q
      have q' := congrArg tl q
      rw [tl_txtjoin] at q'
      obtain ⟨r, hr⟩ := List.exists_mem_of_ne_nil _ e
      have hm : (58 : Nat) ∈ joinL (tl ("\n" : Str)) ((rows.map rowLine).map tl) := by
        refine joinL_has (p := tl (rowLine r)) (List.mem_map.mpr ⟨_, List.mem_map.mpr ⟨r, hr, rfl⟩, rfl⟩) ?_
        have e : tl (": " : Str) = [58, 32] := by decide +kernel
        unfold rowLine
        rw [TL.tl_append, TL.tl_append, e]
        simp
      rw [q'] at hm
      exact absurd hm (by decide +kernel)
theorem tabGo_lines : ∀ (rows acc : Tab), (∀ r ∈ rows, RowOk r) → ((acc ++ rows).map (·.1)).Pairwise (fun a b => HT.lexLt a b = true) → tabGo (rows.map rowLine) acc = .ok (acc ++ rows)
  | [], acc, _, _ => by rw [List.append_nil]; rfl
  | r :: rows, acc, h, hp => by
    show (match rowOf (rowLine r) with
      | none => Except.error acc.length
      | some r => if after r.1 acc then tabGo (rows.map rowLine) (acc ++ [r]) else Except.error acc.length) = _
    rw [rowOf_line (h r (List.mem_cons_self ..))]
    have ha : after r.1 acc = true := by
      unfold after
      cases e : acc.getLast? with
      | none => rfl
      | some q =>
        have hq : q ∈ acc := List.mem_of_getLast? e
        rw [List.map_append, List.map_cons] at hp
        have := (List.pairwise_append.mp hp).2.2 q.1 (List.mem_map.mpr ⟨q, hq, rfl⟩) r.1 (List.mem_cons_self ..)
        show (!lxLe r.1 q.1) = true
        unfold lxLe
        rw [this]
        rfl
    show (if after r.1 acc = true then tabGo (rows.map rowLine) (acc ++ [r]) else Except.error acc.length) = _
    rw [if_pos ha, tabGo_lines rows (acc ++ [r]) (fun x hx => h x (List.mem_cons_of_mem _ hx)) (by rw [List.append_assoc]; exact hp), List.append_assoc]
    rfl
theorem tableOf_text {rows : Tab} (h : ∀ r ∈ rows, RowOk r) (hp : (rows.map (·.1)).Pairwise (fun a b => HT.lexLt a b = true)) : tableOf (tabText rows) = .ok rows := by
  unfold tableOf
  rw [linesOf_tab h, tabGo_lines rows [] h hp]
  rfl
/-! what is read -/
theorem stateOf_ok {z : Str} {st : St2} (h : stateOf z = some st) : StOk st := by
  unfold stateOf at h
  split at h
  · rename_i a c _
    unfold stMk at h
    split at h
    · rename_i n cs e1 e2
      split at h
      · rename_i hc
        have e := Option.some.inj h
        subst e
        rw [Bool.and_eq_true, Bool.and_eq_true] at hc
        refine ⟨numbersOf_nm e1, ?_, hc.1.1, hc.1.2, hc.2⟩
        unfold classesOf at e2
        split at e2
        · have e3 := Option.some.inj e2
          intro c hc
          rw [← e3] at hc
          cases hc
        · exact seqO_all e2 fun w a hw => numbersOf_nm hw
      · cases h
    · cases h
  · cases h
theorem rowOf_ok {z : Str} {r : List Int × St2} (h : rowOf z = some r) : RowOk r := by
  unfold rowOf at h
  split at h
  · unfold rowMk at h
    split at h
    · rename_i k st e1 e2
      split at h
      · rename_i hl
        have e := Option.some.inj h
        subst e
        exact ⟨numbersOf_nm e1, hl, stateOf_ok e2⟩
      · cases h
    · cases h
  · cases h
end K7


set_option Elab.async false
set_option linter.all false
set_option maxRecDepth 100000
/-! Comprehensions over typed lists; the defs of numbers. -/
namespace K7
open PySem PySem.Spec PyProof.Rows L2

section
variable {α : Type}
open Classical in
noncomputable def viaE (enc : α → PyData) (f : α → PyData) (d : PyData) : PyData := if h : ∃ a, enc a = d then f (Classical.choose h) else .none
theorem viaE_eq {enc : α → PyData} (inj : ∀ a b, enc a = enc b → a = b) (f : α → PyData) (a : α) : viaE enc f (enc a) = f a := by
  unfold viaE
  have h : ∃ b, enc b = enc a := ⟨a, rfl⟩
  rw [dif_pos h]
  rw [inj _ _ (Classical.choose_spec h)]
open Classical in
noncomputable def viaB (enc : α → PyData) (f : α → Bool) (d : PyData) : Bool := if h : ∃ a, enc a = d then f (Classical.choose h) else false
theorem viaB_eq {enc : α → PyData} (inj : ∀ a b, enc a = enc b → a = b) (f : α → Bool) (a : α) : viaB enc f (enc a) = f a := by
  unfold viaB
  have h : ∃ b, enc b = enc a := ⟨a, rfl⟩
  rw [dif_pos h]
  rw [inj _ _ (Classical.choose_spec h)]
theorem pd_compT {X : Cx} {l : Sk} {x : Str} (i : Nat) {px pos : Pos} {elt iter : Expr} {scope : Scope} {as : List α} {enc : α → PyData} (inj : ∀ a b, enc a = enc b → a = b) (f : α → PyData)
    (hs : Src X l (.Name x px) iter (as.map enc)) (nd : X.N.Nodup) (ok : blkC X.N X.env.scope scope [(x, i)] = true) (hl : as.length ≤ 100000) (hi : ∀ a ∈ as, imm (f a) = true)
    (he : ∀ (s : Shared) (H : Hp) (C : Addr) (cl : List (Str × Addr)) (fp : List Addr), ∀ a ∈ as, PD (X.blk s H scope (compEnvC scope cl C X.env) fp) ((wipeK l [i]).set i (some (enc a))) elt (f a))
    (hn : X.N[i]? = some x := by rfl) (hx : Loc (compEnvC scope [] 0 X.env).scope x := by first | exact .inl rfl | exact .inr rfl) (hfn : scope.names.lookup x = some .cell ∨ (compEnvC scope [] 0 X.env).scope.names.lookup x = some .local := by first | exact .inl rfl | exact .inr rfl)
    (hc : X.calm = true := by rfl) (hfs : ∀ y, foldedSetIterable iter X.env y = pure y := by intro _; rfl) :
    PD X l (.ListComp elt [⟨.Name x px, iter, [], 0⟩] scope pos) (.list (as.map f)) := by
  have h := pd_comp (l := l) i (viaE enc f) (pos := pos) hs nd ok (by rw [List.length_map]; exact hl) (fun d hd => by
    obtain ⟨a, ha, rfl⟩ := List.mem_map.mp hd
    rw [viaE_eq inj]
    exact hi a ha) (fun s H C cl fp d hd => by
    obtain ⟨a, ha, rfl⟩ := List.mem_map.mp hd
    rw [viaE_eq inj]
    exact he s H C cl fp a ha) hn hx hfn hc hfs
  rw [List.map_map, show viaE enc f ∘ enc = f from funext fun a => viaE_eq inj f a] at h
  exact h
theorem filter_map_enc {enc : α → PyData} (inj : ∀ a b, enc a = enc b → a = b) (p : α → Bool) : ∀ as : List α, (as.map enc).filter (viaB enc p) = (as.filter p).map enc
  | [] => rfl
  | a :: as => by
    rw [List.map_cons, List.filter_cons, List.filter_cons, viaB_eq inj, filter_map_enc inj p as]
    split <;> rfl
theorem pd_compIfT {X : Cx} {l : Sk} {x : Str} (i : Nat) {px pos : Pos} {elt iter test : Expr} {scope : Scope} {as : List α} {enc : α → PyData} (inj : ∀ a b, enc a = enc b → a = b) (p : α → Bool) (f : α → PyData)
    (hs : Src X l (.Name x px) iter (as.map enc)) (nd : X.N.Nodup) (ok : blkC X.N X.env.scope scope [(x, i)] = true) (hl : as.length ≤ 100000) (hi : ∀ a ∈ as, p a = true → imm (f a) = true)
    (ht : ∀ (s : Shared) (H : Hp) (C : Addr) (cl : List (Str × Addr)) (fp : List Addr), ∀ a ∈ as, PDT (X.blk s H scope (compEnvC scope cl C X.env) fp) ((wipeK l [i]).set i (some (enc a))) test (p a))
    (he : ∀ (s : Shared) (H : Hp) (C : Addr) (cl : List (Str × Addr)) (fp : List Addr), ∀ a ∈ as, p a = true → PD (X.blk s H scope (compEnvC scope cl C X.env) fp) ((wipeK l [i]).set i (some (enc a))) elt (f a))
    (hn : X.N[i]? = some x := by rfl) (hx : Loc (compEnvC scope [] 0 X.env).scope x := by first | exact .inl rfl | exact .inr rfl) (hfn : scope.names.lookup x = some .cell ∨ (compEnvC scope [] 0 X.env).scope.names.lookup x = some .local := by first | exact .inl rfl | exact .inr rfl)
    (hc : X.calm = true := by rfl) (hfs : ∀ y, foldedSetIterable iter X.env y = pure y := by intro _; rfl) :
    PD X l (.ListComp elt [⟨.Name x px, iter, [test], 0⟩] scope pos) (.list ((as.filter p).map f)) := by
  have h := pd_compIf (l := l) i (viaB enc p) (viaE enc f) (pos := pos) hs nd ok (by rw [List.length_map]; exact hl) (fun d hd hp => by
    obtain ⟨a, ha, rfl⟩ := List.mem_map.mp hd
    rw [viaB_eq inj] at hp
    rw [viaE_eq inj]
    exact hi a ha hp) (fun s H C cl fp d hd => by
    obtain ⟨a, ha, rfl⟩ := List.mem_map.mp hd
    rw [viaB_eq inj]
    exact ht s H C cl fp a ha) (fun s H C cl fp d hd hp => by
    obtain ⟨a, ha, rfl⟩ := List.mem_map.mp hd
    rw [viaB_eq inj] at hp
    rw [viaE_eq inj]
    exact he s H C cl fp a ha hp) hn hx hfn hc hfs
  rw [filter_map_enc inj, List.map_map, show viaE enc f ∘ enc = f from funext fun a => viaE_eq inj f a] at h
  exact h
end
theorem str_inj : ∀ a b : Str, PyData.str a = .str b → a = b := fun a b h => by injection h
theorem int_inj : ∀ a b : Int, PyData.int a = .int b → a = b := fun a b h => by injection h
theorem sign_inj : ∀ a b : Nat, PyData.str ⟨#[a]⟩ = .str ⟨#[b]⟩ → a = b := fun a b h => by
  injection h with h
  injection h with h
  simpa using h
theorem ints_inj : ∀ a b : List Int, a.map PyData.int = b.map .int → a = b
  | [], [], _ => rfl
  | [], _ :: _, h => by cases h
  | _ :: _, [], h => by cases h
  | x :: a, y :: b, h => by
    rw [List.map_cons, List.map_cons] at h
    injection h with h1 h2
    injection h1 with h1
    rw [h1, ints_inj a b h2]
theorem eNs_inj : ∀ a b : List Int, eNs a = eNs b → a = b := fun a b h => by
  injection h with h
  exact ints_inj a b h
def eON : Option (List Int) → PyData
  | some ns => eNs ns
  | none => .none
theorem eON_inj : ∀ a b : Option (List Int), eON a = eON b → a = b
  | some a, some b, h => by rw [eNs_inj a b h]
  | none, none, _ => rfl
  | some _, none, h => by cases h
  | none, some _, h => by cases h
theorem imm_ints : ∀ ns : List Int, immAll (ns.map .int) = true
  | [] => by simp [immAll]
  | n :: ns => by
    show immAll (.int n :: ns.map .int) = true
    rw [immAll, imm_ints ns]
    simp [imm]
theorem imm_eNs (ns : List Int) : imm (eNs ns) = true := by
  show imm (.tuple (ns.map .int)) = true
  rw [imm]
  exact imm_ints ns
theorem imm_eON : ∀ o, imm (eON o) = true
  | some ns => imm_eNs ns
  | none => by show imm .none = true; simp [imm]
theorem imm_eOI : ∀ o, imm (eOI o) = true
  | some i => by show imm (.int i) = true; simp [imm]
  | none => by show imm .none = true; simp [imm]

section
variable {K : PySem.W.Frag} {i j : Int}
theorem pd_eq {X : Cx} {l : Sk} {e : Expr} {d d' : PyData} (h : PD X l e d) (q : d = d') : PD X l e d' := q ▸ h
theorem le_t (h : i ≤ j) : OpD K (rI0 fun i j => .bl (decide (i ≤ j))) (.int i) (.int j) (.bool true) := by rw [← decide_eq_true h]; exact opd_le
theorem le_f (h : ¬ i ≤ j) : OpD K (rI0 fun i j => .bl (decide (i ≤ j))) (.int i) (.int j) (.bool false) := by rw [← decide_eq_false h]; exact opd_le
theorem lt_t (h : i < j) : OpD K (rI0 fun i j => .bl (decide (i < j))) (.int i) (.int j) (.bool true) := by rw [← decide_eq_true h]; exact opd_lt
theorem lt_f (h : ¬ i < j) : OpD K (rI0 fun i j => .bl (decide (i < j))) (.int i) (.int j) (.bool false) := by rw [← decide_eq_false h]; exact opd_lt
theorem gt_t (h : j < i) : OpD K (rI0 fun i j => .bl (decide (j < i))) (.int i) (.int j) (.bool true) := by rw [← decide_eq_true h]; exact opd_gt
theorem gt_f (h : ¬ j < i) : OpD K (rI0 fun i j => .bl (decide (j < i))) (.int i) (.int j) (.bool false) := by rw [← decide_eq_false h]; exact opd_gt
theorem eqS_t {a b : Str} (h : a = b) : OpD K rEq (.str a) (.str b) (.bool true) := by
  have := opd_eqS (K := K) (a := a) (b := b)
  rwa [decide_eq_true h] at this
theorem eqS_f {a b : Str} (h : a ≠ b) : OpD K rEq (.str a) (.str b) (.bool false) := by
  have := opd_eqS (K := K) (a := a) (b := b)
  rwa [decide_eq_false h] at this
theorem neS_t {a b : Str} (h : a ≠ b) : OpD K rNe (.str a) (.str b) (.bool true) := by
  have := opd_neS (K := K) (a := a) (b := b)
  rwa [decide_eq_false h] at this
theorem neS_f {a b : Str} (h : a = b) : OpD K rNe (.str a) (.str b) (.bool false) := by
  have := opd_neS (K := K) (a := a) (b := b)
  rwa [decide_eq_true h] at this
theorem neI_t {a b : Int} (h : a ≠ b) : OpD K rNe (.int a) (.int b) (.bool true) := by
  have := opd_neI (K := K) (a := a) (b := b)
  rwa [decide_eq_false h] at this
theorem neI_f {a b : Int} (h : a = b) : OpD K rNe (.int a) (.int b) (.bool false) := by
  have := opd_neI (K := K) (a := a) (b := b)
  rwa [decide_eq_true h] at this
end
section
variable {X : Cx} {l : Sk} {e : Expr} {pos p : Pos}
theorem pd_lenS {z : Str} (g : Gt X.mg) (h : PD X l e (.str z)) (hz : z.length ≤ sizeLine) (hg : Gl X "len" := by rfl) (he : starEach [e] X.env = (false, eval e X.env) :: starEach [] X.env := by rfl) :
    PD X l (.Call (.Name "len" p) [e] [] pos) (.int (z.length : Nat)) := pd_callB call_len g.len (by decide +kernel) (cd_lenS hz) (pda1 h he) hg (by decide) (by decide) he (by rfl)
theorem pd_lenL {ds : List PyData} (g : Gt X.mg) (h : PD X l e (.list ds)) (hg : Gl X "len" := by rfl) (he : starEach [e] X.env = (false, eval e X.env) :: starEach [] X.env := by rfl) :
    PD X l (.Call (.Name "len" p) [e] [] pos) (.int (ds.length : Nat)) := pd_callB call_len g.len (by decide +kernel) cd_lenL (pda1 h he) hg (by decide) (by decide) he (by rfl)
theorem pd_lenT {ds : List PyData} (g : Gt X.mg) (h : PD X l e (.tuple ds)) (hg : Gl X "len" := by rfl) (he : starEach [e] X.env = (false, eval e X.env) :: starEach [] X.env := by rfl) :
    PD X l (.Call (.Name "len" p) [e] [] pos) (.int (ds.length : Nat)) := pd_callB call_len g.len (by decide +kernel) cd_lenT (pda1 h he) hg (by decide) (by decide) he (by rfl)
theorem pd_all {bs : List Bool} (g : Gt X.mg) (h : PD X l e (.list (bs.map .bool))) (hc : X.calm = true := by rfl) (hg : Gl X "all" := by rfl) (he : starEach [e] X.env = (false, eval e X.env) :: starEach [] X.env := by rfl) :
    PD X l (.Call (.Name "all" p) [e] [] pos) (.bool (bs.all id)) := pd_callB (cr_all hc) g.all (by decide +kernel) cd_all (pda1 h he) hg (by decide) (by decide) he (by rfl)
theorem pd_intS {z : Str} {n : Int} (g : Gt X.mg) (h : PD X l e (.str z)) (hn : PySem.intText? z = some n) (hz : z.length ≤ 640) (hg : Gl X "int" := by rfl) (he : starEach [e] X.env = (false, eval e X.env) :: starEach [] X.env := by rfl) :
    PD X l (.Call (.Name "int" p) [e] [] pos) (.int n) := pd_callTy call_int_str g.int (by decide +kernel) (cd_intS hn hz) (pda1 h he) hg (by decide) (by decide) he (by rfl)
theorem pd_strI {i : Int} (g : Gt X.mg) (h : PD X l e (.int i)) (hi : i.natAbs.log2 < 1920) (hg : Gl X "str" := by rfl) (he : starEach [e] X.env = (false, eval e X.env) :: starEach [] X.env := by rfl) :
    PD X l (.Call (.Name "str" p) [e] [] pos) (.str (toString i)) := pd_callTy call_str_int g.str (by decide +kernel) (cd_strI hi) (pda1 h he) hg (by decide) (by decide) he (by rfl)
theorem pd_tupL {ds : List PyData} (g : Gt X.mg) (h : PD X l e (.list ds)) (hg : Gl X "tuple" := by rfl) (he : starEach [e] X.env = (false, eval e X.env) :: starEach [] X.env := by rfl) :
    PD X l (.Call (.Name "tuple" p) [e] [] pos) (.tuple ds) := pd_callTy call_tuple_of g.tuple (by decide +kernel) cd_tupL (pda1 h he) hg (by decide) (by decide) he (by rfl)
theorem pd_lstT {ds : List PyData} (g : Gt X.mg) (h : PD X l e (.tuple ds)) (hg : Gl X "list" := by rfl) (he : starEach [e] X.env = (false, eval e X.env) :: starEach [] X.env := by rfl) :
    PD X l (.Call (.Name "list" p) [e] [] pos) (.list ds) := pd_callTy call_list_of g.list (by decide +kernel) cd_lstT (pda1 h he) hg (by decide) (by decide) he (by rfl)
end

/-! ### number_of -/
abbrev sNumberOf : Stmt := top 16
theorem scNumberOf : FnScope ["word", "sign"] ["word"] (defScope sNumberOf) := ⟨rfl, rfl, rfl, by decide +kernel, rfl, by decide +kernel, by decide +kernel⟩
theorem ndNumberOf : (["word", "sign"] : List Str).Nodup := by decide +kernel
theorem dig_in (c : Nat) : decide (c ∈ (Str.cps "0123456789").toList) = dig c := by
  have e : (Str.cps "0123456789").toList = [48, 49, 50, 51, 52, 53, 54, 55, 56, 57] := by decide +kernel
  rw [e]
  unfold dig
  apply decide_eq_decide.mpr
  simp
  omega
section
variable {P : Program} {w : World} {K : PySem.W.Frag} {mg : Str → Option Value} {base : Heap} {f : Addr} {fd : FuncData}
def domNumberOf (ds : List PyData) (d : PyData) : Prop := ∃ z : Str, z.length ≤ 189 ∧ ds = [.str z] ∧ d = eOI (numOf z)
theorem numOf_bad {z : Str} (h : okL (TL.tl z) = false) : numOf z = none := by
  unfold numOf
  rw [h, Bool.false_and]
  rfl
theorem digs_list (z : Str) : (z.cps.toList.map fun c => PyData.bool (dig c)) = (z.cps.toList.map dig).map .bool := by rw [List.map_map]; rfl
theorem digs_all (l : List Nat) : (l.map dig).all id = l.all dig := by rw [List.all_map]; rfl
/-- the first sign of a word -/
theorem head_at {z : Str} (h : 1 ≤ z.length) : ∃ c r, TL.tl z = c :: r ∧ z.cps.toList[0]? = some c := by
  rw [TL.len_tl] at h
  cases e : TL.tl z with
  | nil => rw [e] at h; cases h
  | cons c r =>
    refine ⟨c, r, rfl, ?_⟩
    show (TL.tl z)[0]? = some c
    rw [e]
    rfl
theorem sign0 (c : Nat) : (⟨#[c]⟩ : Str) = "0" ↔ c = 48 := by
  constructor
  · intro h
    have e := congrArg TL.tl h
    have e1 : TL.tl (⟨#[c]⟩ : Str) = [c] := rfl
    have e2 : TL.tl ("0" : Str) = [48] := by decide +kernel
    rw [e1, e2] at e
    simpa using e
  · intro h
    subst h
    exact TL.ext_tl (by decide +kernel)
theorem word0 (z : Str) : z = "0" ↔ TL.tl z = [48] := by
  constructor
  · intro h
    subst h
    decide +kernel
  · intro h
    exact TL.ext_tl (h.trans (by decide +kernel))
theorem len0 {z : Str} : z = "" ↔ ¬ 1 ≤ z.length := by
  constructor
  · intro h
    subst h
    decide +kernel
  · intro h
    refine TL.ext_tl ?_
    rw [TL.len_tl] at h
    have : (TL.tl z).length = 0 := by omega
    rw [List.length_eq_zero_iff.mp this]
    decide +kernel
theorem numOf_int {z : Str} (h1 : okL (TL.tl z) = true) (h2 : ledL (TL.tl z) = true) : ∃ n, numOf z = some n ∧ PySem.intText? z = some n := by
  unfold numOf
  rw [h1, h2]
  refine ⟨_, rfl, ?_⟩
  unfold okL at h1
  rw [Bool.and_eq_true, Bool.and_eq_true, decide_eq_true_eq, decide_eq_true_eq] at h1
  refine intText_digits (all_dig h1.2) (fun e => ?_) (by rw [TL.len_tl]; omega)
  have h := h1.1.1
  have e' : TL.tl z = [] := e
  rw [e'] at h
  cases h
theorem numOf_led {z : Str} (h2 : ledL (TL.tl z) = false) : numOf z = none := by
  unfold numOf
  rw [h2, Bool.and_false]
  rfl
theorem ok_numberOf (F : Fun K "number_of" "number_of" sNumberOf f fd) (g : Gt mg) : FnOk P w K mg base CX0 1 f fd ["word"] (spD K domNumberOf) := by
  refine fn_data F scNumberOf (fun ds d ⟨z, _, h, _⟩ => by rw [h]; rfl) fun cdv A outer s H E ds d hr h => ?_
  obtain ⟨z, hz, rfl, rfl⟩ := h
  have hlen : z.length ≤ sizeLine := Nat.le_trans hz (by decide)
  have hzl := TL.len_tl z
  by_cases h1 : (1 : Int) ≤ (z.length : Nat)
  · by_cases h2 : ((z.length : Nat) : Int) ≤ 60
    · have hcomp : ∀ b, (TL.tl z).all dig = b → (((TL.tl z).map dig).all id = b) := fun b hb => (digs_all _).trans hb
      cases h3 : (TL.tl z).all dig with
      | false =>
        have hn : numOf z = none := numOf_bad (by unfold okL; rw [h3, Bool.and_false])
        rw [hn]
        refine pr_ifT (pdt_w (pdw_orF (pdt_not (v := true) (pdt_chainT op_le op_le (le_t h1) (le_t h2) pd_int (pd_lenS g (pd_var 0) hlen) (pd_gint g.MAX_DIGITS))) (pdw_or1 (pdt_not (v := false) (pdt_val (pd_eq (pd_all g (pd_eq (pd_compT (as := TL.tl z) (enc := fun c => .str ⟨#[c]⟩) 1 sign_inj (fun c => .bool (dig c)) (src_str (pd_var 0)) scNumberOf.nd (by rfl) (by omega) (fun a _ => by simp [imm]) fun s H C cl fp c hc =>
          pd_eq (pd_cmp op_in_sign opd_inS (pd_var 1) (pd_gstr g.DIGITS)) (congrArg PyData.bool (dig_in c))) (congrArg PyData.list (digs_list z)))) (congrArg PyData.bool (hcomp _ h3)))))))) (pr_ret pd_none)
      | true =>
        have hok : okL (TL.tl z) = true := by
          unfold okL
          rw [h3, Bool.and_true, Bool.and_eq_true, decide_eq_true_eq, decide_eq_true_eq]
          omega
        obtain ⟨c0, r0, e0, hat⟩ := head_at (z := z) (by omega)
        refine pr_ifF (pdt_w (pdw_orF (pdt_not (v := true) (pdt_chainT op_le op_le (le_t h1) (le_t h2) pd_int (pd_lenS g (pd_var 0) hlen) (pd_gint g.MAX_DIGITS))) (pdw_or1 (pdt_not (v := true) (pdt_val (pd_eq (pd_all g (pd_eq (pd_compT (as := TL.tl z) (enc := fun c => .str ⟨#[c]⟩) 1 sign_inj (fun c => .bool (dig c)) (src_str (pd_var 0)) scNumberOf.nd (by rfl) (by omega) (fun a _ => by simp [imm]) fun s H C cl fp c hc =>
          pd_eq (pd_cmp op_in_sign opd_inS (pd_var 1) (pd_gstr g.DIGITS)) (congrArg PyData.bool (dig_in c))) (congrArg PyData.list (digs_list z)))) (congrArg PyData.bool (hcomp _ h3)))))))) ?_
        by_cases hz0 : z = "0"
        · obtain ⟨n, hn, hi⟩ := numOf_int hok (by unfold ledL; rw [decide_eq_true ((word0 z).mp hz0), Bool.true_or])
          rw [hn]
          exact pr_ret (pd_ifT (pdt_w (pdw_orT (pdt_cmp op_eq (eqS_t hz0) (pd_var 0) pd_str))) (pd_intS g (pd_var 0) hi (by omega)))
        · by_cases hc0 : c0 = 48
          · have hl : ledL (TL.tl z) = false := by
              unfold ledL
              rw [decide_eq_false (fun q => hz0 ((word0 z).mpr q)), e0, hc0]
              rfl
            rw [numOf_led hl]
            exact pr_ret (pd_ifF (pdt_w (pdw_orF (pdt_cmp op_eq (eqS_f hz0) (pd_var 0) pd_str) (pdw_or1 (pdt_cmp op_ne (neS_f ((sign0 c0).mpr hc0)) (pd_ix ix_str (opd_ixS hlen hat) (pd_var 0) pd_int) pd_str)))) pd_none)
          · obtain ⟨n, hn, hi⟩ := numOf_int hok (by
              unfold ledL
              rw [e0]
              simp [hc0])
            rw [hn]
            exact pr_ret (pd_ifT (pdt_w (pdw_orF (pdt_cmp op_eq (eqS_f hz0) (pd_var 0) pd_str) (pdw_or1 (pdt_cmp op_ne (neS_t (fun q => hc0 ((sign0 c0).mp q))) (pd_ix ix_str (opd_ixS hlen hat) (pd_var 0) pd_int) pd_str)))) (pd_intS g (pd_var 0) hi (by omega)))
    · have hn : numOf z = none := numOf_bad (by
        unfold okL
        rw [decide_eq_false (p := (TL.tl z).length ≤ 60) (by omega), Bool.and_false, Bool.false_and])
      rw [hn]
      exact pr_ifT (pdt_w (pdw_orT (pdt_not (v := false) (pdt_chainT op_le op_le (le_t h1) (le_f h2) pd_int (pd_lenS g (pd_var 0) hlen) (pd_gint g.MAX_DIGITS))))) (pr_ret pd_none)
  · have hn : numOf z = none := numOf_bad (by
      unfold okL
      rw [decide_eq_false (p := 1 ≤ (TL.tl z).length) (by omega), Bool.false_and, Bool.false_and])
    rw [hn]
    exact pr_ifT (pdt_w (pdw_orT (pdt_not (v := false) (pdt_chainF op_le op_le (le_f h1) pd_int (pd_lenS g (pd_var 0) hlen))))) (pr_ret pd_none)
end
end K7


set_option Elab.async false
set_option linter.all false
set_option maxRecDepth 100000
/-! t[1:], comprehensions over zip of tuples; are_numbers, is_rising, is_state_row. -/
namespace K7
open PySem PySem.Spec PyProof.Rows L2

section
variable {X : Cx} {l : Sk} {e : Expr} {pos p2 : Pos} {ds : List PyData}
theorem DaAll.drop {K : PySem.W.Frag} {H : Hp} : ∀ {vs : List V} {ds : List PyData} (n : Nat), DaAll K H vs ds → DaAll K H (vs.drop n) (ds.drop n)
  | _, _, 0, h => h
  | _, _, n + 1, .nil => .nil
  | _, _, n + 1, .cons _ h => DaAll.drop n h
theorem pd_rest {j : Nat} {pp : Pos} (h : PD X l e (.tuple ds)) : PD X l (.Subscript e (.Slice (some (.Constant (.int 1) j pp)) none none p2) pos) (.tuple (ds.drop 1)) :=
  peImp (pe_slice sl_tupA h (po_some (te := tD X.K l (.int 1)) pd_int) po_none) fun σ H Q ⟨s, k⟩ => ⟨s, fun x H1 e1 q1 => by
    refine ⟨s.mono e1, fun y H2 e2 q2 => ?_⟩
    cases q2
    refine ⟨1, rfl, ?_⟩
    cases q1 with
    | tup h1 h2 =>
      rename_i a vs
      have hi : HT.sIx vs.length 0 (some ((1 : Nat) : Int)) = min 1 vs.length := HT.sIx_nat _ _ _
      have hl := h2.length
      refine ⟨a, vs, rfl, SqT.of (e2 _ _ h1), fun hw => ?_, fun hw q hq => ?_⟩
      · have h0 : vs.length = 0 := by
          have h0 := hw.1
          rw [show (some (1 : Int)) = some ((1 : Nat) : Int) from rfl, hi] at h0
          omega
        have hd : ds.drop 1 = ds := by
          have : ds.length = 0 := by omega
          rw [List.length_eq_zero_iff.mp this]
          rfl
        rw [hd] at k
        exact k _ _ (e1.trans e2) (.tup (e2 _ _ h1) (h2.mono e2))
      · have hc : cutV vs (some (1 : Int)) none = vs.drop 1 := by
          unfold cutV
          rw [show (some (1 : Int)) = some ((1 : Nat) : Int) from rfl, hi, HT.sIx_none]
          have : vs.drop (min 1 vs.length) = vs.drop 1 := by
            by_cases h : 1 ≤ vs.length
            · rw [Nat.min_eq_left h]
            · have : vs.length = 0 := by omega
              rw [List.length_eq_zero_iff.mp this]
              rfl
          rw [this]
          exact List.take_of_length_le (by rw [List.length_drop]; omega)
        rw [hc]
        exact k _ _ ((e1.trans e2).trans (same_new hq)) (.tup upd_same ((h2.drop 1).mono (e2.trans (same_new hq))))⟩
end

theorem walk_zT {K : PySem.W.Frag} {a b : Addr} {xs ys : List V} {n : Nat} (hn : n = min xs.length ys.length) : Walk (RZ.ItzT K a b) n (fun H => SqT K H a xs ∧ SqT K H b ys) (YPair (fun i => xs[i]?) (fun i => ys[i]?)) := by
  subst hn
  refine ⟨fun i _ hi q => ?_, fun H q => ⟨xs, ys, q.1, q.2, by omega⟩, fun i H v H' _ q y => ?_⟩
  · have h1 : i < xs.length := by omega
    have h2 : i < ys.length := by omega
    exact ⟨xs, ys, xs[i], ys[i], q.1, q.2, List.getElem?_eq_getElem h1, List.getElem?_eq_getElem h2⟩
  · obtain ⟨T, x, y, h1, h2, h3, h4, h5⟩ := y
    exact ⟨T, x, y, h1, h2, h3, h4 xs q.1, h5 ys q.2⟩
theorem wipe2 {σ : L2.St} {i j : Nat} {x y : Option V} (h : i ≠ j) : wipe (((wipe σ [i, j]).set i x).set j y) [i, j] = wipe σ [i, j] := by
  show (((((wipe σ [i, j]).set i x).set j y).set j none).set i none) = _
  have e : wipe σ [i, j] = (σ.set j none).set i none := rfl
  rw [e]
  refine List.ext_getElem? fun m => ?_
  simp only [List.getElem?_set, List.length_set]
  by_cases h1 : i = m
  · subst h1
    simp
  · by_cases h2 : j = m
    · subst h2
      simp [h1]
    · simp [h1, h2]
/-- [test for a, b in zip(t, u)] : bools -/
theorem pd_compZ {X : Cx} {l : Sk} {x y : Str} (i j : Nat) {px py tpos p pos cpos : Pos} {kk : Nat} {elt e e2 : Expr} {scope : Scope} {ds1 ds2 : List PyData} (f : PyData → PyData → Bool) (hm : X.mg "zip" = none)
    (ha : PD X l e (.tuple ds1)) (hb : PD X l e2 (.tuple ds2)) (nd : X.N.Nodup) (ok : blkC X.N X.env.scope scope [(x, i), (y, j)] = true) (hl : ds1.length ≤ 100000) (hij : i ≠ j)
    (he : ∀ (s : Shared) (H : Hp) (C : Addr) (cl : List (Str × Addr)) (fp : List Addr), ∀ q ∈ ds1.zip ds2, PD (X.blk s H scope (compEnvC scope cl C X.env) fp) (((wipeK l [i, j]).set i (some q.1)).set j (some q.2)) elt (.bool (f q.1 q.2)))
    (hn : X.N[i]? = some x := by rfl) (hn2 : X.N[j]? = some y := by rfl) (hx : Loc (compEnvC scope [] 0 X.env).scope x := by first | exact .inl rfl | exact .inr rfl) (hy : Loc (compEnvC scope [] 0 X.env).scope y := by first | exact .inl rfl | exact .inr rfl)
    (hfx : (compEnvC scope [] 0 X.env).scope.names.lookup x = some .local := by rfl) (hfy : (compEnvC scope [] 0 X.env).scope.names.lookup y = some .local := by rfl)
    (hc : X.calm = true := by rfl) (hg : Gl X "zip" := by rfl) (hs : starEach [e, e2] X.env = (false, eval e X.env) :: starEach [e2] X.env := by rfl) (hs2 : starEach [e2] X.env = (false, eval e2 X.env) :: starEach [] X.env := by rfl) (hpl : (backTo pos (starEach [e2] X.env)).any (·.1) = false := by rfl)
    (hfs : ∀ y, foldedSetIterable (.Call (.Name "zip" p) [e, e2] [] pos) X.env y = pure y := by intro _; rfl)
    (hgx : ∀ (s : Shared) (H : Hp) (C : Addr) (cl : List (Str × Addr)) (fp : List Addr), (assignEach [.Name x px, .Name y py] (X.blk s H scope (compEnvC scope cl C X.env) fp).env).findIdx? (·.1) = none := by intros; rfl) :
    PD X l (.ListComp elt [⟨.Tuple [.Name x px, .Name y py] kk tpos, .Call (.Name "zip" p) [e, e2] [] pos, [], 0⟩] scope cpos) (.list (((ds1.zip ds2).map fun q => f q.1 q.2).map .bool)) := by
  refine peImp (pe_lc (own := [(x, i), (y, j)]) (g := gTup X.K 2 (gCons (gName i) (gCons (gName j) gNil))) (tt := tYes) (te := fun σ H Q => ∃ q ∈ ds1.zip ds2, tD X.K (((wipeK l [i, j]).set i (some q.1)).set j (some q.2)) (.bool (f q.1 q.2)) σ H Q) hc nd (RZ.pi_zipA hg hm (pda_cons ha (pda1 hb hs2) hs) hs hpl) (blkOk_by ok)
    (fun s H C cl fp => pg_tup (X := X.blk s H scope (compEnvC scope cl C X.env) fp) hc (pgs_cons (pg_name (i := i) nd hn hx (.inr hfx)) (pgs_cons (pg_name (i := j) nd hn2 hy (.inr hfy)) pgs_nil)) rfl (hgx s H C cl fp))
    (fun s H C cl fp => pts_nil) (fun s H C cl fp => ⟨fun pins s' σ' H' Q' I q => by
      obtain ⟨q0, hq0, q⟩ := q
      exact (he s H C cl fp q0 hq0).run pins s' σ' H' Q' I q⟩) hfs) fun σ H Q ⟨s, k⟩ => ⟨s, fun xs H1 e1 q1 => ?_⟩
  cases q1 with
  | cons q1 q2 =>
    cases q2 with
    | cons q2 q3 =>
      cases q3
      cases q1 with
      | tup g1 g2 =>
        cases q2 with
        | tup g3 g4 =>
          rename_i a vs b us
          refine ⟨a, b, vs, us, rfl, .inr ⟨SqT.of g1, SqT.of g3, fun D hD => ?_⟩⟩
          have hl1 := g2.length
          have hl2 := g4.length
          have hzl : (ds1.zip ds2).length = min vs.length us.length := by rw [List.length_zip, hl1, hl2]
          refine lc_it (vs := [i, j]) (σ := σ) (g := gTup X.K 2 (gCons (gName i) (gCons (gName j) gNil))) (tt := tYes) (te := fun σ H Q => ∃ q ∈ ds1.zip ds2, tD X.K (((wipeK l [i, j]).set i (some q.1)).set j (some q.2)) (.bool (f q.1 q.2)) σ H Q) (Qd := fun H' => Q (V.ref D) H') (walk_zT hzl)
            (fun m H' => Same H1 H' ∧ ∃ bs : List Bool, H' D = some (.lst (bs.map V.bl)) ∧ bs = (((ds1.zip ds2).take m).map fun q => f q.1 q.2)) ⟨same_new hD, [], upd_same, rfl⟩ (fun m H' _ q => ⟨SqT.of (q.1 _ _ g1), SqT.of (q.1 _ _ g3)⟩) (fun m y Ha Hb hm q yy => ?_) fun H' q => ?_
          · obtain ⟨T, v1, v2, rfl, hT, rfl, e3, e4⟩ := yy
            obtain ⟨eS, bs, hDv, hbs⟩ := q
            obtain ⟨d1, f1, f2⟩ := (g2.mono eS).at' e3
            obtain ⟨d2, f3, f4⟩ := (g4.mono eS).at' e4
            have eT : Same Ha (upd Ha T (.tup [v1, v2])) := same_new hT
            have hz : (ds1.zip ds2)[m]? = some (d1, d2) := List.getElem?_zip_eq_some.mpr ⟨f1, f3⟩
            have hmem : (d1, d2) ∈ ds1.zip ds2 := List.mem_of_getElem? hz
            refine ⟨T, [v1, v2], rfl, SqT.of upd_same, rfl, v1, [v2], rfl, v2, [], rfl, rfl, ?_⟩
            have hsl : Sl X.K (((wipe σ [i, j]).set i (some v1)).set j (some v2)) (upd Ha T (.tup [v1, v2])) (((wipeK l [i, j]).set i (some d1)).set j (some d2)) := ((((s.mono e1).mono (eS.trans eT)).wipe [i, j]).set i (f2.mono eT)).set j (f4.mono eT)
            refine ⟨wipe2 hij, ?_⟩
            unfold tYes
            refine L2.iteT ?_
            refine ⟨(d1, d2), hmem, hsl, fun z H4 e5 hz4 => ?_⟩
            · cases hz4
              have hD4 : H4 D = some (.lst (bs.map V.bl)) := e5 _ _ (eT _ _ hDv)
              refine ⟨bs.map V.bl, hD4, ?_, same_mut ((eS.trans eT).trans e5) hD, bs ++ [f d1 d2], ?_, ?_⟩
              · rw [List.length_map, hbs, List.length_map]
                refine Nat.lt_of_le_of_lt (List.length_take_le' ..) ?_
                rw [List.length_zip]
                exact Nat.lt_of_le_of_lt (Nat.le_trans (Nat.min_le_left _ _) hl) (by decide)
              · rw [upd_same, List.map_append]
                rfl
              · rw [hbs, List.take_add_one, hz, List.map_append]
                rfl
          · obtain ⟨eS, bs, hDv, hbs⟩ := q
            rw [List.take_length] at hbs
            refine k _ H' (e1.trans eS) (.lst (SqL.of hDv) ?_)
            rw [← hbs]
            exact da_bls bs

theorem eON_ty (o : Option (List Int)) : ∀ ds, eON o ≠ .list ds := fun ds h => by cases o <;> cases h
def NmO (o : Option (List Int)) : Prop := ∀ ns, o = some ns → (∀ n ∈ ns, Nm n) ∧ ns.length ≤ 200
def riseO : Option (List Int) → Bool
  | some ns => rises ns
  | none => false
abbrev sAreNumbers : Stmt := top 18
abbrev sIsRising : Stmt := top 19
abbrev sIsStateRow : Stmt := top 24
theorem scAreNumbers : FnScope ["value", "number"] ["value"] (defScope sAreNumbers) := ⟨rfl, rfl, rfl, by decide +kernel, rfl, by decide +kernel, by decide +kernel⟩
theorem scIsRising : FnScope ["value", "one", "other"] ["value"] (defScope sIsRising) := ⟨rfl, rfl, rfl, by decide +kernel, rfl, by decide +kernel, by decide +kernel⟩
theorem scIsStateRow : FnScope ["value", "one", "other"] ["value"] (defScope sIsStateRow) := ⟨rfl, rfl, rfl, by decide +kernel, rfl, by decide +kernel, by decide +kernel⟩
def intLt : PyData → PyData → Bool
  | .int x, .int y => decide (x < y)
  | _, _ => false
section
variable {α : Type}
theorem zip_rise {enc : α → PyData} {f : PyData → PyData → Bool} {g : α → α → Bool} (h : ∀ a b, f (enc a) (enc b) = g a b) (as bs : List α) : ((as.map enc).zip (bs.map enc)).map (fun q => f q.1 q.2) = (as.zip bs).map fun q => g q.1 q.2 := by
  rw [List.zip_map, List.map_map]
  exact List.map_congr_left fun q _ => h q.1 q.2
theorem zip_all {enc : α → PyData} {f : PyData → PyData → Bool} {g : α → α → Bool} (h : ∀ a b, f (enc a) (enc b) = g a b) (as : List α) : (((as.map enc).zip ((as.map enc).drop 1)).map fun q => f q.1 q.2).all id = risesB g as := by
  rw [← List.map_drop, zip_rise h, List.all_map]
  rfl
theorem zip_mem {enc : α → PyData} {as : List α} {q : PyData × PyData} (h : q ∈ (as.map enc).zip ((as.map enc).drop 1)) : ∃ a b, q = (enc a, enc b) := by
  rw [← List.map_drop, List.zip_map] at h
  obtain ⟨r, _, e⟩ := List.mem_map.mp h
  exact ⟨r.1, r.2, e.symm⟩
end
section
variable {P : Program} {w : World} {K : PySem.W.Frag} {mg : Str → Option Value} {base : Heap} {f : Addr} {fd : FuncData}
def domAreNumbers (ds : List PyData) (d : PyData) : Prop := ∃ o, NmO o ∧ ds = [eON o] ∧ d = .bool o.isSome
theorem nm_within {n : Int} (h : Nm n) : ((decide (-(10 ^ 60) < n) && decide (n < 10 ^ 60)) && (decide (0 ≤ n) && decide (n ≤ 10 ^ 60))) = true := by
  have h1 := h.1
  have h2 := h.2
  rw [decide_eq_true (show -(10 ^ 60) < n by omega), decide_eq_true h2, decide_eq_true h1, decide_eq_true (show n ≤ 10 ^ 60 by omega)]
  rfl
theorem ok_areNumbers (F : Fun K "are_numbers" "are_numbers" sAreNumbers f fd) (g : Gt mg) (c : Fk P w K mg base CX0 2 "is_within" (spD K domIsWithin)) : FnOk P w K mg base CX0 3 f fd ["value"] (spD K domAreNumbers) := by
  refine fn_data F scAreNumbers (fun ds d ⟨o, _, h, _⟩ => by rw [h]; rfl) fun cdv A outer s H E ds d hr h => ?_
  obtain ⟨o, ho, rfl, rfl⟩ := h
  cases o with
  | none => exact pr_ret (pd_andF (pd_isi (d := .none) (T := "tuple") (r := false) g.isinstance g.tuple (by decide +kernel) (pd_var 0) (fun _ q => by cases q) (show kitB "NoneType" "tuple" = some false by decide +kernel)))
  | some ns =>
    obtain ⟨h1, h2⟩ := ho ns rfl
    refine pr_ret (pd_andT (pd_isi (d := eNs ns) (T := "tuple") (r := true) g.isinstance g.tuple (by decide +kernel) (pd_var 0) (fun _ q => by cases q) (show kitB "tuple" "tuple" = some true by decide +kernel)) (pd_one (pd_eq (pd_all (bs := ns.map fun _ => true) g (pd_eq (pd_compT (as := ns) (enc := .int) 1 int_inj (fun _ => .bool true) (src_tup (pd_var 0)) scAreNumbers.nd (by rfl) (by omega) (fun a _ => by simp [imm]) fun s H C cl fp n hn =>
      pd_call c hr (Nat.le_refl _) (pda_cons (pd_var 1) (pda_cons pd_int (pda1 (pd_gint g.LONGEST)))) ⟨n, 0, 10 ^ 60, rfl, by rw [nm_within (h1 n hn)]⟩) ?_)) ?_)))
    · rw [List.map_map]
      rfl
    · rw [List.all_map]
      show PyData.bool (ns.all fun _ => true) = .bool true
      simp
def domIsRising (ds : List PyData) (d : PyData) : Prop := ∃ o, NmO o ∧ ds = [eON o] ∧ d = .bool (riseO o)
theorem ok_isRising (F : Fun K "is_rising" "is_rising" sIsRising f fd) (g : Gt mg) (c : Fk P w K mg base CX0 3 "are_numbers" (spD K domAreNumbers)) : FnOk P w K mg base CX0 4 f fd ["value"] (spD K domIsRising) := by
  refine fn_data F scIsRising (fun ds d ⟨o, _, h, _⟩ => by rw [h]; rfl) fun cdv A outer s H E ds d hr h => ?_
  obtain ⟨o, ho, rfl, rfl⟩ := h
  cases o with
  | none => exact pr_ret (pd_andF (pd_call c hr (Nat.le_refl _) (pda1 (pd_var 0)) ⟨none, ho, rfl, rfl⟩))
  | some ns =>
    obtain ⟨h1, h2⟩ := ho ns rfl
    refine pr_ret (pd_andT (pd_call c hr (Nat.le_refl _) (pda1 (pd_var 0)) ⟨some ns, ho, rfl, rfl⟩) (pd_one (pd_eq (pd_all g (pd_compZ 1 2 intLt g.zip (ds1 := ns.map .int) (pd_var 0) (pd_rest (pd_var 0)) scIsRising.nd (by rfl) (by rw [List.length_map]; omega) (by decide) fun s H C cl fp q hq => ?_)) ?_)))
    · obtain ⟨a, b, rfl⟩ := zip_mem hq
      exact pd_cmp op_lt opd_lt (pd_var 1) (pd_var 2)
    · exact congrArg PyData.bool (zip_all (g := ltI) (fun a b => rfl) ns)
end
end K7


set_option Elab.async false
set_option linter.all false
set_option maxRecDepth 100000
/-! is_state_row, texts of numbers and states. -/
namespace K7
open PySem PySem.Spec PyProof.Rows L2

def rowB (a : Option (List Int)) (ocs : List (Option (List Int))) : Bool := (stMk a ocs).isSome
def eRow (a : Option (List Int)) (ocs : List (Option (List Int))) : PyData := .tuple [eON a, .tuple (ocs.map eON)]
theorem all_rise {ocs : List (Option (List Int))} (h : (ocs.map riseO).all id = true) : ∃ cs : List (List Int), ocs = cs.map some ∧ cs.all rises = true := by
  induction ocs with
  | nil => exact ⟨[], rfl, rfl⟩
  | cons o ocs ih =>
    rw [List.map_cons, List.all_cons, Bool.and_eq_true] at h
    obtain ⟨cs, e, q⟩ := ih h.2
    cases o with
    | none => cases h.1
    | some c => exact ⟨c :: cs, by rw [e]; rfl, by rw [List.all_cons, q, Bool.and_true]; exact h.1⟩
theorem rise_all (cs : List (List Int)) : ((cs.map some).map riseO).all id = cs.all rises := by rw [List.map_map, List.all_map]; rfl
theorem rowB_none (ocs : List (Option (List Int))) : rowB none ocs = false := rfl
theorem rowB_r1 {a : List Int} (h : rises a = false) (ocs : List (Option (List Int))) : rowB (some a) ocs = false := by
  unfold rowB stMk
  cases seqO ocs with
  | none => rfl
  | some cs => simp [h]
theorem rowB_r2 {a : Option (List Int)} {ocs : List (Option (List Int))} (h : (ocs.map riseO).all id = false) : rowB a ocs = false := by
  unfold rowB stMk
  cases e : seqO ocs with
  | none => cases a <;> rfl
  | some cs =>
    cases a with
    | none => rfl
    | some a =>
      have h2 : cs.all rises = false := by rw [← rise_all, ← seqO_inv e]; exact h
      simp [h2]
theorem rowB_r3 {a : List Int} {cs : List (List Int)} (h1 : rises a = true) (h2 : cs.all rises = true) : rowB (some a) (cs.map some) = risesT cs := by
  unfold rowB stMk
  rw [seqO_some]
  simp only [h1, h2, Bool.true_and]
  cases risesT cs <;> rfl
open Classical in
noncomputable def tupLt (d e : PyData) : Bool := viaB eNs (fun a => viaB eNs (fun b => HT.lexLt a b) e) d
theorem tupLt_eq (a b : List Int) : tupLt (eNs a) (eNs b) = HT.lexLt a b := by
  unfold tupLt
  rw [viaB_eq eNs_inj, viaB_eq eNs_inj]
theorem some_map (cs : List (List Int)) : (cs.map some).map eON = cs.map eNs := by rw [List.map_map]; rfl
section
variable {P : Program} {w : World} {K : PySem.W.Frag} {mg : Str → Option Value} {base : Heap} {f : Addr} {fd : FuncData}
def domIsStateRow (ds : List PyData) (d : PyData) : Prop := ∃ a ocs, NmO a ∧ (∀ o ∈ ocs, NmO o) ∧ ocs.length ≤ 200 ∧ ds = [eRow a ocs] ∧ d = .bool (rowB a ocs)
theorem ok_isStateRow (F : Fun K "is_state_row" "is_state_row" sIsStateRow f fd) (g : Gt mg) (c : Fk P w K mg base CX0 4 "is_rising" (spD K domIsRising)) : FnOk P w K mg base CX0 5 f fd ["value"] (spD K domIsStateRow) := by
  refine fn_data F scIsStateRow (fun ds d ⟨a, o, _, _, _, h, _⟩ => by rw [h]; rfl) fun cdv A outer s H E ds d hr h => ?_
  obtain ⟨a, ocs, ha, ho, hl, rfl, rfl⟩ := h
  have b1 : PySem.bootBuiltins "tuple" = some (.type "tuple") := by decide +kernel
  have hr0 := hr.units0
  cases h1 : riseO a with
  | false =>
    have e : rowB a ocs = false := by
      cases a with
      | none => rfl
      | some a => exact rowB_r1 h1 ocs
    rw [e]
    refine pr_ifT (pdt_w (pdw_orF (pdt_not (v := true) (pdt_val (pd_isi (d := eRow a ocs) (T := "tuple") (r := true) g.isinstance g.tuple b1 (pd_var 0) (fun _ q => by cases q) (show kitB "tuple" "tuple" = some true by decide +kernel))))
      (pdw_orF (pdt_cmp op_ne (neI_f rfl) (pd_lenT (ds := [eON a, .tuple (ocs.map eON)]) g (pd_var 0)) pd_int) (pdw_orT (pdt_not (v := false) (pdt_val (pd_call c hr (Nat.le_refl _) (pda1 (pd_ix ix_tup (opd_ixT (i := 0) (ds := [eON a, .tuple (ocs.map eON)]) rfl) (pd_var 0) pd_int)) ⟨a, ha, rfl, by rw [h1]⟩))))))) (pr_ret pd_bool)
  | true =>
    refine pr_ifF (pdt_w (pdw_orF (pdt_not (v := true) (pdt_val (pd_isi (d := eRow a ocs) (T := "tuple") (r := true) g.isinstance g.tuple b1 (pd_var 0) (fun _ q => by cases q) (show kitB "tuple" "tuple" = some true by decide +kernel))))
      (pdw_orF (pdt_cmp op_ne (neI_f rfl) (pd_lenT (ds := [eON a, .tuple (ocs.map eON)]) g (pd_var 0)) pd_int) (pdw_orF (pdt_not (v := true) (pdt_val (pd_call c hr (Nat.le_refl _) (pda1 (pd_ix ix_tup (opd_ixT (i := 0) (ds := [eON a, .tuple (ocs.map eON)]) rfl) (pd_var 0) pd_int)) ⟨a, ha, rfl, by rw [h1]⟩)))
        (pdw_or1 (pdt_not (v := true) (pdt_val (pd_isi (d := .tuple (ocs.map eON)) (T := "tuple") (r := true) g.isinstance g.tuple b1 (pd_ix ix_tup (opd_ixT (i := 1) (ds := [eON a, .tuple (ocs.map eON)]) rfl) (pd_var 0) pd_int) (fun _ q => by cases q) (show kitB "tuple" "tuple" = some true by decide +kernel))))))))) ?_
    cases h2 : (ocs.map riseO).all id with
    | false =>
      rw [rowB_r2 h2]
      refine pr_ifT (pdt_not (v := false) (pdt_val (pd_eq (pd_all (bs := ocs.map riseO) g (pd_eq (pd_compT (as := ocs) (enc := eON) 1 eON_inj (fun o => .bool (riseO o)) (src_tup (pd_ix ix_tup (opd_ixT (i := 1) (ds := [eON a, .tuple (ocs.map eON)]) rfl) (pd_var 0) pd_int)) scIsStateRow.nd (by rfl) (by omega) (fun a _ => by simp [imm]) fun s H C cl fp o hoo =>
        pd_call c hr (Nat.le_refl _) (pda1 (pd_var 1)) ⟨o, ho o hoo, rfl, rfl⟩) (by rw [List.map_map]; rfl))) (by rw [h2])))) (pr_ret pd_bool)
    | true =>
      refine pr_ifF (pdt_not (v := true) (pdt_val (pd_eq (pd_all (bs := ocs.map riseO) g (pd_eq (pd_compT (as := ocs) (enc := eON) 1 eON_inj (fun o => .bool (riseO o)) (src_tup (pd_ix ix_tup (opd_ixT (i := 1) (ds := [eON a, .tuple (ocs.map eON)]) rfl) (pd_var 0) pd_int)) scIsStateRow.nd (by rfl) (by omega) (fun a _ => by simp [imm]) fun s H C cl fp o hoo =>
        pd_call c hr (Nat.le_refl _) (pda1 (pd_var 1)) ⟨o, ho o hoo, rfl, rfl⟩) (by rw [List.map_map]; rfl))) (by rw [h2])))) ?_
      obtain ⟨cs, rfl, hcs⟩ := all_rise h2
      cases a with
      | none => cases h1
      | some a =>
        rw [rowB_r3 h1 hcs]
        have hix : (PyData.tuple ((cs.map some).map eON)) = .tuple (cs.map eNs) := congrArg PyData.tuple (some_map cs)
        refine pr_ret (pd_eq (pd_all g (pd_compZ 1 2 tupLt g.zip (ds1 := cs.map eNs) (pd_eq (pd_ix ix_tup (opd_ixT (i := 1) (ds := [eON (some a), .tuple ((cs.map some).map eON)]) rfl) (pd_var 0) pd_int) hix) (pd_rest (pd_eq (pd_ix ix_tup (opd_ixT (i := 1) (ds := [eON (some a), .tuple ((cs.map some).map eON)]) rfl) (pd_var 0) pd_int) hix)) scIsStateRow.nd (by rfl) (by rw [List.length_map] at hl ⊢; omega) (by decide) fun s H C cl fp q hq => ?_)) ?_)
        · obtain ⟨x, y, rfl⟩ := zip_mem hq
          exact pd_eq (pd_cmp (op_ltT hr0) opd_ltT (pd_var 1) (pd_var 2)) (congrArg PyData.bool (tupLt_eq x y).symm)
        · exact congrArg PyData.bool (zip_all (g := HT.lexLt) tupLt_eq cs)
end
end K7


set_option Elab.async false
set_option linter.all false
set_option maxRecDepth 100000
/-! Texts of numbers and states, and what is read. -/
namespace K7
open PySem PySem.Spec PyProof.Rows L2

section
variable {α : Type}
theorem eqvAll_enc {enc : α → PyData} [DecidableEq α] (h : ∀ a b, PyData.eqv (enc a) (enc b) = decide (a = b)) : ∀ as bs : List α, PyData.eqvAll (as.map enc) (bs.map enc) = decide (as = bs)
  | [], [] => by simp [PyData.eqvAll]
  | [], b :: bs => by simp [PyData.eqvAll]
  | a :: as, [] => by simp [PyData.eqvAll]
  | a :: as, b :: bs => by
    rw [List.map_cons, List.map_cons, PyData.eqvAll, h, eqvAll_enc h as bs, ← Bool.decide_and]
    congr 1
    simp
theorem canL_enc {enc : α → PyData} (h : ∀ a, PyData.canLay0 (enc a) = true) : ∀ as : List α, PyData.canLayAll0 (as.map enc) = true
  | [] => by simp [PyData.canLayAll0]
  | a :: as => by rw [List.map_cons, PyData.canLayAll0, h a, canL_enc h as]; rfl
theorem depth_enc {enc : α → PyData} {k : Nat} (h : ∀ a, PyData.depth (enc a) ≤ k) : ∀ as : List α, PyData.depthAll (as.map enc) ≤ k
  | [] => by simp [PyData.depthAll]
  | a :: as => by rw [List.map_cons, PyData.depthAll]; exact Nat.max_le.mpr ⟨h a, depth_enc h as⟩
theorem nod_enc {enc : α → PyData} (h : ∀ a, PyData.hasDict (enc a) = false) : ∀ as : List α, PyData.hasDictAll (as.map enc) = false
  | [] => by simp [PyData.hasDictAll]
  | a :: as => by rw [List.map_cons, PyData.hasDictAll, h a, nod_enc h as]; rfl
end
theorem canL_int (n : Int) : PyData.canLay0 (.int n) = true := by simp [PyData.canLay0]
theorem canL_eNs (ns : List Int) : PyData.canLay0 (eNs ns) = true := by
  show PyData.canLay0 (.tuple (ns.map .int)) = true
  rw [PyData.canLay0]
  exact canL_enc canL_int ns
theorem depth_eNs (ns : List Int) : PyData.depth (eNs ns) ≤ 1 := by
  show PyData.depth (.tuple (ns.map .int)) ≤ 1
  rw [PyData.depth]
  exact Nat.succ_le_succ (depth_enc (k := 0) (fun n => by simp [PyData.depth]) ns)
theorem shp {d : PyData} {k : Nat} (h1 : PyData.canLay0 d = true) (h2 : PyData.depth d ≤ k) (hk : k ≤ 64) : SeqAt.shaped d = true := by
  unfold SeqAt.shaped
  rw [h1, Bool.true_and]
  exact decide_eq_true (Nat.le_trans h2 hk)
theorem shp_eNs (ns : List Int) : SeqAt.shaped (eNs ns) = true := shp (canL_eNs ns) (depth_eNs ns) (by decide)
theorem shp_tup {α : Type} {enc : α → PyData} {k : Nat} (h1 : ∀ a, PyData.canLay0 (enc a) = true) (h2 : ∀ a, PyData.depth (enc a) ≤ k) (hk : k + 1 ≤ 64) (as : List α) : SeqAt.shaped (.tuple (as.map enc)) = true :=
  shp (by rw [PyData.canLay0]; exact canL_enc h1 as) (by rw [PyData.depth]; exact Nat.succ_le_succ (depth_enc h2 as)) hk
theorem shp_lst {α : Type} {enc : α → PyData} {k : Nat} (h1 : ∀ a, PyData.canLay0 (enc a) = true) (h2 : ∀ a, PyData.depth (enc a) ≤ k) (hk : k + 1 ≤ 64) (as : List α) : SeqAt.shaped (.list (as.map enc)) = true :=
  shp (by rw [PyData.canLay0]; exact canL_enc h1 as) (by rw [PyData.depth]; exact Nat.succ_le_succ (depth_enc h2 as)) hk
theorem eqv_ints (as bs : List Int) : PyData.eqvAll (as.map .int) (bs.map .int) = decide (as = bs) := eqvAll_enc (enc := PyData.int) (fun a b => by
  rw [PyData.eqv]
  exact Bool.beq_eq_decide_eq a b) as bs
theorem eqv_eNs (as bs : List Int) : PyData.eqv (eNs as) (eNs bs) = decide (as = bs) := by
  show PyData.eqv (.tuple (as.map .int)) (.tuple (bs.map .int)) = _
  rw [PyData.eqv]
  exact eqv_ints as bs
theorem eqv_empT (ds : List PyData) : PyData.eqv (.tuple ds) (.tuple []) = ds.isEmpty := by cases ds <;> simp [PyData.eqv, PyData.eqvAll]
theorem eqv_empL (ds : List PyData) : PyData.eqv (.list ds) (.list []) = ds.isEmpty := by cases ds <;> simp [PyData.eqv, PyData.eqvAll]
section
variable {K : PySem.W.Frag}
/-- t != () -/
theorem neT0 {α : Type} {enc : α → PyData} {as : List α} {k : Nat} (h0 : ∀ a, PyData.hasDict (enc a) = false) (h1 : ∀ a, PyData.canLay0 (enc a) = true) (h2 : ∀ a, PyData.depth (enc a) ≤ k) (hk : k + 1 ≤ 64) : OpD K (rNeD K) (.tuple (as.map enc)) (.tuple []) (.bool (!as.isEmpty)) := by
  have h := opd_neD (K := K) (d := .tuple (as.map enc)) (e := .tuple []) (by rw [PyData.hasDict]; exact nod_enc h0 as) (by simp [PyData.hasDict, PyData.hasDictAll]) (shp_tup h1 h2 hk as) (by decide +kernel)
  rw [eqv_empT] at h
  cases as <;> exact h
theorem neL0 {α : Type} {enc : α → PyData} {as : List α} {k : Nat} (h0 : ∀ a, PyData.hasDict (enc a) = false) (h1 : ∀ a, PyData.canLay0 (enc a) = true) (h2 : ∀ a, PyData.depth (enc a) ≤ k) (hk : k + 1 ≤ 64) : OpD K (rNeD K) (.list (as.map enc)) (.list []) (.bool (!as.isEmpty)) := by
  have h := opd_neD (K := K) (d := .list (as.map enc)) (e := .list []) (by rw [PyData.hasDict]; exact nod_enc h0 as) (by simp [PyData.hasDict, PyData.hasDictAll]) (shp_lst h1 h2 hk as) (by decide +kernel)
  rw [eqv_empL] at h
  cases as <;> exact h
theorem ne_ints {ns : List Int} : OpD K (rNeD K) (eNs ns) (.tuple []) (.bool (!ns.isEmpty)) := neT0 (enc := .int) (k := 0) (fun a => by simp [PyData.hasDict]) canL_int (fun n => by simp [PyData.depth]) (by decide)
theorem ne_tups {cs : List (List Int)} : OpD K (rNeD K) (.tuple (cs.map eNs)) (.tuple []) (.bool (!cs.isEmpty)) := neT0 (enc := eNs) (k := 1) no_dict_eNs canL_eNs depth_eNs (by decide)
end

/-! ### lengths -/
theorem sN_len {n : Int} (h : Nm n) : (sN n).length ≤ 60 := by
  obtain ⟨k, rfl, hk⟩ := nm_nat h
  have e : TL.tl (sN (k : Int)) = TL.numL k := TL.tl_num k
  rw [TL.len_tl, e]
  exact TL.numL_len (by decide) hk
theorem nm_log {n : Int} (h : Nm n) : n.natAbs.log2 < 1920 := by
  obtain ⟨k, rfl, hk⟩ := nm_nat h
  rw [Int.natAbs_natCast]
  rcases Nat.eq_zero_or_pos k with e | e
  · subst e
    decide
  · exact (Nat.log2_lt (by omega)).mpr (Nat.lt_trans hk (by decide +kernel))
theorem sum_le {l : List Nat} {m : Nat} (h : ∀ n ∈ l, n ≤ m) : l.sum ≤ m * l.length := by
  induction l with
  | nil => simp
  | cons n l ih =>
    have h1 := h n (List.mem_cons_self ..)
    have h2 := ih fun x hx => h x (List.mem_cons_of_mem _ hx)
    rw [List.sum_cons, List.length_cons, Nat.mul_succ]
    omega
theorem sum_sN {ns : List Int} (h : ∀ n ∈ ns, Nm n) : ((ns.map sN).map (·.length)).sum ≤ 60 * ns.length := by
  have := sum_le (l := (ns.map sN).map (·.length)) (m := 60) fun x hx => by
    rw [List.map_map] at hx
    obtain ⟨n, hn, rfl⟩ := List.mem_map.mp hx
    exact sN_len (h n hn)
  rw [List.length_map, List.length_map] at this
  exact this
theorem total_sum {y : Str} (ps : List Str) : (Txt.join y ps).length ≤ (ps.map (·.length)).sum + y.length * ps.length := by
  rw [TL.len_tl, tl_txtjoin, joinL_len]
  unfold total
  rw [List.length_map, List.map_map, ← TL.len_tl]
  have e : ps.map (List.length ∘ TL.tl) = ps.map (·.length) := List.map_congr_left fun p _ => (TL.len_tl p).symm
  rw [e]
  have : y.length * (ps.length - 1) ≤ y.length * ps.length := Nat.mul_le_mul_left _ (Nat.sub_le _ _)
  omega
theorem line_len {ns : List Int} (h : ∀ n ∈ ns, Nm n) : (lineOf ns).length ≤ 61 * ns.length + 1 := by
  unfold lineOf
  split
  · have : ("-" : Str).length = 1 := by decide +kernel
    omega
  · have h1 := total_sum (y := " ") (ns.map sN)
    have h2 := sum_sN h
    have : (" " : Str).length = 1 := by decide +kernel
    rw [this, List.length_map] at h1
    omega
/-- small numbers of a state -/
structure Few (ns : List Int) : Prop where
  nm : ∀ n ∈ ns, Nm n
  len : ns.length ≤ 10
structure FewS (st : St2) : Prop where
  n1 : Few st.1
  n2 : ∀ c ∈ st.2, Few c
  len : st.2.length ≤ 10
theorem few_line {ns : List Int} (h : Few ns) : (lineOf ns).length ≤ 611 := by
  have := line_len h.nm
  have := h.len
  omega
theorem sum_few {cs : List (List Int)} (h : ∀ c ∈ cs, Few c) : ((cs.map lineOf).map (·.length)).sum ≤ 611 * cs.length := by
  have := sum_le (l := (cs.map lineOf).map (·.length)) (m := 611) fun x hx => by
    rw [List.map_map] at hx
    obtain ⟨n, hn, rfl⟩ := List.mem_map.mp hx
    exact few_line (h n hn)
  rw [List.length_map, List.length_map] at this
  exact this
theorem few_cls {cs : List (List Int)} (h : ∀ c ∈ cs, Few c) (hl : cs.length ≤ 10) : (clsOf cs).length ≤ 7000 := by
  unfold clsOf
  split
  · have : ("none" : Str).length = 4 := by decide +kernel
    omega
  · have h1 := total_sum (y := "; ") (cs.map lineOf)
    have h2 := sum_few h
    have : ("; " : Str).length = 2 := by decide +kernel
    rw [this, List.length_map] at h1
    omega

/-! ### numbers_text, state_text -/
abbrev sNumbersText : Stmt := top 20
abbrev sNumbersOf : Stmt := top 21
abbrev sStateText : Stmt := top 25
abbrev sStateOf : Stmt := top 26
theorem scNumbersText : FnScope ["numbers", "number"] ["numbers"] (defScope sNumbersText) := ⟨rfl, rfl, rfl, by decide +kernel, rfl, by decide +kernel, by decide +kernel⟩
theorem scNumbersOf : FnScope ["text", "found", "word"] ["text"] (defScope sNumbersOf) := ⟨rfl, rfl, rfl, by decide +kernel, rfl, by decide +kernel, by decide +kernel⟩
theorem scStateText : FnScope ["state", "classes", "one"] ["state"] (defScope sStateText) := ⟨rfl, rfl, rfl, by decide +kernel, rfl, by decide +kernel, by decide +kernel⟩
theorem scStateOf : FnScope ["text", "halves", "classes", "state", "one"] ["text"] (defScope sStateOf) := ⟨rfl, rfl, rfl, by decide +kernel, rfl, by decide +kernel, by decide +kernel⟩
theorem isEmpty_cases {α : Type} (l : List α) : (l = [] ∧ (!l.isEmpty) = false) ∨ (l ≠ [] ∧ (!l.isEmpty) = true) := by cases l <;> simp
def eSt (st : St2) : PyData := .tuple [eNs st.1, .tuple (st.2.map eNs)]
def eOS : Option St2 → PyData
  | some st => eSt st
  | none => .none
section
variable {P : Program} {w : World} {K : PySem.W.Frag} {mg : Str → Option Value} {base : Heap} {f : Addr} {fd : FuncData}
def domNumbersText (ds : List PyData) (d : PyData) : Prop := ∃ ns, (∀ n ∈ ns, Nm n) ∧ ns.length ≤ 200 ∧ ds = [eNs ns] ∧ d = .str (lineOf ns)
theorem ok_numbersText (F : Fun K "numbers_text" "numbers_text" sNumbersText f fd) (g : Gt mg) : FnOk P w K mg base CX0 1 f fd ["numbers"] (spD K domNumbersText) := by
  refine fn_data F scNumbersText (fun ds d ⟨z, _, _, h, _⟩ => by rw [h]; rfl) fun cdv A outer s H E ds d hr h => ?_
  obtain ⟨ns, hn, hl, rfl, rfl⟩ := h
  have hu := hr.units
  rcases isEmpty_cases ns with ⟨e, e2⟩ | ⟨e, e2⟩
  · have el : lineOf ns = "-" := by unfold lineOf; rw [if_pos e]
    rw [el]
    exact pr_ret (pd_ifF (pdt_cmp (op_neD hu) (by rw [← e2]; exact ne_ints) (pd_var 0) pd_unit) (pd_gstr g.NOTHING))
  · have el : lineOf ns = Txt.join " " (ns.map sN) := by unfold lineOf; rw [if_neg e]
    have hs := sum_sN hn
    rw [el]
    refine pr_ret (pd_ifT (pdt_cmp (op_neD hu) (by rw [← e2]; exact ne_ints) (pd_var 0) pd_unit) (pd_join pd_str (pd_eq (pd_compT (as := ns) (enc := .int) 1 int_inj (fun n => .str (sN n)) (src_tup (pd_var 0)) scNumbersText.nd (by rfl) (by omega) (fun a _ => by simp [imm]) fun s H C cl fp n hnn =>
      pd_strI g (pd_var 1) (nm_log (hn n hnn))) (by rw [List.map_map]; rfl)) ?_))
    rw [List.length_map]
    have : (" " : Str).length = 1 := by decide +kernel
    rw [this]
    omega
def domStateText (ds : List PyData) (d : PyData) : Prop := ∃ st, FewS st ∧ ds = [eSt st] ∧ d = .str (stLine st)
theorem ok_stateText (F : Fun K "state_text" "state_text" sStateText f fd) (g : Gt mg) (c : Fk P w K mg base CX0 1 "numbers_text" (spD K domNumbersText)) : FnOk P w K mg base CX0 2 f fd ["state"] (spD K domStateText) := by
  refine fn_data F scStateText (fun ds d ⟨z, _, h, _⟩ => by rw [h]; rfl) fun cdv A outer s H E ds d hr h => ?_
  obtain ⟨⟨a, cs⟩, hst, rfl, rfl⟩ := h
  have hu := hr.units
  have h1 := hst.n1
  have h2 := hst.n2
  have h3 : cs.length ≤ 10 := hst.len
  have b1 := few_line h1
  have b2 := few_cls h2 h3
  have b3 : (" | " : Str).length = 3 := by decide +kernel
  have hs := sum_few h2
  have b4 : ("; " : Str).length = 2 := by decide +kernel
  refine pr_asg 1 (d1 := .str (Txt.join "; " (cs.map lineOf))) (pd_join (pd_gstr g.BETWEEN) (pd_eq (pd_compT (as := cs) (enc := eNs) 2 eNs_inj (fun n => .str (lineOf n)) (src_tup (pd_ix ix_tup (opd_ixT (i := 1) (ds := [eNs a, .tuple (cs.map eNs)]) rfl) (pd_var 0) pd_int)) scStateText.nd (by rfl) (by omega) (fun a _ => by simp [imm]) fun s H C cl fp n hnn =>
      pd_call c hr (Nat.le_refl _) (pda1 (pd_var 2)) ⟨n, (h2 n hnn).nm, Nat.le_trans (h2 n hnn).len (by decide), rfl, rfl⟩) (by rw [List.map_map]; rfl)) (by rw [List.length_map, b4]; simp only [St2] at *; omega)) ?_ scStateText.nd
  refine pr_ret (pd_bin op_add_str (opd_addS (b := clsOf cs) ?_) (pd_bin op_add_str (opd_addS (a := lineOf a) (b := " | ") ?_) (pd_call c hr (Nat.le_refl _) (pda1 (pd_ix ix_tup (opd_ixT (i := 0) (ds := [eNs a, .tuple (cs.map eNs)]) rfl) (pd_var 0) pd_int)) ⟨a, h1.nm, Nat.le_trans h1.len (by decide), rfl, rfl⟩) (pd_gstr g.BAR)) ?_)
  · have : (lineOf a ++ " | ").length = (lineOf a).length + (" | " : Str).length := by rw [TL.len_tl, TL.tl_append, List.length_append, ← TL.len_tl, ← TL.len_tl]
    rw [this]
    exact Nat.le_trans (show _ ≤ 100000 by simp only [St2] at *; omega) (by decide)
  · exact Nat.le_trans (show _ ≤ 100000 by simp only [St2] at *; omega) (by decide)
  · rcases isEmpty_cases cs with ⟨e, e2⟩ | ⟨e, e2⟩
    · have el : clsOf cs = "none" := by unfold clsOf; rw [if_pos e]
      rw [el]
      exact pd_ifF (pdt_cmp (op_neD hu) (by rw [← e2]; exact ne_tups) (pd_ix ix_tup (opd_ixT (i := 1) (ds := [eNs a, .tuple (cs.map eNs)]) rfl) (pd_var 0) pd_int) pd_unit) (pd_gstr g.NONE)
    · have el : clsOf cs = Txt.join "; " (cs.map lineOf) := by unfold clsOf; rw [if_neg e]
      rw [el]
      exact pd_ifT (pdt_cmp (op_neD hu) (by rw [← e2]; exact ne_tups) (pd_ix ix_tup (opd_ixT (i := 1) (ds := [eNs a, .tuple (cs.map eNs)]) rfl) (pd_var 0) pd_int) pd_unit) (pd_var 1)
end
end K7


set_option Elab.async false
set_option linter.all false
set_option maxRecDepth 100000
/-! numbers_of, state_of, table_row_of, write_numbers, write_state. -/
namespace K7
open PySem PySem.Spec PyProof.Rows L2

abbrev sWriteNumbers : Stmt := top 22
abbrev sWriteState : Stmt := top 27
abbrev sTableRowOf : Stmt := top 31
theorem scWriteNumbers : FnScope ["numbers"] ["numbers"] (defScope sWriteNumbers) := ⟨rfl, rfl, rfl, by decide +kernel, rfl, by decide +kernel, by decide +kernel⟩
theorem scWriteState : FnScope ["state"] ["state"] (defScope sWriteState) := ⟨rfl, rfl, rfl, by decide +kernel, rfl, by decide +kernel, by decide +kernel⟩
theorem scTableRowOf : FnScope ["line", "halves", "key", "state"] ["line"] (defScope sTableRowOf) := ⟨rfl, rfl, rfl, by decide +kernel, rfl, by decide +kernel, by decide +kernel⟩
theorem numbersOf_nmO {z : Str} (h : z.length ≤ 189) : NmO (numbersOf z) := fun ns e => ⟨numbersOf_nm e, by have := numbersOf_len e; omega⟩
theorem strs_at {α : Type} (l : List Str) (i : Nat) {z : Str} (h : l[i]? = some z) : (l.map PyData.str)[i]? = some (.str z) := by rw [List.getElem?_map, h]; rfl
def eOR : Option (List Int × St2) → PyData
  | some r => .tuple [eNs r.1, eSt r.2]
  | none => .none
theorem eON_none {o : Option (List Int)} : (match eON o with | .none => true | _ => false) = o.isNone := by cases o <;> rfl
theorem eOS_none {o : Option St2} : (match eOS o with | .none => true | _ => false) = o.isNone := by cases o <;> rfl
theorem eON_some {o : Option (List Int)} : (match eON o with | .none => false | _ => true) = o.isSome := by cases o <;> rfl
theorem eOS_some {o : Option St2} : (match eOS o with | .none => false | _ => true) = o.isSome := by cases o <;> rfl
theorem eOR_none {o : Option (List Int × St2)} : (match eOR o with | .none => true | _ => false) = o.isNone := by cases o <;> rfl
theorem stMk_fst {a : Option (List Int)} {ocs : List (Option (List Int))} {st : St2} (h : stMk a ocs = some st) : a = some st.1 ∧ ocs = st.2.map some := by
  unfold stMk at h
  split at h
  · rename_i n cs e1
    split at h
    · have e := Option.some.inj h
      subst e
      exact ⟨rfl, seqO_inv e1⟩
    · cases h
  · cases h
theorem eRow_st {a : Option (List Int)} {ocs : List (Option (List Int))} {st : St2} (h : stMk a ocs = some st) : eRow a ocs = eSt st := by
  obtain ⟨e1, e2⟩ := stMk_fst h
  subst e1 e2
  unfold eRow eSt
  rw [some_map]
  rfl
theorem classesOf_nmO {c : Str} (h : c.length ≤ 189) : ∀ o ∈ classesOf c, NmO o := by
  unfold classesOf
  split
  · intro o ho
    cases ho
  · intro o ho
    obtain ⟨w, hw, rfl⟩ := List.mem_map.mp ho
    exact numbersOf_nmO (Nat.le_trans (split_piece sep_sc hw) h)
theorem classesOf_len (c : Str) : (classesOf c).length ≤ c.length + 1 := by
  unfold classesOf
  split
  · exact Nat.zero_le _
  · rw [List.length_map]
    exact split_count sep_sc c
theorem noneIn_b {K : PySem.W.Frag} {os : List (Option Int)} {v : Bool} (h : os.any Option.isNone = v) : OpD K (rIn K false) .none (.list (os.map eOI)) (.bool v) := h ▸ opd_noneIn
theorem eqI_t {K : PySem.W.Frag} {a b : Int} (h : a = b) : OpD K rEq (.int a) (.int b) (.bool true) := fun x y H Q hx hy k => by
  cases hx; cases hy
  refine ⟨rfl, ?_⟩
  rw [decide_eq_true (congrArg V.int h)]
  exact k _ H (Same.refl H) (.bl _)
theorem eqI_f {K : PySem.W.Frag} {a b : Int} (h : a ≠ b) : OpD K rEq (.int a) (.int b) (.bool false) := fun x y H Q hx hy k => by
  cases hx; cases hy
  refine ⟨rfl, ?_⟩
  rw [decide_eq_false (fun q => h (by injection q))]
  exact k _ H (Same.refl H) (.bl _)
section
variable {P : Program} {w : World} {K : PySem.W.Frag} {mg : Str → Option Value} {base : Heap} {f : Addr} {fd : FuncData}
def domNumbersOf (ds : List PyData) (d : PyData) : Prop := ∃ z : Str, z.length ≤ 189 ∧ ds = [.str z] ∧ d = eON (numbersOf z)
theorem ok_numbersOf (F : Fun K "numbers_of" "numbers_of" sNumbersOf f fd) (g : Gt mg) (c : Fk P w K mg base CX0 1 "number_of" (spD K domNumberOf)) : FnOk P w K mg base CX0 2 f fd ["text"] (spD K domNumbersOf) := by
  refine fn_data F scNumbersOf (fun ds d ⟨z, _, h, _⟩ => by rw [h]; rfl) fun cdv A outer s H E ds d hr h => ?_
  obtain ⟨z, hz, rfl, rfl⟩ := h
  have key : ∀ os : List (Option Int), numbersOf z = seqO os → PR (cxOf CX0 P w K mg base ["text", "found", "word"] "numbers_of" (defScope sNumbersOf) f cdv A outer s H E).nox [some (.str z), some (.list (os.map eOI)), none] ((defBody sNumbersOf).drop 1) (eON (numbersOf z)) := fun os e => by
    rw [e]
    cases q : seqO os with
    | none => exact pr_ret (pd_ifT (pdt_cmp op_in_seq (noneIn_b (seqO_none q)) pd_none (pd_var 1)) pd_none)
    | some ns =>
      have q2 : os.any Option.isNone = false := by rw [any_none, q]; rfl
      have q3 := seqO_inv q
      refine pr_ret (pd_ifF (pdt_cmp op_in_seq (noneIn_b q2) pd_none (pd_var 1)) (pd_eq (pd_tupL g (pd_var 1)) ?_))
      rw [q3, List.map_map]
      rfl
  by_cases h1 : z = "-"
  · refine pr_asg 1 (d1 := .list (([] : List (Option Int)).map eOI)) (pd_ifF (pdt_cmp op_ne (neS_f h1) (pd_var 0) (pd_gstr g.NOTHING)) pd_nil) (key [] ?_) scNumbersOf.nd
    unfold numbersOf
    rw [if_pos h1]
    rfl
  · refine pr_asg 1 (d1 := .list (((Txt.split z " ").map numOf).map eOI)) (pd_ifT (pdt_cmp op_ne (neS_t h1) (pd_var 0) (pd_gstr g.NOTHING)) (pd_eq (pd_compT (as := Txt.split z " ") (enc := .str) 2 str_inj (fun n => eOI (numOf n)) (src_list (pd_split (pd_var 0) pd_str (by decide +kernel) (Nat.le_trans (show _ ≤ 1000 by omega) (by decide)))) scNumbersOf.nd (by rfl) (by have := split_count sep_sp z; omega) (fun a _ => imm_eOI _) fun s H C cl fp n hnn =>
      pd_call c hr (Nat.le_refl _) (pda1 (pd_var 2)) ⟨n, Nat.le_trans (split_piece sep_sp hnn) hz, rfl, rfl⟩) (by rw [List.map_map]; rfl))) (key _ ?_) scNumbersOf.nd
    unfold numbersOf
    rw [if_neg h1]
def domStateOf (ds : List PyData) (d : PyData) : Prop := ∃ z : Str, z.length ≤ 189 ∧ ds = [.str z] ∧ d = eOS (stateOf z)
theorem ok_stateOf (F : Fun K "state_of" "state_of" sStateOf f fd) (g : Gt mg) (c : Fk P w K mg base CX0 2 "numbers_of" (spD K domNumbersOf)) (c2 : Fk P w K mg base CX0 5 "is_state_row" (spD K domIsStateRow)) : FnOk P w K mg base CX0 6 f fd ["text"] (spD K domStateOf) := by
  refine fn_data F scStateOf (fun ds d ⟨z, _, h, _⟩ => by rw [h]; rfl) fun cdv A outer s H E ds d hr h => ?_
  obtain ⟨z, hz, rfl, rfl⟩ := h
  refine pr_asg 1 (d1 := .list ((Txt.split z " | ").map .str)) (pd_split (pd_var 0) (pd_gstr g.BAR) (by decide +kernel) (Nat.le_trans (show _ ≤ 1000 by omega) (by decide))) ?_ scStateOf.nd
  by_cases h2 : (Txt.split z " | ").length = 2
  · obtain ⟨a, b, e⟩ : ∃ a b, Txt.split z " | " = [a, b] := by
      cases e : Txt.split z " | " with
      | nil => rw [e] at h2; cases h2
      | cons a r =>
        cases r with
        | nil => rw [e] at h2; cases h2
        | cons b r =>
          cases r with
          | nil => exact ⟨a, b, rfl⟩
          | cons c r => rw [e] at h2; simp at h2
    have ha : a.length ≤ 189 := Nat.le_trans (split_piece sep_bar (by rw [e]; simp)) hz
    have hb : b.length ≤ 189 := Nat.le_trans (split_piece sep_bar (by rw [e]; simp)) hz
    have es : stateOf z = stMk (numbersOf a) (classesOf b) := by unfold stateOf; rw [e]
    rw [es, e]
    refine pr_ifF (pdt_cmp op_ne (neI_f rfl) (pd_lenL (ds := [.str a, .str b]) g (pd_var 1)) pd_int) ?_
    have hcl := classesOf_len b
    refine pr_asg 2 (d1 := .list ((classesOf b).map eON)) ?_ (pr_asg 3 (d1 := eRow (numbersOf a) (classesOf b)) (pd_tup (pda_cons (pd_call c hr (by decide) (pda1 (pd_ix ix_list (opd_ixL (i := 0) (ds := [.str a, .str b]) rfl) (pd_var 1) pd_int)) ⟨a, ha, rfl, rfl⟩) (pda1 (pd_tupL g (pd_var 2)))) (show 2 ≤ 100000 by decide)) ?_ scStateOf.nd) scStateOf.nd
    · by_cases hn : b = "none"
      · have e0 : classesOf b = [] := by unfold classesOf; rw [if_pos hn]
        rw [e0]
        exact pd_ifF (pdt_cmp op_ne (neS_f hn) (pd_ix ix_list (opd_ixL (i := 1) (ds := [.str a, .str b]) rfl) (pd_var 1) pd_int) (pd_gstr g.NONE)) pd_nil
      · have e0 : classesOf b = (Txt.split b "; ").map numbersOf := by unfold classesOf; rw [if_neg hn]
        rw [e0]
        refine pd_ifT (pdt_cmp op_ne (neS_t hn) (pd_ix ix_list (opd_ixL (i := 1) (ds := [.str a, .str b]) rfl) (pd_var 1) pd_int) (pd_gstr g.NONE)) (pd_eq (pd_compT (as := Txt.split b "; ") (enc := .str) 4 str_inj (fun n => eON (numbersOf n)) (src_list (pd_split (pd_ix ix_list (opd_ixL (i := 1) (ds := [.str a, .str b]) rfl) (pd_var 1) pd_int) (pd_gstr g.BETWEEN) (by decide +kernel) (Nat.le_trans (show _ ≤ 1000 by omega) (by decide)))) scStateOf.nd (by rfl) (by have := split_count sep_sc b; omega) (fun a _ => imm_eON _) fun s H C cl fp n hnn =>
          pd_call c hr (by decide) (pda1 (pd_var 4)) ⟨n, Nat.le_trans (split_piece sep_sc hnn) hb, rfl, rfl⟩) (by rw [List.map_map]; rfl))
    · have hd : ∀ v, (stMk (numbersOf a) (classesOf b)).isSome = v → domIsStateRow [eRow (numbersOf a) (classesOf b)] (.bool v) := fun v hv => ⟨_, _, numbersOf_nmO ha, classesOf_nmO hb, by omega, rfl, by rw [← hv]; rfl⟩
      cases q : stMk (numbersOf a) (classesOf b) with
      | none => exact pr_ret (pd_ifF (pdt_val (pd_call c2 hr (by decide) (pda1 (pd_var 3)) (hd false (by rw [q]; rfl)))) pd_none)
      | some st => exact pr_ret (pd_ifT (pdt_val (pd_call c2 hr (by decide) (pda1 (pd_var 3)) (hd true (by rw [q]; rfl)))) (pd_eq (pd_var 3) (eRow_st q)))
  · have es : stateOf z = none := by
      unfold stateOf
      split
      · rename_i a b e
        rw [e] at h2
        exact absurd rfl h2
      · rfl
    rw [es]
    refine pr_ifT (pdt_cmp op_ne (neI_t ?_) (pd_lenL g (pd_var 1)) pd_int) (pr_ret pd_none)
    rw [List.length_map]
    omega
def domTableRowOf (ds : List PyData) (d : PyData) : Prop := ∃ z : Str, z.length ≤ 189 ∧ ds = [.str z] ∧ d = eOR (rowOf z)
theorem ok_tableRowOf (F : Fun K "table_row_of" "table_row_of" sTableRowOf f fd) (g : Gt mg) (c : Fk P w K mg base CX0 2 "numbers_of" (spD K domNumbersOf)) (c2 : Fk P w K mg base CX0 6 "state_of" (spD K domStateOf)) : FnOk P w K mg base CX0 7 f fd ["line"] (spD K domTableRowOf) := by
  refine fn_data F scTableRowOf (fun ds d ⟨z, _, h, _⟩ => by rw [h]; rfl) fun cdv A outer s H E ds d hr h => ?_
  obtain ⟨z, hz, rfl, rfl⟩ := h
  refine pr_asg 1 (d1 := .list ((Txt.split z ": ").map .str)) (pd_split (pd_var 0) pd_str (by decide +kernel) (Nat.le_trans (show _ ≤ 1000 by omega) (by decide))) ?_ scTableRowOf.nd
  by_cases h2 : (Txt.split z ": ").length = 2
  · obtain ⟨a, b, e⟩ : ∃ a b, Txt.split z ": " = [a, b] := by
      cases e : Txt.split z ": " with
      | nil => rw [e] at h2; cases h2
      | cons a r =>
        cases r with
        | nil => rw [e] at h2; cases h2
        | cons b r =>
          cases r with
          | nil => exact ⟨a, b, rfl⟩
          | cons c r => rw [e] at h2; simp at h2
    have ha : a.length ≤ 189 := Nat.le_trans (split_piece sep_co (by rw [e]; simp)) hz
    have hb : b.length ≤ 189 := Nat.le_trans (split_piece sep_co (by rw [e]; simp)) hz
    have es : rowOf z = rowMk (numbersOf a) (stateOf b) := by unfold rowOf; rw [e]
    rw [es, e]
    refine pr_ifF (pdt_cmp op_ne (neI_f rfl) (pd_lenL (ds := [.str a, .str b]) g (pd_var 1)) pd_int) ?_
    refine pr_asg 2 (d1 := eON (numbersOf a)) (pd_call c hr (by decide) (pda1 (pd_ix ix_list (opd_ixL (i := 0) (ds := [.str a, .str b]) rfl) (pd_var 1) pd_int)) ⟨a, ha, rfl, rfl⟩) (pr_asg 3 (d1 := eOS (stateOf b)) (pd_call c2 hr (by decide) (pda1 (pd_ix ix_list (opd_ixL (i := 1) (ds := [.str a, .str b]) rfl) (pd_var 1) pd_int)) ⟨b, hb, rfl, rfl⟩) ?_ scTableRowOf.nd) scTableRowOf.nd
    cases q1 : numbersOf a with
    | none => exact pr_ret (pd_ifF (pdt_w (pdw_andF (pdt_cmp op_notN (opd_notN (d := eON none)) (pd_var 2) pd_none))) pd_none)
    | some key =>
      by_cases hk : key.length = 2
      · have hk2 : ((key.map PyData.int).length : Int) = 2 := by rw [List.length_map, hk]; rfl
        cases q2 : stateOf b with
        | none => exact pr_ret (pd_ifF (pdt_w (pdw_andT (pdt_cmp op_notN (opd_notN (d := eON (some key))) (pd_var 2) pd_none) (pdw_andT (pdt_cmp op_eq (eqI_t hk2) (pd_lenT (ds := key.map .int) g (pd_var 2)) pd_int) (pdw_and1 (pdt_cmp op_notN (opd_notN (d := eOS none)) (pd_var 3) pd_none))))) pd_none)
        | some st =>
          have e2 : rowMk (some key) (some st) = some (key, st) := if_pos hk
          rw [e2]
          exact pr_ret (pd_ifT (pdt_w (pdw_andT (pdt_cmp op_notN (opd_notN (d := eON (some key))) (pd_var 2) pd_none) (pdw_andT (pdt_cmp op_eq (eqI_t hk2) (pd_lenT (ds := key.map .int) g (pd_var 2)) pd_int) (pdw_and1 (pdt_cmp op_notN (opd_notN (d := eOS (some st))) (pd_var 3) pd_none))))) (pd_tup (pda_cons (pd_var 2) (pda1 (pd_var 3))) (show 2 ≤ 100000 by decide)))
      · have hk2 : ((key.map PyData.int).length : Int) ≠ 2 := by rw [List.length_map]; omega
        have e2 : rowMk (some key) (stateOf b) = none := by
          unfold rowMk
          cases stateOf b with
          | none => rfl
          | some st => exact if_neg hk
        rw [e2]
        exact pr_ret (pd_ifF (pdt_w (pdw_andT (pdt_cmp op_notN (opd_notN (d := eON (some key))) (pd_var 2) pd_none) (pdw_andF (pdt_cmp op_eq (eqI_f hk2) (pd_lenT (ds := key.map .int) g (pd_var 2)) pd_int)))) pd_none)
  · have es : rowOf z = none := by
      unfold rowOf
      split
      · rename_i a b e
        rw [e] at h2
        exact absurd rfl h2
      · rfl
    rw [es]
    refine pr_ifT (pdt_cmp op_ne (neI_t ?_) (pd_lenL g (pd_var 1)) pd_int) (pr_ret pd_none)
    rw [List.length_map]
    omega
end
end K7


set_option Elab.async false
set_option linter.all false
set_option maxRecDepth 100000
/-! write_numbers, write_state, the law's line, state line, rising. -/
namespace K7
open PySem PySem.Spec PyProof.Rows L2

abbrev sLawLine : Stmt := top 40
abbrev sLawStateLine : Stmt := top 41
abbrev sLawIsRising : Stmt := top 43
theorem scLawLine : FnScope ["_law_numbers", "_law_number"] ["_law_numbers"] (defScope sLawLine) := ⟨rfl, rfl, rfl, by decide +kernel, rfl, by decide +kernel, by decide +kernel⟩
theorem scLawStateLine : FnScope ["_law_state", "_law_classes", "_law_one"] ["_law_state"] (defScope sLawStateLine) := ⟨rfl, rfl, rfl, by decide +kernel, rfl, by decide +kernel, by decide +kernel⟩
theorem scLawIsRising : FnScope ["_law_row"] ["_law_row"] (defScope sLawIsRising) := ⟨rfl, rfl, rfl, by decide +kernel, rfl, by decide +kernel, by decide +kernel⟩
theorem few_nmO {ns : List Int} (h : Few ns) : NmO (some ns) := fun ms e => by
  have e := Option.some.inj e
  subst e
  exact ⟨h.nm, Nat.le_trans h.len (by decide)⟩
theorem stOk_mk {st : St2} (h : StOk st) : stMk (some st.1) (st.2.map some) = some st := by
  unfold stMk
  rw [seqO_some]
  simp only [h.r1, h.r2, h.r3, Bool.and_self, if_true]
section
variable {P : Program} {w : World} {K : PySem.W.Frag} {mg : Str → Option Value} {base : Heap} {f : Addr} {fd : FuncData}
def domWriteNumbers (ds : List PyData) (d : PyData) : Prop := ∃ ns, Few ns ∧ ds = [eNs ns] ∧ d = .str (lineOf ns)
theorem ok_writeNumbers (F : Fun K "write_numbers" "write_numbers" sWriteNumbers f fd) (c : Fk P w K mg base CX0 3 "are_numbers" (spD K domAreNumbers)) (c2 : Fk P w K mg base CX0 1 "numbers_text" (spD K domNumbersText)) : FnOk P w K mg base CX0 4 f fd ["numbers"] (spD K domWriteNumbers) := by
  refine fn_data F scWriteNumbers (fun ds d ⟨z, _, h, _⟩ => by rw [h]; rfl) fun cdv A outer s H E ds d hr h => ?_
  obtain ⟨ns, hn, rfl, rfl⟩ := h
  exact pr_ifF (pdt_not (v := true) (pdt_val (pd_call c hr (by decide) (pda1 (pd_var 0)) ⟨some ns, few_nmO hn, rfl, rfl⟩))) (pr_ret (pd_call c2 hr (by decide) (pda1 (pd_var 0)) ⟨ns, hn.nm, Nat.le_trans hn.len (by decide), rfl, rfl⟩))
def domWriteState (ds : List PyData) (d : PyData) : Prop := ∃ st, FewS st ∧ StOk st ∧ ds = [eSt st] ∧ d = .str (stLine st)
theorem ok_writeState (F : Fun K "write_state" "write_state" sWriteState f fd) (c : Fk P w K mg base CX0 5 "is_state_row" (spD K domIsStateRow)) (c2 : Fk P w K mg base CX0 2 "state_text" (spD K domStateText)) : FnOk P w K mg base CX0 6 f fd ["state"] (spD K domWriteState) := by
  refine fn_data F scWriteState (fun ds d ⟨z, _, _, h, _⟩ => by rw [h]; rfl) fun cdv A outer s H E ds d hr h => ?_
  obtain ⟨st, hn, ho, rfl, rfl⟩ := h
  have hm := stOk_mk ho
  have hl := hn.len
  refine pr_ifF (pdt_not (v := true) (pdt_val (pd_call c hr (by decide) (pda1 (pd_var 0)) ⟨some st.1, st.2.map some, few_nmO hn.n1, fun o ho => ?_, by rw [List.length_map]; omega, by rw [eRow_st hm], by rw [rowB, hm]; rfl⟩))) (pr_ret (pd_call c2 hr (by decide) (pda1 (pd_var 0)) ⟨st, hn, rfl, rfl⟩))
  obtain ⟨c, hc, rfl⟩ := List.mem_map.mp ho
  exact few_nmO (hn.n2 c hc)
theorem ok_lawLine (F : Fun K "_law_line" "_law_line" sLawLine f fd) (g : Gt mg) : FnOk P w K mg base CX0 1 f fd ["_law_numbers"] (spD K domNumbersText) := by
  refine fn_data F scLawLine (fun ds d ⟨z, _, _, h, _⟩ => by rw [h]; rfl) fun cdv A outer s H E ds d hr h => ?_
  obtain ⟨ns, hn, hl, rfl, rfl⟩ := h
  have hu := hr.units
  rcases isEmpty_cases ns with ⟨e, e2⟩ | ⟨e, e2⟩
  · have el : lineOf ns = "-" := by unfold lineOf; rw [if_pos e]
    rw [el]
    exact pr_ret (pd_ifF (pdt_cmp (op_neD hu) (by rw [← e2]; exact ne_ints) (pd_var 0) pd_unit) pd_str)
  · have el : lineOf ns = Txt.join " " (ns.map sN) := by unfold lineOf; rw [if_neg e]
    have hs := sum_sN hn
    rw [el]
    refine pr_ret (pd_ifT (pdt_cmp (op_neD hu) (by rw [← e2]; exact ne_ints) (pd_var 0) pd_unit) (pd_join pd_str (pd_eq (pd_compT (as := ns) (enc := .int) 1 int_inj (fun n => .str (sN n)) (src_tup (pd_var 0)) scLawLine.nd (by rfl) (by omega) (fun a _ => by simp [imm]) fun s H C cl fp n hnn =>
      pd_strI g (pd_var 1) (nm_log (hn n hnn))) (by rw [List.map_map]; rfl)) ?_))
    rw [List.length_map]
    have : (" " : Str).length = 1 := by decide +kernel
    rw [this]
    omega
theorem ok_lawStateLine (F : Fun K "_law_state_line" "_law_state_line" sLawStateLine f fd) (g : Gt mg) (c : Fk P w K mg base CX0 1 "_law_line" (spD K domNumbersText)) : FnOk P w K mg base CX0 2 f fd ["_law_state"] (spD K domStateText) := by
  refine fn_data F scLawStateLine (fun ds d ⟨z, _, h, _⟩ => by rw [h]; rfl) fun cdv A outer s H E ds d hr h => ?_
  obtain ⟨⟨a, cs⟩, hst, rfl, rfl⟩ := h
  have hu := hr.units
  have h1 := hst.n1
  have h2 := hst.n2
  have h3 : cs.length ≤ 10 := hst.len
  have b1 := few_line h1
  have b2 := few_cls h2 h3
  have b3 : (" | " : Str).length = 3 := by decide +kernel
  have hs := sum_few h2
  have b4 : ("; " : Str).length = 2 := by decide +kernel
  refine pr_asg 1 (d1 := .str (clsOf cs)) ?_ (pr_ret (pd_bin op_add_str (opd_addS (b := clsOf cs) ?_) (pd_bin op_add_str (opd_addS (a := lineOf a) (b := " | ") ?_) (pd_call c hr (Nat.le_refl _) (pda1 (pd_ix ix_tup (opd_ixT (i := 0) (ds := [eNs a, .tuple (cs.map eNs)]) rfl) (pd_var 0) pd_int)) ⟨a, h1.nm, Nat.le_trans h1.len (by decide), rfl, rfl⟩) pd_str) (pd_var 1))) scLawStateLine.nd
  · rcases isEmpty_cases cs with ⟨e, e2⟩ | ⟨e, e2⟩
    · have el : clsOf cs = "none" := by unfold clsOf; rw [if_pos e]
      rw [el]
      exact pd_ifF (pdt_cmp (op_neD hu) (by rw [← e2]; exact ne_tups) (pd_ix ix_tup (opd_ixT (i := 1) (ds := [eNs a, .tuple (cs.map eNs)]) rfl) (pd_var 0) pd_int) pd_unit) pd_str
    · have el : clsOf cs = Txt.join "; " (cs.map lineOf) := by unfold clsOf; rw [if_neg e]
      rw [el]
      exact pd_ifT (pdt_cmp (op_neD hu) (by rw [← e2]; exact ne_tups) (pd_ix ix_tup (opd_ixT (i := 1) (ds := [eNs a, .tuple (cs.map eNs)]) rfl) (pd_var 0) pd_int) pd_unit) (pd_join pd_str (pd_eq (pd_compT (as := cs) (enc := eNs) 2 eNs_inj (fun n => .str (lineOf n)) (src_tup (pd_ix ix_tup (opd_ixT (i := 1) (ds := [eNs a, .tuple (cs.map eNs)]) rfl) (pd_var 0) pd_int)) scLawStateLine.nd (by rfl) (by omega) (fun a _ => by simp [imm]) fun s H C cl fp n hnn =>
        pd_call c hr (Nat.le_refl _) (pda1 (pd_var 2)) ⟨n, (h2 n hnn).nm, Nat.le_trans (h2 n hnn).len (by decide), rfl, rfl⟩) (by rw [List.map_map]; rfl)) (by rw [List.length_map, b4]; simp only [St2] at *; omega))
  · have : (lineOf a ++ " | ").length = (lineOf a).length + (" | " : Str).length := by rw [TL.len_tl, TL.tl_append, List.length_append, ← TL.len_tl, ← TL.len_tl]
    rw [this]
    exact Nat.le_trans (show _ ≤ 100000 by simp only [St2] at *; omega) (by decide)
  · exact Nat.le_trans (show _ ≤ 100000 by simp only [St2] at *; omega) (by decide)
theorem eqL_ints {ns ms : List Int} : OpD K (rEqD K) (.list (ns.map .int)) (.list (ms.map .int)) (.bool (decide (ns = ms))) := by
  have h := opd_eqD (K := K) (d := .list (ns.map .int)) (e := .list (ms.map .int)) (by rw [PyData.hasDict]; exact no_dict_ints ns) (by rw [PyData.hasDict]; exact no_dict_ints ms) (shp_lst (k := 0) canL_int (fun n => by simp [PyData.depth]) (by decide) ns) (shp_lst (k := 0) canL_int (fun n => by simp [PyData.depth]) (by decide) ms)
  have e : PyData.eqv (.list (ns.map .int)) (.list (ms.map .int)) = decide (ns = ms) := by
    rw [PyData.eqv]
    exact eqv_ints ns ms
  rw [e] at h
  exact h
theorem ok_lawIsRising (F : Fun K "_law_is_rising" "_law_is_rising" sLawIsRising f fd) (g : Gt mg) : FnOk P w K mg base CX0 1 f fd ["_law_row"] (spD K domIsRising) := by
  refine fn_data F scLawIsRising (fun ds d ⟨z, _, h, _⟩ => by rw [h]; rfl) fun cdv A outer s H E ds d hr h => ?_
  obtain ⟨o, ho, rfl, rfl⟩ := h
  have hu := hr.units
  cases o with
  | none => exact pr_ret (pd_andF (pd_cmp op_notN (opd_notN (d := eON none)) (pd_var 0) pd_none))
  | some ns =>
    obtain ⟨h1, h2⟩ := ho ns rfl
    refine pr_ret (pd_andT (pd_cmp op_notN (opd_notN (d := eON (some ns))) (pd_var 0) pd_none) (pd_one (pd_eq (pd_cmp (op_eqD hu) eqL_ints (pd_lstT g (pd_var 0)) (pd_soSetI g.sorted g.set (pd_var 0) (by omega))) ?_)))
    exact congrArg PyData.bool (eq_usort sto_int ns)
end
end K7


set_option Elab.async false
set_option linter.all false
set_option maxRecDepth 100000
/-! Steps that change the heap; _law_due_numbers. -/
namespace K7
open PySem PySem.Spec PyProof.Rows L2

section
variable {K : PySem.W.Frag} {σ : L2.St} {H : Hp} {l : Sk}
theorem Sl.know (s : Sl K σ H l) (i : Nat) {x : V} {d : PyData} (h : σ[i]? = some (some x)) (hd : Da K H x d) : Sl K σ H (l.set i (some d)) := by
  refine ⟨by rw [List.length_set, s.len], fun j e q => ?_⟩
  by_cases hj : i = j
  · subst hj
    by_cases hl : i < l.length
    · rw [List.getElem?_set_self hl] at q
      have q' := Option.some.inj (Option.some.inj q)
      subst q'
      exact ⟨x, h, hd⟩
    · rw [List.getElem?_eq_none (by rw [List.length_set]; omega)] at q
      cases q
  · rw [List.getElem?_set_ne hj] at q
    exact s.has j e q
def immS (l : Sk) : Bool := l.all fun o => match o with
  | some d => imm d
  | none => true
theorem Sl.write (s : Sl K σ H l) (hi : immS l = true) {p : Addr} {u o : HO} (hp : H p = some u) (hu : Mut (some u)) : Sl K σ (upd H p o) l := ⟨s.len, fun i d q => by
  obtain ⟨x, e1, e2⟩ := s.has i d q
  have := List.all_eq_true.mp hi (some d) (List.mem_of_getElem? q)
  exact ⟨x, e1, Da.write hp hu this e2⟩⟩
end
section
variable {X : Cx} {l : Sk} {e c : Expr} {pos : Pos} {d : PyData} {t : TS} {rest body orelse : List Stmt}
def tOn (K : PySem.W.Frag) (l : Sk) (t : TS) : TS := fun D σ H => Sl K σ H l ∧ ∀ H', Same H H' → t D σ H'
theorem pn_ifF (h : PDT X l c false) (r : PSs X rest t) : PSs X (.If c body [] pos :: rest) (tOn X.K l t) :=
  pssImp (pss_cons (ps_if h (pssBot (ss := body)) pss_nil) r) fun D σ H ⟨s, k⟩ => ⟨s, fun H1 e1 => by
    refine L2.iteF ?_
    exact k H1 e1⟩
theorem pn_ifT (h : PDT X l c true) (r : PSs X body t) : PSs X (.If c body orelse pos :: rest) (fun D σ H => Sl X.K σ H l ∧ ∀ H', Same H H' → tSeq t tsBot D σ H') :=
  pssImp (pss_cons (ps_if h r (pssBot (ss := orelse))) (pssBot (ss := rest))) fun D σ H ⟨s, k⟩ => ⟨s, fun H1 e1 => by
    refine L2.iteT ?_
    exact k H1 e1⟩
/-- xs.append(e), xs in slot i -/
def tApp (K : PySem.W.Frag) (l : Sk) (i : Nat) (d : PyData) : TS := fun D σ H => Sl K σ H l ∧ ∃ L vs, σ[i]? = some (some (.ref L)) ∧ H L = some (.lst vs) ∧ vs.length < sizeLine ∧ ∀ v H', Same H H' → Da K H' v d → D.nx σ (upd H' L (.lst (vs ++ [v])))
theorem ps_app (i : Nat) {x : Str} {px apos cpos : Pos} (h : PD X l e d) (hN : X.N[i]? = some x := by rfl) (hv : Vis X.env.scope x := by first | exact Or.inl rfl | exact Or.inr (Or.inl rfl) | exact Or.inr (Or.inr rfl))
    (hd : (x == ("__debug__" : Str)) = false := by decide) (hcd : (x == ("__classdict__" : Str)) = false := by decide) (hbase : attributeBase (.Name x px) "append" X.env (eval (.Name x px) X.env) = eval (.Name x px) X.env := by rfl)
    (hfew : ((backTo cpos (starEach [e] X.env)).all (fun x => !x.1) && (backToKw cpos (keywordEach [] X.env)).all (fun x => x.1.isSome) && decide ([e].length + ([] : List Keyword).length + (if ([] : List Keyword).isEmpty then 0 else 1) < 30)) = true := by rfl)
    (hline : (apos.endLine == cpos.line) = true := by rfl) (hs : starEach [e] X.env = (false, eval e X.env) :: starEach [] X.env := by rfl) (hplain : (backTo cpos (starEach [] X.env)).any (·.1) = false := by rfl)
    (hsw : swapsWith (.Call (.Attribute (.Name x px) "append" apos) [e] [] cpos) none pos.line X.env = pure false := by rfl) : PS X (.Expr (.Call (.Attribute (.Name x px) "append" apos) [e] [] cpos) pos) (tApp X.K l i d) :=
  psImp (ps_expr (pe_bm PySem.F.plainAttrs_list PySem.F.slot_list_append PySem.F.type_list_append mt_append (pe_var (i := i) hN hv hd hcd) (pda1 h hs) hbase hfew hline hs hplain) (hs := hsw)) fun D σ H ⟨s, L, vs, h1, h2, h3, k⟩ => by
    refine ⟨.ref L, h1, .inl ⟨rfl, vs, SqL.of h2⟩, s, fun xs H1 e1 q1 => ?_⟩
    cases q1 with
    | cons q1 q2 =>
      cases q2
      exact ⟨L, vs, _, rfl, rfl, e1 _ _ h2, h3, k _ H1 e1 q1⟩
/-- the new list of a split -/
def tSpl (K : PySem.W.Frag) (l : Sk) (ys : List Str) : TE := fun σ H Q => Sl K σ H l ∧ ∀ H1 p, Same H H1 → H1 p = none → Q (.ref p) (upd H1 p (.lst (ys.map V.str)))
theorem pe_splN {o : Expr} {z y : Str} {apos : Pos} (ho : PD X l o (.str z)) (he : PD X l e (.str y)) (hy : (y.length == 0) = false) (hz : z.length + 2 ≤ sizeLine) (hs : starEach [e] X.env = [(false, eval e X.env)] := by rfl) (hbase : attributeBase o "split" X.env (eval o X.env) = eval o X.env := by rfl)
    (hline : (apos.endLine == pos.line) = true := by rfl) : PE X (.Call (.Attribute o "split" apos) [e] [] pos) (tSpl X.K l (Txt.split z y)) :=
  peImp (pe_split ho he hs hbase hline) fun σ H Q ⟨s, k⟩ => ⟨s, fun x H1 e1 q1 => by
    cases q1
    refine ⟨⟨z, rfl⟩, s.mono e1, fun y' H2 e2 q2 => ?_⟩
    cases q2
    exact ⟨z, y, rfl, rfl, hy, hz, fun p hp => k H2 p (e1.trans e2) hp⟩⟩
/-- name = e, any reading -/
def tDn (K : PySem.W.Frag) (l : Sk) (d : PyData) (i : Nat) (t : TS) : TS := fun D σ H => Sl K σ H l ∧ ∀ x H', Same H H' → Da K H' x d → t D (σ.set i (some x)) H'
theorem pn_asg (i : Nat) {x : Str} {p : Pos} (h : PD X l e d) (r : PSs X rest t) (nd : X.N.Nodup) (hi : X.N[i]? = some x := by rfl) (hx : Loc X.env.scope x := by first | exact .inl rfl | exact .inr rfl)
    (hf : X.fn x = true ∨ X.env.scope.names.lookup x = some .local := by first | exact .inl rfl | exact .inr rfl)
    (hs : swapsWith e (some (.Name x p)) pos.line X.env = pure false := by rfl) : PSs X (.Assign [.Name x p] e pos :: rest) (tDn X.K l d i t) :=
  pssImp (pss_cons (ps_set (i := i) nd hi hx h (hf := hf) (hs := hs)) r) fun D σ H ⟨s, k⟩ => ⟨s, fun y H1 e1 q1 => k y H1 e1 q1⟩
/-- name = [], the new list's place -/
def tNewL (i : Nat) (t : TS) : TS := fun D σ H => ∀ L, H L = none → t D (σ.set i (some (.ref L))) (upd H L (.lst []))
theorem pn_nil (i : Nat) {x : Str} {p lp : Pos} (r : PSs X rest t) (nd : X.N.Nodup) (hi : X.N[i]? = some x := by rfl) (hx : Loc X.env.scope x := by first | exact .inl rfl | exact .inr rfl)
    (hf : X.fn x = true ∨ X.env.scope.names.lookup x = some .local := by first | exact .inl rfl | exact .inr rfl)
    (hs : swapsWith (.List [] lp) (some (.Name x p)) pos.line X.env = pure false := by rfl) : PSs X (.Assign [.Name x p] (.List [] lp) pos :: rest) (tNewL i t) :=
  pssImp (pss_cons (ps_set (i := i) nd hi hx (pe_lst pa_nil) (hf := hf) (hs := hs)) r) fun D σ H k => ⟨Nat.zero_le _, fun L hL => k L hL⟩
end

/-! ### a list against [] -/
theorem op_neE {X : Cx} (hu : X.A.units < cLine) : OpR X (compareOp .NotEq) (fun x y H Q => ∃ a b xs, x = .ref a ∧ y = .ref b ∧ SqL X.K H a xs ∧ SqL X.K H b [] ∧ Q (.bl (!xs.isEmpty)) H) := by
  intro pins s σ H x y v u Q I rx ry h
  obtain ⟨a, b, xs, rfl, rfl, ha, hb, q⟩ := h
  cases rx
  cases ry
  obtain ⟨its, rv, pl, hz⟩ := I.list ha
  obtain ⟨its2, rv2, pl2, _⟩ := I.list hb
  cases rv2
  cases xs with
  | nil =>
    cases rv
    exact SeqAt.RcNeAt.lists (e := fun _ => true) pl.isList pl2.isList rfl hu (fun j h1 h2 => absurd h1 (Nat.not_lt_zero _)) X.prog X.w _ _ ⟨.bl false, H, I, rfl, q⟩
  | cons x xs =>
    cases rv with
    | cons r1 r2 =>
      exact SeqAt.RcNeAt.lists_lengths pl.isList pl2.isList (by simp) hu X.prog X.w _ _ ⟨.bl true, H, I, rfl, q⟩
theorem opd_neE {K : PySem.W.Frag} {ds : List PyData} : OpD K (fun x y H Q => ∃ a b xs, x = .ref a ∧ y = .ref b ∧ SqL K H a xs ∧ SqL K H b [] ∧ Q (.bl (!xs.isEmpty)) H) (.list ds) (.list []) (.bool (!ds.isEmpty)) := fun x y H Q hx hy k => by
  cases hx with
  | lst h1 h2 =>
    cases hy with
    | lst g1 g2 =>
      cases g2
      refine ⟨_, _, _, rfl, rfl, h1, g1, ?_⟩
      have e := k _ H (Same.refl H) (.bl _)
      cases h2 <;> exact e

theorem neE_b {K : PySem.W.Frag} {ds : List PyData} {v : Bool} (h : (!ds.isEmpty) = v) : OpD K (fun x y H Q => ∃ a b xs, x = .ref a ∧ y = .ref b ∧ SqL K H a xs ∧ SqL K H b [] ∧ Q (.bl (!xs.isEmpty)) H) (.list ds) (.list []) (.bool v) := h ▸ opd_neE

theorem seqO_snoc {α : Type} {os : List (Option α)} {as : List α} {a : α} (h : seqO os = some as) : seqO (os ++ [some a]) = some (as ++ [a]) := by
  rw [seqO_inv h, show as.map some ++ [some a] = (as ++ [a]).map some by rw [List.map_append]; rfl, seqO_some]
theorem seqO_bad {α : Type} {os : List (Option α)} (h : none ∈ os) : seqO os = none := by
  have := any_none os
  have h2 : os.any Option.isNone = true := List.any_eq_true.mpr ⟨none, h, rfl⟩
  rw [h2] at this
  exact Option.isNone_iff_eq_none.mp this.symm
theorem take_snoc {α : Type} {l : List α} {i : Nat} {x : α} (h : l[i]? = some x) : l.take (i + 1) = l.take i ++ [x] := by
  rw [List.take_add_one, h]
  rfl
/-! ### _law_due_numbers -/
abbrev sLawDueNumbers : Stmt := top 42
abbrev nDN : List Str := ["_law_text", "_law_found", "_law_word", "_law_sign"]
theorem scLawDueNumbers : FnScope nDN ["_law_text"] (defScope sLawDueNumbers) := ⟨rfl, rfl, rfl, by decide +kernel, rfl, by decide +kernel, by decide +kernel⟩
def badSign (c : Nat) : Bool := !dig c
theorem ndig_in (c : Nat) : (!decide (c ∈ (Str.cps "0123456789").toList)) = badSign c := by rw [dig_in]; rfl
theorem ndig_op {K : PySem.W.Frag} (c : Nat) : OpD K (fun x y H Q => ∃ (c : Nat) (z : Str), x = .str ⟨#[c]⟩ ∧ y = .str z ∧ Q (.bl (!decide (c ∈ z.cps.toList))) H) (.str ⟨#[c]⟩) (.str "0123456789") (.bool (badSign c)) := by
  rw [← ndig_in]
  exact opd_niS
theorem digs_bad (l : List Nat) : (l.filter badSign).isEmpty = l.all dig := by
  induction l with
  | nil => rfl
  | cons c l ih =>
    rw [List.filter_cons, List.all_cons]
    unfold badSign at ih ⊢
    cases dig c
    · rfl
    · exact ih
section
variable {P : Program} {w : World} {K : PySem.W.Frag} {mg : Str → Option Value} {base : Heap} {f : Addr} {fd : FuncData}
def forBody : Stmt → List Stmt
  | .For _ _ b _ _ => b
  | _ => []
def tbDN (K : PySem.W.Frag) (z : Str) : TS := fun D σ H1 => ∃ word ∈ Txt.split z " ", Sl K σ H1 [some (.str z), none, some (.str word), none] ∧
        (∀ n, numOf word = some n → ∃ L vs, σ[1]? = some (some (.ref L)) ∧ H1 L = some (.lst vs) ∧ vs.length < sizeLine ∧ ∀ H', Same H1 H' → D.nx σ (upd H' L (.lst (vs ++ [.int n])))) ∧
        (numOf word = none → ∀ x H', Same H1 H' → Da K H' x .none → D.rt x H')
theorem ok_lawDueNumbers (F : Fun K "_law_due_numbers" "_law_due_numbers" sLawDueNumbers f fd) (g : Gt mg) : FnOk P w K mg base CX0 1 f fd ["_law_text"] (spD K domNumbersOf) := by
  refine F.ok scLawDueNumbers (fun vs H Q E h => ?_) (fun cdv A outer s H vs Q E hr h => ?_)
  · obtain ⟨ds, d, h1, ⟨z, _, h2, _⟩, _⟩ := h
    rw [h1.length, h2]
    rfl
  obtain ⟨ds, d, h1, ⟨z, hz, rfl, rfl⟩, hq⟩ := h
  have s0 : Sl K (L2.start nDN vs) H [some (.str z), none, none, none] := sl_start h1 _ rfl
  have hu := hr.units
  have hzl : z.length + 2 ≤ sizeLine := Nat.le_trans (show _ ≤ 1000 by omega) (by decide)
  by_cases hd : z = "-"
  · have e0 : numbersOf z = some [] := by unfold numbersOf; rw [if_pos hd]
    rw [e0] at hq
    exact ⟨_, pr_ifT (d := eNs []) (pdt_cmp op_eq (eqS_t hd) (pd_var 0) pd_str) (pr_ret pd_unit), s0, hq⟩
  have e0 : numbersOf z = seqO ((Txt.split z " ").map numOf) := by unfold numbersOf; rw [if_neg hd]
  rw [e0] at hq
  -- what one turn does
  have turn : ∀ word ∈ Txt.split z " ", ∃ tb : TS, PSs (cxOf CX0 P w K mg base nDN "_law_due_numbers" (defScope sLawDueNumbers) f cdv A outer s H E).nox (forBody ((defBody sLawDueNumbers).getD 2 (.Pass ⟨0, 0, 0, 0⟩))) tb ∧
      (∀ D σ H1, Sl K σ H1 [some (.str z), none, some (.str word), none] →
        (∀ n, numOf word = some n → ∃ L vs, σ[1]? = some (some (.ref L)) ∧ H1 L = some (.lst vs) ∧ vs.length < sizeLine ∧ ∀ H', Same H1 H' → D.nx σ (upd H' L (.lst (vs ++ [.int n])))) →
        (numOf word = none → ∀ x H', Same H1 H' → Da K H' x .none → D.rt x H') → tb D σ H1) := by
    intro word hw
    have hwl : word.length ≤ 189 := Nat.le_trans (split_piece sep_sp hw) hz
    have hlen : word.length ≤ sizeLine := Nat.le_trans hwl (by decide)
    have htl := TL.len_tl word
    by_cases h1 : (1 : Int) ≤ (word.length : Nat)
    · have hne : word ≠ "" := fun q => len0.mp q (by omega)
      by_cases h2 : ((word.length : Nat) : Int) ≤ 60
      · cases h3 : (TL.tl word).all dig with
        | false =>
          have hn : numOf word = none := numOf_bad (by unfold okL; rw [h3, Bool.and_false])
          have h4 : (((TL.tl word).filter badSign).map fun c => PyData.str ⟨#[c]⟩).isEmpty = false := by rw [List.isEmpty_map, digs_bad, h3]
          refine ⟨_, pr_ifT (d := .none) (l := [some (.str z), none, some (.str word), none]) (pdt_w (pdw_orF (pdt_cmp op_eq (eqS_f hne) (pd_var 2) pd_str) (pdw_orF (pdt_cmp op_gt (gt_f (by omega)) (pd_lenS g (pd_var 2) hlen) pd_int) (pdw_or1 (pdt_cmp (v := true) (op_neE hr.units0) (neE_b (by rw [h4]; rfl)) (pd_compIfT (as := TL.tl word) (enc := fun c => .str ⟨#[c]⟩) 3 sign_inj badSign (fun c => .str ⟨#[c]⟩) (src_str (pd_var 2)) scLawDueNumbers.nd (by rfl) (by omega) (fun a _ _ => by simp [imm]) (fun s H C cl fp c hc => pdt_cmp op_notIn_sign (ndig_op c) (pd_var 3) pd_str) (fun s H C cl fp c hc _ => pd_var 3)) pd_nil))))) (pr_ret pd_none), fun D σ H1 sl _ k => ⟨sl, k hn⟩⟩
        | true =>
          have h4 : (((TL.tl word).filter badSign).map fun c => PyData.str ⟨#[c]⟩).isEmpty = true := by rw [List.isEmpty_map, digs_bad, h3]
          have hok : okL (TL.tl word) = true := by
            unfold okL
            rw [h3, Bool.and_true, Bool.and_eq_true, decide_eq_true_eq, decide_eq_true_eq]
            omega
          obtain ⟨c0, r0, ec, hat⟩ := head_at (z := word) (by omega)
          by_cases hc0 : c0 = 48
          · by_cases hw0 : word = "0"
            · obtain ⟨n, hn, hi⟩ := numOf_int hok (by unfold ledL; rw [decide_eq_true ((word0 word).mp hw0), Bool.true_or])
              refine ⟨_, pn_ifF (l := [some (.str z), none, some (.str word), none]) (pdt_w (pdw_orF (pdt_cmp op_eq (eqS_f hne) (pd_var 2) pd_str) (pdw_orF (pdt_cmp op_gt (gt_f (by omega)) (pd_lenS g (pd_var 2) hlen) pd_int) (pdw_or1 (pdt_cmp (v := false) (op_neE hr.units0) (neE_b (by rw [h4]; rfl)) (pd_compIfT (as := TL.tl word) (enc := fun c => .str ⟨#[c]⟩) 3 sign_inj badSign (fun c => .str ⟨#[c]⟩) (src_str (pd_var 2)) scLawDueNumbers.nd (by rfl) (by omega) (fun a _ _ => by simp [imm]) (fun s H C cl fp c hc => pdt_cmp op_notIn_sign (ndig_op c) (pd_var 3) pd_str) (fun s H C cl fp c hc _ => pd_var 3)) pd_nil)))))
                (pn_ifF (l := [some (.str z), none, some (.str word), none]) (pdt_w (pdw_andT (pdt_cmp op_eq (eqS_t ((sign0 c0).mpr hc0)) (pd_ix ix_str (opd_ixS hlen hat) (pd_var 2) pd_int) pd_str) (pdw_and1 (pdt_cmp op_ne (neS_f hw0) (pd_var 2) pd_str)))) (pss_one (ps_app 1 (l := [some (.str z), none, some (.str word), none]) (pd_intS g (pd_var 2) hi (by omega))))), fun D σ H1 sl k _ => ?_⟩
              obtain ⟨L, vs', e1, e2, e3, e4⟩ := k n hn
              refine ⟨sl, fun H2 q2 => ⟨sl.mono q2, fun H3 q3 => ⟨(sl.mono q2).mono q3, L, vs', e1, q3 _ _ (q2 _ _ e2), e3, fun v H4 q4 hv => ?_⟩⟩⟩
              cases hv
              exact e4 H4 ((q2.trans q3).trans q4)
            · have hn : numOf word = none := numOf_led (by
                unfold ledL
                rw [decide_eq_false (fun q => hw0 ((word0 word).mpr q)), ec, hc0]
                rfl)
              refine ⟨_, pn_ifF (l := [some (.str z), none, some (.str word), none]) (pdt_w (pdw_orF (pdt_cmp op_eq (eqS_f hne) (pd_var 2) pd_str) (pdw_orF (pdt_cmp op_gt (gt_f (by omega)) (pd_lenS g (pd_var 2) hlen) pd_int) (pdw_or1 (pdt_cmp (v := false) (op_neE hr.units0) (neE_b (by rw [h4]; rfl)) (pd_compIfT (as := TL.tl word) (enc := fun c => .str ⟨#[c]⟩) 3 sign_inj badSign (fun c => .str ⟨#[c]⟩) (src_str (pd_var 2)) scLawDueNumbers.nd (by rfl) (by omega) (fun a _ _ => by simp [imm]) (fun s H C cl fp c hc => pdt_cmp op_notIn_sign (ndig_op c) (pd_var 3) pd_str) (fun s H C cl fp c hc _ => pd_var 3)) pd_nil)))))
                (pr_ifT (d := .none) (l := [some (.str z), none, some (.str word), none]) (pdt_w (pdw_andT (pdt_cmp op_eq (eqS_t ((sign0 c0).mpr hc0)) (pd_ix ix_str (opd_ixS hlen hat) (pd_var 2) pd_int) pd_str) (pdw_and1 (pdt_cmp op_ne (neS_t hw0) (pd_var 2) pd_str)))) (pr_ret pd_none)), fun D σ H1 sl _ k => ⟨sl, fun H2 q2 => ⟨sl.mono q2, fun x H3 q3 hx => k hn x H3 (q2.trans q3) hx⟩⟩⟩
          · obtain ⟨n, hn, hi⟩ := numOf_int hok (by
              unfold ledL
              rw [ec]
              simp [hc0])
            refine ⟨_, pn_ifF (l := [some (.str z), none, some (.str word), none]) (pdt_w (pdw_orF (pdt_cmp op_eq (eqS_f hne) (pd_var 2) pd_str) (pdw_orF (pdt_cmp op_gt (gt_f (by omega)) (pd_lenS g (pd_var 2) hlen) pd_int) (pdw_or1 (pdt_cmp (v := false) (op_neE hr.units0) (neE_b (by rw [h4]; rfl)) (pd_compIfT (as := TL.tl word) (enc := fun c => .str ⟨#[c]⟩) 3 sign_inj badSign (fun c => .str ⟨#[c]⟩) (src_str (pd_var 2)) scLawDueNumbers.nd (by rfl) (by omega) (fun a _ _ => by simp [imm]) (fun s H C cl fp c hc => pdt_cmp op_notIn_sign (ndig_op c) (pd_var 3) pd_str) (fun s H C cl fp c hc _ => pd_var 3)) pd_nil)))))
              (pn_ifF (l := [some (.str z), none, some (.str word), none]) (pdt_w (pdw_andF (pdt_cmp op_eq (eqS_f (fun q => hc0 ((sign0 c0).mp q))) (pd_ix ix_str (opd_ixS hlen hat) (pd_var 2) pd_int) pd_str))) (pss_one (ps_app 1 (l := [some (.str z), none, some (.str word), none]) (pd_intS g (pd_var 2) hi (by omega))))), fun D σ H1 sl k _ => ?_⟩
            obtain ⟨L, vs', e1, e2, e3, e4⟩ := k n hn
            refine ⟨sl, fun H2 q2 => ⟨sl.mono q2, fun H3 q3 => ⟨(sl.mono q2).mono q3, L, vs', e1, q3 _ _ (q2 _ _ e2), e3, fun v H4 q4 hv => ?_⟩⟩⟩
            cases hv
            exact e4 H4 ((q2.trans q3).trans q4)
      · have hn : numOf word = none := numOf_bad (by
          unfold okL
          rw [decide_eq_false (p := (TL.tl word).length ≤ 60) (by omega), Bool.and_false, Bool.false_and])
        refine ⟨_, pr_ifT (d := .none) (l := [some (.str z), none, some (.str word), none]) (pdt_w (pdw_orF (pdt_cmp op_eq (eqS_f hne) (pd_var 2) pd_str) (pdw_orT (pdt_cmp op_gt (gt_t (by omega)) (pd_lenS g (pd_var 2) hlen) pd_int)))) (pr_ret pd_none), fun D σ H1 sl _ k => ⟨sl, k hn⟩⟩
    · have hn : numOf word = none := numOf_bad (by
        unfold okL
        rw [decide_eq_false (p := 1 ≤ (TL.tl word).length) (by omega), Bool.false_and, Bool.false_and])
      have he : word = "" := len0.mpr (by omega)
      exact ⟨_, pr_ifT (d := .none) (l := [some (.str z), none, some (.str word), none]) (pdt_w (pdw_orT (pdt_cmp op_eq (eqS_t he) (pd_var 2) pd_str))) (pr_ret pd_none), fun D σ H1 sl _ k => ⟨sl, k hn⟩⟩
  have body : PSs (cxOf CX0 P w K mg base nDN "_law_due_numbers" (defScope sLawDueNumbers) f cdv A outer s H E).nox (forBody ((defBody sLawDueNumbers).getD 2 (.Pass ⟨0, 0, 0, 0⟩)))
      (tbDN K z) := ⟨fun pins s' σ H' D I ⟨word, hw, h1, h2, h3⟩ => by
    obtain ⟨tb, hb, hk⟩ := turn word hw
    exact hb.run pins s' σ H' D I (hk D σ H' h1 h2 h3)⟩
  refine ⟨_, pn_ifF (l := [some (.str z), none, none, none]) (pdt_cmp op_eq (eqS_f hd) (pd_var 0) pd_str) (pn_nil 1 (pss_cons (ps_for PassesOwn.never rfl (pi_list (pe_splN (l := [some (.str z), none, none, none]) (pd_var 0) pd_str (by decide +kernel) hzl)) (pg_name (i := 2) scLawDueNumbers.nd rfl (Or.inl rfl)) body) (pss_one (ps_ret (pe_callTy call_tuple_of rfl g.tuple (by decide +kernel) (pa_cons (pe_var (i := 1) rfl (Or.inl rfl) (by decide) (by decide)) pa_nil rfl) (by decide) (by decide) rfl rfl)))) scLawDueNumbers.nd), s0, fun H1 e1 L hL => ?_⟩
  have s1 : Sl K ((L2.start nDN vs).set 1 (some (.ref L))) (upd H1 L (.lst [])) [some (.str z), none, none, none] := ((s0.mono e1).mono (same_new hL)).unset 1
  refine ⟨s1, fun H2 p e2 hp => ⟨p, rfl, ⟨_, SqL.of upd_same⟩, ?_⟩⟩
  have hL2 : H2 L = some (.lst []) := e2 _ _ upd_same
  have hLp : L ≠ p := fun q => by rw [q, hp] at hL2; cases hL2
  have hset : ((L2.start nDN vs).set 1 (some (.ref L)))[1]? = some (some (.ref L)) := by
    rw [List.getElem?_set_self]
    rw [s0.len]
    show 1 < 4
    decide
  refine for_it (g := gName 2) (tb := tbDN K z) (walk_list (K := K) (a := p) (xs := (Txt.split z " ").map V.str)) (fun i σ H' => ∃ ns : List Int, seqO (((Txt.split z " ").take i).map numOf) = some ns ∧ ns.length ≤ i ∧ σ[1]? = some (some (.ref L)) ∧ H' L = some (.lst (ns.map V.int)) ∧ H' p = some (.lst ((Txt.split z " ").map V.str)) ∧ Sl K σ H' [some (.str z), none, none, none] ∧ Same H H') ?_ (fun i σ H' _ ⟨ns, _, _, _, _, h5, _, _⟩ => SqL.of h5) (fun i x σ Ha Hb hi ⟨ns, g1, g0, g2, g3, g4, g5, g6⟩ y => ?_) (fun σ H' ⟨ns, g1, g0, g2, g3, g4, g5, g6⟩ => ?_)
  · refine ⟨[], rfl, Nat.le_refl _, hset, ?_, upd_same, (s1.mono e2).mono (same_new hp), ?_⟩
    · rw [upd_ne hLp]
      exact hL2
    · exact ((e1.trans (same_new hL)).trans e2).trans (same_new hp)
  · obtain ⟨rfl, hx⟩ := y
    rw [List.getElem?_map] at hx
    cases hw : (Txt.split z " ")[i]? with
    | none => rw [hw] at hx; cases hx
    | some word =>
      rw [hw] at hx
      have hx' : x = .str word := (Option.some.inj hx).symm
      subst hx'
      have hmem : word ∈ Txt.split z " " := List.mem_of_getElem? hw
      have hcount := split_count sep_sp z
      rw [List.length_map] at hi
      have sl2 : Sl K (σ.set 2 (some (.str word))) Hb [some (.str z), none, some (.str word), none] := g5.set 2 (.str word)
      refine ⟨word, hmem, sl2, fun n hn => ⟨L, ns.map V.int, ?_, g3, ?_, fun H' q => ⟨ns ++ [n], ?_, ?_, ?_, ?_, ?_, ?_, ?_⟩⟩, fun hn x H' q hx => ?_⟩
      · rw [List.getElem?_set_ne (by decide)]
        exact g2
      · rw [List.length_map]
        exact Nat.lt_of_le_of_lt (show _ ≤ 1000 by omega) (by decide)
      · rw [take_snoc hw, List.map_append, List.map_singleton, hn]
        exact seqO_snoc g1
      · rw [List.length_append, List.length_singleton]
        omega
      · rw [List.getElem?_set_ne (by decide)]
        exact g2
      · rw [upd_same, List.map_append]
        rfl
      · rw [upd_ne (fun e => hLp e.symm)]
        exact q _ _ g4
      · exact ((g5.mono q).unset 2).write (by rfl) (q _ _ g3) trivial
      · exact same_mut (g6.trans q) (by
          have : H L = none := by
            cases e : H L with
            | none => rfl
            | some u => have := e1 _ _ e; rw [hL] at this; cases this
          exact this)
      · have hnone : seqO ((Txt.split z " ").map numOf) = none := seqO_bad (List.mem_map.mpr ⟨word, hmem, hn⟩)
        rw [hnone] at hq
        exact hq x H' (g6.trans q) hx
  · rw [List.length_map, List.take_length] at g1
    rw [g1] at hq
    refine ⟨.ref L, g2, L, ns.map V.int, rfl, .inl ⟨SqL.of g3, fun q hq2 => hq _ _ (g6.trans (same_new hq2)) (eNs_of upd_same)⟩⟩
end
end K7


set_option Elab.async false
set_option linter.all false
set_option maxRecDepth 100000
/-! _law_due_state. -/
namespace K7
open PySem PySem.Spec PyProof.Rows L2

def rCatL (K : PySem.W.Frag) : R2 := fun x y H Q => ∃ l b xs zs, x = .ref l ∧ y = .ref b ∧ SqL K H l xs ∧ SqL K H b zs ∧ xs.length + zs.length ≤ sizeLine ∧ ∀ p, H p = none → Q (.ref p) (upd H p (.lst (xs ++ zs)))
theorem op_catL {X : Cx} : OpR X (binaryOp .Add) (rCatL X.K) := by
  intro pins s σ H x y v u Q I rx ry h
  obtain ⟨l, b, xs, zs, rfl, rfl, hH, hB, hz, q⟩ := h
  cases rx
  cases ry
  obtain ⟨its, r, p1, _⟩ := I.list hH
  obtain ⟨its2, r2, p2, _⟩ := I.list hB
  obtain ⟨⟨cls, dd, data, sl⟩, ho, hc, n, hd⟩ := p1.isList
  obtain ⟨⟨cls2, dd2, data2, sl2⟩, ho2, hc2, n2, hd2⟩ := p2.isList
  simp only at hc hd hc2 hd2
  subst hc hd hc2 hd2
  have hl := r.length
  have hl2 := r2.length
  refine concat_meets ⟨_, ho, rfl⟩ ⟨_, ho2, rfl⟩ noFill_list_add seq_list_add PySem.F.slot_list_add PySem.F.entry_list_add (PySem.F.args_list_add_2 _ _) (list_addW l b its.toArray its2.toArray n n2 dd dd2 sl sl2 (by rw [List.size_toArray, List.size_toArray]; omega)) ⟨ho, ho2, ?_⟩
  have ea : its.toArray ++ its2.toArray = (its ++ its2).toArray := by simp
  rw [ea]
  exact ⟨.ref _, _, I.lnew (t' := s.toks) (r.append r2) (by rw [List.length_append]; omega), rfl, q _ I.fresh⟩
theorem opd_catL {K : PySem.W.Frag} {ds es : List PyData} (h : ds.length + es.length ≤ sizeLine) : OpD K (rCatL K) (.list ds) (.list es) (.list (ds ++ es)) := fun x y H Q hx hy k => by
  cases hx with
  | lst h1 h2 =>
    cases hy with
    | lst g1 g2 =>
      refine ⟨_, _, _, _, rfl, rfl, h1, g1, by rw [h2.length, g2.length]; exact h, fun p hp => k _ _ (same_new hp) (.lst (SqL.of upd_same) ((h2.mono (same_new hp)).app (g2.mono (same_new hp))))⟩
theorem neL_tups {K : PySem.W.Frag} {cs bs : List (List Int)} : OpD K (rNeD K) (.list (cs.map eNs)) (.list (bs.map eNs)) (.bool (!decide (cs = bs))) := by
  have h := opd_neD (K := K) (d := .list (cs.map eNs)) (e := .list (bs.map eNs)) (by rw [PyData.hasDict]; exact nod_enc no_dict_eNs cs) (by rw [PyData.hasDict]; exact nod_enc no_dict_eNs bs) (shp_lst (k := 1) canL_eNs depth_eNs (by decide) cs) (shp_lst (k := 1) canL_eNs depth_eNs (by decide) bs)
  have e : PyData.eqv (.list (cs.map eNs)) (.list (bs.map eNs)) = decide (cs = bs) := by
    rw [PyData.eqv]
    exact eqvAll_enc eqv_eNs cs bs
  rw [e] at h
  exact h
theorem neL_us {K : PySem.W.Frag} {cs : List (List Int)} {v : Bool} (h : (!risesT cs) = v) : OpD K (rNeD K) (.list (cs.map eNs)) (.list ((usort HT.lexLt cs).map eNs)) (.bool v) := by
  rw [← h, show risesT cs = decide (cs = usort HT.lexLt cs) from (eq_usort sto_lx cs).symm]
  exact neL_tups
theorem stMk_none {a : Option (List Int)} {ocs : List (Option (List Int))} (h : rowB a ocs = false) : stMk a ocs = none := by
  unfold rowB at h
  cases e : stMk a ocs with
  | none => rfl
  | some st => rw [e] at h; cases h
def notRise (o : Option (List Int)) : Bool := !riseO o
theorem notRise_all (os : List (Option (List Int))) : (os.filter notRise).isEmpty = (os.map riseO).all id := by
  induction os with
  | nil => rfl
  | cons o os ih =>
    rw [List.filter_cons, List.map_cons, List.all_cons]
    unfold notRise at ih ⊢
    cases riseO o
    · rfl
    · exact ih
theorem classes_few {b : Str} {cs : List (List Int)} (hb : b.length ≤ 189) (h : classesOf b = cs.map some) : cs.length < 64 := by
  unfold classesOf at h
  split at h
  · have := congrArg List.length h
    rw [List.length_map] at this
    rw [← this]
    decide
  · have hp : ∀ w ∈ Txt.split b "; ", 1 ≤ w.length := fun w hw => by
      have h1 : numbersOf w ∈ cs.map some := by rw [← h]; exact List.mem_map.mpr ⟨w, hw, rfl⟩
      obtain ⟨c, _, e⟩ := List.mem_map.mp h1
      exact numbersOf_pos e.symm
    have h1 := split_full sep_sc hp
    have h2 := congrArg List.length h
    rw [List.length_map, List.length_map] at h2
    have h3 : ("; " : Str).length = 2 := by decide +kernel
    rw [h3] at h1
    omega
abbrev sLawDueState : Stmt := top 44
abbrev nDS : List Str := ["_law_text", "_law_halves", "_law_classes", "_law_first", "_law_one"]
theorem scLawDueState : FnScope nDS ["_law_text"] (defScope sLawDueState) := ⟨rfl, rfl, rfl, by decide +kernel, rfl, by decide +kernel, by decide +kernel⟩
section
variable {P : Program} {w : World} {K : PySem.W.Frag} {mg : Str → Option Value} {base : Heap} {f : Addr} {fd : FuncData}
theorem ok_lawDueState (F : Fun K "_law_due_state" "_law_due_state" sLawDueState f fd) (g : Gt mg) (c : Fk P w K mg base CX0 1 "_law_due_numbers" (spD K domNumbersOf)) (c2 : Fk P w K mg base CX0 1 "_law_is_rising" (spD K domIsRising)) : FnOk P w K mg base CX0 2 f fd ["_law_text"] (spD K domStateOf) := by
  refine fn_data F scLawDueState (fun ds d ⟨z, _, h, _⟩ => by rw [h]; rfl) fun cdv A outer s H E ds d hr h => ?_
  obtain ⟨z, hz, rfl, rfl⟩ := h
  have hu := hr.units
  refine pr_asg 1 (d1 := .list ((Txt.split z " | ").map .str)) (pd_split (pd_var 0) pd_str (by decide +kernel) (Nat.le_trans (show _ ≤ 1000 by omega) (by decide))) ?_ scLawDueState.nd
  by_cases h2 : (Txt.split z " | ").length = 2
  · obtain ⟨a, b, e⟩ : ∃ a b, Txt.split z " | " = [a, b] := by
      cases e : Txt.split z " | " with
      | nil => rw [e] at h2; cases h2
      | cons a r =>
        cases r with
        | nil => rw [e] at h2; cases h2
        | cons b r =>
          cases r with
          | nil => exact ⟨a, b, rfl⟩
          | cons c r => rw [e] at h2; simp at h2
    have ha : a.length ≤ 189 := Nat.le_trans (split_piece sep_bar (by rw [e]; simp)) hz
    have hb : b.length ≤ 189 := Nat.le_trans (split_piece sep_bar (by rw [e]; simp)) hz
    have es : stateOf z = stMk (numbersOf a) (classesOf b) := by unfold stateOf; rw [e]
    rw [es, e]
    refine pr_ifF (pdt_cmp op_ne (neI_f rfl) (pd_lenL (ds := [.str a, .str b]) g (pd_var 1)) pd_int) ?_
    have hcl := classesOf_len b
    refine pr_asg 2 (d1 := .list ((classesOf b).map eON)) ?_ (pr_asg 3 (d1 := eON (numbersOf a)) (pd_call c hr (by decide) (pda1 (pd_ix ix_list (opd_ixL (i := 0) (ds := [.str a, .str b]) rfl) (pd_var 1) pd_int)) ⟨a, ha, rfl, rfl⟩) ?_ scLawDueState.nd) scLawDueState.nd
    · by_cases hn : b = "none"
      · have e0 : classesOf b = [] := by unfold classesOf; rw [if_pos hn]
        rw [e0]
        exact pd_ifF (pdt_cmp op_ne (neS_f hn) (pd_ix ix_list (opd_ixL (i := 1) (ds := [.str a, .str b]) rfl) (pd_var 1) pd_int) pd_str) pd_nil
      · have e0 : classesOf b = (Txt.split b "; ").map numbersOf := by unfold classesOf; rw [if_neg hn]
        rw [e0]
        refine pd_ifT (pdt_cmp op_ne (neS_t hn) (pd_ix ix_list (opd_ixL (i := 1) (ds := [.str a, .str b]) rfl) (pd_var 1) pd_int) pd_str) (pd_eq (pd_compT (as := Txt.split b "; ") (enc := .str) 4 str_inj (fun n => eON (numbersOf n)) (src_list (pd_split (pd_ix ix_list (opd_ixL (i := 1) (ds := [.str a, .str b]) rfl) (pd_var 1) pd_int) pd_str (by decide +kernel) (Nat.le_trans (show _ ≤ 1000 by omega) (by decide)))) scLawDueState.nd (by rfl) (by have := split_count sep_sc b; omega) (fun a _ => imm_eON _) fun s H C cl fp n hnn =>
          pd_call c hr (by decide) (pda1 (pd_var 4)) ⟨n, Nat.le_trans (split_piece sep_sc hnn) hb, rfl, rfl⟩) (by rw [List.map_map]; rfl))
    · have hnm : ∀ o ∈ classesOf b ++ [numbersOf a], NmO o := fun o ho => by
        rcases List.mem_append.mp ho with ho | ho
        · exact classesOf_nmO hb o ho
        · rw [List.mem_singleton.mp ho]
          exact numbersOf_nmO ha
      have hlen : (classesOf b ++ [numbersOf a]).length ≤ 100000 := by rw [List.length_append, List.length_singleton]; omega
      have hsum : ((classesOf b).map eON).length + [eON (numbersOf a)].length ≤ sizeLine := by
        rw [List.length_map, List.length_singleton]
        exact Nat.le_trans (show _ ≤ 1000 by omega) (by decide)
      have hmap : (PyData.list ((classesOf b).map eON ++ [eON (numbersOf a)])) = .list ((classesOf b ++ [numbersOf a]).map eON) := by rw [List.map_append]; rfl
      cases h1 : ((classesOf b ++ [numbersOf a]).map riseO).all id with
      | false =>
        have hm : stMk (numbersOf a) (classesOf b) = none := by
          refine stMk_none ?_
          rw [List.map_append, List.all_append, Bool.and_eq_false_iff] at h1
          rcases h1 with h1 | h1
          · exact rowB_r2 h1
          · cases e : numbersOf a with
            | none => rfl
            | some na =>
              rw [e] at h1
              have h1' : rises na = false := by simpa [riseO] using h1
              exact rowB_r1 h1' _
        rw [hm]
        have h4 : (((classesOf b ++ [numbersOf a]).filter notRise).map eON).isEmpty = false := by rw [List.isEmpty_map, notRise_all, h1]
        exact pr_ifT (pdt_w (pdw_orT (pdt_cmp (v := true) (op_neE hr.units0) (neE_b (by rw [h4]; rfl)) (pd_compIfT (as := classesOf b ++ [numbersOf a]) (enc := eON) 4 eON_inj notRise eON (src_list (pd_eq (pd_bin op_catL (opd_catL hsum) (pd_var 2) (pd_lst (pda1 (pd_var 3)) (show 1 ≤ 100000 by decide))) hmap)) scLawDueState.nd (by rfl) hlen (fun a _ _ => imm_eON _) (fun s H C cl fp o ho => pdt_not (v := riseO o) (pdt_val (pd_call c2 hr (by decide) (pda1 (pd_var 4)) ⟨o, hnm o ho, rfl, rfl⟩))) (fun s H C cl fp o ho _ => pd_var 4)) pd_nil))) (pr_ret pd_none)
      | true =>
        have h4 : (((classesOf b ++ [numbersOf a]).filter notRise).map eON).isEmpty = true := by rw [List.isEmpty_map, notRise_all, h1]
        rw [List.map_append, List.all_append, Bool.and_eq_true] at h1
        obtain ⟨cs, ecs, hcs⟩ := all_rise h1.1
        obtain ⟨na, ea, hna⟩ : ∃ na, numbersOf a = some na ∧ rises na = true := by
          cases e : numbersOf a with
          | none => rw [e] at h1; cases h1.2
          | some na => rw [e] at h1; exact ⟨na, rfl, by simpa [riseO] using h1.2⟩
        have hfew := classes_few hb ecs
        have hcl : (PyData.list ((classesOf b).map eON)) = .list (cs.map eNs) := by rw [ecs, some_map]
        cases h3 : risesT cs with
        | false =>
          have hm : stMk (numbersOf a) (classesOf b) = none := stMk_none (by rw [ea, ecs, rowB_r3 hna hcs]; exact h3)
          rw [hm]
          exact pr_ifT (pdt_w (pdw_orF (pdt_cmp (v := false) (op_neE hr.units0) (neE_b (by rw [h4]; rfl)) (pd_compIfT (as := classesOf b ++ [numbersOf a]) (enc := eON) 4 eON_inj notRise eON (src_list (pd_eq (pd_bin op_catL (opd_catL hsum) (pd_var 2) (pd_lst (pda1 (pd_var 3)) (show 1 ≤ 100000 by decide))) hmap)) scLawDueState.nd (by rfl) hlen (fun a _ _ => imm_eON _) (fun s H C cl fp o ho => pdt_not (v := riseO o) (pdt_val (pd_call c2 hr (by decide) (pda1 (pd_var 4)) ⟨o, hnm o ho, rfl, rfl⟩))) (fun s H C cl fp o ho _ => pd_var 4)) pd_nil)
            (pdw_or1 (pdt_cmp (v := true) (op_neD hu) (neL_us (by rw [h3]; rfl)) (pd_eq (pd_var 2) hcl) (pd_soSetT g.sorted g.set hu (pd_eq (pd_var 2) hcl) hfew))))) (pr_ret pd_none)
        | true =>
          have hm : stMk (numbersOf a) (classesOf b) = some (na, cs) := by
            rw [ea, ecs]
            unfold stMk
            rw [seqO_some]
            simp only [hna, hcs, h3, Bool.and_self, if_true]
          rw [hm]
          refine pr_ifF (pdt_w (pdw_orF (pdt_cmp (v := false) (op_neE hr.units0) (neE_b (by rw [h4]; rfl)) (pd_compIfT (as := classesOf b ++ [numbersOf a]) (enc := eON) 4 eON_inj notRise eON (src_list (pd_eq (pd_bin op_catL (opd_catL hsum) (pd_var 2) (pd_lst (pda1 (pd_var 3)) (show 1 ≤ 100000 by decide))) hmap)) scLawDueState.nd (by rfl) hlen (fun a _ _ => imm_eON _) (fun s H C cl fp o ho => pdt_not (v := riseO o) (pdt_val (pd_call c2 hr (by decide) (pda1 (pd_var 4)) ⟨o, hnm o ho, rfl, rfl⟩))) (fun s H C cl fp o ho _ => pd_var 4)) pd_nil)
            (pdw_or1 (pdt_cmp (v := false) (op_neD hu) (neL_us (by rw [h3]; rfl)) (pd_eq (pd_var 2) hcl) (pd_soSetT g.sorted g.set hu (pd_eq (pd_var 2) hcl) hfew)))))
            (pr_ret (pd_eq (pd_tup (pda_cons (pd_var 3) (pda1 (pd_tupL g (pd_eq (pd_var 2) hcl)))) (show 2 ≤ 100000 by decide)) ?_))
          rw [ea]
          rfl
  · have es : stateOf z = none := by
      unfold stateOf
      split
      · rename_i a b e
        rw [e] at h2
        exact absurd rfl h2
      · rfl
    rw [es]
    refine pr_ifT (pdt_cmp op_ne (neI_t ?_) (pd_lenL g (pd_var 1)) pd_int) (pr_ret pd_none)
    rw [List.length_map]
    omega
end
end K7


set_option Elab.async false
set_option linter.all false
set_option maxRecDepth 100000
/-! Tables: dicts with tuples of ints as keys; _law_due_table. -/
namespace K7
open PySem PySem.Spec PyProof.Rows L2

def keyI (ns : List Int) : List L2.Key := ns.map Sum.inl
theorem keyI_V (ns : List Int) : (keyI ns).map kV = ns.map V.int := by
  unfold keyI
  rw [List.map_map]
  rfl
theorem keyI_D (ns : List Int) : keyD (keyI ns) = eNs ns := by
  unfold keyD keyI
  rw [List.map_map]
  rfl
theorem keyI_inj : ∀ {a b : List Int}, keyI a = keyI b → a = b
  | [], [], _ => rfl
  | [], _ :: _, h => by cases h
  | _ :: _, [], h => by cases h
  | x :: a, y :: b, h => by
    have h' : Sum.inl x :: keyI a = Sum.inl y :: keyI b := h
    injection h' with h1 h2
    injection h1 with h1
    rw [h1, keyI_inj h2]
def eTab (rows : Tab) : PyData := .dict (rows.map fun r => (eNs r.1, eSt r.2))
def kvsOf (rows : Tab) (vs : List V) : List (List L2.Key × V) := (rows.map fun r => keyI r.1).zip vs
structure TabAt (K : PySem.W.Frag) (H : Hp) (p : Addr) (rows : Tab) (vs : List V) : Prop where
  at_ : H p = some (.dT (kvsOf rows vs))
  da : DaAll K H vs (rows.map fun r => eSt r.2)
section
variable {K : PySem.W.Frag} {H H' : Hp} {p : Addr} {rows : Tab} {vs : List V}
theorem TabAt.mono (t : TabAt K H p rows vs) (e : Same H H') : TabAt K H' p rows vs := ⟨e _ _ t.at_, t.da.mono e⟩
theorem TabAt.len (t : TabAt K H p rows vs) : vs.length = rows.length := by
  have := t.da.length
  rw [List.length_map] at this
  exact this
theorem kvs_snd {rows : Tab} {vs : List V} (h : vs.length = rows.length) : (kvsOf rows vs).map Prod.snd = vs := by
  unfold kvsOf
  rw [List.map_snd_zip]
  rw [List.length_map]
  omega
theorem kvs_fst {rows : Tab} {vs : List V} (h : vs.length = rows.length) : (kvsOf rows vs).map Prod.fst = rows.map fun r => keyI r.1 := by
  unfold kvsOf
  rw [List.map_fst_zip]
  rw [List.length_map]
  omega
theorem kvs_len {rows : Tab} {vs : List V} (h : vs.length = rows.length) : (kvsOf rows vs).length = rows.length := by
  have := congrArg List.length (kvs_fst h)
  rw [List.length_map, List.length_map] at this
  exact this
theorem TabAt.dat (t : TabAt K H p rows vs) : Da K H (.ref p) (eTab rows) := by
  have h1 : DaAll K H ((kvsOf rows vs).map Prod.snd) (rows.map fun r => eSt r.2) := by
    rw [kvs_snd t.len]
    exact t.da
  have h2 := Da.dct t.at_ h1
  have e : ((kvsOf rows vs).map fun q => keyD q.1).zip (rows.map fun r => eSt r.2) = rows.map fun r => (eNs r.1, eSt r.2) := by
    have : ((kvsOf rows vs).map fun q => keyD q.1) = ((kvsOf rows vs).map Prod.fst).map keyD := by rw [List.map_map]; rfl
    rw [this, kvs_fst t.len, List.map_map, List.zip_map']
    exact List.map_congr_left fun r _ => by
      show (keyD (keyI r.1), eSt r.2) = _
      rw [keyI_D]
  rw [e] at h2
  exact h2
theorem tab_dat {x : V} (h : Da K H x (eTab rows)) (nd : True) : ∃ p kvs es, x = .ref p ∧ H p = some (.dT kvs) ∧ DaAll K H (kvs.map Prod.snd) es ∧ ((kvs.map fun q => keyD q.1).zip es) = rows.map fun r => (eNs r.1, eSt r.2) := by
  unfold eTab at h
  generalize hE : (rows.map fun r => (eNs r.1, eSt r.2)) = E at h
  cases h with
  | dct h1 h2 => exact ⟨_, _, _, rfl, h1, h2, rfl⟩
theorem imm_eSt (st : St2) : imm (eSt st) = true := by
  show imm (.tuple [eNs st.1, .tuple (st.2.map eNs)]) = true
  rw [imm, immAll, imm_eNs, immAll, imm, immAll, immAll_mem]
  · rfl
  · intro d hd
    obtain ⟨c, _, rfl⟩ := List.mem_map.mp hd
    exact imm_eNs c
theorem imm_eOS (o : Option St2) : imm (eOS o) = true := by
  cases o with
  | none => show imm .none = true; simp [imm]
  | some st => exact imm_eSt st
theorem TabAt.put (t : TabAt K H p rows vs) {k : List Int} {st : St2} {v : V} (hv : Da K H v (eSt st)) (hk : k ∉ rows.map (·.1)) : TabAt K (upd H p (.dT (putK (kvsOf rows vs) (keyI k) v))) p (rows ++ [(k, st)]) (vs ++ [v]) := by
  have hn : ¬ ((kvsOf rows vs).any fun kv => decide (kv.1 = keyI k)) = true := fun h => by
    obtain ⟨q, hq, e⟩ := List.any_eq_true.mp h
    have e' := of_decide_eq_true e
    have h1 : q.1 ∈ (kvsOf rows vs).map Prod.fst := List.mem_map.mpr ⟨q, hq, rfl⟩
    rw [kvs_fst t.len, e'] at h1
    obtain ⟨r, hr, e2⟩ := List.mem_map.mp h1
    exact hk (by rw [← keyI_inj e2]; exact List.mem_map.mpr ⟨r, hr, rfl⟩)
  have hput : putK (kvsOf rows vs) (keyI k) v = kvsOf (rows ++ [(k, st)]) (vs ++ [v]) := by
    unfold putK
    rw [if_neg hn]
    unfold kvsOf
    rw [List.map_append, List.zip_append (by rw [List.length_map]; exact t.len.symm)]
    rfl
  refine ⟨by rw [upd_same, hput], ?_⟩
  have hi : immAll (rows.map fun r => eSt r.2) = true := immAll_mem fun d hd => by
    obtain ⟨r, _, rfl⟩ := List.mem_map.mp hd
    exact imm_eSt r.2
  rw [List.map_append]
  exact (t.da.write t.at_ trivial hi).snoc (hv.write t.at_ trivial (imm_eSt st))
theorem tab_new (H : Hp) (p : Addr) : TabAt K (upd H p (.dT [])) p [] [] := ⟨upd_same, .nil⟩
end
section
variable {X : Cx} {l : Sk} {e : Expr} {pos : Pos} {t : TS} {rest : List Stmt}
/-- halves, size = text.split(y), len(found) -/
theorem pn_parLen (i j k : Nat) {x y : Str} {a : Expr} {px py pt p q : Pos} {kt k2 : Nat} {pt2 : Pos} {d : PyData} {z : Str} (g : Gt X.mg) (ha : PD X l a d) (r : PSs X rest t) (nd : X.N.Nodup) (hij : i ≠ j) (hkz : X.N[k]? = some z) (hv : Vis X.env.scope z)
    (hi : X.N[i]? = some x := by rfl) (hj : X.N[j]? = some y := by rfl) (hx : X.env.scope.names.lookup x = some .local := by rfl) (hy : X.env.scope.names.lookup y = some .local := by rfl)
    (hd : (z == ("__debug__" : Str)) = false := by decide) (hcd : (z == ("__classdict__" : Str)) = false := by decide)
    (hc : X.calm = true := by rfl) (hg : Gl X "len" := by rfl)
    (he : starEach [a, .Call (.Name "len" p) [.Name z q] [] pos] X.env = (false, eval a X.env) :: starEach [.Call (.Name "len" p) [.Name z q] [] pos] X.env := by rfl)
    (he2 : starEach [.Call (.Name "len" p) [.Name z q] [] pos] X.env = (false, eval (.Call (.Name "len" p) [.Name z q] [] pos) X.env) :: starEach [] X.env := by rfl)
    (he3 : starEach [.Name z q] X.env = (false, eval (.Name z q) X.env) :: starEach [] X.env := by rfl)
    (hw : swappedStores [.Tuple [.Name x px, .Name y py] kt pt] (.Tuple [a, .Call (.Name "len" p) [.Name z q] [] pos] k2 pt2) X.env = pure (some [x, y]) := by rfl)
    {spos : Pos} (hs : swapsWithSole [.Tuple [.Name x px, .Name y py] kt pt] (.Tuple [a, .Call (.Name "len" p) [.Name z q] [] pos] k2 pt2) spos.line X.env = pure false := by rfl) :
    PSs X (.Assign [.Tuple [.Name x px, .Name y py] kt pt] (.Tuple [a, .Call (.Name "len" p) [.Name z q] [] pos] k2 pt2) spos :: rest)
      (fun D σ H => Sl X.K σ H l ∧ ∃ Dd kvs, σ[k]? = some (some (.ref Dd)) ∧ H Dd = some (.dT kvs) ∧ ∀ v H', Same H H' → Da X.K H' v d → t D ((σ.set i (some v)).set j (some (.int (kvs.length : Nat)))) H') :=
  pssImp (pss_cons (ps_par hc nd hi hj hij hx hy (pa_cons ha (pa_cons (pe_callB call_len_dT hg g.len (by decide +kernel) (pa_cons (pe_var (i := k) hkz hv hd hcd) pa_nil he3) (by decide) (by decide) he3 (by rfl)) pa_nil he2) he) hw hs) r) fun D σ H ⟨s, Dd, kvs, h1, h2, kk⟩ => ⟨s, fun v H1 e1 q1 => by
    refine ⟨.ref Dd, h1, Dd, kvs, rfl, e1 _ _ h2, v, _, rfl, kk v H1 e1 q1⟩⟩
end
end K7


set_option Elab.async false
set_option linter.all false
set_option maxRecDepth 100000
/-! _law_due_table. -/
namespace K7
open PySem PySem.Spec PyProof.Rows L2

def eTT : Except Nat Tab → PyData
  | .error n => .int (n : Nat)
  | .ok rows => eTab rows
def lastOf (acc : Tab) : List Int := match acc.getLast? with
  | none => [-1, -1]
  | some q => q.1
theorem lastOf_snoc (acc : Tab) (r : List Int × St2) : lastOf (acc ++ [r]) = r.1 := by
  unfold lastOf
  rw [List.getLast?_concat]
theorem after_last {k : List Int} {acc : Tab} (h1 : ∀ n ∈ k, Nm n) (h2 : k.length = 2) : after k acc = !lxLe k (lastOf acc) := by
  unfold after lastOf
  cases acc.getLast? with
  | some q => rfl
  | none =>
    show true = !lxLe k [-1, -1]
    match k, h2 with
    | [x, y], _ =>
      have hx := (h1 x (by simp)).1
      unfold lxLe
      rw [HT.lexLt_cons, if_neg (by omega), decide_eq_true (by omega)]
      rfl
def ascT (acc : Tab) : Prop := (acc.map (·.1)).Pairwise (fun a b => HT.lexLt a b = true)
theorem asc_lt {acc : Tab} {k : List Int} (ha : ascT acc) (h : after k acc = true) : ∀ q ∈ acc, HT.lexLt q.1 k = true := by
  intro q hq
  unfold after at h
  cases e : acc.getLast? with
  | none =>
    rw [List.getLast?_eq_none_iff.mp e] at hq
    cases hq
  | some p =>
    rw [e] at h
    have hp : HT.lexLt p.1 k = true := by
      have h' : (!lxLe k p.1) = true := h
      unfold lxLe at h'
      simpa using h'
    obtain ⟨init, e2⟩ := List.getLast?_eq_some_iff.mp e
    subst e2
    rcases List.mem_append.mp hq with hq | hq
    · unfold ascT at ha
      rw [List.map_append] at ha
      exact lx_trans _ _ _ ((List.pairwise_append.mp ha).2.2 q.1 (List.mem_map.mpr ⟨q, hq, rfl⟩) p.1 (by simp)) hp
    · rw [List.mem_singleton.mp hq]
      exact hp
theorem asc_new {acc : Tab} {k : List Int} (ha : ascT acc) (h : after k acc = true) : k ∉ acc.map (·.1) := fun hk => by
  obtain ⟨q, hq, rfl⟩ := List.mem_map.mp hk
  have := asc_lt ha h q hq
  rw [lx_irr] at this
  cases this
theorem asc_snoc {acc : Tab} {r : List Int × St2} (ha : ascT acc) (h : after r.1 acc = true) : ascT (acc ++ [r]) := by
  unfold ascT
  rw [List.map_append]
  refine List.pairwise_append.mpr ⟨ha, by simp, fun x hx y hy => ?_⟩
  obtain ⟨q, hq, rfl⟩ := List.mem_map.mp hx
  rw [List.map_singleton, List.mem_singleton] at hy
  subst hy
  exact asc_lt ha h q hq
def badRow (ln : Str) (acc : Tab) : Bool := match rowOf ln with
  | none => true
  | some r => !after r.1 acc
theorem tabGo_bad {ln : Str} {lns : List Str} {acc : Tab} (h : badRow ln acc = true) : tabGo (ln :: lns) acc = .error acc.length := by
  unfold badRow at h
  unfold tabGo
  cases e : rowOf ln with
  | none => rfl
  | some r =>
    rw [e] at h
    have h' : (!after r.1 acc) = true := h
    show (if after r.1 acc = true then _ else _) = _
    rw [if_neg]
    intro q
    rw [q] at h'
    cases h'
theorem tabGo_good {ln : Str} {lns : List Str} {acc : Tab} {r : List Int × St2} (e : rowOf ln = some r) (h : after r.1 acc = true) : tabGo (ln :: lns) acc = tabGo lns (acc ++ [r]) := by
  show (match rowOf ln with
    | none => Except.error acc.length
    | some r => if after r.1 acc then tabGo lns (acc ++ [r]) else Except.error acc.length) = _
  rw [e]
  exact if_pos h
theorem le_b {K : PySem.W.Frag} {ns ms : List Int} {v : Bool} (h : lxLe ns ms = v) : OpD K (rLeT K) (eNs ns) (eNs ms) (.bool v) := by
  rw [← h, ← leLex_eq]
  exact opd_leT
theorem isN_b {K : PySem.W.Frag} {d : PyData} {v : Bool} (h : (match d with | .none => true | _ => false) = v) : OpD K (fun x y H Q => y = .non ∧ Q (.bl (decide (x = .non))) H) d .none (.bool v) := h ▸ opd_isN

abbrev sLawDueTable : Stmt := top 45
abbrev nDT : List Str := ["_law_text", "_law_found", "_law_last", "_law_line_here", "_law_halves", "_law_size", "_law_key", "_law_state"]
theorem scLawDueTable : FnScope nDT ["_law_text"] (defScope sLawDueTable) := ⟨rfl, rfl, rfl, by decide +kernel, rfl, by decide +kernel, by decide +kernel⟩
abbrev lDT (z : Str) (acc : Tab) (ln : Str) : Sk := [some (.str z), none, some (eNs (lastOf acc)), some (.str ln), none, none, none, none]
/-- what a turn of the loop is asked -/
def tbDT (K : PySem.W.Frag) (z : Str) : TS := fun D σ H1 => ∃ ln acc, ln.length ≤ 189 ∧ ascT acc ∧ acc.length ≤ 1000 ∧ Sl K σ H1 (lDT z acc ln) ∧ ∃ Dd vs, σ[1]? = some (some (.ref Dd)) ∧ TabAt K H1 Dd acc vs ∧
  (badRow ln acc = true → ∀ x H', Same H1 H' → Da K H' x (.int acc.length) → D.rt x H') ∧
  (∀ r, rowOf ln = some r → after r.1 acc = true → ∀ σ' H2 o vs', Same H1 H2 → TabAt K (upd H2 Dd o) Dd (acc ++ [r]) vs' → Sl K σ' (upd H2 Dd o) [some (.str z), none, some (eNs r.1), none, none, none, none, none] → σ'[1]? = some (some (.ref Dd)) → D.nx σ' (upd H2 Dd o))
def domLawDueTable (ds : List PyData) (d : PyData) : Prop := ∃ z : Str, z.length ≤ 189 ∧ ds = [.str z] ∧ d = eTT (tableOf z)
section
variable {P : Program} {w : World} {K : PySem.W.Frag} {mg : Str → Option Value} {base : Heap} {f : Addr} {fd : FuncData} {cdv : Value} {A : Around} {outer : List Env} {s : Shared} {H : Hp} {E : XK}
abbrev xDT (P : Program) (w : World) (K : PySem.W.Frag) (mg : Str → Option Value) (base : Heap) (f : Addr) (cdv : Value) (A : Around) (outer : List Env) (s : Shared) (H : Hp) (E : XK) : Cx := (cxOf CX0 P w K mg base nDT "_law_due_table" (defScope sLawDueTable) f cdv A outer s H E).nox
theorem dt_bad {z ln : Str} {acc : Tab} (g : Gt mg) (hln : ln.length ≤ 189) (hb : badRow ln acc = true) (hr : Room 2 (A.deeper (envOfC "_law_due_table" (defScope sLawDueTable) s.heap.objs.size f cdv))) (c : Fk P w K mg base CX0 1 "_law_due_numbers" (spD K domNumbersOf)) (c2 : Fk P w K mg base CX0 2 "_law_due_state" (spD K domStateOf)) :
    PR (xDT P w K mg base f cdv A outer s H E) [some (.str z), none, some (eNs (lastOf acc)), some (.str ln), some (.list ((Txt.split ln ": ").map .str)), some (.int (acc.length : Nat)), none, none] ((forBody ((defBody sLawDueTable).getD 1 (.Pass ⟨0, 0, 0, 0⟩))).drop 1) (.int (acc.length : Nat)) := by
  obtain ⟨a, r, e⟩ : ∃ a r, Txt.split ln ": " = a :: r := by
    cases e : Txt.split ln ": " with
    | nil => exact absurd e (split_ne sep_co ln)
    | cons a r => exact ⟨a, r, rfl⟩
  have ha : a.length ≤ 189 := Nat.le_trans (split_piece sep_co (by rw [e]; simp)) hln
  have hu0 := hr.units0
  rw [e]
  by_cases h2 : r.length = 1
  · obtain ⟨b, rfl⟩ : ∃ b, r = [b] := by
      match r, h2 with
      | [b], _ => exact ⟨b, rfl⟩
    have hb2 : b.length ≤ 189 := Nat.le_trans (split_piece sep_co (by rw [e]; simp)) hln
    have er : rowOf ln = rowMk (numbersOf a) (stateOf b) := by unfold rowOf; rw [e]
    refine pr_asg 6 (d1 := eON (numbersOf a)) (pd_call c hr (by decide) (pda1 (pd_ix ix_list (opd_ixL (i := 0) (ds := [.str a, .str b]) rfl) (pd_var 4) pd_int)) ⟨a, ha, rfl, rfl⟩) (pr_asg 7 (d1 := eOS (stateOf b)) (pd_ifT (pdt_cmp op_eq (eqI_t rfl) (pd_lenL (ds := [.str a, .str b]) g (pd_var 4)) pd_int) (pd_call c2 hr (by decide) (pda1 (pd_ix ix_list (opd_ixL (i := 1) (ds := [.str a, .str b]) rfl) (pd_var 4) pd_int)) ⟨b, hb2, rfl, rfl⟩)) ?_ scLawDueTable.nd) scLawDueTable.nd
    cases q2 : stateOf b with
    | none => exact pr_ifT (pdt_w (pdw_orT (pdt_cmp op_isN (isN_b (d := eOS none) rfl) (pd_var 7) pd_none))) (pr_ret (pd_var 5))
    | some st =>
      cases q1 : numbersOf a with
      | none => exact pr_ifT (pdt_w (pdw_orF (pdt_cmp op_isN (isN_b (d := eOS (some st)) rfl) (pd_var 7) pd_none) (pdw_orT (pdt_cmp op_isN (isN_b (d := eON none) rfl) (pd_var 6) pd_none)))) (pr_ret (pd_var 5))
      | some k =>
        by_cases hk : k.length = 2
        · have hk2 : ((k.map PyData.int).length : Int) = 2 := by rw [List.length_map, hk]; rfl
          have hle : lxLe k (lastOf acc) = true := by
            unfold badRow at hb
            rw [er, q1, q2, show rowMk (some k) (some st) = some (k, st) from if_pos hk] at hb
            have hb' : (!after k acc) = true := hb
            rw [after_last (numbersOf_nm q1) hk] at hb'
            simpa using hb'
          exact pr_ifT (pdt_w (pdw_orF (pdt_cmp op_isN (isN_b (d := eOS (some st)) rfl) (pd_var 7) pd_none) (pdw_orF (pdt_cmp op_isN (isN_b (d := eON (some k)) rfl) (pd_var 6) pd_none) (pdw_orF (pdt_cmp op_ne (neI_f hk2) (pd_lenT (ds := k.map .int) g (pd_var 6)) pd_int) (pdw_or1 (pdt_cmp (op_leT hu0) (le_b hle) (pd_var 6) (pd_var 2))))))) (pr_ret (pd_var 5))
        · have hk2 : ((k.map PyData.int).length : Int) ≠ 2 := by rw [List.length_map]; omega
          exact pr_ifT (pdt_w (pdw_orF (pdt_cmp op_isN (isN_b (d := eOS (some st)) rfl) (pd_var 7) pd_none) (pdw_orF (pdt_cmp op_isN (isN_b (d := eON (some k)) rfl) (pd_var 6) pd_none) (pdw_orT (pdt_cmp op_ne (neI_t hk2) (pd_lenT (ds := k.map .int) g (pd_var 6)) pd_int))))) (pr_ret (pd_var 5))
  · have h3 : (((a :: r).map PyData.str).length : Int) ≠ 2 := by rw [List.length_map, List.length_cons]; omega
    exact pr_asg 6 (d1 := eON (numbersOf a)) (pd_call c hr (by decide) (pda1 (pd_ix ix_list (opd_ixL (i := 0) (ds := .str a :: r.map .str) rfl) (pd_var 4) pd_int)) ⟨a, ha, rfl, rfl⟩) (pr_asg 7 (d1 := .none) (pd_ifF (pdt_cmp op_eq (eqI_f h3) (pd_lenL g (pd_var 4)) pd_int) pd_none) (pr_ifT (pdt_w (pdw_orT (pdt_cmp op_isN (isN_b (d := .none) rfl) (pd_var 7) pd_none))) (pr_ret (pd_var 5))) scLawDueTable.nd) scLawDueTable.nd
theorem two_da {K : PySem.W.Frag} {H : Hp} {xs : List V} {d1 d2 : PyData} (h : DaAll K H xs [d1, d2]) : ∃ v1 v2, xs = [v1, v2] ∧ Da K H v1 d1 ∧ Da K H v2 d2 := by
  cases h with
  | cons a r =>
    cases r with
    | cons b r =>
      cases r
      exact ⟨_, _, rfl, a, b⟩
/-- all but the first slot forgotten -/
theorem only0 {K : PySem.W.Frag} {σ : L2.St} {H : Hp} {l : Sk} {n : Nat} {d : PyData} (s : Sl K σ H l) (h0 : l[0]? = some (some d)) (hn : l.length = n + 1) : Sl K σ H (some d :: List.replicate n none) :=
  s.less (by rw [List.length_cons, List.length_replicate, hn]) fun i e q => by
    cases i with
    | zero => rw [h0]; exact q
    | succ i =>
      rw [List.getElem?_cons_succ, List.getElem?_replicate] at q
      split at q <;> cases q
theorem dt_good {z ln : Str} {acc : Tab} {r : List Int × St2} (g : Gt mg) (hln : ln.length ≤ 189) (er : rowOf ln = some r) (haf : after r.1 acc = true) (ha : ascT acc) (hal : acc.length ≤ 1000) (hr : Room 2 (A.deeper (envOfC "_law_due_table" (defScope sLawDueTable) s.heap.objs.size f cdv))) (c : Fk P w K mg base CX0 1 "_law_due_numbers" (spD K domNumbersOf)) (c2 : Fk P w K mg base CX0 2 "_law_due_state" (spD K domStateOf)) :
    PSs (xDT P w K mg base f cdv A outer s H E) ((forBody ((defBody sLawDueTable).getD 1 (.Pass ⟨0, 0, 0, 0⟩))).drop 1) (fun D σ H1 => Sl K σ H1 [some (.str z), none, some (eNs (lastOf acc)), some (.str ln), some (.list ((Txt.split ln ": ").map .str)), some (.int (acc.length : Nat)), none, none] ∧ ∃ Dd vs, σ[1]? = some (some (.ref Dd)) ∧ TabAt K H1 Dd acc vs ∧
      (∀ σ' H2 o vs', Same H1 H2 → TabAt K (upd H2 Dd o) Dd (acc ++ [r]) vs' → Sl K σ' (upd H2 Dd o) [some (.str z), none, some (eNs r.1), none, none, none, none, none] → σ'[1]? = some (some (.ref Dd)) → D.nx σ' (upd H2 Dd o))) := by
  have hro := rowOf_ok er
  obtain ⟨a, b, e⟩ : ∃ a b, Txt.split ln ": " = [a, b] := by
    unfold rowOf at er
    split at er
    · rename_i a b e
      exact ⟨a, b, e⟩
    · cases er
  have e2 : rowMk (numbersOf a) (stateOf b) = some r := by
    unfold rowOf at er
    rw [e] at er
    exact er
  have ea : numbersOf a = some r.1 ∧ stateOf b = some r.2 := by
    unfold rowMk at e2
    split at e2
    · rename_i k st q1 q2
      split at e2
      · have q := Option.some.inj e2
        subst q
        exact ⟨q1, q2⟩
      · cases e2
    · cases e2
  have hla : a.length ≤ 189 := Nat.le_trans (split_piece sep_co (by rw [e]; simp)) hln
  have hlb : b.length ≤ 189 := Nat.le_trans (split_piece sep_co (by rw [e]; simp)) hln
  have hu0 := hr.units0
  have hu := hr.units
  have hu1 : (A.deeper (envOfC "_law_due_table" (defScope sLawDueTable) s.heap.objs.size f cdv)).units + 1 < cLine := by omega
  have hk2 : ((r.1.map PyData.int).length : Int) = 2 := by rw [List.length_map, hro.l]; rfl
  have hle : lxLe r.1 (lastOf acc) = false := by
    rw [after_last hro.k hro.l] at haf
    simpa using haf
  rw [e]
  let l4 : Sk := [some (.str z), none, some (eNs (lastOf acc)), some (.str ln), some (.list ([a, b].map .str)), some (.int (acc.length : Nat)), none, none]
  let l6 : Sk := [some (.str z), none, some (eNs (lastOf acc)), some (.str ln), some (.list ([a, b].map .str)), some (.int (acc.length : Nat)), some (eNs r.1), none]
  let l7 : Sk := [some (.str z), none, some (eNs (lastOf acc)), some (.str ln), some (.list ([a, b].map .str)), some (.int (acc.length : Nat)), some (eNs r.1), some (eSt r.2)]
  refine pssImp (pn_asg 6 (l := l4) (d := eNs r.1) (pd_call c hr (by decide) (pda1 (pd_ix ix_list (opd_ixL (i := 0) (ds := [.str a, .str b]) rfl) (pd_var 4) pd_int)) ⟨a, hla, rfl, by rw [ea.1]; rfl⟩) (pn_asg 7 (l := l6) (d := eSt r.2) (pd_ifT (pdt_cmp op_eq (eqI_t rfl) (pd_lenL (ds := [.str a, .str b]) g (pd_var 4)) pd_int) (pd_call c2 hr (by decide) (pda1 (pd_ix ix_list (opd_ixL (i := 1) (ds := [.str a, .str b]) rfl) (pd_var 4) pd_int)) ⟨b, hlb, rfl, by rw [ea.2]; rfl⟩))
    (pn_ifF (l := l7) (pdt_w (pdw_orF (pdt_cmp op_isN (isN_b (d := eSt r.2) rfl) (pd_var 7) pd_none) (pdw_orF (pdt_cmp op_isN (isN_b (d := eNs r.1) rfl) (pd_var 6) pd_none) (pdw_orF (pdt_cmp op_ne (neI_f hk2) (pd_lenT (ds := r.1.map .int) g (pd_var 6)) pd_int) (pdw_or1 (pdt_cmp (op_leT hu0) (le_b hle) (pd_var 6) (pd_var 2)))))))
      (pss_one (ps_asg (pe_tup (pda_cons (l := l7) (pd_var 7) (pda1 (pd_var 6)))) (pg_tup rfl (pgs_cons (pg_sub (pe_var (i := 1) rfl (Or.inl rfl) (by decide) (by decide)) (pe_var (i := 6) rfl (Or.inl rfl) (by decide) (by decide)) (set_dict hu1)) (pgs_cons (pg_name (i := 2) scLawDueTable.nd rfl (Or.inl rfl)) pgs_nil)))))) scLawDueTable.nd) scLawDueTable.nd) fun D σ H1 ⟨sl, Dd, vs, h1, h2, k⟩ => ?_
  refine ⟨sl, fun x6 H2 q2 d6 => ?_⟩
  have s6 : Sl K (σ.set 6 (some x6)) H2 l6 := (sl.mono q2).set 6 d6
  refine ⟨s6, fun x7 H3 q3 d7 => ?_⟩
  have s7 : Sl K ((σ.set 6 (some x6)).set 7 (some x7)) H3 l7 := (s6.mono q3).set 7 d7
  refine ⟨s7, fun H4 q4 => ?_⟩
  refine ⟨s7.mono q4, fun xs H5 q5 dxs => ?_⟩
  obtain ⟨v1, v2, rfl, dv, dk⟩ := two_da dxs
  refine ⟨show 2 ≤ sizeLine by decide, fun p hp => ⟨p, _, rfl, SqT.of upd_same, rfl, _, _, rfl, ?_⟩⟩
  have hset : ((σ.set 6 (some x6)).set 7 (some x7))[1]? = some (some (.ref Dd)) := by
    rw [List.getElem?_set_ne (by decide), List.getElem?_set_ne (by decide)]
    exact h1
  have eN : Same H5 (upd H5 p (.tup [v1, v2])) := same_new hp
  have s7' : Sl K ((σ.set 6 (some x6)).set 7 (some x7)) (upd H5 p (.tup [v1, v2])) l7 := ((s7.mono q4).mono q5).mono eN
  obtain ⟨xk, ek, dk'⟩ := s7'.has 6 (eNs r.1) rfl
  obtain ⟨pk, rfl, hpk⟩ := eNs_at dk'
  have tb : TabAt K (upd H5 p (.tup [v1, v2])) Dd acc vs := (((((h2.mono q2).mono q3).mono q4).mono q5).mono eN)
  have hlen := kvs_len tb.len
  have dv' := dv.mono eN
  refine ⟨_, hset, _, ek, Dd, _, rfl, DPut.t (k := keyI r.1) tb.at_ (by rw [keyI_V]; exact hpk) (by rw [hlen]; exact Nat.lt_of_le_of_lt hal (by decide)), ?_⟩
  refine ⟨_, _, rfl, ?_⟩
  have q6 : Same H1 (upd H5 p (.tup [v1, v2])) := (((q2.trans q3).trans q4).trans q5).trans eN
  refine ⟨rfl, k _ _ _ _ q6 (tb.put dv' (asc_new ha haf)) ?_ ?_⟩
  · have sA := (only0 s7' (by rfl) (by rfl)).write (o := .dT (putK (kvsOf acc vs) (keyI r.1) v1)) (by rfl) tb.at_ trivial
    have dk2 := ((dk.mono eN).write (o := .dT (putK (kvsOf acc vs) (keyI r.1) v1)) tb.at_ trivial (imm_eNs r.1))
    exact sA.set 2 dk2
  · rw [List.getElem?_set_ne (by decide)]
    exact hset
end
end K7


set_option Elab.async false
set_option linter.all false
set_option maxRecDepth 100000
/-! _law_due_table, whole. -/
namespace K7
open PySem PySem.Spec PyProof.Rows L2

theorem linesOf_len {z ln : Str} (hz : z.length ≤ 189) (h : ln ∈ linesOf z) : ln.length ≤ 189 := by
  unfold linesOf at h
  split at h
  · cases h
  · exact Nat.le_trans (split_piece sep_nl h) hz
theorem linesOf_count (z : Str) : (linesOf z).length ≤ z.length + 1 := by
  unfold linesOf
  split
  · exact Nat.zero_le _
  · exact split_count sep_nl z
section
variable {P : Program} {w : World} {K : PySem.W.Frag} {mg : Str → Option Value} {base : Heap} {f : Addr} {fd : FuncData}
theorem ok_lawDueTable (F : Fun K "_law_due_table" "_law_due_table" sLawDueTable f fd) (g : Gt mg) (c : Fk P w K mg base CX0 1 "_law_due_numbers" (spD K domNumbersOf)) (c2 : Fk P w K mg base CX0 2 "_law_due_state" (spD K domStateOf)) : FnOk P w K mg base CX0 3 f fd ["_law_text"] (spD K domLawDueTable) := by
  refine F.ok scLawDueTable (fun vs H Q E h => ?_) (fun cdv A outer s H vs Q E hr h => ?_)
  · obtain ⟨ds, d, h1, ⟨z, _, h2, _⟩, _⟩ := h
    rw [h1.length, h2]
    rfl
  obtain ⟨ds, d, h1, ⟨z, hz, rfl, rfl⟩, hq⟩ := h
  have s0 : Sl K (L2.start nDT vs) H [some (.str z), none, none, none, none, none, none, none] := sl_start h1 _ rfl
  have hzl : z.length + 2 ≤ sizeLine := Nat.le_trans (show _ ≤ 1000 by omega) (by decide)
  have body : PSs (xDT P w K mg base f cdv A outer s H E) (forBody ((defBody sLawDueTable).getD 1 (.Pass ⟨0, 0, 0, 0⟩))) (tbDT K z) := ⟨fun pins s' σ H' D I ⟨ln, acc, hln, ha, hal, sl, Dd, vs', e1, tb, kb, kg⟩ => by
    cases hb : badRow ln acc with
    | true =>
      have hp := dt_bad (z := z) (cdv := cdv) (A := A) (outer := outer) (s := s) (H := H) (E := E) (f := f) (base := base) g hln hb hr c c2
      have hp2 : PSs (xDT P w K mg base f cdv A outer s H E) (forBody ((defBody sLawDueTable).getD 1 (.Pass ⟨0, 0, 0, 0⟩))) _ := pn_parLen (l := lDT z acc ln) 4 5 1 g (pd_split (pd_var 3) pd_str (by decide +kernel) (Nat.le_trans (show _ ≤ 1000 by omega) (by decide))) hp scLawDueTable.nd (by decide) rfl (Or.inl rfl)
      refine PSs.run hp2 pins s' σ H' D I ⟨sl, Dd, _, e1, tb.at_, fun v H2 q2 dv => ⟨?_, fun x H3 q3 dx => kb hb x H3 (q2.trans q3) dx⟩⟩
      rw [kvs_len tb.len]
      exact ((sl.mono q2).set 4 dv).set 5 (.int _)
    | false =>
      obtain ⟨r, er, haf⟩ : ∃ r, rowOf ln = some r ∧ after r.1 acc = true := by
        unfold badRow at hb
        cases er : rowOf ln with
        | none => rw [er] at hb; cases hb
        | some r => rw [er] at hb; exact ⟨r, rfl, by simpa using hb⟩
      have hp := dt_good (z := z) (cdv := cdv) (A := A) (outer := outer) (s := s) (H := H) (E := E) (f := f) (base := base) g hln er haf ha hal hr c c2
      have hp2 : PSs (xDT P w K mg base f cdv A outer s H E) (forBody ((defBody sLawDueTable).getD 1 (.Pass ⟨0, 0, 0, 0⟩))) _ := pn_parLen (l := lDT z acc ln) 4 5 1 g (pd_split (pd_var 3) pd_str (by decide +kernel) (Nat.le_trans (show _ ≤ 1000 by omega) (by decide))) hp scLawDueTable.nd (by decide) rfl (Or.inl rfl)
      refine PSs.run hp2 pins s' σ H' D I ⟨sl, Dd, _, e1, tb.at_, fun v H2 q2 dv => ⟨?_, Dd, vs', ?_, tb.mono q2, fun σ' H3 o vs2 q3 => kg r er haf σ' H3 o vs2 (q2.trans q3)⟩⟩
      · rw [kvs_len tb.len]
        exact ((sl.mono q2).set 4 dv).set 5 (.int _)
      · rw [List.getElem?_set_ne (by decide), List.getElem?_set_ne (by decide)]
        exact e1⟩
  by_cases hd : z = "none"
  · have e0 : tableOf z = .ok [] := by unfold tableOf linesOf; rw [if_pos hd]; rfl
    rw [e0] at hq
    refine ⟨_, pss_cons (ps_par rfl scLawDueTable.nd (i := 1) (j := 2) rfl rfl (by decide) rfl rfl (pa_cons pe_dnewT (pa_cons (pd_tup (l := [some (.str z), none, none, none, none, none, none, none]) (ds := [.int (-1), .int (-1)]) (pda_cons (pd_neg pd_int) (pda1 (pd_neg pd_int))) (show 2 ≤ 100000 by decide)) pa_nil)) rfl)
      (pss_cons (ps_for PassesOwn.never rfl (pi_tup (pd_ifF (l := [some (.str z), none, none, none, none, none, none, none]) (pdt_cmp op_ne (neS_f hd) (pd_var 0) pd_str) pd_unit)) (pg_name (i := 3) scLawDueTable.nd rfl (Or.inl rfl)) body) (pss_one (ps_ret (pe_var (i := 1) rfl (Or.inl rfl) (by decide) (by decide))))), fun p hp => ⟨s0.mono (same_new hp), fun x H1 q1 d1 => ⟨.ref p, x, rfl, ?_⟩⟩⟩
    have s2 : Sl K (((L2.start nDT vs).set 1 (some (.ref p))).set 2 (some x)) H1 [some (.str z), none, some (eNs [-1, -1]), none, none, none, none, none] := (((s0.mono (same_new hp)).mono q1).unset 1).set 2 d1
    have hset : (((L2.start nDT vs).set 1 (some (.ref p))).set 2 (some x))[1]? = some (some (.ref p)) := by
      rw [List.getElem?_set_ne (by decide), List.getElem?_set_self (by rw [s0.len]; exact (show 1 < 8 by decide))]
    refine ⟨?_, fun y H2 q2 d2 => ?_⟩
    · exact s2.less rfl fun i d q => by
        match i with
        | 0 => exact q
        | 1 | 2 | 3 | 4 | 5 | 6 | 7 => cases q
        | n + 8 => cases q
    · cases d2 with
      | tup g1 g2 =>
        cases g2
        rename_i pt
        refine ⟨pt, rfl, ⟨_, SqT.of g1⟩, ?_⟩
        refine for_it (g := gName 3) (tb := tbDT K z) (walk_tup (K := K) (a := pt) (xs := [])) (fun i σ H' => σ[1]? = some (some (.ref p)) ∧ TabAt K H' p [] [] ∧ H' pt = some (.tup []) ∧ Same H H') ?_ (fun i σ H' _ h => SqT.of h.2.2.1) (fun i x σ Ha Hb hi _ _ => absurd hi (Nat.not_lt_zero _)) (fun σ H' ⟨k1, k2, k3, k4⟩ => ?_)
        · exact ⟨hset, ((tab_new H p).mono q1).mono q2, g1, ((same_new hp).trans q1).trans q2⟩
        · exact ⟨_, k1, hq _ _ k4 k2.dat⟩
  · have el : linesOf z = Txt.split z "\n" := by unfold linesOf; rw [if_neg hd]
    refine ⟨_, pss_cons (ps_par rfl scLawDueTable.nd (i := 1) (j := 2) rfl rfl (by decide) rfl rfl (pa_cons pe_dnewT (pa_cons (pd_tup (l := [some (.str z), none, none, none, none, none, none, none]) (ds := [.int (-1), .int (-1)]) (pda_cons (pd_neg pd_int) (pda1 (pd_neg pd_int))) (show 2 ≤ 100000 by decide)) pa_nil)) rfl)
      (pss_cons (ps_for PassesOwn.never rfl (pi_list (pe_ifExp (pdt_cmp (l := [some (.str z), none, none, none, none, none, none, none]) op_ne (neS_t hd) (pd_var 0) pd_str) (pe_splN (l := [some (.str z), none, none, none, none, none, none, none]) (pd_var 0) pd_str (by decide +kernel) hzl) peBot)) (pg_name (i := 3) scLawDueTable.nd rfl (Or.inl rfl)) body) (pss_one (ps_ret (pe_var (i := 1) rfl (Or.inl rfl) (by decide) (by decide))))), fun p hp => ⟨s0.mono (same_new hp), fun x H1 q1 d1 => ⟨.ref p, x, rfl, ?_⟩⟩⟩
    have s2 : Sl K (((L2.start nDT vs).set 1 (some (.ref p))).set 2 (some x)) H1 [some (.str z), none, some (eNs [-1, -1]), none, none, none, none, none] := (((s0.mono (same_new hp)).mono q1).unset 1).set 2 d1
    have s2' : Sl K (((L2.start nDT vs).set 1 (some (.ref p))).set 2 (some x)) H1 [some (.str z), none, none, none, none, none, none, none] := s2.less rfl fun i d q => by
        match i with
        | 0 => exact q
        | 1 | 2 | 3 | 4 | 5 | 6 | 7 => cases q
        | n + 8 => cases q
    have hset : (((L2.start nDT vs).set 1 (some (.ref p))).set 2 (some x))[1]? = some (some (.ref p)) := by
      rw [List.getElem?_set_ne (by decide), List.getElem?_set_self (by rw [s0.len]; exact (show 1 < 8 by decide))]
    refine ⟨s2', fun H2 q2 => L2.iteT ⟨s2'.mono q2, fun H3 L q3 hL => ⟨L, rfl, ⟨_, SqL.of upd_same⟩, ?_⟩⟩⟩
    have tb0 : TabAt K (upd H3 L (.lst ((Txt.split z "\n").map V.str))) p [] [] := ((((tab_new H p).mono q1).mono q2).mono q3).mono (same_new hL)
    have qA : Same H (upd H3 L (.lst ((Txt.split z "\n").map V.str))) := ((((same_new hp).trans q1).trans q2).trans q3).trans (same_new hL)
    rw [← el] at tb0 qA ⊢
    have hcount := linesOf_count z
    refine for_it (g := gName 3) (tb := tbDT K z) (walk_list (K := K) (a := L) (xs := (linesOf z).map V.str)) (fun i σ H' => ∃ acc vs', tabGo (linesOf z) [] = tabGo ((linesOf z).drop i) acc ∧ acc.length = i ∧ ascT acc ∧ σ[1]? = some (some (.ref p)) ∧ TabAt K H' p acc vs' ∧ Sl K σ H' [some (.str z), none, some (eNs (lastOf acc)), none, none, none, none, none] ∧ H' L = some (.lst ((linesOf z).map V.str)) ∧ Same H H') ?_ (fun i σ H' _ ⟨acc, vs', _, _, _, _, _, _, h7, _⟩ => SqL.of h7) (fun i x σ Ha Hb hi ⟨acc, vs', k1, k2, k3, k4, k5, k6, k7, k8⟩ y => ?_) (fun σ H' ⟨acc, vs', k1, k2, k3, k4, k5, k6, k7, k8⟩ => ?_)
    · exact ⟨[], [], rfl, rfl, List.Pairwise.nil, hset, tb0, ((s2.mono q2).mono q3).mono (same_new hL), upd_same, qA⟩
    · obtain ⟨rfl, hx⟩ := y
      rw [List.length_map] at hi
      have hln : (linesOf z)[i]? = some (linesOf z)[i] := List.getElem?_eq_getElem hi
      rw [List.getElem?_map, hln] at hx
      have hx' : x = .str (linesOf z)[i] := (Option.some.inj hx).symm
      subst hx'
      have hdrop : (linesOf z).drop i = (linesOf z)[i] :: (linesOf z).drop (i + 1) := List.drop_eq_getElem_cons hi
      rw [hdrop] at k1
      refine ⟨(linesOf z)[i], acc, linesOf_len hz (List.getElem_mem hi), k3, by omega, k6.set 3 (.str _), p, vs', ?_, k5, fun hb x H' q dx => ?_, fun r er haf σ' H2 o vs2 q t2 sl2 e2 => ⟨acc ++ [r], vs2, ?_, ?_, asc_snoc k3 haf, e2, t2, ?_, ?_, ?_⟩⟩
      · rw [List.getElem?_set_ne (by decide)]
        exact k4
      · rw [tabGo_bad hb] at k1
        have e1 : tableOf z = .error acc.length := k1
        rw [e1] at hq
        exact hq x H' (k8.trans q) dx
      · rw [k1, tabGo_good er haf]
      · rw [List.length_append, List.length_singleton, k2]
      · rw [lastOf_snoc]
        exact sl2
      · rw [upd_ne (fun e => by
          have a1 := q _ _ k5.at_
          have a2 := q _ _ k7
          rw [← e, a2] at a1
          cases a1)]
        exact q _ _ k7
      · exact same_mut (k8.trans q) hp
    · rw [List.length_map, List.drop_length] at k1
      have e1 : tableOf z = .ok acc := k1
      rw [e1] at hq
      exact ⟨_, k4, hq _ _ k8 k5.dat⟩
end
end K7


set_option Elab.async false
set_option linter.all false
set_option maxRecDepth 100000
/-! for v in d.values(), d with tuples as keys. -/
namespace K7
open PySem PySem.Spec PyProof.Rows L2
section
variable {X : Cx} {pins : List (Addr × Obj)} {σ : L2.St} {H : Hp} {s : Shared} {d : Addr} {o : Obj}
theorem frzTv {kvs : List (List L2.Key × V)} (I : L2.Inv X pins σ H s) (h : H d = some (.frz o (.dT kvs))) :
    (d == sysModules) = false ∧ s.heap.get? d = some o ∧ o.ExactDict ∧ ∃ (es : Array DictEntry) (ep : Nat), o.data = .dict es ep ∧ es.size = kvs.length ∧
      ∀ (i : Nat) (k : List L2.Key) (v : V), kvs[i]? = some (k, v) → ∃ (en : DictEntry), es[i]? = some en ∧ RelV v en.val := by
  obtain ⟨hd, z, hs, xs, pr, o', es, ep, ho, hx, hdt, he, _⟩ := I.hok d _ h
  rw [hd] at ho
  cases ho
  refine ⟨hs, hd, hx, es, ep, hdt, ?_, fun i k v e => ?_⟩
  · have l1 : es.size = xs.length := size_of_entries he
    have l2 : kvs.length = xs.length := Paired.length pr
    omega
  · obtain ⟨b, hb, e1, e2, e3⟩ := L2.paired_get pr e
    have q := entry_at he i
    rw [hb] at q
    exact ⟨_, q, e3⟩
end
/-- the values of the locked dict at d -/
def ItdT (d : Addr) (o : Obj) (kvs : List (List L2.Key × V)) : It :=
  ⟨fun i H => H d = some (.frz o (.dT kvs)) ∧ i < kvs.length, fun i H x H' => H' = H ∧ ∃ k, kvs[i]? = some (k, x), fun i H => H d = some (.frz o (.dT kvs)) ∧ kvs.length ≤ i⟩
theorem turn_vT {P : Program} {w : World} {K : PySem.W.Frag} {tg : Expr} {d : Addr} {o : Obj} {es : Array DictEntry} {ep : Nat} {kvs : List (List L2.Key × V)} (it : Addr) (hod : o.data = .dict es ep) : Turn P w K tg (ItdT d o kvs) [it] it (fun i h => h.IsValIter it d i kvs.length ep) where
  mem := by simp
  obj := fun i h st b hb => by
    have e : b = it := by simpa using hb
    subst e
    obtain ⟨oi, e, c, dd⟩ := st
    exact ⟨oi, e, fun v z => by rw [dd] at z; cases z⟩
  keep := fun i h h' st k => st.at fun oi e => k it (by simp) oi e
  item := by
    intro X hP hw hK hc i pins s σ H E I hf st hg
    subst hP hw hK
    obtain ⟨hd, hi⟩ := hg
    obtain ⟨f0, f1, f2, f3, f4, f5⟩ := hf it (by simp)
    obtain ⟨hs, hgd, hx, es', ep', hdt, hsz, ent⟩ := frzTv I hd
    obtain ⟨rfl, rfl⟩ := dict_ep hod hdt
    obtain ⟨⟨k, v⟩, hkv⟩ : ∃ p, kvs[i]? = some p := ⟨kvs[i], List.getElem?_eq_getElem hi⟩
    obtain ⟨en, hen, ru⟩ := ent i k v hkv
    have hlt : i < es'.size := by omega
    have een : es'[i] = en := by
      rw [Array.getElem?_eq_getElem hlt] at hen
      exact Option.some.inj hen
    rw [← hsz] at st
    refine PySem.wpAny_pyNext_values_item_raw st ⟨o, hgd, hx, hdt⟩ hlt fun h' st' sb => ?_
    have I1 : L2.Inv X pins σ H { s with heap := h' } := I.turned (t' := s.toks) (fun b ob hb e => (sb.2 b hb).trans e) f0 f1 f3 f4 f5
    obtain ⟨oi, e, c, dd⟩ := id st'
    rw [een]
    refine ⟨en.val, rfl, go_of (s := { s with heap := h' }) e c dd (by decide) ⟨v, H, I1, ru, ⟨rfl, k, hkv⟩, ?_, fun b hb => (hf b hb).1⟩⟩
    show h'.IsValIter it d (i + 1) kvs.length _
    rw [← hsz]
    exact st'
  done := by
    intro X hP hw hK hc i pins s σ H E I hf st hg
    subst hP hw hK
    obtain ⟨hd, hi⟩ := hg
    obtain ⟨f0, f1, f2, f3, f4, f5⟩ := hf it (by simp)
    obtain ⟨hs, hgd, hx, es', ep', hdt, hsz, ent⟩ := frzTv I hd
    obtain ⟨rfl, rfl⟩ := dict_ep hod hdt
    rw [← hsz] at st
    exact PySem.wpAny_pyNext_values_end_raw (I.ok.hd hc) st ⟨o, hgd, hx, hdt⟩ (by omega) fun h' eb => ⟨rfl, I.turned (t' := s.toks) (fun b ob hb e => eb b ob hb e) f0 f1 f3 f4 f5⟩
  self := fun A i s Q E st h => wpAny_pyIter_valiter st h
def iValsT (td : TE) : TI := fun σ H R => td σ H fun x H1 => ∃ d o kvs, x = .ref d ∧ H1 d = some (.frz o (.dT kvs)) ∧ R (ItdT d o kvs) H1
section
variable {X : Cx} {tg e : Expr} {td : TE} {apos cpos : Pos}
theorem pi_vT (he : PE X e td) (hbase : attributeBase e "values" X.env (eval e X.env) = eval e X.env := by rfl) (hline : (apos.endLine == cpos.line) = true := by rfl) : PI X tg (.Call (.Attribute e "values" apos) [] [] cpos) (iValsT td) := by
  refine ⟨fun pins s σ H R I h => ?_⟩
  refine wpAny_Call_method (T := "dict") (id := "dict.values") hbase rfl hline PySem.F.plainAttrs_dict PySem.F.slot_dict_values PySem.F.type_dict_values (thn (he.run pins s σ H _ I h) fun u s1 ⟨x, H1, I1, rx, d, o, kvs, ex, hd, q⟩ => ?_)
  subst ex
  obtain rfl : u = Value.ref d := rx
  obtain ⟨hs, hgd, hx, es, ep, hdt, hsz, ent⟩ := frzTv I1 hd
  have hraw : s1.heap.DictRaw d es ep := ⟨o, hgd, hx, hdt⟩
  have hty : s1.TypeIs (.ref d) "dict" := ⟨o, hgd, hx.1⟩
  refine ⟨hty, fun a e => by cases e; exact ⟨o, hgd, hx.2.1⟩, ?_⟩
  have I2 : L2.Inv X pins σ H1 { s1 with heap := s1.heap.push { cls := .type "dict_values", data := .fields #[.ref d] } } := I1.kept (t' := s1.toks) fun b ob q => Heap.get?_push_of_some _ q
  have fin : wpAny (model X.prog X.w) X.A (pyIter (.ref s1.heap.objs.size)) (PIE X pins σ tg R) X.xe { s1 with heap := s1.heap.push { cls := .type "dict_values", data := .fields #[.ref d] } } := by
    refine PySem.wpAny_pyIter_values_raw (d := d) (es := es) (ep := ep) ⟨_, Heap.get?_push_size _ rfl, rfl, rfl⟩ ⟨o, Heap.get?_push_of_some _ hgd, hx, hdt⟩ (pi_one (tk := s1.toks) I2 _ (turn_vT _ hdt) ⟨_, Heap.get?_push_size _ rfl, rfl, ?_⟩ q)
    rw [hsz] <;> rfl
  show wpAny _ _ (callWith cpos (.builtin "dict.values") [.ref d] [] []) _ X.xe s1
  exact method_meetsIn PySem.F.slot_dict_values PySem.F.entry_dict_values rfl (PySem.evalArgs_none ⟨rfl, hty, PySem.F.args_dict_values_1 _, _, PySem.meets_dict_values_raw d hs, ⟨es, ep, hraw⟩, fin⟩)
end
theorem walk_vT {d : Addr} {o : Obj} {kvs : List (List L2.Key × V)} : Walk (ItdT d o kvs) kvs.length (fun H => H d = some (.frz o (.dT kvs))) (fun i H x H' => H' = H ∧ ∃ k, kvs[i]? = some (k, x)) :=
  ⟨fun _ _ hi q => ⟨q, hi⟩, fun _ q => ⟨q, Nat.le_refl _⟩, fun _ _ _ _ _ _ y => y⟩
end K7


set_option Elab.async false
set_option linter.all false
set_option maxRecDepth 100000
/-! Tables walked; is_table_row. -/
namespace K7
open PySem PySem.Spec PyProof.Rows L2

theorem kD_inj : ∀ {a b : L2.Key}, kD a = kD b → a = b
  | .inl i, .inl j, h => by
    have h' : PyData.int i = .int j := h
    injection h' with h'
    rw [h']
  | .inl i, .inr y, h => by have h' : PyData.int i = .str y := h; cases h'
  | .inr x, .inl j, h => by have h' : PyData.str x = .int j := h; cases h'
  | .inr x, .inr y, h => by
    have h' : PyData.str x = .str y := h
    injection h' with h'
    rw [h']
theorem kDs_inj : ∀ {a b : List L2.Key}, a.map kD = b.map kD → a = b
  | [], [], _ => rfl
  | [], _ :: _, h => by cases h
  | _ :: _, [], h => by cases h
  | x :: a, y :: b, h => by
    rw [List.map_cons, List.map_cons] at h
    injection h with h1 h2
    rw [kD_inj h1, kDs_inj h2]
theorem keyD_inj {a b : List L2.Key} (h : keyD a = keyD b) : a = b := by
  have h' : PyData.tuple (a.map kD) = .tuple (b.map kD) := h
  injection h' with h'
  exact kDs_inj h'
section
variable {K : PySem.W.Frag} {H : Hp} {rows : Tab}
theorem tab_split : ∀ {kvs : List (List L2.Key × V)} {es : List PyData} {rows : Tab}, es.length = kvs.length → (kvs.map fun q => keyD q.1).zip es = rows.map (fun r => (eNs r.1, eSt r.2)) → kvs.map Prod.fst = rows.map (fun r => keyI r.1) ∧ es = rows.map fun r => eSt r.2
  | [], [], [], _, _ => ⟨rfl, rfl⟩
  | [], [], _ :: _, _, h => by cases h
  | [], _ :: _, _, h, _ => by cases h
  | _ :: _, [], _, h, _ => by cases h
  | q :: kvs, e :: es, [], _, h => by cases h
  | q :: kvs, e :: es, r :: rows, hl, h => by
    rw [List.map_cons, List.zip_cons_cons, List.map_cons] at h
    injection h with h1 h2
    injection h1 with h1 h3
    obtain ⟨a, b⟩ := tab_split (by simpa using hl) h2
    refine ⟨?_, by rw [List.map_cons, h3, b]⟩
    rw [List.map_cons, List.map_cons, a, keyD_inj (h1.trans (keyI_D r.1).symm)]
theorem tab_of {x : V} (h : Da K H x (eTab rows)) : ∃ p vs, x = .ref p ∧ TabAt K H p rows vs := by
  obtain ⟨p, kvs, es, rfl, h1, h2, h3⟩ := tab_dat h trivial
  have hl := h2.length
  rw [List.length_map] at hl
  obtain ⟨a, b⟩ := tab_split hl.symm h3
  refine ⟨p, kvs.map Prod.snd, rfl, ?_, by rw [← b]; exact h2⟩
  rw [h1]
  unfold kvsOf
  rw [← a]
  congr 2
  clear h1 h2 h3 hl a
  induction kvs with
  | nil => rfl
  | cons q kvs ih => rw [List.map_cons, List.map_cons, List.zip_cons_cons, ← ih]
end
/-! ### under a lock -/
section
variable {K : PySem.W.Frag} {H H' : Hp} {p : Addr} {o : Obj} {kvs : List (List L2.Key × V)}
theorem rd_unlock {a : Addr} {u : HO} (hp : H p = some (.frz o (.dT kvs))) (hu : ∀ k, u ≠ .dT k) (h : Rd H a u) (hf : ∀ b v, u ≠ .frz b v) (w : HO) : Rd (upd H p w) a u := by
  rcases h with h | ⟨ob, h⟩
  · refine .inl ?_
    rw [upd_ne (fun e => by rw [e, hp] at h; exact hf _ _ (Option.some.inj h).symm)]
    exact h
  · refine .inr ⟨ob, ?_⟩
    rw [upd_ne (fun e => by
      rw [e, hp] at h
      have := Option.some.inj h
      injection this with _ this
      exact hu _ this.symm)]
    exact h
mutual
theorem Da.unlock (hp : H p = some (.frz o (.dT kvs))) (w : HO) : ∀ {v : V} {d : PyData}, Da K H v d → Da K (upd H p w) v d
  | _, _, .non => .non
  | _, _, .bl b => .bl b
  | _, _, .int n => .int n
  | _, _, .str z => .str z
  | _, _, .lst h1 h2 => .lst (by
      rcases h1 with h1 | h1
      · exact .inl (rd_unlock hp (fun k e => by cases e) h1 (fun b v e => by cases e) w)
      · exact .inr h1) (DaAll.unlock hp w h2)
  | _, _, .tup h1 h2 => .tup (by
      rw [upd_ne (fun e => by rw [e, hp] at h1; cases h1)]
      exact h1) (DaAll.unlock hp w h2)
  | _, _, .dct h1 h2 => .dct (by
      rw [upd_ne (fun e => by rw [e, hp] at h1; cases h1)]
      exact h1) (DaAll.unlock hp w h2)
theorem DaAll.unlock (hp : H p = some (.frz o (.dT kvs))) (w : HO) : ∀ {vs : List V} {ds : List PyData}, DaAll K H vs ds → DaAll K (upd H p w) vs ds
  | _, _, .nil => .nil
  | _, _, .cons h1 h2 => .cons (Da.unlock hp w h1) (DaAll.unlock hp w h2)
end
theorem same_lock {u : HO} {od : Obj} (hp : H p = some u) (e : Same (upd H p (.frz od u)) H') : Same H (upd H' p u) := fun b v q => by
  by_cases hb : b = p
  · subst hb
    rw [hp] at q
    rw [upd_same]
    exact q
  · rw [upd_ne hb]
    exact e _ _ (by rw [upd_ne hb]; exact q)
end
/-- a comprehension over a table's keys or values: the table in slot i -/
theorem pd_tabComp {X : Cx} {l : Sk} {rows : Tab} {x : Str} (i j : Nat) {px pos : Pos} {elt iter : Expr} {scope : Scope} {enc : List Int × St2 → PyData} (f : List Int × St2 → PyData) (he0 : l[i]? = some (some (eTab rows))) (hi0 : immS (l.set i none) = true)
    (hs : SrcP X (l.set i none) (fun σ H => ∃ p od vs, σ[i]? = some (some (.ref p)) ∧ H p = some (.frz od (.dT (kvsOf rows vs))) ∧ vs.length = rows.length ∧ DaAll X.K H vs (rows.map fun r => eSt r.2)) (.Name x px) iter (rows.map enc))
    (nd : X.N.Nodup) (ok : blkC X.N X.env.scope scope [(x, j)] = true) (hl : rows.length ≤ 100000) (hi : ∀ r ∈ rows, imm (f r) = true)
    (he : ∀ (s : Shared) (H : Hp) (C : Addr) (cl : List (Str × Addr)) (fp : List Addr), ∀ r ∈ rows, PD (X.blk s H scope (compEnvC scope cl C X.env) fp) ((wipeK (l.set i none) [j]).set j (some (enc r))) elt (f r))
    (hfe : ∀ r r', enc r = enc r' → f r = f r')
    (hn : X.N[j]? = some x := by rfl) (hx : Loc (compEnvC scope [] 0 X.env).scope x := by first | exact .inl rfl | exact .inr rfl) (hfn : scope.names.lookup x = some .cell ∨ (compEnvC scope [] 0 X.env).scope.names.lookup x = some .local := by first | exact .inl rfl | exact .inr rfl)
    (hc : X.calm = true := by rfl) (hfs : ∀ y, foldedSetIterable iter X.env y = pure y := by intro _; rfl) :
    PD X l (.ListComp elt [⟨.Name x px, iter, [], 0⟩] scope pos) (.list (rows.map f)) := by
  classical
  let g : PyData → PyData := fun d => if h : ∃ r, enc r = d then f (Classical.choose h) else .none
  have hg : ∀ r, g (enc r) = f r := fun r => by
    have h : ∃ r', enc r' = enc r := ⟨r, rfl⟩
    show (if h : ∃ r', enc r' = enc r then f (Classical.choose h) else .none) = f r
    rw [dif_pos h]
    exact hfe _ _ (Classical.choose_spec h)
  have hE := pe_lock (walk_compP (l := l.set i none) (i := j) (p := fun _ => true) (f := g) (tt := tYes) (ifs := []) (pos := pos) hs nd ok (by rw [List.length_map]; exact hl) (fun d hd _ => by
    obtain ⟨r, hr, rfl⟩ := List.mem_map.mp hd
    rw [hg]
    exact hi r hr) hn hx hfn (fun s H C cl fp => pts_nil) (fun d hd σ H Q q => q.2 H (Same.refl H)) (fun s H C cl fp d hd _ => by
    obtain ⟨r, hr, rfl⟩ := List.mem_map.mp hd
    rw [hg]
    exact he s H C cl fp r hr) hc hfs)
  refine peImp hE fun σ H Q ⟨s, k⟩ => ?_
  obtain ⟨y, e1, e2⟩ := s.has i _ he0
  obtain ⟨p, vs, rfl, tb⟩ := tab_of e2
  refine ⟨p, _, tb.at_, trivial, fun od => ?_⟩
  have sl0 : Sl X.K σ H (l.set i none) := by
    refine s.less (by rw [List.length_set]) fun m d q => ?_
    by_cases hm : i = m
    · subst hm
      by_cases hlt : i < l.length
      · rw [List.getElem?_set_self hlt] at q
        cases Option.some.inj q
      · rw [List.getElem?_eq_none (by rw [List.length_set]; omega)] at q
        cases q
    · rw [List.getElem?_set_ne hm] at q
      exact q
  have hids : immAll (rows.map fun r => eSt r.2) = true := immAll_mem fun d hd => by
    obtain ⟨r, _, rfl⟩ := List.mem_map.mp hd
    exact imm_eSt r.2
  refine ⟨⟨p, od, vs, e1, upd_same, tb.len, tb.da.write tb.at_ trivial hids⟩, sl0.write hi0 tb.at_ trivial, fun z H' q hz => ?_⟩
  have hfz : H' p = some (.frz od (.dT (kvsOf rows vs))) := q _ _ upd_same
  refine ⟨hfz, k z _ (same_lock tb.at_ q) ?_⟩
  rw [List.filter_eq_self.mpr (by intros; rfl), List.map_map, show (g ∘ enc) = f from funext hg] at hz
  exact hz.unlock hfz _
section
variable {X : Cx} {l : Sk} {rows : Tab} {x : Str} {px vp apos cpos : Pos} {v : Str}
theorem src_keysT (i : Nat) (hN : X.N[i]? = some v := by rfl) (hv : Vis X.env.scope v := by first | exact Or.inl rfl | exact Or.inr (Or.inl rfl) | exact Or.inr (Or.inr rfl))
    (hd : (v == ("__debug__" : Str)) = false := by decide) (hcd : (v == ("__classdict__" : Str)) = false := by decide) :
    SrcP X l (fun σ H => ∃ p od vs, σ[i]? = some (some (.ref p)) ∧ H p = some (.frz od (.dT (kvsOf rows vs))) ∧ vs.length = rows.length ∧ DaAll X.K H vs (rows.map fun r => eSt r.2)) (.Name x px) (.Name v vp) (rows.map fun r => eNs r.1) := by
  refine ⟨_, pi_keys (pe_var (i := i) hN hv hd hcd), fun σ H R s ⟨p, od, vs, h1, h2, h3, h4⟩ k => ?_⟩
  refine ⟨_, h1, p, od, rfl, .inr ⟨_, h2, k _ H (fun H' => H' p = some (.frz od (.dT (kvsOf rows vs)))) (Same.refl H) h2 (fun Ha Hb e q => e _ _ q) ?_⟩⟩
  rw [List.length_map, ← kvs_len h3]
  refine Walk.mono walk_keysT (fun H q => q) fun m Ha y Hb hm q yy => ?_
  obtain ⟨rfl, k', w', q', e1, rfl, e2⟩ := yy
  have e3 : (rows.map fun r => keyI r.1)[m]? = some k' := by
    rw [← kvs_fst h3, List.getElem?_map, e1]
    rfl
  rw [List.getElem?_map] at e3
  cases hr : rows[m]? with
  | none => rw [hr] at e3; cases e3
  | some r =>
    rw [hr] at e3
    have e4 : keyI r.1 = k' := Option.some.inj e3
    refine ⟨rfl, eNs r.1, by rw [List.getElem?_map, hr]; rfl, eNs_of ?_⟩
    rw [e2, ← e4, keyI_V]
theorem src_valsT (i : Nat) (hN : X.N[i]? = some v := by rfl) (hv : Vis X.env.scope v := by first | exact Or.inl rfl | exact Or.inr (Or.inl rfl) | exact Or.inr (Or.inr rfl))
    (hd : (v == ("__debug__" : Str)) = false := by decide) (hcd : (v == ("__classdict__" : Str)) = false := by decide) (hbase : attributeBase (.Name v vp) "values" X.env (eval (.Name v vp) X.env) = eval (.Name v vp) X.env := by rfl) (hline : (apos.endLine == cpos.line) = true := by rfl) :
    SrcP X l (fun σ H => ∃ p od vs, σ[i]? = some (some (.ref p)) ∧ H p = some (.frz od (.dT (kvsOf rows vs))) ∧ vs.length = rows.length ∧ DaAll X.K H vs (rows.map fun r => eSt r.2)) (.Name x px) (.Call (.Attribute (.Name v vp) "values" apos) [] [] cpos) (rows.map fun r => eSt r.2) := by
  refine ⟨_, pi_vT (pe_var (i := i) hN hv hd hcd) hbase hline, fun σ H R s ⟨p, od, vs, h1, h2, h3, h4⟩ k => ?_⟩
  refine ⟨_, h1, p, od, _, rfl, h2, k _ H (fun H' => H' p = some (.frz od (.dT (kvsOf rows vs))) ∧ DaAll X.K H' vs (rows.map fun (r : List Int × St2) => eSt r.2)) (Same.refl H) ⟨h2, h4⟩ (fun Ha Hb e q => ⟨e _ _ q.1, q.2.mono e⟩) ?_⟩
  rw [List.length_map, ← kvs_len h3]
  refine Walk.mono walk_vT (fun H q => q.1) fun m Ha y Hb hm q yy => ?_
  obtain ⟨rfl, k', e1⟩ := yy
  have e3 : vs[m]? = some y := by
    rw [← kvs_snd h3, List.getElem?_map, e1]
    rfl
  obtain ⟨d, hd, hda⟩ := q.2.at' e3
  exact ⟨rfl, d, hd, hda⟩
end
end K7


set_option Elab.async false
set_option linter.all false
set_option maxRecDepth 100000
/-! is_table_row, write_table. -/
namespace K7
open PySem PySem.Spec PyProof.Rows L2

structure TabOk (rows : Tab) : Prop where
  ok : ∀ r ∈ rows, RowOk r
  few : ∀ r ∈ rows, FewS r.2
  len : rows.length ≤ 10
  asc : ascT rows
abbrev sIsTableRow : Stmt := top 29
abbrev sWriteTable : Stmt := top 30
theorem scIsTableRow : FnScope ["value", "key", "state"] ["value"] (defScope sIsTableRow) := ⟨rfl, rfl, rfl, by decide +kernel, rfl, by decide +kernel, by decide +kernel⟩
theorem scWriteTable : FnScope ["table", "lines", "key"] ["table"] (defScope sWriteTable) := ⟨rfl, rfl, rfl, by decide +kernel, rfl, by decide +kernel, by decide +kernel⟩
theorem eSt_inj : ∀ {a b : St2}, eSt a = eSt b → a = b := fun {a b} h => by
  have h' : PyData.tuple [eNs a.1, .tuple (a.2.map eNs)] = .tuple [eNs b.1, .tuple (b.2.map eNs)] := h
  injection h' with h'
  injection h' with h1 h2
  injection h2 with h2 _
  injection h2 with h2
  have e1 := eNs_inj _ _ h1
  have e2 : a.2 = b.2 := by
    have : ∀ xs ys : List (List Int), xs.map eNs = ys.map eNs → xs = ys := fun xs => by
      induction xs with
      | nil => intro ys h; cases ys with
        | nil => rfl
        | cons y ys => cases h
      | cons x xs ih => intro ys h; cases ys with
        | nil => cases h
        | cons y ys =>
          rw [List.map_cons, List.map_cons] at h
          injection h with h1 h2
          rw [eNs_inj _ _ h1, ih _ h2]
    exact this _ _ h2
  exact Prod.ext e1 e2
theorem all_true {α : Type} (as : List α) : (as.map fun _ => true).all id = true := by rw [List.all_map]; simp
/-- lines = [..] on a line of its own -/
theorem pr_setCompT {α : Type} {X : Cx} {l : Sk} {x y : Str} (i m : Nat) {px pos spos py : Pos} {elt iter : Expr} {scope : Scope} {as : List α} {enc : α → PyData} {rest : List Stmt} {d : PyData} (inj : ∀ a b, enc a = enc b → a = b) (f : α → PyData)
    (hs : Src X l (.Name x px) iter (as.map enc)) (nd : X.N.Nodup) (ok : blkC X.N X.env.scope scope [(x, i)] = true) (hl : as.length ≤ 100000) (hi : ∀ a ∈ as, imm (f a) = true)
    (he : ∀ (s : Shared) (H : Hp) (C : Addr) (cl : List (Str × Addr)) (fp : List Addr), ∀ a ∈ as, PD (X.blk s H scope (compEnvC scope cl C X.env) fp) ((wipeK l [i]).set i (some (enc a))) elt (f a))
    (r : PR X (l.set m (some (.list (as.map f)))) rest d)
    (hn : X.N[i]? = some x := by rfl) (hx : Loc (compEnvC scope [] 0 X.env).scope x := by first | exact .inl rfl | exact .inr rfl) (hfn : scope.names.lookup x = some .cell ∨ (compEnvC scope [] 0 X.env).scope.names.lookup x = some .local := by first | exact .inl rfl | exact .inr rfl)
    (hc : X.calm = true := by rfl) (hfs : ∀ y, foldedSetIterable iter X.env y = pure y := by intro _; rfl)
    (hy : X.N[m]? = some y := by rfl) (hyl : X.env.scope.names.lookup y = some .local := by rfl) (hsw : swapsWith (.ListComp elt [⟨.Name x px, iter, [], 0⟩] scope pos) (some (.Name y py)) spos.line X.env = pure true := by rfl) :
    PR X l (.Assign [.Name y py] (.ListComp elt [⟨.Name x px, iter, [], 0⟩] scope pos) spos :: rest) d := by
  have h := set_compP (l := l) (i := i) (p := fun _ => true) (f := viaE enc f) (tt := tYes) (ifs := []) (pos := pos) hs.p nd ok (by rw [List.length_map]; exact hl) (fun d hd _ => by
    obtain ⟨a, ha, rfl⟩ := List.mem_map.mp hd
    rw [viaE_eq inj]
    exact hi a ha) hn hx hfn (fun s H C cl fp => pts_nil) (fun d hd σ H Q q => q.2 H (Same.refl H)) (fun s H C cl fp d hd _ => by
    obtain ⟨a, ha, rfl⟩ := List.mem_map.mp hd
    rw [viaE_eq inj]
    exact he s H C cl fp a ha) hc hfs hy hyl hsw
  rw [List.filter_eq_self.mpr (by intros; rfl), List.map_map, show viaE enc f ∘ enc = f from funext fun a => viaE_eq inj f a] at h
  exact pssImp (pss_cons h r) fun D σ H ⟨s, k⟩ => ⟨trivial, s, fun z H1 e1 q1 => ⟨(s.mono e1).set m q1, fun w' H2 e2 q2 => k w' H2 (e1.trans e2) q2⟩⟩
/-! ### list(table), table[key] -/
theorem keys_da {K : PySem.W.Frag} {H : Hp} : ∀ {kvs : List (List L2.Key × V)} {bs : List Addr} {ks : List (List Int)}, Paired (fun (p : List L2.Key × V) b => H b = some (.tup (p.1.map kV))) kvs bs → kvs.map Prod.fst = ks.map keyI → DaAll K H (bs.map V.ref) (ks.map eNs)
  | [], [], [], .nil, _ => .nil
  | [], [], _ :: _, .nil, h => by cases h
  | q :: kvs, b :: bs, [], .cons _ _, h => by cases h
  | q :: kvs, b :: bs, k :: ks, .cons h1 h2, h => by
    rw [List.map_cons, List.map_cons] at h
    injection h with e1 e2
    refine .cons (eNs_of ?_) (keys_da h2 e2)
    rw [h1, e1, keyI_V]
section
variable {X : Cx} {l : Sk} {e a b : Expr} {pos p : Pos} {rows : Tab}
theorem pd_listT (g : Gt X.mg) (h : PD X l e (eTab rows)) (hc : X.calm = true := by rfl) (hg : Gl X "list" := by rfl) (he : starEach [e] X.env = (false, eval e X.env) :: starEach [] X.env := by rfl) :
    PD X l (.Call (.Name "list" p) [e] [] pos) (.list ((rows.map (·.1)).map eNs)) :=
  pd_callTy (call_list_dT hc) g.list (by decide +kernel) (fun vs H Q hv k => by
    cases hv with
    | cons h1 h2 =>
      cases h2
      obtain ⟨q, vs', rfl, tb⟩ := tab_of h1
      refine ⟨q, _, rfl, Rd.of tb.at_, fun r bs hr hk => k _ _ (same_new hr) (.lst (SqL.of upd_same) ?_)⟩
      refine DaAll.mono (same_new hr) (keys_da hk ?_)
      rw [kvs_fst tb.len, List.map_map]
      rfl) (pda1 h he) hg (by decide) (by decide) he (by rfl)
theorem val_at {K : PySem.W.Frag} {H : Hp} : ∀ {rows : Tab} {vs : List V} {r : List Int × St2}, DaAll K H vs (rows.map fun r => eSt r.2) → (rows.map (·.1)).Nodup → r ∈ rows → ∃ v, valV (kvsOf rows vs) (keyI r.1) = some v ∧ Da K H v (eSt r.2)
  | q :: rows, v :: vs, r, .cons h1 h2, nd, hr => by
    rw [List.map_cons] at nd
    have nd' := List.nodup_cons.mp nd
    have ek : kvsOf (q :: rows) (v :: vs) = (keyI q.1, v) :: kvsOf rows vs := rfl
    rw [ek]
    rcases List.mem_cons.mp hr with e | hr
    · subst e
      exact ⟨v, valV_pos rfl, h1⟩
    · have hne : ¬ keyI q.1 = keyI r.1 := fun e => nd'.1 (by rw [keyI_inj e]; exact List.mem_map.mpr ⟨r, hr, rfl⟩)
      rw [valV_neg hne]
      exact val_at h2 nd'.2 hr
theorem pd_dget {r : List Int × St2} (hu : X.A.units + 1 < cLine) (ha : PD X l a (eTab rows)) (hb : PD X l b (eNs r.1)) (nd : (rows.map (·.1)).Nodup) (hr : r ∈ rows) (hs : NoSl b := by exact fun _ _ => rfl) : PD X l (.Subscript a b pos) (eSt r.2) :=
  peImp (pe_dget hu ha hb hs) fun σ H Q ⟨s, k⟩ => ⟨s, fun x H1 e1 q1 => ⟨s.mono e1, fun y H2 e2 q2 => by
    obtain ⟨q, vs, rfl, tb⟩ := tab_of q1
    obtain ⟨t, rfl, ht⟩ := eNs_at q2
    have tb2 := tb.mono e2
    obtain ⟨v, hv, dv⟩ := val_at tb2.da nd hr
    exact ⟨q, v, rfl, by rw [← hv]; exact DGet.t tb2.at_ (by rw [keyI_V]; exact ht), k v H2 (e1.trans e2) dv⟩⟩⟩
/-- f"{i} {j}: {z}" -/
theorem pd_row {i j : Int} {z : Str} {e1 e2 e3 : Expr} {p1 p2 p3 q1 q2 : Pos} {c1 c2 : Nat} (h1 : PD X l e1 (.int i)) (h2 : PD X l e2 (.int j)) (h3 : PD X l e3 (.str z)) (hi : Nm i) (hj : Nm j) (hz : z.length ≤ 100000) :
    PD X l (.JoinedStr [.FormattedValue e1 (-1) none p1, .Constant (.str " ") c1 q1, .FormattedValue e2 (-1) none p2, .Constant (.str ": ") c2 q2, .FormattedValue e3 (-1) none p3] pos) (.str (Str.empty ++ sN i ++ " " ++ sN j ++ ": " ++ z)) := by
  have l1 : (Str.ofString (toString i)).length ≤ 60 := sN_len hi
  have l2 : (Str.ofString (toString j)).length ≤ 60 := sN_len hj
  have ls : ∀ a b : Str, (a ++ b).length = a.length + b.length := fun a b => by rw [TL.len_tl, TL.tl_append, List.length_append, ← TL.len_tl, ← TL.len_tl]
  have le : Str.empty.length = 0 := by decide +kernel
  have lsp : (" " : Str).length = 1 := by decide +kernel
  have lco : (": " : Str).length = 2 := by decide +kernel
  have big : ∀ n : Nat, n ≤ 200000 → n ≤ sizeLine := fun n hn => Nat.le_trans hn (by decide)
  refine peImp (pe_joined (.cons (pe_fmt h1) (.cons (pd_str (l := l)) (.cons (pe_fmt h2) (.cons (pd_str (l := l)) (.cons (pe_fmt h3) .nil)))))) fun σ H Q ⟨s, k⟩ => ?_
  refine ⟨s, fun x H1 e1 d1 => ?_⟩
  cases d1
  refine .inr ⟨i, rfl, nm_log hi, _, rfl, big _ (by rw [ls, le]; omega), s.mono e1, fun x H2 e2 d2 => ?_⟩
  cases d2
  refine ⟨_, rfl, big _ (by rw [ls, ls, le, lsp]; omega), (s.mono e1).mono e2, fun x H3 e3 d3 => ?_⟩
  cases d3
  refine .inr ⟨j, rfl, nm_log hj, _, rfl, big _ (by rw [ls, ls, ls, le, lsp]; omega), ((s.mono e1).mono e2).mono e3, fun x H4 e4 d4 => ?_⟩
  cases d4
  refine ⟨_, rfl, big _ (by rw [ls, ls, ls, ls, le, lsp, lco]; omega), (((s.mono e1).mono e2).mono e3).mono e4, fun x H5 e5 d5 => ?_⟩
  cases d5
  exact .inl ⟨z, rfl, big _ (by omega), z, rfl, big _ (by rw [ls, ls, ls, ls, ls, le, lsp, lco]; omega), k _ H5 ((((e1.trans e2).trans e3).trans e4).trans e5) (.str _)⟩
end
section
variable {P : Program} {w : World} {K : PySem.W.Frag} {mg : Str → Option Value} {base : Heap} {f : Addr} {fd : FuncData}
def domIsTableRow (ds : List PyData) (d : PyData) : Prop := ∃ rows, TabOk rows ∧ ds = [eTab rows] ∧ d = .bool true
theorem ok_isTableRow (F : Fun K "is_table_row" "is_table_row" sIsTableRow f fd) (g : Gt mg) (c : Fk P w K mg base CX0 3 "are_numbers" (spD K domAreNumbers)) (c2 : Fk P w K mg base CX0 5 "is_state_row" (spD K domIsStateRow)) : FnOk P w K mg base CX0 6 f fd ["value"] (spD K domIsTableRow) := by
  refine fn_data F scIsTableRow (fun ds d ⟨z, _, h, _⟩ => by rw [h]; rfl) fun cdv A outer s H E ds d hr h => ?_
  obtain ⟨rows, ht, rfl, rfl⟩ := h
  have b1 : PySem.bootBuiltins "dict" = some (.type "dict") := by decide +kernel
  have hlen := ht.len
  refine pr_ifF (pdt_w (pdw_orF (pdt_not (v := true) (pdt_val (pd_isi (d := eTab rows) (T := "dict") (r := true) g.isinstance g.dict b1 (pd_var 0) (fun _ q => by cases q) (show kitB "dict" "dict" = some true by decide +kernel))))
    (pdw_or1 (pdt_not (v := true) (pdt_val (pd_eq (pd_all (bs := rows.map fun _ => true) g (pd_eq (pd_tabComp (l := [some (eTab rows), none, none]) (rows := rows) 0 1 (fun _ => .bool true) rfl (by rfl) (src_keysT 0) scIsTableRow.nd (by rfl) (by omega) (fun _ _ => by simp [imm]) (fun s H C cl fp r hrr => ?_) (fun _ _ _ => rfl)) (by rw [List.map_map]; rfl))) (congrArg PyData.bool (all_true rows)))))))) (pr_ret (pd_eq (pd_all (bs := rows.map fun _ => true) g (pd_eq (pd_tabComp (l := [some (eTab rows), none, none]) (rows := rows) 0 2 (fun _ => .bool true) rfl (by rfl) (src_valsT 0) scIsTableRow.nd (by rfl) (by omega) (fun _ _ => by simp [imm]) (fun s H C cl fp r hrr => ?_) (fun _ _ _ => rfl)) (by rw [List.map_map]; rfl))) (congrArg PyData.bool (all_true rows))))
  · have ho := ht.ok r hrr
    exact pd_andT (pd_call c hr (by decide) (pda1 (pd_var 1)) ⟨some r.1, fun ns e => by
      have e := Option.some.inj e
      subst e
      exact ⟨ho.k, by have := ho.l; omega⟩, rfl, rfl⟩) (pd_one (pd_cmp op_eq (eqI_t (by rw [List.length_map, ho.l]; rfl)) (pd_lenT (ds := r.1.map .int) g (pd_var 1)) pd_int))
  · have ho := (ht.ok r hrr).s
    have hn := ht.few r hrr
    have hm := stOk_mk ho
    have hl := hn.len
    refine pd_call c2 hr (by decide) (pda1 (pd_var 2)) ⟨some r.2.1, r.2.2.map some, few_nmO hn.n1, fun o ho => ?_, by rw [List.length_map]; omega, by rw [eRow_st hm], by rw [rowB, hm]; rfl⟩
    obtain ⟨c, hc, rfl⟩ := List.mem_map.mp ho
    exact few_nmO (hn.n2 c hc)
theorem asc_nodup {rows : Tab} (h : ascT rows) : (rows.map (·.1)).Nodup := pw_nodup sto_lx h
theorem few_st {st : St2} (h : FewS st) : (stLine st).length ≤ 7700 := by
  have h1 := few_line h.n1
  have h2 := few_cls h.n2 h.len
  have h3 : (" | " : Str).length = 3 := by decide +kernel
  unfold stLine
  rw [TL.len_tl, TL.tl_append, TL.tl_append, List.length_append, List.length_append, ← TL.len_tl, ← TL.len_tl, ← TL.len_tl]
  omega
/-- the row of a key -/
def rowAt (rows : Tab) (k : List Int) : PyData := match rows.find? (fun r => decide (r.1 = k)) with
  | some r => .str (rowLine r)
  | none => .none
theorem rowAt_eq {rows : Tab} (nd : (rows.map (·.1)).Nodup) {r : List Int × St2} (hr : r ∈ rows) : rowAt rows r.1 = .str (rowLine r) := by
  have h : ∀ rows : Tab, (rows.map (·.1)).Nodup → r ∈ rows → rows.find? (fun q => decide (q.1 = r.1)) = some r := fun rows => by
    induction rows with
    | nil => intro _ h; cases h
    | cons q rows ih =>
      intro nd h
      rw [List.map_cons] at nd
      have nd' := List.nodup_cons.mp nd
      rcases List.mem_cons.mp h with e | h
      · subst e
        rw [List.find?_cons, decide_eq_true rfl]
      · have hne : ¬ q.1 = r.1 := fun e => nd'.1 (by rw [e]; exact List.mem_map.mpr ⟨r, h, rfl⟩)
        rw [List.find?_cons, decide_eq_false hne]
        exact ih nd'.2 h
  unfold rowAt
  rw [h rows nd hr]
theorem row_text {r : List Int × St2} {i j : Int} (h : r.1 = [i, j]) : Str.empty ++ sN i ++ " " ++ sN j ++ ": " ++ stLine r.2 = rowLine r := by
  refine TL.ext_tl ?_
  unfold rowLine lineOf
  rw [h, if_neg (by simp)]
  have e0 : TL.tl Str.empty = [] := rfl
  simp only [TL.tl_append, tl_txtjoin, e0, List.nil_append, List.map_cons, List.map_nil, TL.joinL, List.append_assoc]
def domWriteTable (ds : List PyData) (d : PyData) : Prop := ∃ rows, TabOk rows ∧ ds = [eTab rows] ∧ d = .str (tabText rows)
theorem ok_writeTable (F : Fun K "write_table" "write_table" sWriteTable f fd) (g : Gt mg) (c : Fk P w K mg base CX0 6 "is_table_row" (spD K domIsTableRow)) (c2 : Fk P w K mg base CX0 2 "state_text" (spD K domStateText)) : FnOk P w K mg base CX0 7 f fd ["table"] (spD K domWriteTable) := by
  refine fn_data F scWriteTable (fun ds d ⟨z, _, h, _⟩ => by rw [h]; rfl) fun cdv A outer s H E ds d hr h => ?_
  obtain ⟨rows, ht, rfl, rfl⟩ := h
  have hlen := ht.len
  have hu := hr.units
  have hu1 := Nat.lt_of_le_of_lt (Nat.add_le_add_left (show 1 ≤ 64 by decide) _) hu
  have nd := asc_nodup ht.asc
  have hus : usort HT.lexLt (rows.map (·.1)) = rows.map (·.1) := (usort_of sto_lx ht.asc fun z => Iff.rfl).symm
  have hmap : (rows.map (·.1)).map (rowAt rows) = (rows.map rowLine).map .str := by
    rw [List.map_map, List.map_map]
    exact List.map_congr_left fun r hr => rowAt_eq nd hr
  refine pr_ifF (pdt_not (v := true) (pdt_val (pd_call c hr (by decide) (pda1 (pd_var 0)) ⟨rows, ht, rfl, rfl⟩))) (pr_setCompT (as := rows.map (·.1)) (enc := eNs) 2 1 eNs_inj (rowAt rows) (src_list (pd_eq (pd_callB (cr_soT hu) g.sorted (by decide +kernel) (cd_soT nd) (pda1 (pd_listT g (pd_var 0))) rfl (by decide) (by decide) rfl rfl) (by rw [hus]))) scWriteTable.nd (by rfl) (by rw [List.length_map]; omega) (fun k hk => by
      obtain ⟨r, hr, rfl⟩ := List.mem_map.mp hk
      rw [rowAt_eq nd hr]
      simp [imm]) (fun s H C cl fp k hk => ?_) ?_)
  · obtain ⟨r, hrr, rfl⟩ := List.mem_map.mp hk
    have ho := ht.ok r hrr
    obtain ⟨i, j, e⟩ : ∃ i j, r.1 = [i, j] := by
      have := ho.l
      match r.1, this with
      | [i, j], _ => exact ⟨i, j, rfl⟩
    have hi : Nm i := ho.k i (by rw [e]; simp)
    have hj : Nm j := ho.k j (by rw [e]; simp)
    rw [rowAt_eq nd hrr, ← row_text e]
    have hst := few_st (ht.few r hrr)
    exact pd_row (pd_ix ix_tup (opd_ixT (i := 0) (ds := r.1.map .int) (by rw [e]; rfl)) (pd_var 2) pd_int) (pd_ix ix_tup (opd_ixT (i := 1) (ds := r.1.map .int) (by rw [e]; rfl)) (pd_var 2) pd_int) (pd_call c2 hr (by decide) (pda1 (pd_dget (rows := rows) (r := r) hu1 (pd_var 0) (pd_var 2) nd hrr)) ⟨r.2, ht.few r hrr, rfl, rfl⟩) hi hj (by omega)
  · rw [hmap]
    rcases isEmpty_cases rows with ⟨e, e2⟩ | ⟨e, e2⟩
    · have el : tabText rows = "none" := by unfold tabText; rw [if_pos e]
      rw [el]
      exact pr_ret (pd_ifF (pdt_cmp (op_neE hr.units0) (neE_b (ds := (rows.map rowLine).map .str) (by rw [e]; rfl)) (pd_var 1) pd_nil) (pd_gstr g.NONE))
    · have el : tabText rows = Txt.join "\n" (rows.map rowLine) := by unfold tabText; rw [if_neg e]
      rw [el]
      refine pr_ret (pd_ifT (pdt_cmp (op_neE hr.units0) (neE_b (ds := (rows.map rowLine).map .str) (by rw [List.isEmpty_map, List.isEmpty_map]; exact e2)) (pd_var 1) pd_nil) (pd_join pd_str (pd_var 1) ?_))
      have h1 := sum_le (l := (rows.map rowLine).map (·.length)) (m := 8500) fun x hx => by
        rw [List.map_map] at hx
        obtain ⟨r, hrr, rfl⟩ := List.mem_map.mp hx
        have ho := ht.ok r hrr
        have a1 := line_len ho.k
        have a2 := few_st (ht.few r hrr)
        have a3 : (": " : Str).length = 2 := by decide +kernel
        have a4 := ho.l
        show (rowLine r).length ≤ 8500
        unfold rowLine
        rw [TL.len_tl, TL.tl_append, TL.tl_append, List.length_append, List.length_append, ← TL.len_tl, ← TL.len_tl, ← TL.len_tl]
        omega
      rw [List.length_map, List.length_map] at h1
      have a5 : ("\n" : Str).length = 1 := by decide +kernel
      rw [List.length_map, a5]
      omega
end
end K7


set_option Elab.async false
set_option linter.all false
set_option maxRecDepth 100000
set_option maxHeartbeats 2000000
/-! ParseError with its __init__ (turned from the worked proof of an own error). -/
namespace K7E
open PySem PySem.W PySem.Calls PyProof.Rows PySem.HandSPX
/-! ### the text of __init__ -/
def iA (p1 p2 : Pos) : Arguments := { posonlyargs := [], args := [{ arg := "self", annotation := none, pos := p1 }, { arg := "line", annotation := none, pos := p2 }], vararg := none, kwonlyargs := [], kw_defaults := [], kwarg := none, defaults := [] }
def iB (q1 q2 q3 q4 : Pos) : List Stmt := [.Assign [.Attribute (.Name "self" q1) "line" q2] (.Name "line" q3) q4]
def iS : Scope := { kind := .function, names := [(PySem.Str.ofString "self", .local), (PySem.Str.ofString "line", .local)], isGenerator := false, isCoroutine := false, more := [] }
/-- what the written part says of ParseError, at C, and of its __init__, at fI -/
structure ErrTxt (K : Frag) (mg : Str → Option Value) (C fI : Addr) : Prop where
  gC : mg "ParseError" = some (.ref C)
  cls : ∃ nm q N bs bm sn sub ab col dd k0 k1 k2 k3 k5, K.lookup C = some (excClassObj nm q C N bs bm true sn sub ab col dd k0 k1 k2 k3 k5 "ValueError.__new__") ∧ refsVE bm = true
  sa : findIn K (.ref C) "__setattr__" = some (some (.builtin "object.__setattr__"))
  ga : findIn K (.ref C) "__getattribute__" = some (some (.builtin "BaseException.__getattribute__"))
  gg : findIn K (.ref C) "__getattr__" = some none
  noN : findIn K (.ref C) "line" = some none
  iC : findIn K (.ref C) "__init__" = some (some (.ref fI))
  tC : typeIn K (.ref fI) = some (.type "function")
  kC : keepIn K (.ref C) = true
  exC : subIn K (.ref C) (.type "BaseException") = some true
  tyC : typeIn K (.ref C) = some (.type "type")
  hdC : hasDictIn K C = true
  te : exmOne K (.ref C) (.ref C) = some true
  fn : ∃ (oc : Value) (od : Option Addr) (doc pm : Value) (an : Option Addr) (cdv ct : Value) (osl : Array (Option Value)) (p1 p2 q1 q2 q3 q4 : Pos),
    K.lookup fI = some ⟨oc, od, .func (fnOf "__init__" "ParseError.__init__" (iA p1 p2) (iB q1 q2 q3 q4) iS .none .none doc pm an cdv ct), osl⟩ ∧ codeIn K cdv "ParseError.__init__" = true
theorem one_size (v : Value) : [v].length ≤ sizeLine := by
  rw [sizeLine_eq]
  exact (by decide : 1 ≤ 16777216)
theorem kept_but {K : Frag} {h h' : Heap} {x : Addr} (X : K.In h) (hx : K.lookup x = none) (k : ∀ b o, b ≠ x → h.get? b = some o → h'.get? b = some o) : K.In h' := fun a o e =>
  k a o (fun z => by rw [z, hx] at e; cases e) (X a o e)
theorem ldC {M : Model} {s : Shared} {name : Str} {scope : Scope} {L a : Addr} {cd : Value} {m : Str → Option Value} {x : Str} {pos : Pos} {v : Value} {Q : Value → Shared → Prop} {A : Around} {E : Value → Shared → Prop} (hn : s.heap.Ns L m) (hv : m x = some v) (h : Q v s)
    (hk : scope.kind = .function := by rfl) (hl : (envOfC name scope L a cd).kindOf x = some .local := by rfl) (hd : (x == ("__debug__" : Str)) = false := by decide) :
    wpAny M A (eval (.Name x pos) (envOfC name scope L a cd)) Q E s := wpAny_Name (wpAny_loadName_local hk hl hn hv h) hd
/-- what __init__ leaves of a fresh exception at x -/
structure InitEnd (h h' : Heap) (x C dx t1 : Addr) (v : Value) : Prop where
  keep : ∀ b o, b ≠ x → h.get? b = some o → h'.get? b = some o
  obj : h'.get? x = some { cls := .ref C, dict := some dx, data := .fields #[.ref t1, .none, .none, .none, .bool false, .none] }
  dbig : h.objs.size ≤ dx
  dne : dx ≠ x
  ns : h'.Ns1 dx (fun y => if y = "line" then some v else none)
/-- a made error -/
structure OwnMade (h h' : Heap) (e C d : Addr) (v : Value) : Prop where
  keep : ∀ b o, h.get? b = some o → h'.get? b = some o
  new : h.objs.size ≤ e
  obj : ∃ oe vs, h'.get? e = some oe ∧ oe.cls = .ref C ∧ oe.dict = some d ∧ oe.data = .fields vs ∧ vs[1]? = some .none
  dbig : h.objs.size ≤ d
  dne : d ≠ e
  ns : h'.Ns1 d (fun y => if y = "line" then some v else none)
section
variable {prog : Program} {w : World} {A : Around} {E : Value → Shared → Prop} {R : Result → Shared → Prop} {s : Shared} {K : Frag} {mg : Str → Option Value} {C fI : Addr}
theorem err_init (T : ErrTxt K mg C fI) {x t0 : Addr} {v : Value} (X : K.In s.heap) (hlim : s.heap.NoLimit) (hx : s.heap.get? x = some (excO C t0)) (hnx : K.lookup x = none) (hroom : A.depth < recursionLimit)
    (hq : ∀ h' tk dx, InitEnd s.heap h' x C dx t0 v → R (.ok (.ret .none)) { s with heap := h', toks := tk }) :
    codeAny (model prog w) A (.call (.ref fI) ⟨[.ref x, v], []⟩) R s := by
  obtain ⟨oc, od, doc, pm, an, cdv, ct, osl, p1, p2, q1, q2, q3, q4, ho, hcd⟩ := T.fn
  obtain ⟨nm, q, N, bs, bm, sn, sub, ab, col, dd, k0, k1, k2, k3, k5, hC, hbm⟩ := T.cls
  have hcl : clsIn K C = some { name := nm, bases := bs, mro := .ref C :: bm, ns := N, qualname := q, hasDict := true, slotNames := sn, subclasses := sub, abstract := ab, collection := col, hasDel := false } := by unfold clsIn; rw [hC] <;> rfl
  refine Att.call_fn (binds := [("self", .ref x), ("line", v)]) X hlim ho hcd hroom (BindsTo.of_eq (by first | rfl | with_unfolding_all rfl)) (by first | rfl | decide | with_unfolding_all rfl) (fun s₁ IC => ?_) rfl rfl rfl
  obtain ⟨h₁, tk₁, rfl⟩ := IC.toInCall.same
  have k : ∀ b o, s.heap.get? b = some o → h₁.get? b = some o := IC.toInCall.keep
  have hn := IC.toInCall.ns
  have hxL : s.heap.objs.size ≠ x := Nat.ne_of_gt (Heap.lt_size hx)
  have X₁ : K.In h₁ := X.keeps k
  have hx₁ := k _ _ hx
  -- self.by = by
  show wpAny _ _ (execs _ _) _ _ _
  refine wpAny_execs_cons (plainObj_wpAny_Assign_Attribute ?_)
  refine ldC (v := v) hn (by first | rfl | with_unfolding_all rfl | kernel_rfl) (ldC (v := .ref x) hn (by first | rfl | with_unfolding_all rfl | kernel_rfl) ?_)
  refine set_plain X₁ (ox := excO C t0) (od := none) ⟨hx₁, rfl, rfl, trivial⟩ T.sa ?_
  refine exc_osa X₁ hx₁ hcl (show refsVE (.ref C :: bm) = true from hbm) rfl T.noN (fun h₃ tk₃ dx k₃ dn dne hx₃ hn₃ => ?_)
  show wpAny _ _ (execs _ _) _ _ _
  have z : s.heap.objs.size < h₁.objs.size := hn.lt
  exact wpAny_execs_nil (hq h₃ tk₃ dx ⟨fun b o hb e => k₃ b o hb (k b o e), hx₃, Nat.le_of_lt (Nat.lt_of_lt_of_le z dn), dne, hn₃⟩)
theorem err_made (T : ErrTxt K mg C fI) {v : Value} (X : K.In s.heap) (hlim : s.heap.NoLimit) (hroom : A.depth + 1 < recursionLimit)
    (hq : ∀ h' tk e d, OwnMade s.heap h' e C d v → R (.ok (.ret (.ref e))) { s with heap := h', toks := tk }) :
    codeAny (model prog w) A (.call (.ref C) ⟨[v], []⟩) R s := by
  obtain ⟨nm, q, N, bs, bm, sn, sub, ab, col, dd, k0, k1, k2, k3, k5, hC, hbm⟩ := T.cls
  obtain ⟨hp, g, dr, tk, os⟩ := s
  have k : ∀ b o, hp.get? b = some o → ((hp.push (kdv_tup [v])).push (excO C hp.objs.size)).get? b = some o := fun b o e => Heap.get?_push_of_some _ (Heap.get?_push_of_some _ e)
  have hget : ((hp.push (kdv_tup [v])).push (excO C hp.objs.size)).get? (hp.objs.size + 1) = some (excO C hp.objs.size) := by heap_get
  have hnx : K.lookup (hp.objs.size + 1) = none := by
    cases e : K.lookup (hp.objs.size + 1) with
    | none => rfl
    | some o =>
      have z : hp.get? (hp.objs.size + 1) = some o := X _ _ e
      exact absurd (Nat.lt_of_succ_lt (Heap.lt_size z)) (Nat.lt_irrefl _)
  refine call_own F.excBase_ValueError (fun X => refsVE_contains X bm hbm) (X _ _ hC) (looks_findIn X T.iC) (fun self => bind_fn X self T.tC) (one_size v) ?_
  refine err_init (s := ⟨(hp.push (kdv_tup [v])).push (excO C hp.objs.size), g, dr, tk, os⟩) T (X.keeps k) (hlim.keeps k) hget hnx ?_ fun h' tk' dx ⟨k', hx, dn, dne, hns⟩ => ?_
  · show A.depth + 1 < recursionLimit
    exact hroom
  · have old : ∀ b o, hp.get? b = some o → h'.get? b = some o := fun b o e => k' b o (Nat.ne_of_lt (Nat.lt_succ_of_lt (Heap.lt_size e))) (k b o e)
    have z : hp.objs.size + 1 + 1 ≤ dx := by
      first
        | (simpa only [Heap.size_push] using dn)
        | exact dn
        | (have q := dn; rw [Heap.size_push, Heap.size_push] at q; exact q)
    exact ⟨rfl, hq h' tk' (hp.objs.size + 1) dx ⟨old, Nat.le_succ _, ⟨_, _, hx, rfl, rfl, rfl, rfl⟩, Nat.le_trans (Nat.le_trans (Nat.le_succ _) (Nat.le_succ _)) z, dne, hns⟩⟩
end
end K7E
namespace K7
open PySem PySem.Spec PyProof.Rows L2
theorem relO_err {v : V} {v' : Value} (r : RelV v v') (f : Str) : RelO (List.lookup f [(("line" : Str), v)]) (if f = "line" then some v' else none) := by
  by_cases hw : f = "line"
  · subst hw
    rw [if_pos rfl]
    have q : List.lookup ("line" : Str) [(("line" : Str), v)] = some v := by simp [List.lookup]
    rw [q]
    exact r
  · rw [if_neg hw]
    have qw : (f == ("line" : Str)) = false := by simpa using hw
    have q2 : List.lookup f [(("line" : Str), v)] = none := by simp [List.lookup, qw]
    rw [q2]
    trivial
section
variable {X : Cx} {C fI : Addr}
/-- ParseError(e) -/
def tMkErr (C : Addr) (ta : TA) : L2.St → Hp → XK → Prop := fun σ H Q => ta σ H fun vs H1 => ∃ v, vs = [v] ∧ ∀ d, H1 d = none → Q (.ref C) (some d) (upd H1 d (.xd [(("line" : Str), v)]))
theorem pmk_err {a : Expr} {ta : TA} {p pos : Pos} {k : Nat} (T : K7E.ErrTxt X.K X.mg C fI) (hr : Room k X.A) (ha : PA X [a] ta) (hg : Gl X "ParseError" := by rfl)
    (he : starEach (a :: []) X.env = (false, eval a X.env) :: starEach [] X.env := by rfl) (hpl : (backTo pos (starEach [] X.env)).any (·.1) = false := by rfl) :
    PMk X (.Call (.Name "ParseError" p) [a] [] pos) (tMkErr C ta) := by
  intro pins s σ H Q I h
  refine wpAny_Call_Name_kw (ld_glob I hg T.gC ?_)
  refine PySem.W.callWith_K (h₀ := X.base) I.ok.mod.kin T.kC (thn (ha.run pos pins s σ H _ I h) fun us s1 hh => ?_) he hpl
  obtain ⟨vs, H1, I1, r1, v, ev, q1⟩ := hh
  subst ev
  refine ⟨I1.kIn, ?_⟩
  cases r1 with
  | cons rv rn =>
    rename_i v' us'
    cases rn
    show wpAny _ _ (call (.ref C) [v']) _ _ _
    have hlim := I1.nolimit
    obtain ⟨hp, g, dr, tk, os⟩ := s1
    refine wpAny_call (K7E.err_made T I1.kIn hlim (by have := hr.dp; omega) fun h' tk' e d M => ?_)
    show MkP X pins σ Q (.ref e) ⟨h', g, dr, tk', os⟩
    obtain ⟨oe, fv, hoe, hc, hd, hdat, h1⟩ := M.obj
    have hns := M.ns
    obtain ⟨G', g1, g2⟩ := restrict h' fun b => decide (b ≠ e)
    have gk : ∀ b, b ≠ e → G'.get? b = h'.get? b := fun b hb => g1 b (decide_eq_true hb)
    have ge : G'.get? e = none := g2 e (by simp)
    have old : ∀ b o, hp.get? b = some o → G'.get? b = some o := fun b o q => (gk b (Nat.ne_of_lt (Nat.lt_of_lt_of_le (Heap.lt_size q) M.new))).trans (M.keep b o q)
    have ob : ObjOk X.prog X.w (upd H1 d (.xd [(("line" : Str), v)])) G' d (.xd [(("line" : Str), v)]) :=
      ⟨_, hns.at (fun o q => (gk d M.dne).trans q), fun f => relO_err rv f⟩
    have J : Inv X pins σ (upd H1 d (.xd [(("line" : Str), v)])) ⟨G', g, dr, tk', os⟩ := I1.laid (t' := tk') old M.dbig ob
    refine ⟨e, oe, fv, ⟨G', g, dr, tk', os⟩, _, .ref C, some d, rfl, J, fun b o q => ?_, ge, hoe, ⟨hc, hd⟩, hdat, h1, ?_, rfl, I1.bare, raises_own T.exC T.tyC, q1 d (I1.hok.fresh M.dbig)⟩
    · by_cases hb : b = e
      · have q' : G'.get? b = some o := q
        rw [hb, ge] at q'; cases q'
      · exact (gk b hb).symm.trans q
    · rw [upd_ne (Ne.symm M.dne)]
      exact I1.hok.fresh M.new
/-- raise ParseError(e) -/
def tRaiseErr (C : Addr) (W : WX) (ta : TA) : TS := fun _ σ H => tMkErr C ta σ H fun cls d H' => W cls d σ H'
theorem ps_raiseErr {a : Expr} {ta : TA} {W : WX} {p pos pos2 : Pos} {k : Nat} (hc : X.calm = true) (T : K7E.ErrTxt X.K X.mg C fI) (hr : Room k X.A) (tk : Takes X W) (ha : PA X [a] ta) (hg : Gl X "ParseError" := by rfl)
    (he : starEach (a :: []) X.env = (false, eval a X.env) :: starEach [] X.env := by rfl) (hpl : (backTo pos (starEach [] X.env)).any (·.1) = false := by rfl) :
    PS X (.Raise (some (.Call (.Name "ParseError" p) [a] [] pos)) none pos2) (tRaiseErr C W ta) := ps_raise hc tk (pmk_err T hr ha hg he hpl)
/-- error.line, error the exception that the suite holds (at a; its class cls, its dict d) -/
def tLine (C : Addr) (a : Addr) (cls : Value) (d : Option Addr) (te : TE) : TE := fun σ H Q => te σ H fun x H1 => x = .ref a ∧ cls = .ref C ∧ ∃ (dd : Addr) (v : V), d = some dd ∧ H1 dd = some (.xd [(("line" : Str), v)]) ∧ Q v H1
theorem pe_line {a : Addr} {oe : Obj} {cls : Value} {d : Option Addr} {pn : List (Addr × Obj)} {e : Expr} {te : TE} {pos : Pos} (T : K7E.ErrTxt X.K X.mg C fI) (hz : Zc cls d oe) (hf : ∃ vs, oe.data = .fields vs) (he : PE (X.suite a ((a, oe) :: pn)) e te)
    (hb : attributeBase e "line" X.env (eval e X.env) = eval e X.env := by rfl) :
    PE (X.suite a ((a, oe) :: pn)) (.Attribute e "line" pos) (tLine C a cls d te) := by
  refine ⟨fun pins s σ H Q I h => ?_⟩
  refine attr_of hb (thn (he.run pins s σ H _ I h) fun u s1 hh => ?_)
  obtain ⟨x, H1, I1, rx, ex, ec, dd, v, ed, ea, q⟩ := hh
  subst ex
  obtain rfl : u = Value.ref a := rx
  subst ec
  subst ed
  obtain ⟨ha, _⟩ := I1.pin (a, oe) (List.mem_append_left _ List.mem_cons_self)
  obtain ⟨vs, hd⟩ := hf
  have hx : ObjOk X.prog X.w H1 s1.heap dd (.xd [(("line" : Str), v)]) := I1.hok dd _ ea
  obtain ⟨mA, hns, hr⟩ := hx
  obtain ⟨od, ho, hl⟩ := lookIn_ns hns
  have l : List.lookup ("line" : Str) [(("line" : Str), v)] = some v := by simp [List.lookup]
  obtain ⟨u, hu, ru⟩ := RelO.some_of (v := v) (o := mA "line") (by rw [← l]; exact hr "line")
  have J : PySem.W.InstAt s1.heap a oe C (some od) := ⟨ha, hz.1, by unfold PySem.W.notCls; rw [hd] <;> rfl, by rw [hz.2]; exact ho⟩
  exact HandSPX.exc_get I1.kIn J T.ga T.gg T.exC (PySem.W.findObj_own T.hdC T.noN rfl (by rw [hl, hu])) (handed_of ru) ⟨v, H1, I1.tok _, ru, q⟩
end
end K7


set_option Elab.async false
set_option linter.all false
set_option maxRecDepth 100000
/-! require_string, read_numbers, read_state. -/
namespace K7
open PySem PySem.Spec PyProof.Rows L2

section
variable {X : Cx} {l : Sk} {e : Expr} {pos : Pos} {d : PyData} {t : TS} {rest : List Stmt}
theorem pn_expr (h : PD X l e d) (r : PSs X rest t) (hs : swapsWith e none pos.line X.env = pure false := by rfl) : PSs X (.Expr e pos :: rest) (tOn X.K l t) :=
  pssImp (pss_cons (ps_expr h (hs := hs)) r) fun D σ H ⟨s, k⟩ => ⟨s, fun y H1 e1 q1 => k H1 e1⟩
end
/-- what a reader promises: what is read, or an error that tells the line -/
def rdSp (K : PySem.W.Frag) (C : Addr) (res : Str → Except PyData PyData) : Sp := fun vs H Q E => ∃ z : Str, z.length ≤ 189 ∧ DaAll K H vs [.str z] ∧ (∀ r, res z = .ok r → ∀ x H', Same H H' → Da K H' x r → Q x H') ∧
  (∀ e, res z = .error e → ∀ v d H', Same H H' → Da K H' v e → H' d = none → E (.ref C) (some d) (upd H' d (.xd [(("line" : Str), v)])))
def resN (z : Str) : Except PyData PyData := match numbersOf z with
  | none => .error .none
  | some ns => .ok (eNs ns)
def resS (z : Str) : Except PyData PyData := match stateOf z with
  | none => .error .none
  | some st => .ok (eSt st)
def resT (z : Str) : Except PyData PyData := match tableOf z with
  | .error n => .error (.int (n : Nat))
  | .ok rows => .ok (eTab rows)
abbrev sRequire : Stmt := top 17
abbrev sReadNumbers : Stmt := top 23
abbrev sReadState : Stmt := top 28
theorem scRequire : FnScope ["text"] ["text"] (defScope sRequire) := ⟨rfl, rfl, rfl, by decide +kernel, rfl, by decide +kernel, by decide +kernel⟩
theorem scReadNumbers : FnScope ["text", "found"] ["text"] (defScope sReadNumbers) := ⟨rfl, rfl, rfl, by decide +kernel, rfl, by decide +kernel, by decide +kernel⟩
theorem scReadState : FnScope ["text", "state"] ["text"] (defScope sReadState) := ⟨rfl, rfl, rfl, by decide +kernel, rfl, by decide +kernel, by decide +kernel⟩
section
variable {P : Program} {w : World} {K : PySem.W.Frag} {mg : Str → Option Value} {base : Heap} {f : Addr} {fd : FuncData} {C fI : Addr}
def domRequire (ds : List PyData) (d : PyData) : Prop := ∃ z : Str, ds = [.str z] ∧ d = .none
theorem ok_require (F : Fun K "require_string" "require_string" sRequire f fd) (g : Gt mg) : FnOk P w K mg base CX0 1 f fd ["text"] (spD K domRequire) := by
  refine F.ok scRequire (fun vs H Q E h => ?_) (fun cdv A outer s H vs Q E hr h => ?_)
  · obtain ⟨ds, d, h1, ⟨z, h2, _⟩, _⟩ := h
    rw [h1.length, h2]
    rfl
  obtain ⟨ds, d, h1, ⟨z, rfl, rfl⟩, hq⟩ := h
  exact ⟨_, pn_ifF (l := [some (.str z)]) (pdt_not (v := true) (pdt_val (pd_isi (d := .str z) (T := "str") (r := true) g.isinstance g.str (by decide +kernel) (pd_var 0) (fun _ q => by cases q) (show kitB "str" "str" = some true by decide +kernel)))) pss_nil, sl_start h1 _ rfl, fun H' e => hq _ H' e .non⟩
theorem ok_readNumbers (F : Fun K "read_numbers" "read_numbers" sReadNumbers f fd) (g : Gt mg) (T : K7E.ErrTxt K mg C fI) (c0 : Fk P w K mg base CX0 1 "require_string" (spD K domRequire)) (c : Fk P w K mg base CX0 2 "numbers_of" (spD K domNumbersOf)) :
    FnOk P w K mg base (L2.CX P w) 3 f fd ["text"] (rdSp K C resN) := by
  refine F.okX scReadNumbers (fun vs H Q E h => ?_) (fun cdv A outer s H vs Q E hr h => ?_)
  · obtain ⟨z, _, h2, _⟩ := h
    rw [h2.length]
    rfl
  obtain ⟨z, hz, h1, hq, he⟩ := h
  have s0 : Sl K (L2.start ["text", "found"] vs) H [some (.str z), none] := sl_start h1 _ rfl
  cases hn : numbersOf z with
  | none =>
    have hres : resN z = .error .none := by unfold resN; rw [hn]
    refine ⟨_, pn_expr (l := [some (.str z), none]) (pd_call c0 hr (by decide) (pda1 (pd_var 0)) ⟨z, rfl, rfl⟩) (pn_asg 1 (l := [some (.str z), none]) (pd_call c hr (by decide) (pda1 (pd_var 0)) ⟨z, hz, rfl, rfl⟩) (pn_ifT (l := [some (.str z), some (eON (numbersOf z))]) (pdt_cmp op_isN (isN_b (d := eON (numbersOf z)) (by rw [hn]; rfl)) (pd_var 1) pd_none) (pss_one (ps_raiseErr rfl T hr (takes_of rfl rfl rfl rfl) (pda1 (l := [some (.str z), some (eON (numbersOf z))]) pd_none)))) scReadNumbers.nd), s0, fun H1 e1 => ⟨s0.mono e1, fun x H2 e2 d2 => ?_⟩⟩
    have s2 := ((s0.mono e1).mono e2).set 1 d2
    refine ⟨s2, fun H3 e3 => ⟨s2.mono e3, fun xs H4 e4 d4 => ?_⟩⟩
    cases d4 with
    | cons a r =>
      cases r
      exact ⟨_, rfl, fun d hd => he _ hres _ d H4 (((e1.trans e2).trans e3).trans e4) a hd⟩
  | some ns =>
    have hres : resN z = .ok (eNs ns) := by unfold resN; rw [hn]
    refine ⟨_, pr_expr (l := [some (.str z), none]) (pd_call c0 hr (by decide) (pda1 (pd_var 0)) ⟨z, rfl, rfl⟩) (pr_asg 1 (d1 := eON (some ns)) (pd_call c hr (by decide) (pda1 (pd_var 0)) ⟨z, hz, rfl, by rw [hn]⟩) (pr_ifF (pdt_cmp op_isN (isN_b (d := eON (some ns)) rfl) (pd_var 1) pd_none) (pr_ret (pd_var 1))) scReadNumbers.nd), s0, hq _ hres⟩
theorem ok_readState (F : Fun K "read_state" "read_state" sReadState f fd) (g : Gt mg) (T : K7E.ErrTxt K mg C fI) (c0 : Fk P w K mg base CX0 1 "require_string" (spD K domRequire)) (c : Fk P w K mg base CX0 6 "state_of" (spD K domStateOf)) :
    FnOk P w K mg base (L2.CX P w) 7 f fd ["text"] (rdSp K C resS) := by
  refine F.okX scReadState (fun vs H Q E h => ?_) (fun cdv A outer s H vs Q E hr h => ?_)
  · obtain ⟨z, _, h2, _⟩ := h
    rw [h2.length]
    rfl
  obtain ⟨z, hz, h1, hq, he⟩ := h
  have s0 : Sl K (L2.start ["text", "state"] vs) H [some (.str z), none] := sl_start h1 _ rfl
  cases hn : stateOf z with
  | none =>
    have hres : resS z = .error .none := by unfold resS; rw [hn]
    refine ⟨_, pn_expr (l := [some (.str z), none]) (pd_call c0 hr (by decide) (pda1 (pd_var 0)) ⟨z, rfl, rfl⟩) (pn_asg 1 (l := [some (.str z), none]) (pd_call c hr (by decide) (pda1 (pd_var 0)) ⟨z, hz, rfl, rfl⟩) (pn_ifT (l := [some (.str z), some (eOS (stateOf z))]) (pdt_cmp op_isN (isN_b (d := eOS (stateOf z)) (by rw [hn]; rfl)) (pd_var 1) pd_none) (pss_one (ps_raiseErr rfl T hr (takes_of rfl rfl rfl rfl) (pda1 (l := [some (.str z), some (eOS (stateOf z))]) pd_none)))) scReadState.nd), s0, fun H1 e1 => ⟨s0.mono e1, fun x H2 e2 d2 => ?_⟩⟩
    have s2 := ((s0.mono e1).mono e2).set 1 d2
    refine ⟨s2, fun H3 e3 => ⟨s2.mono e3, fun xs H4 e4 d4 => ?_⟩⟩
    cases d4 with
    | cons a r =>
      cases r
      exact ⟨_, rfl, fun d hd => he _ hres _ d H4 (((e1.trans e2).trans e3).trans e4) a hd⟩
  | some st =>
    have hres : resS z = .ok (eSt st) := by unfold resS; rw [hn]
    refine ⟨_, pr_expr (l := [some (.str z), none]) (pd_call c0 hr (by decide) (pda1 (pd_var 0)) ⟨z, rfl, rfl⟩) (pr_asg 1 (d1 := eOS (some st)) (pd_call c hr (by decide) (pda1 (pd_var 0)) ⟨z, hz, rfl, by rw [hn]⟩) (pr_ifF (pdt_cmp op_isN (isN_b (d := eOS (some st)) rfl) (pd_var 1) pd_none) (pr_ret (pd_var 1))) scReadState.nd), s0, hq _ hres⟩
end
end K7


set_option Elab.async false
set_option linter.all false
set_option maxRecDepth 100000
/-! read_table. -/
namespace K7
open PySem PySem.Spec PyProof.Rows L2

abbrev sReadTable : Stmt := top 32
abbrev nRT : List Str := ["text", "found", "last", "at", "line", "pair"]
theorem scReadTable : FnScope nRT ["text"] (defScope sReadTable) := ⟨rfl, rfl, rfl, by decide +kernel, rfl, by decide +kernel, by decide +kernel⟩
def lastD (acc : Tab) : PyData := match acc.getLast? with
  | none => .none
  | some q => eNs q.1
theorem lastD_snoc (acc : Tab) (r : List Int × St2) : lastD (acc ++ [r]) = eNs r.1 := by
  unfold lastD
  rw [List.getLast?_concat]
theorem imm_lastD (acc : Tab) : imm (lastD acc) = true := by
  unfold lastD
  cases acc.getLast? with
  | none => show imm .none = true; simp [imm]
  | some q => exact imm_eNs q.1
theorem notN_b {K : PySem.W.Frag} {d : PyData} {v : Bool} (h : (match d with | .none => false | _ => true) = v) : OpD K (fun x y H Q => y = .non ∧ Q (.bl (!decide (x = .non))) H) d .none (.bool v) := h ▸ opd_notN
/-- what a turn is asked -/
def tbRT (K : PySem.W.Frag) (z : Str) (C : Addr) (E : XK) : TS := fun D σ H1 => ∃ ln acc, ln.length ≤ 189 ∧ ascT acc ∧ acc.length ≤ 1000 ∧ Sl K σ H1 [some (.str z), none, some (lastD acc), some (.int (acc.length : Nat)), some (.str ln), none] ∧ ∃ Dd vs, σ[1]? = some (some (.ref Dd)) ∧ TabAt K H1 Dd acc vs ∧
  (badRow ln acc = true → ∀ v d H', Same H1 H' → Da K H' v (.int (acc.length : Nat)) → H' d = none → E (.ref C) (some d) (upd H' d (.xd [(("line" : Str), v)]))) ∧
  (∀ r, rowOf ln = some r → after r.1 acc = true → ∀ σ' H2 o vs', Same H1 H2 → TabAt K (upd H2 Dd o) Dd (acc ++ [r]) vs' → Sl K σ' (upd H2 Dd o) [some (.str z), none, some (eNs r.1), none, none, none] → σ'[1]? = some (some (.ref Dd)) → D.nx σ' (upd H2 Dd o))
abbrev xRT (P : Program) (w : World) (K : PySem.W.Frag) (mg : Str → Option Value) (base : Heap) (f : Addr) (cdv : Value) (A : Around) (outer : List Env) (s : Shared) (H : Hp) (E : XK) : Cx := cxOf (L2.CX P w) P w K mg base nRT "read_table" (defScope sReadTable) f cdv A outer s H E
section
variable {P : Program} {w : World} {K : PySem.W.Frag} {mg : Str → Option Value} {base : Heap} {f : Addr} {fd : FuncData} {C fI : Addr} {cdv : Value} {A : Around} {outer : List Env} {s : Shared} {H : Hp} {E : XK}
theorem rt_body (z : Str) (g : Gt mg) (T : K7E.ErrTxt K mg C fI) (hr : Room 8 (A.deeper (envOfC "read_table" (defScope sReadTable) s.heap.objs.size f cdv))) (c : Fk P w K mg base CX0 7 "table_row_of" (spD K domTableRowOf)) :
    PSs (xRT P w K mg base f cdv A outer s H E) (forBody ((defBody sReadTable).getD 3 (.Pass ⟨0, 0, 0, 0⟩))) (tbRT K z C E) := ⟨fun pins s' σ H' D I ⟨ln, acc, hln, ha, hal, sl, Dd, vs', e1, tb, kb, kg⟩ => by
  have hu := hr.units
  have hu0 := hr.units0
  have hu1 := Nat.lt_of_le_of_lt (Nat.add_le_add_left (show 1 ≤ 64 by decide) _) hu
  let l4 : Sk := [some (.str z), none, some (lastD acc), some (.int (acc.length : Nat)), some (.str ln), none]
  cases er : rowOf ln with
  | none =>
    let l5 : Sk := [some (.str z), none, some (lastD acc), some (.int (acc.length : Nat)), some (.str ln), some .none]
    have hb : badRow ln acc = true := by unfold badRow; rw [er]
    have hp : PSs (xRT P w K mg base f cdv A outer s H E) (forBody ((defBody sReadTable).getD 3 (.Pass ⟨0, 0, 0, 0⟩))) _ := pn_asg 5 (l := l4) (d := .none) (pd_call c hr (by decide) (pda1 (pd_var 4)) ⟨ln, hln, rfl, by rw [er]; rfl⟩) (pn_ifT (l := l5) (pdt_w (pdw_orT (pdt_cmp op_isN (isN_b (d := .none) rfl) (pd_var 5) pd_none))) (pss_one (ps_raiseErr rfl T hr (takes_of rfl rfl rfl rfl) (pda1 (l := l5) (pd_var 3))))) scReadTable.nd
    refine hp.run pins s' σ H' D I ⟨sl, fun x H2 q2 d2 => ⟨(sl.mono q2).set 5 d2, fun H3 q3 => ⟨((sl.mono q2).set 5 d2).mono q3, fun xs H4 q4 d4 => ?_⟩⟩⟩
    cases d4 with
    | cons a r =>
      cases r
      exact ⟨_, rfl, fun d hd => kb hb _ d H4 ((q2.trans q3).trans q4) a hd⟩
  | some r =>
    have hro := rowOf_ok er
    let l5 : Sk := [some (.str z), none, some (lastD acc), some (.int (acc.length : Nat)), some (.str ln), some (eOR (some r))]
    let l2 : Sk := [some (.str z), none, some (eNs r.1), some (.int (acc.length : Nat)), some (.str ln), some (eOR (some r))]
    -- the test, by what stands last
    have key : ∀ v, (!after r.1 acc) = v → ∃ tc : TT, (∀ σ H Q, tDt K l5 v σ H Q → tc σ H Q) ∧ PT (xRT P w K mg base f cdv A outer s H E) (match forBody ((defBody sReadTable).getD 3 (.Pass ⟨0, 0, 0, 0⟩)) with | _ :: .If c _ _ _ :: _ => c | _ => .Constant .none 0 ⟨0, 0, 0, 0⟩) tc := fun v hv => by
      refine ⟨_, fun σ H Q q => q, ?_⟩
      unfold after at hv
      cases el : acc.getLast? with
      | none =>
        rw [el] at hv
        have e0 : lastD acc = .none := by unfold lastD; rw [el]
        cases v with
        | true => cases hv
        | false => exact pdt_w (pdw_orF (pdt_cmp op_isN (isN_b (d := eOR (some r)) rfl) (pd_var 5) pd_none) (pdw_or1 (pdt_w (pdw_andF (pdt_cmp op_notN (notN_b (d := lastD acc) (by rw [e0])) (pd_var 2) pd_none)))))
      | some q =>
        rw [el] at hv
        have e0 : lastD acc = eNs q.1 := by unfold lastD; rw [el]
        have hv' : lxLe r.1 q.1 = v := by
          have : (!(!lxLe r.1 q.1)) = v := hv
          rw [Bool.not_not] at this
          exact this
        exact pdt_w (pdw_orF (pdt_cmp op_isN (isN_b (d := eOR (some r)) rfl) (pd_var 5) pd_none) (pdw_or1 (pdt_w (pdw_andT (pdt_cmp op_notN (notN_b (d := lastD acc) (by rw [e0])) (pd_var 2) pd_none) (pdw_and1 (pdt_cmp (op_leT hu0) (le_b hv') (pd_ix ix_tup (opd_ixT (i := 0) (ds := [eNs r.1, eSt r.2]) rfl) (pd_var 5) pd_int) (pd_eq (pd_var 2) e0)))))))
    cases haf : after r.1 acc with
    | false =>
      have hb : badRow ln acc = true := by unfold badRow; rw [er]; show (!after r.1 acc) = true; rw [haf]; rfl
      obtain ⟨tc, htc, hpt⟩ := key true (by rw [haf]; rfl)
      have hp : PSs (xRT P w K mg base f cdv A outer s H E) (forBody ((defBody sReadTable).getD 3 (.Pass ⟨0, 0, 0, 0⟩))) _ := pn_asg 5 (l := l4) (d := eOR (some r)) (pd_call c hr (by decide) (pda1 (pd_var 4)) ⟨ln, hln, rfl, by rw [er]⟩) (pn_ifT (l := l5) (ptImp hpt htc) (pss_one (ps_raiseErr rfl T hr (takes_of rfl rfl rfl rfl) (pda1 (l := l5) (pd_var 3))))) scReadTable.nd
      refine hp.run pins s' σ H' D I ⟨sl, fun x H2 q2 d2 => ⟨(sl.mono q2).set 5 d2, fun H3 q3 => ⟨((sl.mono q2).set 5 d2).mono q3, fun xs H4 q4 d4 => ?_⟩⟩⟩
      cases d4 with
      | cons a r =>
        cases r
        exact ⟨_, rfl, fun d hd => kb hb _ d H4 ((q2.trans q3).trans q4) a hd⟩
    | true =>
      obtain ⟨tc, htc, hpt⟩ := key false (by rw [haf]; rfl)
      have hp : PSs (xRT P w K mg base f cdv A outer s H E) (forBody ((defBody sReadTable).getD 3 (.Pass ⟨0, 0, 0, 0⟩))) _ := pn_asg 5 (l := l4) (d := eOR (some r)) (pd_call c hr (by decide) (pda1 (pd_var 4)) ⟨ln, hln, rfl, by rw [er]⟩) (pn_ifF (l := l5) (ptImp hpt htc) (pn_asg 2 (l := l5) (d := eNs r.1) (pd_ix ix_tup (opd_ixT (i := 0) (ds := [eNs r.1, eSt r.2]) rfl) (pd_var 5) pd_int) (pss_one (ps_dput hu1 (pe_var (i := 1) rfl (Or.inl rfl) (by decide) (by decide)) (pe_var (i := 2) rfl (Or.inl rfl) (by decide) (by decide)) (pd_ix (l := l2) ix_tup (opd_ixT (i := 1) (ds := [eNs r.1, eSt r.2]) rfl) (pd_var 5) pd_int) rfl)) scReadTable.nd)) scReadTable.nd
      refine hp.run pins s' σ H' D I ⟨sl, fun x5 H2 q2 d2 => ?_⟩
      have s5 : Sl K (σ.set 5 (some x5)) H2 l5 := (sl.mono q2).set 5 d2
      refine ⟨s5, fun H3 q3 => ⟨s5.mono q3, fun x2 H4 q4 d4 => ?_⟩⟩
      have s2 : Sl K ((σ.set 5 (some x5)).set 2 (some x2)) H4 l2 := ((s5.mono q3).mono q4).set 2 d4
      refine ⟨s2, fun v H5 q5 d5 => ?_⟩
      have hset : ((σ.set 5 (some x5)).set 2 (some x2))[1]? = some (some (.ref Dd)) := by
        rw [List.getElem?_set_ne (by decide), List.getElem?_set_ne (by decide)]
        exact e1
      have s2' := s2.mono q5
      obtain ⟨xk, ek, dk⟩ := s2'.has 2 (eNs r.1) rfl
      obtain ⟨pk, rfl, hpk⟩ := eNs_at dk
      have tb2 : TabAt K H5 Dd acc vs' := (((tb.mono q2).mono q3).mono q4).mono q5
      have hlen := kvs_len tb2.len
      refine ⟨_, hset, _, ek, Dd, _, rfl, DPut.t (k := keyI r.1) tb2.at_ (by rw [keyI_V]; exact hpk) (by rw [hlen]; exact Nat.lt_of_le_of_lt hal (by decide)), ?_⟩
      have qA : Same H' H5 := ((q2.trans q3).trans q4).trans q5
      refine kg r er haf _ H5 _ _ qA (tb2.put d5 (asc_new ha haf)) ?_ hset
      have sA := (only0 s2' (by rfl) (by rfl)).write (o := .dT (putK (kvsOf acc vs') (keyI r.1) v)) (by rfl) tb2.at_ trivial
      have dk2 := dk.write (o := .dT (putK (kvsOf acc vs') (keyI r.1) v)) tb2.at_ trivial (imm_eNs r.1)
      exact sA.know 2 ek dk2⟩
end
end K7


set_option Elab.async false
set_option linter.all false
set_option maxRecDepth 100000
/-! read_table, whole. -/
namespace K7
open PySem PySem.Spec PyProof.Rows L2
section
variable {X : Cx} {pos : Pos} {t : TS} {rest : List Stmt}
/-- name = {} -/
theorem pn_dict (i : Nat) {x : Str} {p lp : Pos} (r : PSs X rest t) (nd : X.N.Nodup) (hi : X.N[i]? = some x := by rfl) (hx : Loc X.env.scope x := by first | exact .inl rfl | exact .inr rfl)
    (hf : X.fn x = true ∨ X.env.scope.names.lookup x = some .local := by first | exact .inl rfl | exact .inr rfl)
    (hs : swapsWith (.Dict [] [] lp) (some (.Name x p)) pos.line X.env = pure false := by rfl) : PSs X (.Assign [.Name x p] (.Dict [] [] lp) pos :: rest) (fun D σ H => ∀ p, H p = none → t D (σ.set i (some (.ref p))) (upd H p (.dT []))) :=
  pssImp (pss_cons (ps_set (i := i) nd hi hx pe_dnewT (hf := hf) (hs := hs)) r) fun D σ H k p hp => k p hp
end
section
variable {P : Program} {w : World} {K : PySem.W.Frag} {mg : Str → Option Value} {base : Heap} {f : Addr} {fd : FuncData} {C fI : Addr}
theorem ok_readTable (F : Fun K "read_table" "read_table" sReadTable f fd) (g : Gt mg) (T : K7E.ErrTxt K mg C fI) (c0 : Fk P w K mg base CX0 1 "require_string" (spD K domRequire)) (c : Fk P w K mg base CX0 7 "table_row_of" (spD K domTableRowOf)) :
    FnOk P w K mg base (L2.CX P w) 9 f fd ["text"] (rdSp K C resT) := by
  refine F.okX scReadTable (fun vs H Q E h => ?_) (fun cdv A outer s H vs Q E hr h => ?_)
  · obtain ⟨z, _, h2, _⟩ := h
    rw [h2.length]
    rfl
  obtain ⟨z, hz, h1, hq, he⟩ := h
  have s0 : Sl K (L2.start nRT vs) H [some (.str z), none, none, none, none, none] := sl_start h1 _ rfl
  have hzl : z.length + 2 ≤ sizeLine := Nat.le_trans (show _ ≤ 1000 by omega) (by decide)
  let l0 : Sk := [some (.str z), none, none, none, none, none]
  let l2 : Sk := [some (.str z), none, some .none, none, none, none]
  have hit : ∃ (te : TE), PE (xRT P w K mg base f cdv A outer s H E) (match (defBody sReadTable).getD 3 (.Pass ⟨0, 0, 0, 0⟩) with | .For _ (.Call _ [e] _ _) _ _ _ => e | _ => .Constant .none 0 ⟨0, 0, 0, 0⟩) te ∧ ∀ σ H Q, tSpl K l2 (linesOf z) σ H Q → te σ H Q := by
    by_cases hd : z = "none"
    · have el : linesOf z = [] := by unfold linesOf; rw [if_pos hd]
      rw [el]
      refine ⟨_, pe_ifExp (pdt_cmp (l := l2) op_ne (neS_f hd) (pd_var 0) (pd_gstr g.NONE)) peBot (pe_lst pa_nil), fun σ H Q ⟨s, k⟩ => ⟨s, fun H1 e1 => ?_⟩⟩
      refine L2.iteF ?_
      exact ⟨Nat.zero_le _, fun p hp => k H1 p e1 hp⟩
    · have el : linesOf z = Txt.split z "\n" := by unfold linesOf; rw [if_neg hd]
      rw [el]
      refine ⟨_, pe_ifExp (pdt_cmp (l := l2) op_ne (neS_t hd) (pd_var 0) (pd_gstr g.NONE)) (pe_splN (l := l2) (pd_var 0) pd_str (by decide +kernel) hzl) peBot, fun σ H Q ⟨s, k⟩ => ⟨s, fun H1 e1 => ?_⟩⟩
      refine L2.iteT ?_
      exact ⟨s.mono e1, fun H2 p e2 hp => k H2 p (e1.trans e2) hp⟩
  obtain ⟨te, hte, htk⟩ := hit
  have body := rt_body (P := P) (w := w) (K := K) (base := base) (f := f) (cdv := cdv) (A := A) (outer := outer) (s := s) (H := H) (E := E) z g T hr c
  refine ⟨_, pn_expr (l := l0) (pd_call c0 hr (by decide) (pda1 (pd_var 0)) ⟨z, rfl, rfl⟩) (pn_dict 1 (pn_asg 2 (l := l0) pd_none (pss_cons (ps_for PassesOwn.leaving rfl (pi_enum rfl g.enumerate (pa_cons hte pa_nil)) (pg_tup rfl (pgs_cons (pg_name (i := 3) scReadTable.nd rfl (Or.inl rfl)) (pgs_cons (pg_name (i := 4) scReadTable.nd rfl (Or.inl rfl)) pgs_nil))) body) (pss_one (ps_ret (pe_var (i := 1) rfl (Or.inl rfl) (by decide) (by decide))))) scReadTable.nd) scReadTable.nd), s0, fun H1 e1 p hp => ?_⟩
  have s1 : Sl K ((L2.start nRT vs).set 1 (some (.ref p))) (upd H1 p (.dT [])) l0 := ((s0.mono e1).mono (same_new hp)).unset 1
  refine ⟨s1, fun x2 H2 e2 d2 => ?_⟩
  have s2 : Sl K (((L2.start nRT vs).set 1 (some (.ref p))).set 2 (some x2)) H2 l2 := (s1.mono e2).set 2 d2
  have hset : (((L2.start nRT vs).set 1 (some (.ref p))).set 2 (some x2))[1]? = some (some (.ref p)) := by
    rw [List.getElem?_set_ne (by decide), List.getElem?_set_self (by rw [s0.len]; exact (show 1 < 6 by decide))]
  refine htk _ _ _ ⟨s2, fun H3 L e3 hL => ⟨L, _, rfl, SqL.of upd_same, ?_⟩⟩
  have tb0 : TabAt K (upd H3 L (.lst ((linesOf z).map V.str))) p [] [] := (((tab_new H1 p).mono e2).mono e3).mono (same_new hL)
  have qA : Same H (upd H3 L (.lst ((linesOf z).map V.str))) := (((e1.trans (same_new hp)).trans e2).trans e3).trans (same_new hL)
  have hHp : H p = none := by
    cases q : H p with
    | none => rfl
    | some u => have := e1 _ _ q; rw [hp] at this; cases this
  have hcount := linesOf_count z
  refine for_it (g := gTup K 2 (gCons (gName 3) (gCons (gName 4) gNil))) (tb := tbRT K z C E) (walk_enum (K := K) (a := L) (xs := (linesOf z).map V.str)) (fun i σ H' => ∃ acc vs', tabGo (linesOf z) [] = tabGo ((linesOf z).drop i) acc ∧ acc.length = i ∧ ascT acc ∧ σ[1]? = some (some (.ref p)) ∧ TabAt K H' p acc vs' ∧ Sl K σ H' [some (.str z), none, some (lastD acc), none, none, none] ∧ H' L = some (.lst ((linesOf z).map V.str)) ∧ Same H H') ?_ (fun i σ H' _ ⟨acc, vs', _, _, _, _, _, _, h7, _⟩ => SqL.of h7) (fun i x σ Ha Hb hi ⟨acc, vs', k1, k2, k3, k4, k5, k6, k7, k8⟩ y => ?_) (fun σ H' ⟨acc, vs', k1, k2, k3, k4, k5, k6, k7, k8⟩ => ?_)
  · exact ⟨[], [], rfl, rfl, List.Pairwise.nil, hset, tb0, (s2.mono e3).mono (same_new hL), upd_same, qA⟩
  · obtain ⟨Tt, xa, xb, rfl, hT, rfl, f1, f2⟩ := y
    rw [List.length_map] at hi
    have hln : (linesOf z)[i]? = some (linesOf z)[i] := List.getElem?_eq_getElem hi
    have f2 : ((linesOf z).map V.str)[i]? = some xb := f2
    rw [List.getElem?_map, hln] at f2
    have hx1 : xa = .int (i : Nat) := (Option.some.inj f1).symm
    have hx2 : xb = .str (linesOf z)[i] := (Option.some.inj f2).symm
    subst hx1 hx2
    have eT : Same Ha (upd Ha Tt (.tup [.int (i : Nat), .str (linesOf z)[i]])) := same_new hT
    have hdrop : (linesOf z).drop i = (linesOf z)[i] :: (linesOf z).drop (i + 1) := List.drop_eq_getElem_cons hi
    rw [hdrop] at k1
    refine ⟨Tt, _, rfl, SqT.of upd_same, rfl, _, _, rfl, _, _, rfl, rfl, ?_⟩
    refine ⟨(linesOf z)[i], acc, linesOf_len hz (List.getElem_mem hi), k3, by omega, ?_, p, vs', ?_, k5.mono eT, fun hb v d H' q dv hd => ?_, fun r er haf σ' H2 o vs2 q t2 sl2 e2 => ⟨acc ++ [r], vs2, ?_, ?_, asc_snoc k3 haf, e2, t2, ?_, ?_, ?_⟩⟩
    · have a := ((k6.mono eT).set 3 (.int (i : Nat))).set 4 (.str (linesOf z)[i])
      rw [k2]
      exact a
    · rw [List.getElem?_set_ne (by decide), List.getElem?_set_ne (by decide)]
      exact k4
    · rw [tabGo_bad hb] at k1
      have e1 : resT z = .error (.int (acc.length : Nat)) := by unfold resT tableOf; rw [k1]
      exact he _ e1 v d H' ((k8.trans eT).trans q) dv hd
    · rw [k1, tabGo_good er haf]
    · rw [List.length_append, List.length_singleton, k2]
    · rw [lastD_snoc]
      exact sl2
    · rw [upd_ne (fun e => by
        have a1 := q _ _ (k5.mono eT).at_
        have a2 := q _ _ (eT _ _ k7)
        rw [← e, a2] at a1
        cases a1)]
      exact q _ _ (eT _ _ k7)
    · exact same_mut ((k8.trans eT).trans q) hHp
  · rw [List.length_map, List.drop_length] at k1
    have e1 : resT z = .ok (eTab acc) := by unfold resT tableOf; rw [k1]; rfl
    exact ⟨_, k4, hq _ e1 _ _ k8 k5.dat⟩
end
end K7


set_option Elab.async false
set_option linter.all false
set_option maxRecDepth 100000
/-! repr over data. -/
namespace K7
open PySem PySem.Spec PyProof.Rows L2

/-- the table of modules stands in the base -/
def SM (base : Heap) : Prop := ∃ mm, base.Ns sysModules mm
def RdN (h : Heap) (v : Value) (d : PyData) : Prop := ∃ as, Reads h v d as ∧ sysModules ∉ as
def RdAllN (h : Heap) (vs : List Value) (ds : List PyData) : Prop := ∃ as, ReadsAll h vs ds as ∧ sysModules ∉ as
theorem RdAllN.nil {h : Heap} : RdAllN h [] [] := ⟨[], .nil, by simp⟩
theorem RdAllN.cons {h : Heap} {v : Value} {vs : List Value} {d : PyData} {ds : List PyData} (a : RdN h v d) (b : RdAllN h vs ds) : RdAllN h (v :: vs) (d :: ds) := by
  obtain ⟨as, a1, a2⟩ := a
  obtain ⟨bs, b1, b2⟩ := b
  exact ⟨as ++ bs, .cons a1 b1, by rw [List.mem_append]; rintro (h | h); exact a2 h; exact b2 h⟩
section
variable {X : Cx} {pins : List (Addr × Obj)} {σ : L2.St} {H : Hp} {s : Shared}
theorem sm_at (I : L2.Inv X pins σ H s) (m : SM X.base) : ∃ o es ep, s.heap.get? sysModules = some o ∧ o.data = .dict es ep := by
  obtain ⟨mm, o, es, ep, ho, hd, _⟩ := m
  exact ⟨o, es, ep, (I.bk _ _ ho), hd⟩
theorem key_reads (I : L2.Inv X pins σ H s) : ∀ (k : List L2.Key) (us : List Value), Vals (k.map kV) us → RdAllN s.heap us (k.map kD)
  | [], _, .nil => .nil
  | .inl i :: k, _, .cons r1 r2 => by
    obtain ⟨t, rfl⟩ := r1
    exact .cons ⟨[], .int i t, by simp⟩ (key_reads I k _ r2)
  | .inr x :: k, _, .cons r1 r2 => by
    obtain ⟨t, rfl⟩ := r1
    exact .cons ⟨[], .str x t, by simp⟩ (key_reads I k _ r2)
theorem keys_reads (I : L2.Inv X pins σ H s) : ∀ {kvs : List (List L2.Key × V)} {xs : List (List L2.Key × Addr × Value)},
    Paired (fun (p : List L2.Key × V) (q : List L2.Key × Addr × Value) => p.1 = q.1 ∧ H q.2.1 = some (.tup (p.1.map kV)) ∧ RelV p.2 q.2.2) kvs xs → RdAllN s.heap (xs.map fun q => Value.ref q.2.1) (kvs.map fun q => keyD q.1)
  | [], [], .nil => .nil
  | p :: kvs, q :: xs, .cons h t => by
    obtain ⟨its, r, ⟨o, ho, hc, n, hd⟩, _⟩ := I.tuple (SqT.of (K := X.K) h.2.1)
    obtain ⟨as, ra, na⟩ := key_reads I p.1 _ r
    refine .cons ⟨as, .tuple ho hc hd ?_, na⟩ (keys_reads I t)
    simpa using ra
theorem vals_paired : ∀ {kvs : List (List L2.Key × V)} {xs : List (List L2.Key × Addr × Value)},
    Paired (fun (p : List L2.Key × V) (q : List L2.Key × Addr × Value) => p.1 = q.1 ∧ H q.2.1 = some (.tup (p.1.map kV)) ∧ RelV p.2 q.2.2) kvs xs → Vals (kvs.map Prod.snd) (xs.map fun q => q.2.2)
  | [], [], .nil => .nil
  | p :: kvs, q :: xs, .cons h t => .cons h.2.2 (vals_paired t)
mutual
theorem Da.rdN (I : L2.Inv X pins σ H s) (m : SM X.base) : ∀ {v : V} {d : PyData} {u : Value}, Da X.K H v d → RelV v u → RdN s.heap u d
  | _, _, _, .non, r => by cases r; exact ⟨[], .none, by simp⟩
  | _, _, _, .bl b, r => by cases r; exact ⟨[], .bool b, by simp⟩
  | _, _, _, .int n, r => by obtain ⟨t, rfl⟩ := r; exact ⟨[], .int n t, by simp⟩
  | _, _, _, .str z, r => by obtain ⟨t, rfl⟩ := r; exact ⟨[], .str z t, by simp⟩
  | _, _, _, .lst (p := p) h1 h2, r => by
    cases r
    obtain ⟨its, rv, ⟨o, n, ho, hc, _, hd⟩, _⟩ := I.list h1
    obtain ⟨as, ra, na⟩ := DaAll.rdN I m h2 rv
    obtain ⟨o', es, ep, ho', hd'⟩ := sm_at I m
    refine ⟨p :: as, .list ho hc hd ra, ?_⟩
    rw [List.mem_cons]
    rintro (e | e)
    · rw [← e, ho'] at ho
      cases ho
      rw [hd'] at hd
      cases hd
    · exact na e
  | _, _, _, .tup h1 h2, r => by
    cases r
    obtain ⟨its, rv, ⟨o, ho, hc, n, hd⟩, _⟩ := I.tuple (SqT.of (K := X.K) h1)
    obtain ⟨as, ra, na⟩ := DaAll.rdN I m h2 rv
    exact ⟨as, .tuple ho hc hd (by simpa using ra), na⟩
  | _, _, _, .dct (p := p) (kvs := kvs) (es := ds) h1 h2, r => by
    cases r
    obtain ⟨hz, hs, xs, pr, o, es, ep, ho, hx, hdt, he, _⟩ := I.hok p _ h1
    obtain ⟨as, ra, na⟩ := keys_reads I pr
    obtain ⟨bs, rb, nb⟩ := DaAll.rdN I m h2 (vals_paired pr)
    have hl : ds.length = kvs.length := by
      have := h2.length
      rw [List.length_map] at this
      exact this.symm
    have e1 : (((kvs.map fun q => keyD q.1).zip ds).map (·.1)) = kvs.map fun q => keyD q.1 := List.map_fst_zip (by rw [List.length_map]; omega)
    have e2 : (((kvs.map fun q => keyD q.1).zip ds).map (·.2)) = ds := List.map_snd_zip (by rw [List.length_map]; omega)
    refine ⟨p :: as ++ bs, .dict ho hx.1 hdt ?_ ?_, ?_⟩
    · rw [e1, he, List.map_map]
      exact ra
    · rw [e2, he, List.map_map]
      exact rb
    · rw [List.cons_append, List.mem_cons, List.mem_append]
      rintro (e | e | e)
      · rw [← e] at hs
        simp at hs
      · exact na e
      · exact nb e
theorem DaAll.rdN (I : L2.Inv X pins σ H s) (m : SM X.base) : ∀ {vs : List V} {ds : List PyData} {us : List Value}, DaAll X.K H vs ds → Vals vs us → RdAllN s.heap us ds
  | _, _, _, .nil, .nil => .nil
  | _, _, _, .cons h1 h2, .cons r1 r2 => .cons (Da.rdN I m h1 r1) (DaAll.rdN I m h2 r2)
end
end
/-- what can be shown -/
structure Shw (d : PyData) : Prop where
  ok : d.showable = true
  dep : d.depth ≤ 60
  len : d.shown.length ≤ sizeLine
def rRep (K : PySem.W.Frag) : List V → Hp → VK → Prop := fun vs H Q => ∃ x d, vs = [x] ∧ Da K H x d ∧ Shw d ∧ Q (.str d.shown) H
theorem cr_rep {X : Cx} (hg : X.A.guards = some []) (hu : X.A.units + 64 < cLine) (m : SM X.base) : CallR X (.builtin "repr") (rRep X.K) := by
  intro pins s σ H vs us Q I r h
  obtain ⟨x, d, rfl, hd, hs, q⟩ := h
  obtain ⟨u, rfl, ru⟩ := vals1 r
  have dep := hs.dep
  have big : ∀ {p : Addr} {d : PyData}, Da X.K H (.ref p) d → Shw d → Q (.str d.shown) H → wpAny (model X.prog X.w) X.A (call (.builtin "repr") [.ref p]) (EP X pins σ Q) X.xe s := fun {p d} hd hs q => by
    obtain ⟨as, ra, na⟩ := Da.rdN (u := .ref p) I m hd rfl
    have dep := hs.dep
    exact repr_of_reads' ra hs.ok (fun _ => na) hg (by omega) (fun _ _ e => e) (fun h' u' tk hk => ⟨.str d.shown, H, I.kept (t' := tk) hk, ⟨_, rfl⟩, q⟩) hs.len
  cases hd with
  | non => cases ru; exact PySem.P.repr_of_none ⟨.str _, H, I.tok _, ⟨_, rfl⟩, q⟩
  | bl b => cases ru; exact PySem.P.repr_of_bool ⟨.str _, H, I.tok _, ⟨_, rfl⟩, q⟩
  | int n =>
    obtain ⟨t, rfl⟩ := ru
    have hz : n.natAbs.log2 < 1920 := by
      have := hs.ok
      simpa [PyData.showable] using this
    exact PySem.P.repr_of_int hz ⟨.str _, H, I.tok _, ⟨_, rfl⟩, q⟩
  | str z =>
    obtain ⟨t, rfl⟩ := ru
    exact PySem.P.repr_of_str ⟨.str _, H, I.tok _, ⟨_, rfl⟩, q⟩ hs.len
  | lst h1 h2 => cases ru; exact big (.lst h1 h2) hs q
  | tup h1 h2 => cases ru; exact big (.tup h1 h2) hs q
  | dct h1 h2 => cases ru; exact big (.dct h1 h2) hs q
section
variable {X : Cx} {l : Sk} {e : Expr} {pos p : Pos} {d : PyData}
theorem pd_repr (gd : X.A.guards = some []) (hu : X.A.units + 64 < cLine) (m : SM X.base) (g : Gt X.mg) (h : PD X l e d) (hs : Shw d) (hg : Gl X "repr" := by rfl) (he : starEach [e] X.env = (false, eval e X.env) :: starEach [] X.env := by rfl) :
    PD X l (.Call (.Name "repr" p) [e] [] pos) (.str d.shown) := pd_callB (cr_rep gd hu m) g.repr (by decide +kernel) (fun vs H Q hv k => by
      cases hv with
      | cons h1 h2 =>
        cases h2
        exact ⟨_, d, rfl, h1, hs, k _ H (Same.refl H) (.str _)⟩) (pda1 h he) hg (by decide) (by decide) he (by rfl)
end
end K7


set_option Elab.async false
set_option linter.all false
set_option maxRecDepth 100000
/-! How long the shown data are. -/
namespace K7
open PySem PySem.Spec PyProof.Rows L2

theorem lenS (a b : Str) : (a ++ b).length = a.length + b.length := by rw [TL.len_tl, TL.tl_append, List.length_append, ← TL.len_tl, ← TL.len_tl]
def pile (ts : List Str) : Nat := (ts.map fun t => t.length + 2).sum
theorem pile_cons (t : Str) (ts : List Str) : pile (t :: ts) = t.length + 2 + pile ts := by unfold pile; rw [List.map_cons, List.sum_cons]
theorem from_le : ∀ (ts : List Str) (k : Nat) (acc : Str), (textFrom k acc ts).length ≤ acc.length + pile ts
  | [], k, acc => Nat.le_add_right _ _
  | t :: r, k, acc => by
    have h := from_le r (k + 1) (acc ++ (if k > 0 then ", " else "" : String) ++ t)
    rw [pile_cons]
    show (textFrom (k + 1) (acc ++ (if k > 0 then ", " else "" : String) ++ t) r).length ≤ _
    rw [lenS, lenS] at h
    have h2 : (Str.ofString (if k > 0 then ", " else "" : String)).length ≤ 2 := by split <;> decide +kernel
    omega
theorem list_le (ts : List Str) : (listText ts).length ≤ pile ts + 2 := by
  unfold listText
  have h := from_le ts 0 "["
  have h1 : ("[" : Str).length = 1 := by decide +kernel
  have h2 : ("]" : Str).length = 1 := by decide +kernel
  rw [lenS]
  omega
theorem join_le : ∀ ts : List Str, (Str.join ", " ts).length ≤ pile ts
  | [] => by decide +kernel
  | [t] => by
    show t.length ≤ _
    rw [pile_cons]
    omega
  | t :: u :: r => by
    have h := join_le (u :: r)
    show (t ++ ", " ++ Str.join ", " (u :: r)).length ≤ _
    have h1 : (", " : Str).length = 2 := by decide +kernel
    rw [lenS, lenS, pile_cons]
    omega
theorem tup_le (ts : List Str) : (tupleText ts).length ≤ pile ts + 3 := by
  unfold tupleText
  have h := join_le ts
  have h1 : ("(" : Str).length = 1 := by decide +kernel
  have h2 : (Str.ofString (if ts.length == 1 then ",)" else ")" : String)).length ≤ 2 := by split <;> decide +kernel
  rw [lenS, lenS]
  omega
theorem dict_le (ts : List Str) : (dictText ts).length ≤ pile ts + 2 := by
  unfold dictText
  have h := join_le ts
  have h1 : ("{" : Str).length = 1 := by decide +kernel
  have h2 : ("}" : Str).length = 1 := by decide +kernel
  rw [lenS, lenS]
  omega
theorem shownAll_map {α : Type} (enc : α → PyData) : ∀ as : List α, PyData.shownAll (as.map enc) = as.map fun a => (enc a).shown
  | [] => by simp [PyData.shownAll]
  | a :: as => by rw [List.map_cons, PyData.shownAll, shownAll_map enc as, List.map_cons]
theorem shownKv_map {α : Type} (k e : α → PyData) : ∀ as : List α, PyData.shownKv (as.map fun a => (k a, e a)) = as.map fun a => (k a).shown ++ ": " ++ (e a).shown
  | [] => by simp [PyData.shownKv]
  | a :: as => by rw [List.map_cons, PyData.shownKv, shownKv_map k e as, List.map_cons]
theorem pile_map {α : Type} (f : α → Str) (as : List α) : pile (as.map f) = (as.map fun a => (f a).length + 2).sum := by
  unfold pile
  rw [List.map_map]
  rfl
theorem sum_mono {α : Type} {f g : α → Nat} : ∀ {as : List α}, (∀ a ∈ as, f a ≤ g a) → (as.map f).sum ≤ (as.map g).sum
  | [], _ => Nat.le_refl _
  | a :: as, h => by
    rw [List.map_cons, List.map_cons, List.sum_cons, List.sum_cons]
    have h1 := h a (List.mem_cons_self ..)
    have h2 := sum_mono (as := as) fun b hb => h b (List.mem_cons_of_mem _ hb)
    omega
theorem sum_aff {α : Type} (f : α → Nat) (c m : Nat) : ∀ as : List α, (as.map fun a => c * f a + m).sum = c * (as.map f).sum + m * as.length
  | [] => by simp
  | a :: as => by
    rw [List.map_cons, List.map_cons, List.sum_cons, List.sum_cons, List.length_cons, sum_aff f c m as, Nat.mul_add, Nat.mul_succ]
    omega
/-- the pieces of a text, all together -/
theorem pieces_sum {y : Str} (s : Sep y) (z : Str) : ((Txt.split z y).map (·.length)).sum ≤ z.length := by
  have q := split_total s z
  unfold total at q
  rw [List.map_map] at q
  have e : (Txt.split z y).map (List.length ∘ TL.tl) = (Txt.split z y).map (·.length) := List.map_congr_left fun p _ => (TL.len_tl p).symm
  rw [e] at q
  omega
theorem numOf_len {w : Str} {n : Int} (h : numOf w = some n) : (sN n).length ≤ w.length := by
  unfold numOf at h
  split at h
  · rename_i hc
    have e := Option.some.inj h
    subst e
    rw [Bool.and_eq_true] at hc
    have hk := hc.1
    unfold okL at hk
    rw [Bool.and_eq_true, Bool.and_eq_true, decide_eq_true_eq, decide_eq_true_eq] at hk
    have h1 := val_bd (all_dig hk.2)
    have e : TL.tl (sN ((NumText.digitsVal (TL.tl w) : Nat) : Int)) = TL.numL (NumText.digitsVal (TL.tl w)) := TL.tl_num _
    rw [TL.len_tl, e, TL.len_tl]
    exact TL.numL_len hk.1.1 h1
  · cases h
theorem seqO_sum {α : Type} {f : Str → Option α} {g : α → Nat} {k : Str → Nat} (hf : ∀ w a, f w = some a → g a ≤ k w) : ∀ {ws : List Str} {as : List α}, seqO (ws.map f) = some as → (as.map g).sum ≤ (ws.map k).sum ∧ as.length = ws.length := fun {ws as} h => by
  have e := seqO_inv h
  clear h
  induction ws generalizing as with
  | nil =>
    cases as with
    | nil => exact ⟨Nat.le_refl _, rfl⟩
    | cons a as => cases e
  | cons w ws ih =>
    cases as with
    | nil => cases e
    | cons a as =>
      rw [List.map_cons, List.map_cons] at e
      injection e with e1 e2
      obtain ⟨h1, h2⟩ := ih e2
      have := hf w a e1
      refine ⟨?_, by rw [List.length_cons, List.length_cons, h2]⟩
      rw [List.map_cons, List.map_cons, List.sum_cons, List.sum_cons]
      omega
theorem shown_eNs (ns : List Int) : (eNs ns).shown.length ≤ (ns.map fun n => (sN n).length + 2).sum + 3 := by
  have e : (eNs ns).shown = tupleText (ns.map fun n => (PyData.int n).shown) := by
    show PyData.shown (.tuple (ns.map .int)) = _
    rw [PyData.shown, shownAll_map]
  rw [e]
  refine Nat.le_trans (tup_le _) ?_
  rw [pile_map]
  have : (ns.map fun n => ((PyData.int n).shown).length + 2).sum = (ns.map fun n => (sN n).length + 2).sum := by
    congr 1
  omega
theorem shown_nums {z : Str} {ns : List Int} (h : numbersOf z = some ns) : (eNs ns).shown.length ≤ 3 * z.length + 5 := by
  refine Nat.le_trans (shown_eNs ns) ?_
  unfold numbersOf at h
  split at h
  · have e := Option.some.inj h
    subst e
    simp
  · obtain ⟨h1, h2⟩ := seqO_sum (g := fun n => (sN n).length) (k := (·.length)) (fun w n hw => numOf_len hw) h
    have h3 := pieces_sum sep_sp z
    have h4 := split_count sep_sp z
    have h5 := sum_aff (fun n : Int => (sN n).length) 1 2 ns
    simp only [Nat.one_mul] at h5
    rw [h5]
    omega
theorem shown_cls {c : Str} {cs : List (List Int)} (h : seqO (classesOf c) = some cs) : (cs.map fun x => (eNs x).shown.length + 2).sum ≤ 10 * c.length + 7 := by
  unfold classesOf at h
  split at h
  · have e := Option.some.inj h
    subst e
    simp
  · obtain ⟨h1, h2⟩ := seqO_sum (g := fun x => (eNs x).shown.length + 2) (k := fun w => 3 * w.length + 7) (fun w x hw => by have := shown_nums hw; show (eNs x).shown.length + 2 ≤ _; omega) h
    have h3 := pieces_sum sep_sc c
    have h4 := split_count sep_sc c
    have h5 := sum_aff (fun w : Str => w.length) 3 7 (Txt.split c "; ")
    rw [h5] at h1
    omega
theorem shown_eSt (st : St2) : (eSt st).shown.length ≤ (eNs st.1).shown.length + (st.2.map fun x => (eNs x).shown.length + 2).sum + 10 := by
  have gen : ∀ a b : PyData, PyData.shown (.tuple [a, b]) = tupleText [a.shown, b.shown] := fun a b => by rw [PyData.shown, PyData.shownAll, PyData.shownAll, PyData.shownAll]
  have g2 : (PyData.tuple (st.2.map eNs)).shown = tupleText (st.2.map fun x => (eNs x).shown) := by rw [PyData.shown, shownAll_map]
  have e : (eSt st).shown = tupleText [(eNs st.1).shown, tupleText (st.2.map fun x => (eNs x).shown)] := by
    rw [← g2]
    exact gen _ _
  rw [e]
  refine Nat.le_trans (tup_le _) ?_
  rw [pile_cons, pile_cons]
  have h1 := tup_le (st.2.map fun x => (eNs x).shown)
  rw [pile_map] at h1
  have h2 : pile [] = 0 := rfl
  omega
theorem shown_state {z : Str} {st : St2} (h : stateOf z = some st) : (eSt st).shown.length ≤ 10 * z.length + 22 := by
  refine Nat.le_trans (shown_eSt st) ?_
  unfold stateOf at h
  split at h
  · rename_i a c e
    obtain ⟨e1, e2⟩ := stMk_fst h
    have h1 := shown_nums e1
    have h2 := shown_cls (c := c) (cs := st.2) (by rw [e2, seqO_some])
    have h3 := pieces_sum sep_bar z
    rw [e] at h3
    simp only [List.map_cons, List.map_nil, List.sum_cons, List.sum_nil] at h3
    omega
  · cases h
theorem shown_row {z : Str} {r : List Int × St2} (h : rowOf z = some r) : ((eNs r.1).shown ++ ": " ++ (eSt r.2).shown).length ≤ 10 * z.length + 29 := by
  have hc : (": " : Str).length = 2 := by decide +kernel
  rw [lenS, lenS, hc]
  unfold rowOf at h
  split at h
  · rename_i a b e
    unfold rowMk at h
    split at h
    · rename_i k st e1 e2
      split at h
      · have e3 := Option.some.inj h
        subst e3
        have h1 := shown_nums e1
        have h2 := shown_state e2
        have h3 := pieces_sum sep_co z
        rw [e] at h3
        simp only [List.map_cons, List.map_nil, List.sum_cons, List.sum_nil] at h3
        show (eNs k).shown.length + 2 + (eSt st).shown.length ≤ _
        omega
      · cases h
    · cases h
  · cases h
theorem shown_tab (rows : Tab) : (eTab rows).shown.length ≤ (rows.map fun r => ((eNs r.1).shown ++ ": " ++ (eSt r.2).shown).length + 2).sum + 2 := by
  have e : (eTab rows).shown = dictText (rows.map fun r => (eNs r.1).shown ++ ": " ++ (eSt r.2).shown) := by
    show PyData.shown (.dict (rows.map fun r => (eNs r.1, eSt r.2))) = _
    rw [PyData.shown, shownKv_map]
  rw [e]
  refine Nat.le_trans (dict_le _) ?_
  rw [pile_map]
  omega
theorem tabGo_sum : ∀ {lns : List Str} {acc rows : Tab}, tabGo lns acc = .ok rows → (rows.map fun r => ((eNs r.1).shown ++ ": " ++ (eSt r.2).shown).length + 2).sum ≤ (acc.map fun r => ((eNs r.1).shown ++ ": " ++ (eSt r.2).shown).length + 2).sum + (lns.map fun ln => 10 * ln.length + 31).sum
  | [], acc, rows, h => by
    have e : acc = rows := by injection h
    rw [e]
    exact Nat.le_add_right _ _
  | ln :: lns, acc, rows, h => by
    unfold tabGo at h
    cases er : rowOf ln with
    | none => rw [er] at h; cases h
    | some r =>
      rw [er] at h
      have h' : (if after r.1 acc = true then tabGo lns (acc ++ [r]) else .error acc.length) = Except.ok rows := h
      split at h'
      · have ih := tabGo_sum h'
        have hr := shown_row er
        rw [List.map_append, List.sum_append] at ih
        simp only [List.map_cons, List.map_nil, List.sum_cons, List.sum_nil] at ih ⊢
        omega
      · cases h'
theorem shown_table {z : Str} {rows : Tab} (h : tableOf z = .ok rows) : (eTab rows).shown.length ≤ 50 * z.length + 40 := by
  refine Nat.le_trans (shown_tab rows) ?_
  have h1 := tabGo_sum h
  have h2 : ((linesOf z).map fun ln => 10 * ln.length + 31).sum ≤ 50 * z.length + 31 := by
    rw [sum_aff]
    unfold linesOf
    split
    · simp
    · have a : ((Txt.split z "\n").map Str.length).sum ≤ z.length := pieces_sum sep_nl z
      have b := split_count sep_nl z
      omega
  simp only [List.map_nil, List.sum_nil] at h1
  omega
end K7


set_option Elab.async false
set_option linter.all false
set_option maxRecDepth 100000
/-! What can be shown; defs that want no guards; what a call gives. -/
namespace K7
open PySem PySem.Spec PyProof.Rows L2

theorem showAll_map {α : Type} {enc : α → PyData} : ∀ {as : List α}, (∀ a ∈ as, (enc a).showable = true) → PyData.showableAll (as.map enc) = true
  | [], _ => by simp [PyData.showableAll]
  | a :: as, h => by rw [List.map_cons, PyData.showableAll, h a (List.mem_cons_self ..), showAll_map fun b hb => h b (List.mem_cons_of_mem _ hb)]; rfl
theorem showKv_map {α : Type} {k e : α → PyData} : ∀ {as : List α}, (∀ a ∈ as, (k a).showable = true ∧ (e a).showable = true) → PyData.showableKv (as.map fun a => (k a, e a)) = true
  | [], _ => by simp [PyData.showableKv]
  | a :: as, h => by
    have h1 := h a (List.mem_cons_self ..)
    rw [List.map_cons, PyData.showableKv, h1.1, h1.2, showKv_map fun b hb => h b (List.mem_cons_of_mem _ hb)]
    rfl
theorem depKv_map {α : Type} {k e : α → PyData} {n : Nat} (h : ∀ a, (k a).depth ≤ n ∧ (e a).depth ≤ n) : ∀ as : List α, PyData.depthKv (as.map fun a => (k a, e a)) ≤ n
  | [] => by simp [PyData.depthKv]
  | a :: as => by
    rw [List.map_cons, PyData.depthKv]
    exact Nat.max_le.mpr ⟨Nat.max_le.mpr (h a), depKv_map h as⟩
theorem show_eNs {ns : List Int} (h : ∀ n ∈ ns, Nm n) : (eNs ns).showable = true := by
  show PyData.showable (.tuple (ns.map .int)) = true
  rw [PyData.showable]
  refine showAll_map fun n hn => ?_
  rw [PyData.showable]
  exact decide_eq_true (nm_log (h n hn))
theorem show_eSt {st : St2} (h1 : ∀ n ∈ st.1, Nm n) (h2 : ∀ c ∈ st.2, ∀ n ∈ c, Nm n) : (eSt st).showable = true := by
  have gen : ∀ a b : PyData, PyData.showable (.tuple [a, b]) = (a.showable && b.showable) := fun a b => by simp [PyData.showable, PyData.showableAll]
  have g2 : (PyData.tuple (st.2.map eNs)).showable = true := by rw [PyData.showable]; exact showAll_map fun c hc => show_eNs (h2 c hc)
  show PyData.showable (.tuple [eNs st.1, .tuple (st.2.map eNs)]) = true
  rw [gen, g2, show_eNs h1]
  rfl
theorem dep_eSt (st : St2) : (eSt st).depth ≤ 3 := by
  have gen : ∀ a b : PyData, a.depth ≤ 2 → b.depth ≤ 2 → PyData.depth (.tuple [a, b]) ≤ 3 := fun a b h1 h2 => by
    rw [PyData.depth, PyData.depthAll, PyData.depthAll, PyData.depthAll]
    have := Nat.max_le.mpr ⟨h1, Nat.max_le.mpr ⟨h2, Nat.zero_le 2⟩⟩
    omega
  refine gen _ _ (Nat.le_trans (depth_eNs _) (by decide)) ?_
  rw [PyData.depth]
  exact Nat.succ_le_succ (depth_enc depth_eNs _)
theorem show_eTab {rows : Tab} (h : ∀ r ∈ rows, RowOk r) : (eTab rows).showable = true := by
  show PyData.showable (.dict (rows.map fun r => (eNs r.1, eSt r.2))) = true
  rw [PyData.showable]
  exact showKv_map fun r hr => ⟨show_eNs (h r hr).k, show_eSt (h r hr).s.n1 (h r hr).s.n2⟩
theorem dep_eTab (rows : Tab) : (eTab rows).depth ≤ 4 := by
  show PyData.depth (.dict (rows.map fun r => (eNs r.1, eSt r.2))) ≤ 4
  rw [PyData.depth]
  exact Nat.succ_le_succ (depKv_map (fun r => ⟨Nat.le_trans (depth_eNs _) (by decide), dep_eSt _⟩) rows)
theorem big6 {n : Nat} (h : n ≤ 100000) : n ≤ sizeLine := Nat.le_trans h (by decide)
/-- a list of one -/
theorem shw_one {d : PyData} (h1 : d.showable = true) (h2 : d.depth ≤ 50) (h3 : d.shown.length ≤ 50000) : Shw (.list [d]) := by
  refine ⟨by simp [PyData.showable, PyData.showableAll, h1], ?_, ?_⟩
  · rw [PyData.depth, PyData.depthAll, PyData.depthAll]
    have := Nat.max_le.mpr ⟨h2, Nat.zero_le 50⟩
    omega
  · have e : (PyData.list [d]).shown = listText [d.shown] := by rw [PyData.shown, PyData.shownAll, PyData.shownAll]
    rw [e]
    have h := list_le [d.shown]
    have hp : pile [d.shown] = d.shown.length + 2 := by rw [pile_cons]; rfl
    exact big6 (by omega)
theorem shw_none : Shw .none := ⟨by simp [PyData.showable], by simp [PyData.depth], by rw [PyData.shown]; exact big6 (by decide +kernel)⟩
/-- what a call gives, as a list, or what the error keeps -/
def got : Except PyData PyData → PyData
  | .ok r => .list [r]
  | .error e => e
theorem shw_gotN {z : Str} (hz : z.length ≤ 189) : Shw (got (resN z)) := by
  unfold resN
  cases h : numbersOf z with
  | none => exact shw_none
  | some ns =>
    have h1 := shown_nums h
    exact shw_one (show_eNs (numbersOf_nm h)) (Nat.le_trans (depth_eNs _) (by decide)) (by omega)
theorem shw_gotS {z : Str} (hz : z.length ≤ 189) : Shw (got (resS z)) := by
  unfold resS
  cases h : stateOf z with
  | none => exact shw_none
  | some st =>
    have h1 := shown_state h
    have h2 := stateOf_ok h
    exact shw_one (show_eSt h2.n1 h2.n2) (Nat.le_trans (dep_eSt _) (by decide)) (by omega)
theorem tabGo_ok : ∀ {lns : List Str} {acc rows : Tab}, (∀ r ∈ acc, RowOk r) → tabGo lns acc = .ok rows → ∀ r ∈ rows, RowOk r
  | [], acc, rows, ha, h => by
    have e : acc = rows := by injection h
    rw [← e]
    exact ha
  | ln :: lns, acc, rows, ha, h => by
    unfold tabGo at h
    cases er : rowOf ln with
    | none => rw [er] at h; cases h
    | some r =>
      rw [er] at h
      have h' : (if after r.1 acc = true then tabGo lns (acc ++ [r]) else .error acc.length) = Except.ok rows := h
      split at h'
      · refine tabGo_ok (fun q hq => ?_) h'
        rcases List.mem_append.mp hq with hq | hq
        · exact ha q hq
        · rw [List.mem_singleton.mp hq]
          exact rowOf_ok er
      · cases h'
theorem tabGo_err : ∀ {lns : List Str} {acc : Tab} {n : Nat}, tabGo lns acc = .error n → n ≤ acc.length + lns.length
  | [], acc, n, h => by cases h
  | ln :: lns, acc, n, h => by
    unfold tabGo at h
    cases er : rowOf ln with
    | none =>
      rw [er] at h
      have e : acc.length = n := by injection h
      omega
    | some r =>
      rw [er] at h
      have h' : (if after r.1 acc = true then tabGo lns (acc ++ [r]) else .error acc.length) = Except.error n := h
      split at h'
      · have := tabGo_err h'
        rw [List.length_append, List.length_singleton] at this
        rw [List.length_cons]
        omega
      · have e : acc.length = n := by injection h'
        omega
theorem nm_small {n : Nat} (h : n ≤ 1000) : Nm (n : Int) := ⟨Int.natCast_nonneg _, Int.lt_of_le_of_lt (show (n : Int) ≤ 1000 by omega) (by decide +kernel)⟩
theorem shw_int {n : Int} (h : Nm n) : Shw (.int n) := ⟨by rw [PyData.showable]; exact decide_eq_true (nm_log h), by rw [PyData.depth]; exact Nat.zero_le _, by
  rw [PyData.shown]
  have := sN_len h
  exact big6 (by show (sN n).length ≤ _; omega)⟩
theorem shw_gotT {z : Str} (hz : z.length ≤ 189) : Shw (got (resT z)) := by
  unfold resT
  cases h : tableOf z with
  | error n =>
    have h1 := tabGo_err (acc := []) h
    have h2 := linesOf_count z
    exact shw_int (nm_small (by simp only [List.length_nil] at h1; omega))
  | ok rows =>
    have h1 := shown_table h
    exact shw_one (show_eTab (tabGo_ok (acc := []) (fun r hr => nomatch hr) h)) (Nat.le_trans (dep_eTab _) (by decide)) (by omega)

/-! ### a def that is called without guards -/
structure FnG (P : Program) (w : World) (K : PySem.W.Frag) (mg : Str → Option Value) (base : Heap) (CX : CXT) (k : Nat) (f : Addr) (fd : FuncData) (ps : List Str) (sp : Sp) : Prop where
  len : ∀ vs H Q E, sp vs H Q E → vs.length = ps.length
  run : ∀ (A : Around) (outer : List Env) (s : Shared) (H : Hp) (args : Args) (us : List Value) (vs : List V) (Q : VK) (E : XK), Room k A → A.guards = some [] → Env0 P w K mg base A outer s H → BindsTo s fd args (ps.zip us) → Vals vs us → sp vs H Q E →
    codeAny (model P w) A (.call (.ref f) args) (CR CX outer P w H s Q E) s
theorem fnG_of {P : Program} {w : World} {K : PySem.W.Frag} {mg : Str → Option Value} {base : Heap} {x qual : Str} {st : Stmt} {f : Addr} {fd : FuncData} {N ps : List Str} {k : Nat} {sp : Sp} (F : Fun K x qual st f fd) (S : FnScope N ps (defScope st)) (len : ∀ vs H Q E, sp vs H Q E → vs.length = ps.length)
    (hbody : ∀ (cdv : Value) (A : Around) (outer : List Env) (s : Shared) (H : Hp) (vs : List V) (Q : VK) (E : XK), (∃ oc od kV doc pm an ct osl, fd = PySem.W.fnOf x qual (defArgs st) (defBody st) (defScope st) .none kV doc pm an cdv ct ∧ K.lookup f = some ⟨oc, od, .func fd, osl⟩ ∧ PySem.W.codeIn K cdv qual = true) →
      Room k (A.deeper (envOfC qual (defScope st) s.heap.objs.size f cdv)) → (A.deeper (envOfC qual (defScope st) s.heap.objs.size f cdv)).guards = some [] → sp vs H Q E →
      ∃ t, PSs (cxOf CX0 P w K mg base N qual (defScope st) f cdv A outer s H E).nox (defBody st) t ∧ t { nx := fun _ H' => Q .non H', rt := Q } (start N vs) H) : FnG P w K mg base CX0 (k + 1) f fd ps sp := by
  obtain ⟨oc, od, kV, doc, pm, an, cdv, ct, osl, rfl, lk, hcd⟩ := F.ex
  refine ⟨len, fun A outer s H args us vs Q E hr hg e0 hb r h => ?_⟩
  exact LamX.run_ofS lk hcd S hr e0 hb r (len _ _ _ _ h) fun hr' => by
    obtain ⟨t, ht, hq⟩ := hbody cdv A outer s H vs Q E ⟨oc, od, kV, doc, pm, an, ct, osl, rfl, lk, hcd⟩ hr' hg h
    exact ⟨t, ht.nox, hq⟩
section
variable {X : Cx} {k : Nat} {f : Addr} {fd : FuncData} {ps : List Str} {sp : Sp} {x : Str} {p pos : Pos} {e : Expr} {es : List Expr} {t : TA}
def tCallG (sp : Sp) (t : TA) : TE := fun σ H Q => t σ H fun vs H1 => sp vs H1 Q fun _ _ _ => False
theorem pe_callG (F : FnG X.prog X.w X.K X.mg X.base CX0 k f fd ps sp) (hr : Room k X.A) (gd : X.A.guards = some []) (hg : Gl X x) (hm : X.mg x = some (.ref f)) (hk : PySem.W.keepIn X.K (.ref f) = true) (hb : Binds X.K fd ps [])
    (ha : PA X (e :: es) t) (hdb : (x == ("__debug__" : Str)) = false := by decide) (he : starEach (e :: es) X.env = (false, eval e X.env) :: starEach es X.env := by rfl) (hpl : (backTo pos (starEach es X.env)).any (·.1) = false := by rfl) :
    PE X (.Call (.Name x p) (e :: es) [] pos) (tCallG sp t) := by
  refine ⟨fun pins s σ H Q I h => ?_⟩
  refine wpAny_Call_Name_kw (ld_glob I hg hm ?_ hdb)
  refine PySem.W.callWith_K (h₀ := X.base) I.ok.mod.kin hk (thn (ha.run pos pins s σ H _ I h) fun us s1 ⟨vs, H1, I1, r, q⟩ => ⟨I1.kIn, ?_⟩) he hpl
  have hl : us.length = ps.length := by rw [← r.length]; exact F.len _ _ _ _ q
  have b := hb s1 us I1.kIn (by rw [List.append_nil]; exact hl)
  rw [List.append_nil] at b
  refine wpAny_call (codeAny_mono (F.run X.A X.stack s1 H1 ⟨us, []⟩ us vs Q _ hr gd I1.env0 b r q) fun r s' hq => ?_)
  cases r with
  | error e => exact (show False from hq).elim
  | ok fl =>
    cases fl with
    | ret u => exact I1.after hq
    | next => exact False.elim hq
    | brk => exact False.elim hq
    | cont => exact False.elim hq
end
end K7


set_option Elab.async false
set_option linter.all false
set_option maxRecDepth 100000
/-! _law_got with a lambda. -/
namespace K7
open PySem PySem.Spec PyProof.Rows L2 LamX

theorem takes_len {X : Cx} {W : WX} (t : Takes X W) : Takes X (fun cls d σ H => σ.length = X.N.length → W cls d σ H) := fun u s' ⟨a, B, sI, pins, σ, H, cls, d, e, I, nb, up, sky, na, os, ag, w⟩ =>
  t u s' ⟨a, B, sI, pins, σ, H, cls, d, e, I, nb, up, sky, na, os, ag, w I.len⟩
/-- try: return [a()] / except ParseError as error: return error.line -/
def TGot (C : Addr) : (XK → Hp → VK → Prop) → Hp → VK → Prop := fun tl H Q =>
  tl (fun cls d H' => cls = .ref C ∧ ∃ dd v, d = some dd ∧ H' dd = some (.xd [(("line" : Str), v)]) ∧ Q v H') H (fun v H1 => [v].length ≤ sizeLine ∧ ∀ p, H1 p = none → Q (.ref p) (upd H1 p (.lst [v])))
theorem got_gives {X : Cx} {x a q : Str} {sg : Scope} {g C fI : Addr} {cdg : Value} {p1 p2 p3 p4 p5 p6 p7 p8 p9 p10 : Pos} {Ng : List Str} (T : K7E.ErrTxt X.K X.mg C fI) (hN : Ng = [a, "error"]) (nd : Ng.Nodup) (hge : sg.names.lookup (Str.ofString "ParseError") = some .globalImplicit) (hle : sg.names.lookup (Str.ofString "error") = some .local) (hk : sg.kind = .function) :
    GivesTo X Ng x sg g cdg [.Try [.Return (some (.List [.Call (.Name a p1) [] [] p2] p3)) p4] [.ExceptHandler (some (.Name "ParseError" p5)) (some "error") [.Return (some (.Attribute (.Name "error" p6) "line" p7)) p8] p9] [] [] p10] a q (TGot C) := by
  intro f c' s H Q tl act hc h
  subst hN
  have hgl : Gl (cxOf C8.CX0 X.prog X.w X.K X.mg X.base [a, "error"] x sg g cdg X.A X.stack s H C8.E0).nox "ParseError" := hge
  have hlo : (cxOf C8.CX0 X.prog X.w X.K X.mg X.base [a, "error"] x sg g cdg X.A X.stack s H C8.E0).nox.env.kindOf "error" = some .local := hle
  refine ⟨_, pss_one (ps_try_as (X := (cxOf C8.CX0 X.prog X.w X.K X.mg X.base [a, "error"] x sg g cdg X.A X.stack s H C8.E0).nox) (c := .ref C) (i := 1)
      (tb := fun W D σ H => ∃ Ech : XK, (∀ cls d σ' H', Ech cls d H' → σ'.length = 2 → W cls d σ' H') ∧ σ[0]? = some (some (.ref f)) ∧ H c' = some (CodeO c' q) ∧ tl Ech H (fun v H1 => [v].length ≤ sizeLine ∧ ∀ p, H1 p = none → D.rt (.ref p) (upd H1 p (.lst [v]))))
      (ts := fun a cls d => tRet (tLine C a cls d (tVar 1))) (Wout := fun _ _ _ _ => False)
      rfl rfl nd rfl hlo ⟨hgl, by decide, .inl T.gC⟩ L2.takes0 (fun W pn xe tk _ => ?_) (fun a oe cls d pn hz hf => pss_one (ps_ret (pe_line T hz hf (pe_var (i := 1) rfl (.inl hle) (by decide) (by decide)))))), ?_⟩
  · refine ⟨fun pins s' σ H' D I h' => ?_⟩
    obtain ⟨Ech, hW, h1, h2, h3⟩ := h'
    have hp := act _ pn xe Ech p1 p2 (takes_len tk) (fun cls d σ' H' he hl => hW cls d σ' H' he hl)
    have hq := pss_one (ps_ret (pos := p4) (pe_lst (pos := p3) (pa_cons hp pa_nil (by rfl))))
    exact hq.run pins s' σ H' D I ⟨h1, h2, h3⟩
  · refine ⟨_, fun cls d σ' H' ⟨e1, dd, v, e2, e3, e4⟩ hl => ⟨true, by rw [e1]; exact T.te, fun _ a ha => ?_, fun z => nomatch z⟩, rfl, hc, h⟩
    refine ⟨.ref a, ?_, rfl, e1, dd, v, e2, e3, e4⟩
    rw [List.getElem?_set_self (by rw [hl]; decide)]
section
variable {X : Cx} {l : Sk}
/-- the reading of a reader's call within the lambda -/
theorem pe_lamBody {A : Around} {outer : List Env} {s : Shared} {H : Hp} {E : XK} {scope : Scope} {f c' : Addr} {k : Nat} {C fR : Addr} {fdR : FuncData} {res : Str → Except PyData PyData} {rd v : Str} {p1 p2 p3 : Pos} (i : Nat)
    (FR : FnOk X.prog X.w X.K X.mg X.base (L2.CX X.prog X.w) k fR fdR ["text"] (rdSp X.K C res)) (hr : Room k (A.deeper (lamEnv X scope s.heap.objs.size f c'))) (hm : X.mg rd = some (.ref fR)) (hk : PySem.W.keepIn X.K (.ref fR) = true) (hb : Binds X.K fdR ["text"] [])
    (hN : X.N[i]? = some v) (hv : Vis scope v) (hg : scope.names.lookup rd = some .globalImplicit) (hd : (v == ("__debug__" : Str)) = false) (hcd : (v == ("__classdict__" : Str)) = false) (hdb : (rd == ("__debug__" : Str)) = false) :
    PE (lamCx X A outer s H E scope f c') (.Call (.Name rd p1) [.Name v p2] [] p3) (tCallS (rdSp X.K C res) (WE fun cls d _ H => E cls d H) (tCons (tVar i) tNil)) :=
  pe_callS FR hr hg hm hk hb (fun σ => passAt (takes_of rfl rfl rfl rfl) σ) (pa_cons (pe_var (i := i) hN hv hd hcd) pa_nil rfl) hdb rfl rfl
end

/-! ### all but the tables of code objects stays -/
theorem ext_rd {H H' : Hp} {a : Addr} {u : HO} (e : ExtN H H') (h : Rd H a u) (hn : ∀ ps, u ≠ .tbl ps) : Rd H' a u := by
  rcases h with h | ⟨o, h⟩
  · exact .inl (e _ _ h hn)
  · exact .inr ⟨o, e _ _ h (fun ps z => by cases z)⟩
mutual
theorem Da.ext {K : PySem.W.Frag} {H H' : Hp} (e : ExtN H H') : ∀ {v : V} {d : PyData}, Da K H v d → Da K H' v d
  | _, _, .non => .non
  | _, _, .bl b => .bl b
  | _, _, .int n => .int n
  | _, _, .str z => .str z
  | _, _, .lst h1 h2 => .lst (by
      rcases h1 with h1 | h1
      · exact .inl (ext_rd e h1 (fun ps z => by cases z))
      · exact .inr h1) (DaAll.ext e h2)
  | _, _, .tup h1 h2 => .tup (e _ _ h1 (fun ps z => by cases z)) (DaAll.ext e h2)
  | _, _, .dct h1 h2 => .dct (e _ _ h1 (fun ps z => by cases z)) (DaAll.ext e h2)
theorem DaAll.ext {K : PySem.W.Frag} {H H' : Hp} (e : ExtN H H') : ∀ {vs : List V} {ds : List PyData}, DaAll K H vs ds → DaAll K H' vs ds
  | _, _, .nil => .nil
  | _, _, .cons h1 h2 => .cons (Da.ext e h1) (DaAll.ext e h2)
end
theorem Sl.ext {K : PySem.W.Frag} {σ : L2.St} {H H' : Hp} {l : Sk} (s : Sl K σ H l) (e : ExtN H H') : Sl K σ H' l := ⟨s.len, fun i d q => by
  obtain ⟨x, e1, e2⟩ := s.has i d q
  exact ⟨x, e1, e2.ext e⟩⟩
theorem extS {H H' : Hp} (e : Same H H') : ExtN H H' := ExtN.of e
/-- with the slots l, e comes to d; tables may grow -/
def tX (K : PySem.W.Frag) (T : List (Addr × Str)) (l : Sk) (d : PyData) : TE := fun σ H Q => Tabs T H ∧ Sl K σ H l ∧ ∀ x H', ExtN H H' → Tabs T H' → Da K H' x d → Q x H'
def tXt (K : PySem.W.Frag) (T : List (Addr × Str)) (l : Sk) (b : Bool) : TT := fun σ H Q => Tabs T H ∧ Sl K σ H l ∧ ∀ H', ExtN H H' → Tabs T H' → Q b H'
abbrev PX (X : Cx) (T : List (Addr × Str)) (l : Sk) (e : Expr) (d : PyData) : Prop := PE X e (tX X.K T l d)
abbrev PXT (X : Cx) (T : List (Addr × Str)) (l : Sk) (e : Expr) (b : Bool) : Prop := PT X e (tXt X.K T l b)
section
variable {X : Cx} {l : Sk} {T : List (Addr × Str)} {e a b : Expr} {pos p : Pos} {d d1 d2 : PyData}
theorem px_repr (gd : X.A.guards = some []) (hu : X.A.units + 64 < cLine) (m : SM X.base) (g : Gt X.mg) (h : PX X T l e d) (hs : Shw d) (hg : Gl X "repr" := by rfl) (he : starEach [e] X.env = (false, eval e X.env) :: starEach [] X.env := by rfl) :
    PX X T l (.Call (.Name "repr" p) [e] [] pos) (.str d.shown) :=
  peImp (pe_callB (cr_rep gd hu m) hg g.repr (by decide +kernel) (pa_cons h pa_nil he) (by decide) (by decide) he (by rfl)) fun σ H Q ⟨t, s, k⟩ => ⟨t, s, fun x H1 e1 t1 q1 => ⟨x, d, rfl, q1, hs, k _ H1 e1 t1 (.str _)⟩⟩
theorem pxt_cmp {op : CmpOp} {r : R2} {v : Bool} (ho : OpR X (compareOp op) r) (hr : OpD X.K r d1 d2 (.bool v)) (ha : PX X T l a d1) (hb : PD X l b d2) (hm : behindInMarks op b = false := by first | exact nomark _ | rfl) : PXT X T l (.Compare a [op] [b] pos) v :=
  ptImp (pt_cmpR ho ha hb hm) fun σ H Q ⟨t, s, k⟩ => ⟨t, s, fun x H1 e1 t1 q1 => ⟨s.ext e1, fun y H2 e2 q2 => hr x y H2 _ (q1.mono e2) q2 fun z H3 e3 q3 => by
    cases q3
    exact ⟨v, rfl, k H3 ((e1.trans (extS e2)).trans (extS e3)) ((t1.ext e2).ext e3)⟩⟩⟩
theorem px_cmp {op : CmpOp} {r : R2} (ho : OpR X (compareOp op) r) (hr : OpD X.K r d1 d2 d) (ha : PX X T l a d1) (hb : PD X l b d2) (hm : behindInMarks op b = false := by first | exact nomark _ | rfl) : PX X T l (.Compare a [op] [b] pos) d :=
  peImp (pe_cmpR ho ha hb hm) fun σ H Q ⟨t, s, k⟩ => ⟨t, s, fun x H1 e1 t1 q1 => ⟨s.ext e1, fun y H2 e2 q2 => hr x y H2 Q (q1.mono e2) q2 fun z H3 e3 q3 => k z H3 ((e1.trans (extS e2)).trans (extS e3)) ((t1.ext e2).ext e3) q3⟩⟩
def tOnX (K : PySem.W.Frag) (T : List (Addr × Str)) (l : Sk) (t : TS) : TS := fun D σ H => Tabs T H ∧ Sl K σ H l ∧ ∀ H', ExtN H H' → Tabs T H' → t D σ H'
theorem px_ifF {t : TS} {rest body : List Stmt} {c : Expr} (h : PXT X T l c false) (r : PSs X rest t) : PSs X (.If c body [] pos :: rest) (tOnX X.K T l t) :=
  pssImp (pss_cons (ps_if h (pssBot (ss := body)) pss_nil) r) fun D σ H ⟨t, s, k⟩ => ⟨t, s, fun H1 e1 t1 => by
    refine L2.iteF ?_
    exact k H1 e1 t1⟩
theorem px_ret {rest : List Stmt} (h : PX X T l e d) : PSs X (.Return (some e) pos :: rest) (fun D σ H => Tabs T H ∧ Sl X.K σ H l ∧ ∀ x H', ExtN H H' → Tabs T H' → Da X.K H' x d → D.rt x H') :=
  pssImp (pss_cons (ps_ret h) (pssBot (ss := rest))) fun D σ H ⟨t, s, k⟩ => ⟨t, s, fun x H1 e1 t1 q1 => k x H1 e1 t1 q1⟩
end
/-- the wish of a call by _law_got -/
theorem got_read {K : PySem.W.Frag} {T : List (Addr × Str)} {l : Sk} {i : Nat} {z : Str} {C : Addr} {res : Str → Except PyData PyData} (hz : z.length ≤ 189) (hl : l[i]? = some (some (.str z))) (σ : L2.St) (H : Hp) (Q : VK) (h : tX K T l (got (res z)) σ H Q) :
    tLam T (TGot C) (fun E => tCallS (rdSp K C res) (WE fun cls d _ H => E cls d H) (tCons (tVar i) tNil)) σ H Q := by
  obtain ⟨t, s, k⟩ := h
  refine ⟨t, fun H1 e1 t1 => ?_⟩
  obtain ⟨x, ex, dx⟩ := s.has i _ hl
  cases dx
  refine ⟨_, ex, z, hz, .cons (.str z) .nil, fun r hr x H2 e2 d2 => ⟨by show 1 ≤ sizeLine; decide, fun p hp => ?_⟩, fun e he v d H2 e2 dv hd => ⟨rfl, d, v, rfl, upd_same, ?_⟩⟩
  · have eN : Same H2 (upd H2 p (.lst [x])) := same_new hp
    refine k _ _ (e1.trans (extS (e2.trans eN))) ((t1.ext e2).ext eN) ?_
    rw [show got (res z) = .list [r] by rw [hr]; rfl]
    exact .lst (SqL.of upd_same) (.cons (d2.mono eN) .nil)
  · have eN : Same H2 (upd H2 d (.xd [(("line" : Str), v)])) := same_new hd
    refine k _ _ (e1.trans (extS (e2.trans eN))) ((t1.ext e2).ext eN) ?_
    rw [show got (res z) = e by rw [he]; rfl]
    exact dv.mono eN
end K7


set_option Elab.async false
set_option linter.all false
set_option maxRecDepth 100000
set_option maxHeartbeats 1000000
/-! _law_strings_right. -/
namespace K7
open PySem PySem.Spec PyProof.Rows L2 LamX

abbrev sLawGot : Stmt := top 47
abbrev sStringsRight : Stmt := top 48
abbrev nSR : List Str := ["_law_one", "_law_two", "_law_six", "_law_due"]
theorem scLawGot : FnScope ["_law_call", "error"] ["_law_call"] (defScope sLawGot) := ⟨rfl, rfl, rfl, by decide +kernel, rfl, by decide +kernel, by decide +kernel⟩
theorem scStringsRight : FnScope nSR ["_law_one", "_law_two", "_law_six"] (defScope sStringsRight) := ⟨rfl, rfl, rfl, by decide +kernel, rfl, by decide +kernel, by decide +kernel⟩
/-- a reader by its name -/
structure Rk (P : Program) (w : World) (K : PySem.W.Frag) (mg : Str → Option Value) (base : Heap) (C : Addr) (k : Nat) (x : Str) (res : Str → Except PyData PyData) (f : Addr) (fd : FuncData) : Prop where
  ok : FnOk P w K mg base (L2.CX P w) k f fd ["text"] (rdSp K C res)
  at_ : mg x = some (.ref f)
  kp : PySem.W.keepIn K (.ref f) = true
  bd : Binds K fd ["text"] []
/-- the lambdas' name -/
def qSR : Str := (envOfC "_law_strings_right" (defScope sStringsRight) 0 0 .none).qual ++ "<lambda>"
def spSR (K : PySem.W.Frag) (T : List (Addr × Str)) : Sp := fun vs H Q _ => ∃ z1 z2 z6 : Str, z1.length ≤ 189 ∧ z2.length ≤ 189 ∧ z6.length ≤ 189 ∧ DaAll K H vs [.str z1, .str z2, .str z6] ∧ Tabs T H ∧ ∀ H', ExtN H H' → Tabs T H' → Q (.bl true) H'
section
variable {P : Program} {w : World} {K : PySem.W.Frag} {mg : Str → Option Value} {base : Heap} {f : Addr} {fd : FuncData} {C fI c Pt : Addr} {f1 f2 f3 fg : Addr} {fd1 fd2 fd3 fdg : FuncData}
abbrev xSR (P : Program) (w : World) (K : PySem.W.Frag) (mg : Str → Option Value) (base : Heap) (f : Addr) (cdv : Value) (A : Around) (outer : List Env) (s : Shared) (H : Hp) (E : XK) : Cx := (cxOf CX0 P w K mg base nSR "_law_strings_right" (defScope sStringsRight) f cdv A outer s H E).nox
theorem ok_stringsRight (F : Fun K "_law_strings_right" "_law_strings_right" sStringsRight f fd) (hcode : fd.code = .ref c) (g : Gt mg) (T : K7E.ErrTxt K mg C fI) (m : SM base) (TB : TabB base mg c Pt)
    (R1 : Rk P w K mg base C 9 "read_numbers" resN f1 fd1) (R2 : Rk P w K mg base C 9 "read_state" resS f2 fd2) (R3 : Rk P w K mg base C 9 "read_table" resT f3 fd3)
    (FG : Fun K "_law_got" "_law_got" sLawGot fg fdg) (hgm : mg "_law_got" = some (.ref fg)) (hgk : PySem.W.keepIn K (.ref fg) = true) (hgb : Binds K fdg ["_law_call"] [])
    (c1 : Fk P w K mg base CX0 1 "_law_due_numbers" (spD K domNumbersOf)) (c2 : Fk P w K mg base CX0 2 "_law_due_state" (spD K domStateOf)) (c3 : Fk P w K mg base CX0 3 "_law_due_table" (spD K domLawDueTable)) :
    FnG P w K mg base CX0 12 f fd ["_law_one", "_law_two", "_law_six"] (spSR K [(Pt, qSR)]) := by
  refine fnG_of F scStringsRight (fun vs H Q E h => ?_) (fun cdv A outer s H vs Q E hfd hr hgd h => ?_)
  · obtain ⟨_, _, _, _, _, _, h2, _⟩ := h
    rw [h2.length]
    rfl
  obtain ⟨oc, od, kV, doc, pm, an, ct, osl, rfl, lk, hcd⟩ := hfd
  have hcode' : cdv = .ref c := hcode
  subst hcode'
  obtain ⟨z1, z2, z6, hz1, hz2, hz6, h1, hT, hq⟩ := h
  obtain ⟨ocg, odg, kVg, docg, pmg, ang, cdvg, ctg, oslg, rfl, lkg, hcdg⟩ := FG.ex
  have hu := hr.units
  have s0 : Sl K (L2.start nSR vs) H [some (.str z1), some (.str z2), some (.str z6), none] := sl_start h1 _ rfl
  have LG : ∀ {i : Nat} {rd v : Str} {res : Str → Except PyData PyData} {fR : Addr} {fdR : FuncData} {params : Arguments} {scope : Scope} {p1 p2 p3 p lpos pos : Pos} {z : Str} {l : Sk}, Rk P w K mg base C 9 rd res fR fdR → z.length ≤ 189 → l[i]? = some (some (.str z)) →
      nSR[i]? = some v → Vis scope v → scope.names.lookup rd = some .globalImplicit → (v == ("__debug__" : Str)) = false → (v == ("__classdict__" : Str)) = false → (rd == ("__debug__" : Str)) = false →
      LamS (defScope sStringsRight) scope → defaultsOf params (xSR P w K mg base f (.ref c) A outer s H E).env = ([], []) → (∀ (q : Str) (cl : List (Str × Addr)) (pm cv ctv : Value), bindArgs (PySem.W.kla_fn "<lambda>" q params (.Call (.Name rd p1) [.Name v p2] [] p3) scope cl pm cv ctv) ⟨[], []⟩ = pure []) →
      PX (xSR P w K mg base f (.ref c) A outer s H E) [(Pt, qSR)] l (.Call (.Name "_law_got" p) [.Lambda params (.Call (.Name rd p1) [.Name v p2] [] p3) scope lpos] [] pos) (got (res z)) :=
    fun {i rd v res fR fdR params scope p1 p2 p3 p lpos pos z l} R hz hl hN hv hg hd hcd hdb hL hdef hbind =>
      peImp (pe_lamcall (X := xSR P w K mg base f (.ref c) A outer s H E) (T := [(Pt, qSR)]) (k := 9) (TT := TGot C) rfl hgm hgk lkg hcdg hgb scLawGot rfl (.inl rfl)
        (got_gives (X := xSR P w K mg base f (.ref c) A outer s H E) T rfl scLawGot.nd rfl rfl rfl) TB rfl (by exact List.mem_singleton.mpr rfl) (fun p hp _ => by rw [List.mem_singleton.mp hp]; rfl) hr hL hdef hbind
        (fun A outer s H E f c' hr2 => pe_lamBody i R.ok hr2 R.at_ R.kp R.bd hN hv hg hd hcd hdb)) fun σ H Q q => got_read hz hl σ H Q q
  have d1 : ∀ {z : Str}, (match eON (numbersOf z) with | .none => false | _ => true) = (numbersOf z).isSome := eON_some
  let l1 : Sk := [some (.str z1), some (.str z2), some (.str z6), some (eON (numbersOf z1))]
  let l2 : Sk := [some (.str z1), some (.str z2), some (.str z6), some (eOS (stateOf z2))]
  let l3 : Sk := [some (.str z1), some (.str z2), some (.str z6), some (eTT (tableOf z6))]
  -- what is due, shown
  have e1 : ∃ t1 : TE, PE (xSR P w K mg base f (.ref c) A outer s H E) (match (defBody sStringsRight).getD 1 (.Pass ⟨0, 0, 0, 0⟩) with | .If (.Compare _ _ [e] _) _ _ _ => e | _ => .Constant .none 0 ⟨0, 0, 0, 0⟩) t1 ∧ ∀ σ H Q, tD K l1 (.str (got (resN z1)).shown) σ H Q → t1 σ H Q := by
    cases hn : numbersOf z1 with
    | none =>
      have hr1 : got (resN z1) = .none := by unfold resN; rw [hn]; rfl
      rw [hr1]
      exact ⟨_, pd_repr (l := l1) hgd hu m g (pd_ifF (pdt_cmp op_notN (notN_b (d := eON (numbersOf z1)) (by rw [hn]; rfl)) (pd_var 3) pd_none) pd_none) shw_none, fun σ H Q q => q⟩
    | some ns =>
      have hr1 : got (resN z1) = .list [eON (numbersOf z1)] := by unfold resN; rw [hn]; rfl
      have hs := shw_gotN hz1
      rw [hr1] at hs ⊢
      exact ⟨_, pd_repr (l := l1) hgd hu m g (pd_ifT (pdt_cmp op_notN (notN_b (d := eON (numbersOf z1)) (by rw [hn]; rfl)) (pd_var 3) pd_none) (pd_lst (pda1 (pd_var 3)) (show 1 ≤ 100000 by decide))) hs, fun σ H Q q => q⟩
  have e2 : ∃ t1 : TE, PE (xSR P w K mg base f (.ref c) A outer s H E) (match (defBody sStringsRight).getD 3 (.Pass ⟨0, 0, 0, 0⟩) with | .If (.Compare _ _ [e] _) _ _ _ => e | _ => .Constant .none 0 ⟨0, 0, 0, 0⟩) t1 ∧ ∀ σ H Q, tD K l2 (.str (got (resS z2)).shown) σ H Q → t1 σ H Q := by
    cases hn : stateOf z2 with
    | none =>
      have hr1 : got (resS z2) = .none := by unfold resS; rw [hn]; rfl
      rw [hr1]
      exact ⟨_, pd_repr (l := l2) hgd hu m g (pd_ifF (pdt_cmp op_notN (notN_b (d := eOS (stateOf z2)) (by rw [hn]; rfl)) (pd_var 3) pd_none) pd_none) shw_none, fun σ H Q q => q⟩
    | some st =>
      have hr1 : got (resS z2) = .list [eOS (stateOf z2)] := by unfold resS; rw [hn]; rfl
      have hs := shw_gotS hz2
      rw [hr1] at hs ⊢
      exact ⟨_, pd_repr (l := l2) hgd hu m g (pd_ifT (pdt_cmp op_notN (notN_b (d := eOS (stateOf z2)) (by rw [hn]; rfl)) (pd_var 3) pd_none) (pd_lst (pda1 (pd_var 3)) (show 1 ≤ 100000 by decide))) hs, fun σ H Q q => q⟩
  have e3 : ∃ t1 : TE, PE (xSR P w K mg base f (.ref c) A outer s H E) (match (defBody sStringsRight).getD 5 (.Pass ⟨0, 0, 0, 0⟩) with | .Return (some (.Compare _ _ [e] _)) _ => e | _ => .Constant .none 0 ⟨0, 0, 0, 0⟩) t1 ∧ ∀ σ H Q, tD K l3 (.str (got (resT z6)).shown) σ H Q → t1 σ H Q := by
    have b1 : PySem.bootBuiltins "dict" = some (.type "dict") := by decide +kernel
    cases hn : tableOf z6 with
    | error n =>
      have hr1 : got (resT z6) = eTT (tableOf z6) := by unfold resT; rw [hn]; rfl
      have hs := shw_gotT hz6
      rw [hr1] at hs ⊢
      exact ⟨_, pd_repr (l := l3) hgd hu m g (pd_ifF (pdt_val (pd_isi (d := eTT (tableOf z6)) (T := "dict") (r := false) g.isinstance g.dict b1 (pd_var 3) (fun _ q => by rw [hn] at q; cases q) (by rw [hn]; show kitB "int" "dict" = some false; decide +kernel))) (pd_var 3)) hs, fun σ H Q q => q⟩
    | ok rows =>
      have hr1 : got (resT z6) = .list [eTT (tableOf z6)] := by unfold resT; rw [hn]; rfl
      have hs := shw_gotT hz6
      rw [hr1] at hs ⊢
      exact ⟨_, pd_repr (l := l3) hgd hu m g (pd_ifT (pdt_val (pd_isi (d := eTT (tableOf z6)) (T := "dict") (r := true) g.isinstance g.dict b1 (pd_var 3) (fun _ q => by rw [hn] at q; cases q) (by rw [hn]; show kitB "dict" "dict" = some true; decide +kernel))) (pd_lst (pda1 (pd_var 3)) (show 1 ≤ 100000 by decide))) hs, fun σ H Q q => q⟩
  obtain ⟨t1, p1, k1⟩ := e1
  obtain ⟨t2, p2, k2⟩ := e2
  obtain ⟨t3, p3, k3⟩ := e3
  refine ⟨_, pn_asg 3 (l := [some (.str z1), some (.str z2), some (.str z6), none]) (pd_call c1 hr (by decide) (pda1 (pd_var 0)) ⟨z1, hz1, rfl, rfl⟩)
    (px_ifF (T := [(Pt, qSR)]) (l := l1) (pxt_cmp op_ne (neS_f rfl) (px_repr hgd hu m g (LG (i := 0) R1 hz1 rfl rfl (.inr (.inr rfl)) rfl (by decide) (by decide) (by decide) (lamS_by (by decide +kernel)) rfl (fun _ _ _ _ _ => rfl)) (shw_gotN hz1)) (peImp p1 k1))
    (pn_asg 3 (l := l1) (pd_call c2 hr (by decide) (pda1 (pd_var 1)) ⟨z2, hz2, rfl, rfl⟩)
    (px_ifF (T := [(Pt, qSR)]) (l := l2) (pxt_cmp op_ne (neS_f rfl) (px_repr hgd hu m g (LG (i := 1) R2 hz2 rfl rfl (.inr (.inr rfl)) rfl (by decide) (by decide) (by decide) (lamS_by (by decide +kernel)) rfl (fun _ _ _ _ _ => rfl)) (shw_gotS hz2)) (peImp p2 k2))
    (pn_asg 3 (l := l2) (pd_call c3 hr (by decide) (pda1 (pd_var 2)) ⟨z6, hz6, rfl, rfl⟩)
    (px_ret (T := [(Pt, qSR)]) (l := l3) (px_cmp op_eq (eqS_t rfl) (px_repr hgd hu m g (LG (i := 2) R3 hz6 rfl rfl (.inr (.inr rfl)) rfl (by decide) (by decide) (by decide) (lamS_by (by decide +kernel)) rfl (fun _ _ _ _ _ => rfl)) (shw_gotT hz6)) (peImp p3 k3))) scStringsRight.nd)) scStringsRight.nd)) scStringsRight.nd, s0, fun x1 H1 q1 dx1 => ?_⟩
  have s1 := (s0.mono q1).set 3 dx1
  refine ⟨hT.ext q1, s1, fun H2 q2 t2' => ⟨s1.ext q2, fun x2 H3 q3 dx2 => ?_⟩⟩
  have s2 := ((s1.ext q2).mono q3).set 3 dx2
  refine ⟨t2'.ext q3, s2, fun H4 q4 t4 => ⟨s2.ext q4, fun x3 H5 q5 dx3 => ?_⟩⟩
  have s3 := ((s2.ext q4).mono q5).set 3 dx3
  refine ⟨t4.ext q5, s3, fun x H6 q6 t6 dx => ?_⟩
  cases dx
  exact hq H6 (((((extS q1).trans q2).trans (extS q3)).trans q4).trans ((extS q5).trans q6)) t6
end
end K7


set_option Elab.async false
set_option linter.all false
set_option maxRecDepth 100000
/-! The dice: _law_roll, _law_dice. -/
namespace K7
open PySem PySem.Spec PyProof.Rows L2

/-- all but what stands at p -/
def OffP (p : Addr) (H H' : Hp) : Prop := ∀ b o, b ≠ p → H b = some o → H' b = some o
theorem OffP.refl (p : Addr) (H : Hp) : OffP p H H := fun _ _ _ h => h
theorem OffP.trans {p : Addr} {H H1 H2 : Hp} (a : OffP p H H1) (b : OffP p H1 H2) : OffP p H H2 := fun c o n h => b c o n (a c o n h)
theorem offS {p : Addr} {H H' : Hp} (e : Same H H') : OffP p H H' := fun b o _ h => e b o h
theorem offU {p : Addr} {H : Hp} {o : HO} : OffP p H (upd H p o) := fun b u n h => by rw [upd_ne n]; exact h
/-- the dice at p, rolled at most n times -/
def DiceAt (H : Hp) (p : Addr) (n : Nat) : Prop := ∃ a b c : Int, H p = some (.lst [.int a, .int b, .int c]) ∧ 0 ≤ a ∧ 0 ≤ b ∧ b < 2 ^ 62 ∧ 0 ≤ c ∧ c ≤ n
theorem DiceAt.mono {H H' : Hp} {p : Addr} {n : Nat} (d : DiceAt H p n) (e : Same H H') : DiceAt H' p n := by
  obtain ⟨a, b, c, h, r⟩ := d
  exact ⟨a, b, c, e _ _ h, r⟩
theorem DiceAt.le {H : Hp} {p : Addr} {m n : Nat} (d : DiceAt H p m) (e : m ≤ n) : DiceAt H p n := by
  obtain ⟨a, b, c, h, h1, h2, h3, h4, h5⟩ := d
  exact ⟨a, b, c, h, h1, h2, h3, h4, by omega⟩
theorem DiceAt.has {H : Hp} {p : Addr} {n : Nat} (d : DiceAt H p n) : ∃ xs, H p = some (.lst xs) := by
  obtain ⟨a, b, c, h, _⟩ := d
  exact ⟨_, h⟩
mutual
/-- data without lists stay where the list at p changes -/
theorem Da.off {K : PySem.W.Frag} {H H' : Hp} {p : Addr} {xs : List V} (hp : H p = some (.lst xs)) (e : OffP p H H') : ∀ {v : V} {d : PyData}, imm d = true → Da K H v d → Da K H' v d
  | _, _, _, .non => .non
  | _, _, _, .bl b => .bl b
  | _, _, _, .int n => .int n
  | _, _, _, .str z => .str z
  | _, _, hi, .lst _ _ => by simp [imm] at hi
  | _, _, hi, .tup h1 h2 => .tup (e _ _ (fun z => by rw [z, hp] at h1; cases h1) h1) (DaAll.off hp e (by simpa [imm] using hi) h2)
  | _, _, hi, .dct _ _ => by simp [imm] at hi
theorem DaAll.off {K : PySem.W.Frag} {H H' : Hp} {p : Addr} {xs : List V} (hp : H p = some (.lst xs)) (e : OffP p H H') : ∀ {vs : List V} {ds : List PyData}, immAll ds = true → DaAll K H vs ds → DaAll K H' vs ds
  | _, _, _, .nil => .nil
  | _ :: _, e0 :: es0, hi, .cons h1 h2 => by
    have hi' : imm e0 = true ∧ immAll es0 = true := by simpa [immAll] using hi
    exact .cons (Da.off hp e hi'.1 h1) (DaAll.off hp e hi'.2 h2)
end
theorem Sl.off {K : PySem.W.Frag} {σ : L2.St} {H H' : Hp} {l : Sk} {p : Addr} {xs : List V} (s : Sl K σ H l) (hi : immS l = true) (hp : H p = some (.lst xs)) (e : OffP p H H') : Sl K σ H' l := ⟨s.len, fun i d q => by
  obtain ⟨x, e1, e2⟩ := s.has i d q
  have := List.all_eq_true.mp hi (some d) (List.mem_of_getElem? q)
  exact ⟨x, e1, Da.off hp e this e2⟩⟩
theorem op_powW {X : Cx} {i j : Int} (hij : i = 10 ^ 60 ∧ j = 10) : OpD X.K (rI (fun i j => i = 10 ^ 60 ∧ j = 10) fun i j => .int (i ^ j.toNat)) (.int i) (.int j) (.int (i ^ j.toNat)) := opd_I hij fun _ => .int _

abbrev sRoll : Stmt := top 35
abbrev sDice : Stmt := top 34
abbrev nRoll : List Str := ["_law_dice_here", "_law_total", "_law_found", "_law_one", "_law_two"]
abbrev nDice : List Str := ["_law_script", "_law_spot", "_law_cell", "_law_great", "_law_blend"]
theorem scRoll : FnScope nRoll ["_law_dice_here", "_law_total"] (defScope sRoll) := ⟨rfl, rfl, rfl, by decide +kernel, rfl, by decide +kernel, by decide +kernel⟩
theorem scDice : FnScope nDice ["_law_script", "_law_spot"] (defScope sDice) := ⟨rfl, rfl, rfl, by decide +kernel, rfl, by decide +kernel, by decide +kernel⟩
/-- a roll: a number below the total -/
def spRoll : Sp := fun vs H Q _ => ∃ (p : Addr) (t : Int) (n : Nat), vs = [.ref p, .int t] ∧ DiceAt H p n ∧ 1 ≤ t ∧ t ≤ 1000000 ∧ n ≤ 1000000 ∧ ∀ (r : Int) H', 0 ≤ r → r < t → OffP p H H' → DiceAt H' p (n + 1) → Q (.int r) H'
section
variable {X : Cx} {l : Sk} {a b e : Expr} {pos p : Pos}
theorem pd_intI {i : Int} (g : Gt X.mg) (h : PD X l e (.int i)) (hg : Gl X "int" := by rfl) (he : starEach [e] X.env = (false, eval e X.env) :: starEach [] X.env := by rfl) : PD X l (.Call (.Name "int" p) [e] [] pos) (.int i) :=
  pd_callTy call_int1 g.int (by decide +kernel) (fun vs H Q hv k => by
    cases hv with
    | cons h1 h2 =>
      cases h2
      cases h1
      exact .inl ⟨i, rfl, k _ H (Same.refl H) (.int i)⟩) (pda1 h he) hg (by decide) (by decide) he (by rfl)
theorem pd_intB {k : Bool} (g : Gt X.mg) (h : PD X l e (.bool k)) (hg : Gl X "int" := by rfl) (he : starEach [e] X.env = (false, eval e X.env) :: starEach [] X.env := by rfl) : PD X l (.Call (.Name "int" p) [e] [] pos) (.int (if k then 1 else 0)) :=
  pd_callTy call_int1 g.int (by decide +kernel) (fun vs H Q hv kk => by
    cases hv with
    | cons h1 h2 =>
      cases h2
      cases h1
      exact .inr ⟨k, rfl, kk _ H (Same.refl H) (.int _)⟩) (pda1 h he) hg (by decide) (by decide) he (by rfl)
theorem pd_abs {i : Int} (g : Gt X.mg) (h : PD X l e (.int i)) (hg : Gl X "abs" := by rfl) (he : starEach [e] X.env = (false, eval e X.env) :: starEach [] X.env := by rfl) : PD X l (.Call (.Name "abs" p) [e] [] pos) (.int (if i < 0 then -i else i)) :=
  pd_callB call_abs g.abs (by decide +kernel) (fun vs H Q hv k => by
    cases hv with
    | cons h1 h2 =>
      cases h2
      cases h1
      exact ⟨i, rfl, k _ H (Same.refl H) (.int _)⟩) (pda1 h he) hg (by decide) (by decide) he (by rfl)
theorem pd_max2 {i j : Int} (g : Gt X.mg) (ha : PD X l a (.int i)) (hb : PD X l b (.int j)) (hc : X.calm = true := by rfl) (hg : Gl X "max" := by rfl) (he : starEach [a, b] X.env = (false, eval a X.env) :: starEach [b] X.env := by rfl) (he2 : starEach [b] X.env = (false, eval b X.env) :: starEach [] X.env := by rfl) (hpl : (backTo pos (starEach [b] X.env)).any (·.1) = false := by rfl) :
    PD X l (.Call (.Name "max" p) [a, b] [] pos) (.int (if j > i then j else i)) :=
  pd_callB (call_max2 hc) g.max (by decide +kernel) (fun vs H Q hv k => by
    cases hv with
    | cons h1 h2 =>
      cases h2 with
      | cons h2 h3 =>
        cases h3
        cases h1
        cases h2
        exact ⟨i, j, rfl, k _ H (Same.refl H) (.int _)⟩) (pda_cons ha (pda1 hb he2) he) hg (by decide) (by decide) he hpl
theorem pd_min2 {i j : Int} (g : Gt X.mg) (ha : PD X l a (.int i)) (hb : PD X l b (.int j)) (hc : X.calm = true := by rfl) (hg : Gl X "min" := by rfl) (he : starEach [a, b] X.env = (false, eval a X.env) :: starEach [b] X.env := by rfl) (he2 : starEach [b] X.env = (false, eval b X.env) :: starEach [] X.env := by rfl) (hpl : (backTo pos (starEach [b] X.env)).any (·.1) = false := by rfl) :
    PD X l (.Call (.Name "min" p) [a, b] [] pos) (.int (if j < i then j else i)) :=
  pd_callB (call_min2 hc) g.min (by decide +kernel) (fun vs H Q hv k => by
    cases hv with
    | cons h1 h2 =>
      cases h2 with
      | cons h2 h3 =>
        cases h3
        cases h1
        cases h2
        exact ⟨i, j, rfl, k _ H (Same.refl H) (.int _)⟩) (pda_cons ha (pda1 hb he2) he) hg (by decide) (by decide) he hpl
theorem pd_add {i j : Int} (ha : PD X l a (.int i)) (hb : PD X l b (.int j)) : PD X l (.BinOp a .Add b pos) (.int (i + j)) := pd_bin op_add (opd_I0 fun _ => .int _) ha hb
theorem pd_sub {i j : Int} (ha : PD X l a (.int i)) (hb : PD X l b (.int j)) : PD X l (.BinOp a .Sub b pos) (.int (i - j)) := pd_bin op_sub (opd_I0 fun _ => .int _) ha hb
theorem pd_mod {i j : Int} (h : 0 < j) (ha : PD X l a (.int i)) (hb : PD X l b (.int j)) : PD X l (.BinOp a .Mod b pos) (.int (i % j)) := pd_bin op_mod (opd_I h fun _ => .int _) ha hb
theorem pd_mulW {i j : Int} (h : CMulW i j) (ha : PD X l a (.int i)) (hb : PD X l b (.int j)) : PD X l (.BinOp a .Mult b pos) (.int (i * j)) := pd_bin op_mulW (opd_I h fun _ => .int _) ha hb
theorem pd_fdivW {i j : Int} (h : CDivW i j) (ha : PD X l a (.int i)) (hb : PD X l b (.int j)) : PD X l (.BinOp a .FloorDiv b pos) (.int (i / j)) := pd_bin op_fdivW (opd_I h fun _ => .int _) ha hb
end
section
variable {P : Program} {w : World} {K : PySem.W.Frag} {mg : Str → Option Value} {base : Heap} {f : Addr} {fd : FuncData}
theorem ok_roll (F : Fun K "_law_roll" "_law_roll" sRoll f fd) (g : Gt mg) : FnOk P w K mg base CX0 1 f fd ["_law_dice_here", "_law_total"] spRoll := by
  refine F.ok scRoll (fun vs H Q E h => ?_) (fun cdv A outer s H vs Q E hr h => ?_)
  · obtain ⟨p, t, n, rfl, _⟩ := h
    rfl
  obtain ⟨p, t, n, rfl, ⟨a, b, c, hp, ha, hb0, hb1, hc0, hc1⟩, ht0, ht1, hn, hq⟩ := h
  have dd : Da K H (.ref p) (.list [.int a, .int b, .int c]) := .lst (SqL.of hp) (.cons (.int a) (.cons (.int b) (.cons (.int c) .nil)))
  have s0 : Sl K (L2.start nRoll [.ref p, .int t]) H [some (.list [.int a, .int b, .int c]), some (.int t), none, none, none] := sl_start (.cons dd (.cons (.int t) .nil)) _ rfl
  by_cases h0 : 0 < a
  · refine ⟨_, pn_ifT (l := [some (.list [.int a, .int b, .int c]), some (.int t), none, none, none]) (pdt_cmp op_gt (gt_t h0) (pd_ix ix_list (opd_ixL (i := 0) (ds := [.int a, .int b, .int c]) rfl) (pd_var 0) pd_int) pd_int) (pn_asg 2 (l := [some (.list [.int a, .int b, .int c]), some (.int t), none, none, none]) (pd_mod (i := a) (j := t) (by omega) (pd_intI g (pd_ix ix_list (opd_ixL (i := 0) (ds := [.int a, .int b, .int c]) rfl) (pd_var 0) pd_int)) (pd_var 1))
      (pss_cons (ps_asg (pd_fdivW (i := a) (j := t) (l := [some (.list [.int a, .int b, .int c]), some (.int t), some (.int (a % t)), none, none]) (wide_div (b := 30) (by omega) (by omega) (by decide) (by decide)) (pd_ix ix_list (opd_ixL (i := 0) (ds := [.int a, .int b, .int c]) rfl) (pd_var 0) pd_int) (pd_var 1)) (pg_sub (pe_var (i := 0) rfl (Or.inl rfl) (by decide) (by decide)) pe_int set_list)) (pss_one (ps_ret (pe_var (i := 2) rfl (Or.inl rfl) (by decide) (by decide))))) scRoll.nd), s0, fun H1 e1 => ⟨s0.mono e1, fun x H2 e2 d2 => ?_⟩⟩
    cases d2
    have s2 := ((s0.mono e1).mono e2).set 2 (Da.int (K := K) (H := H2) (a % t))
    refine ⟨s2, fun y H3 e3 d3 => ?_⟩
    cases d3
    have hp3 : H3 p = some (.lst [.int a, .int b, .int c]) := e3 _ _ (e2 _ _ (e1 _ _ hp))
    refine ⟨.ref p, rfl, p, _, 0, 0, rfl, rfl, hp3, rfl, .int (a % t), rfl, ?_⟩
    refine hq (a % t) _ (Int.emod_nonneg a (by omega)) (Int.emod_lt_of_pos a (by omega)) (((offS e1).trans (offS e2)).trans ((offS e3).trans offU)) ⟨a / t, b, c, upd_same, Int.ediv_nonneg ha (by omega), hb0, hb1, hc0, by omega⟩
  · have k1 : (0 : Int) < 2305843009213693951 := by decide
    have k2 : (0 : Int) < 2305843009213693921 := by decide
    have k3 : (0 : Int) < 2305843009213693723 := by decide
    let c1 : Int := c + 1
    let one : Int := (b + 998244341 * c1) % 2305843009213693951
    let two : Int := (one * one) % 2305843009213693921 * one + 9397 * c1
    let tri : Int := two % 2305843009213693723
    have ho0 : 0 ≤ one := Int.emod_nonneg _ (by decide)
    have ho1 : one < 2305843009213693951 := Int.emod_lt_of_pos _ k1
    have hm0 : 0 ≤ (one * one) % 2305843009213693921 := Int.emod_nonneg _ (by decide)
    have hm1 : (one * one) % 2305843009213693921 < 2305843009213693921 := Int.emod_lt_of_pos _ k2
    have ho2 : one.natAbs < 2 ^ 64 := by omega
    have hm2 : ((one * one) % 2305843009213693921).natAbs < 2 ^ 64 := by omega
    have hc2 : c1.natAbs < 2 ^ 64 := by show (c + 1).natAbs < 2 ^ 64; omega
    let l0 : Sk := [some (.list [.int a, .int b, .int c]), some (.int t), none, none, none]
    let l1 : Sk := [some (.list [.int a, .int b, .int c1]), some (.int t), none, none, none]
    let l2 : Sk := [some (.list [.int a, .int b, .int c1]), some (.int t), none, some (.int one), none]
    let l3 : Sk := [some (.list [.int a, .int b, .int c1]), some (.int t), none, some (.int one), some (.int two)]
    let l4 : Sk := [some (.list [.int a, .int b, .int c1]), some (.int t), none, some (.int one), some (.int tri)]
    have tail : PSs (cxOf CX0 P w K mg base nRoll "_law_roll" (defScope sRoll) f cdv A outer s H E).nox ((defBody sRoll).drop 2) (tDr K l1 (.int ((tri / 8192) % t))) :=
      pr_asg 3 (d1 := .int one) (pd_mod (i := b + 998244341 * c1) (j := 2305843009213693951) k1 (pd_intI g (pd_add (pd_ix ix_list (opd_ixL (i := 1) (ds := [.int a, .int b, .int c1]) rfl) (pd_var 0) pd_int) (pd_mulW (i := 998244341) (j := c1) (wide_mul (a := 64) (b := 64) (by decide) hc2 (by decide) (by decide) (by decide)) pd_int (pd_ix ix_list (opd_ixL (i := 2) (ds := [.int a, .int b, .int c1]) rfl) (pd_var 0) pd_int)))) pd_int)
      (pr_asg 4 (l := l2) (d1 := .int two) (pd_add (pd_mulW (i := (one * one) % 2305843009213693921) (j := one) (wide_mul (a := 64) (b := 64) hm2 ho2 (by decide) (by decide) (by decide)) (pd_mod (i := one * one) (j := 2305843009213693921) k2 (pd_intI g (pd_mulW (i := one) (j := one) (wide_mul (a := 64) (b := 64) ho2 ho2 (by decide) (by decide) (by decide)) (pd_var 3) (pd_var 3))) pd_int) (pd_var 3)) (pd_mulW (i := 9397) (j := c1) (wide_mul (a := 64) (b := 64) (by decide) hc2 (by decide) (by decide) (by decide)) pd_int (pd_ix ix_list (opd_ixL (i := 2) (ds := [.int a, .int b, .int c1]) rfl) (pd_var 0) pd_int)))
      (pr_asg 4 (l := l3) (d1 := .int tri) (pd_mod (i := two) (j := 2305843009213693723) k3 (pd_intI g (pd_var 4)) pd_int)
      (pr_ret (l := l4) (pd_mod (i := tri / 8192) (j := t) (by omega) (pd_intI g (pd_fdivW (i := tri) (j := 8192) (wide_div (b := 30) (by decide) (by decide) (by decide) (by decide)) (pd_var 4) pd_int)) (pd_var 1))) scRoll.nd) scRoll.nd) scRoll.nd
    refine ⟨_, pn_ifF (l := l0) (pdt_cmp op_gt (gt_f h0) (pd_ix ix_list (opd_ixL (i := 0) (ds := [.int a, .int b, .int c]) rfl) (pd_var 0) pd_int) pd_int)
      (pss_cons (ps_asg (pd_add (l := l0) (i := c) (j := 1) (pd_ix ix_list (opd_ixL (i := 2) (ds := [.int a, .int b, .int c]) rfl) (pd_var 0) pd_int) pd_int) (pg_sub (pe_var (i := 0) rfl (Or.inl rfl) (by decide) (by decide)) pe_int set_list)) tail), s0, fun H1 e1 => ⟨s0.mono e1, fun x H2 e2 d2 => ?_⟩⟩
    cases d2
    have hp2 : H2 p = some (.lst [.int a, .int b, .int c]) := e2 _ _ (e1 _ _ hp)
    refine ⟨.ref p, rfl, p, _, 2, 2, rfl, rfl, hp2, rfl, ?_⟩
    have dd1 : Da K (upd H2 p (.lst [.int a, .int b, .int c1])) (.ref p) (.list [.int a, .int b, .int c1]) := .lst (SqL.of upd_same) (.cons (.int a) (.cons (.int b) (.cons (.int c1) .nil)))
    refine ⟨sl_start (.cons dd1 (.cons (.int t) .nil)) _ rfl, fun x H3 e3 d3 => ?_⟩
    cases d3
    exact hq _ H3 (Int.emod_nonneg _ (by omega)) (Int.emod_lt_of_pos _ (by omega)) (((offS e1).trans (offS e2)).trans (offU.trans (offS e3))) ⟨a, b, c1, e3 _ _ upd_same, ha, hb0, hb1, by show 0 ≤ c + 1; omega, by show c + 1 ≤ ((n + 1 : Nat) : Int); omega⟩
end
end K7


set_option Elab.async false
set_option linter.all false
set_option maxRecDepth 100000
/-! _law_dice, _law_pick. -/
namespace K7
open PySem PySem.Spec PyProof.Rows L2

theorem op_pow10 {X : Cx} : OpR X (binaryOp .Pow) (rI (fun i j => i = 10 ^ 60 ∧ j = 10) fun i j => .int (i ^ j.toNat)) := opI fun i j _ _ _ _ _ hc q => by
  obtain ⟨rfl, rfl⟩ := hc
  exact pow_int (by decide) (by decide +kernel) q
section
variable {X : Cx} {l : Sk} {a b c e : Expr} {pos : Pos} {d d1 : PyData} {rest : List Stmt}
theorem pd_pow60 {x1 x2 : Nat} {p1 p2 : Pos} : PD X l (.BinOp (.Constant (.int 10) x1 p1) .Pow (.Constant (.int 60) x2 p2) pos) (.int (10 ^ 60)) := pd_eq (pd_bin op_pow (opd_I (i := 10) (j := 60) ⟨by decide, by decide, by decide⟩ fun _ => .int _) pd_int pd_int) (congrArg PyData.int (by decide +kernel))
theorem pd_pow18 {x1 x2 : Nat} {p1 p2 : Pos} : PD X l (.BinOp (.Constant (.int 10) x1 p1) .Pow (.Constant (.int 18) x2 p2) pos) (.int (10 ^ 18)) := pd_eq (pd_bin op_pow (opd_I (i := 10) (j := 18) ⟨by decide, by decide, by decide⟩ fun _ => .int _) pd_int pd_int) (congrArg PyData.int (by decide +kernel))
theorem pd_pow20 {x1 x2 : Nat} {p1 p2 : Pos} : PD X l (.BinOp (.Constant (.int 10) x1 p1) .Pow (.Constant (.int 20) x2 p2) pos) (.int (10 ^ 20)) := pd_eq (pd_bin op_pow (opd_I (i := 10) (j := 20) ⟨by decide, by decide, by decide⟩ fun _ => .int _) pd_int pd_int) (congrArg PyData.int (by decide +kernel))
/-- the statements return a new list of the data ds -/
def tLr (K : PySem.W.Frag) (l : Sk) (ds : List PyData) : TS := fun D σ H => Sl K σ H l ∧ ∀ xs p H', Same H H' → H' p = none → DaAll K H' xs ds → D.rt (.ref p) (upd H' p (.lst xs))
abbrev PL (X : Cx) (l : Sk) (ss : List Stmt) (ds : List PyData) : Prop := PSs X ss (tLr X.K l ds)
theorem pl_ret {es : List Expr} {ds : List PyData} {lp : Pos} (h : PDA X l es ds) (hl : ds.length ≤ 100000) : PL X l (.Return (some (.List es lp)) pos :: rest) ds :=
  pssImp (pss_cons (ps_ret (pe_lst h)) (pssBot (ss := rest))) fun D σ H ⟨s, k⟩ => ⟨s, fun xs H1 e1 q1 => ⟨by rw [q1.length]; exact sz5 hl, fun p hp => k xs p H1 e1 hp q1⟩⟩
theorem pl_asg (i : Nat) {x : Str} {p : Pos} {ds : List PyData} (h : PD X l e d1) (r : PL X (l.set i (some d1)) rest ds) (nd : X.N.Nodup) (hi : X.N[i]? = some x := by rfl) (hx : Loc X.env.scope x := by first | exact .inl rfl | exact .inr rfl)
    (hf : X.fn x = true ∨ X.env.scope.names.lookup x = some .local := by first | exact .inl rfl | exact .inr rfl)
    (hs : swapsWith e (some (.Name x p)) pos.line X.env = pure false := by rfl) : PL X l (.Assign [.Name x p] e pos :: rest) ds :=
  pssImp (pss_cons (ps_set (i := i) nd hi hx h (hf := hf) (hs := hs)) r) fun D σ H ⟨s, k⟩ => ⟨s, fun y H1 e1 q1 => ⟨(s.mono e1).set i q1, fun xs p H2 e2 hp q2 => k xs p H2 (e1.trans e2) hp q2⟩⟩
theorem pl_ifSet (i : Nat) {x : Str} {p apos : Pos} {ds : List PyData} (h : PDT X l c true) (he : PD X l e d1) (r : PL X (l.set i (some d1)) rest ds) (nd : X.N.Nodup) (hi : X.N[i]? = some x := by rfl) (hx : Loc X.env.scope x := by first | exact .inl rfl | exact .inr rfl)
    (hf : X.fn x = true ∨ X.env.scope.names.lookup x = some .local := by first | exact .inl rfl | exact .inr rfl)
    (hs : swapsWith e (some (.Name x p)) apos.line X.env = pure false := by rfl) : PL X l (.If c [.Assign [.Name x p] e apos] [] pos :: rest) ds :=
  pssImp (pss_cons (ps_if h (pss_one (ps_set (i := i) nd hi hx he (hf := hf) (hs := hs))) pss_nil) r) fun D σ H ⟨s, k⟩ => ⟨s, fun H1 e1 => by
    refine L2.iteT ?_
    exact ⟨s.mono e1, fun y H2 e2 q2 => ⟨((s.mono e1).mono e2).set i q2, fun xs p H3 e3 hp q3 => k xs p H3 ((e1.trans e2).trans e3) hp q3⟩⟩⟩
theorem pl_ifF {body : List Stmt} {ds : List PyData} (h : PDT X l c false) (r : PL X l rest ds) : PL X l (.If c body [] pos :: rest) ds :=
  pssImp (pss_cons (ps_if h (pssBot (ss := body)) pss_nil) r) fun D σ H ⟨s, k⟩ => ⟨s, fun H1 e1 => by
    refine L2.iteF ?_
    exact ⟨s.mono e1, fun xs p H2 e2 hp q2 => k xs p H2 (e1.trans e2) hp q2⟩⟩
theorem none_of {H H' : Hp} {p : Addr} (e : Same H H') (hp : H' p = none) : H p = none := by
  cases h : H p with
  | none => rfl
  | some u => rw [e _ _ h] at hp; cases hp
def cap : Int := (10 ^ 60) ^ 10
theorem cap_pos : 0 < cap := by decide +kernel
theorem pd_cap {x1 x2 x3 : Nat} {p1 p2 p3 q : Pos} : PD X l (.BinOp (.BinOp (.Constant (.int 10) x1 p1) .Pow (.Constant (.int 60) x2 p2) q) .Pow (.Constant (.int 10) x3 p3) pos) (.int cap) := pd_eq (pd_bin op_pow10 (opd_I (i := 10 ^ 60) (j := 10) ⟨rfl, rfl⟩ fun _ => .int _) pd_pow60 pd_int) (congrArg PyData.int (by decide +kernel))
end
def diceA (cell : Int) : Int := if (if cell < 0 then -cell else cell) % cap - 10 ^ 18 > 0 then (if cell < 0 then -cell else cell) % cap - 10 ^ 18 else 0
def diceB (cell : Int) (spot : Nat) : Int := ((if cell < 0 then -cell else cell) % cap % 2305843009213693723 * 1000381 + 8053 * (spot : Nat) + 43 * (if decide (cell < 0) then 1 else 0) + 31) % 2305843009213693723
def spDice (K : PySem.W.Frag) : Sp := fun vs H Q _ => ∃ (a : Addr) (ns : List Int) (spot : Nat), vs = [.ref a, .int (spot : Nat)] ∧ SqL K H a (ns.map V.int) ∧ spot < 8 ∧ ∀ (p : Addr) H', Same H H' → H p = none → DiceAt H' p 0 → Q (.ref p) H'
section
variable {P : Program} {w : World} {K : PySem.W.Frag} {mg : Str → Option Value} {base : Heap} {f : Addr} {fd : FuncData}
theorem ok_dice (F : Fun K "_law_dice" "_law_dice" sDice f fd) (g : Gt mg) : FnOk P w K mg base CX0 1 f fd ["_law_script", "_law_spot"] (spDice K) := by
  refine F.ok scDice (fun vs H Q E h => ?_) (fun cdv A outer s H vs Q E hr h => ?_)
  · obtain ⟨a, ns, spot, rfl, _⟩ := h
    rfl
  obtain ⟨a, ns, spot, rfl, ha, hs, hq⟩ := h
  have s0 : Sl K (L2.start nDice [.ref a, .int (spot : Nat)]) H [some (.list (ns.map .int)), some (.int (spot : Nat)), none, none, none] := sl_start (.cons (.lst ha (da_ints ns)) (.cons (.int _) .nil)) _ rfl
  have fin : ∀ cell : Int, PL (cxOf CX0 P w K mg base nDice "_law_dice" (defScope sDice) f cdv A outer s H E).nox [some (.list (ns.map .int)), some (.int (spot : Nat)), some (.int cell), none, none] ((defBody sDice).drop 2)
      [.int (diceA cell), .int (diceB cell spot), .int 0] := fun cell => by
    let great : Int := (if cell < 0 then -cell else cell) % cap
    let blend : Int := great % 2305843009213693723 * 1000381 + 8053 * (spot : Nat) + 43 * (if decide (cell < 0) then 1 else 0) + 31
    have k3 : (0 : Int) < 2305843009213693723 := by decide
    have hg0 : 0 ≤ great % 2305843009213693723 := Int.emod_nonneg _ (by decide)
    have hg1 : great % 2305843009213693723 < 2305843009213693723 := Int.emod_lt_of_pos _ k3
    have hb : (if decide (cell < 0) then (1 : Int) else 0).natAbs < 2 ^ 64 := by split <;> decide
    refine pl_asg 3 (d1 := .int great) (pd_mod (i := if cell < 0 then -cell else cell) (j := cap) cap_pos (pd_intI g (pd_abs g (pd_var 2))) pd_cap) (pl_asg 4 (l := [some (.list (ns.map .int)), some (.int (spot : Nat)), some (.int cell), some (.int great), none]) (d1 := .int blend)
      (pd_add (pd_add (pd_add (pd_mulW (i := great % 2305843009213693723) (j := 1000381) (wide_mul (a := 64) (b := 64) (by omega) (by decide) (by decide) (by decide) (by decide)) (pd_mod (i := great) (j := 2305843009213693723) k3 (pd_intI g (pd_var 3)) pd_int) pd_int) (pd_mulW (i := 8053) (j := (spot : Nat)) (wide_mul (a := 64) (b := 64) (by decide) (by omega) (by decide) (by decide) (by decide)) pd_int (pd_var 1))) (pd_mulW (i := 43) (j := if decide (cell < 0) then 1 else 0) (wide_mul (a := 64) (b := 64) (by decide) hb (by decide) (by decide) (by decide)) pd_int (pd_intB g (pd_cmp op_lt opd_lt (pd_var 2) pd_int)))) pd_int)
      (pl_ret (l := [some (.list (ns.map .int)), some (.int (spot : Nat)), some (.int cell), some (.int great), some (.int blend)]) (pda_cons (pd_max2 (i := 0) (j := great - 10 ^ 18) g pd_int (pd_sub (pd_var 3) pd_pow18)) (pda_cons (pd_mod (i := blend) (j := 2305843009213693723) k3 (pd_intI g (pd_var 4)) pd_int) (pda1 pd_int))) (show 3 ≤ 100000 by decide)) scDice.nd) scDice.nd
  have done : ∀ (cell : Int) (xs : List V) (p : Addr) (H' : Hp), Same H H' → H' p = none → DaAll K H' xs [.int (diceA cell), .int (diceB cell spot), .int 0] → Q (.ref p) (upd H' p (.lst xs)) := fun cell xs p H' e hp hd => by
    cases hd with
    | cons a1 r1 =>
      cases r1 with
      | cons a2 r2 =>
        cases r2 with
        | cons a3 r3 =>
          cases r3
          cases a1
          cases a2
          cases a3
          have hb0 : 0 ≤ diceB cell spot := Int.emod_nonneg _ (by decide)
          have hb1 : diceB cell spot < 2305843009213693723 := Int.emod_lt_of_pos _ (by decide)
          refine hq p _ (e.trans (same_new hp)) (none_of e hp) ⟨_, _, _, upd_same, ?_, hb0, by omega, by decide, by decide⟩
          unfold diceA
          split <;> omega
  have hc0 : PD (cxOf CX0 P w K mg base nDice "_law_dice" (defScope sDice) f cdv A outer s H E).nox [some (.list (ns.map .int)), some (.int (spot : Nat)), none, none, none] (match (defBody sDice).getD 0 (.Pass ⟨0, 0, 0, 0⟩) with | .Assign _ e _ => e | _ => .Constant .none 0 ⟨0, 0, 0, 0⟩) (.int (53 * (spot : Nat) + 29)) := pd_add (pd_mulW (i := 53) (j := (spot : Nat)) (wide_mul (a := 64) (b := 64) (by decide) (by omega) (by decide) (by decide) (by decide)) pd_int (pd_var 1)) pd_int
  by_cases hlt : spot < ns.length
  · have hn : (ns.map PyData.int)[spot]? = some (.int (ns.getD spot 0)) := by
      rw [List.getElem?_map, List.getElem?_eq_getElem hlt]
      simp [List.getD_eq_getElem?_getD, List.getElem?_eq_getElem hlt]
    refine ⟨_, pl_asg 2 (l := [some (.list (ns.map .int)), some (.int (spot : Nat)), none, none, none]) (d1 := .int (53 * (spot : Nat) + 29)) hc0 (pl_ifSet 2 (d1 := .int (ns.getD spot 0)) (pdt_cmp op_lt (lt_t (i := (spot : Nat)) (j := ((ns.map PyData.int).length : Nat)) (by rw [List.length_map]; omega)) (pd_var 1) (pd_lenL g (pd_var 0))) (pd_ix ix_list (opd_ixL hn) (pd_var 0) (pd_var 1)) (fin _) scDice.nd) scDice.nd, s0, done _⟩
  · refine ⟨_, pl_asg 2 (l := [some (.list (ns.map .int)), some (.int (spot : Nat)), none, none, none]) (d1 := .int (53 * (spot : Nat) + 29)) hc0 (pl_ifF (pdt_cmp op_lt (lt_f (i := (spot : Nat)) (j := ((ns.map PyData.int).length : Nat)) (by rw [List.length_map]; omega)) (pd_var 1) (pd_lenL g (pd_var 0))) (fin _)) scDice.nd, s0, done _⟩
end
end K7


set_option Elab.async false
set_option linter.all false
set_option maxRecDepth 100000
/-! _law_pick, _law_some. -/
namespace K7
open PySem PySem.Spec PyProof.Rows L2

section
variable {X : Cx} {k j : Nat} {x : Str} {sp : Sp} {e : Expr} {es : List Expr} {t : TA} {p pos : Pos}
theorem pe_callK (c : Fk X.prog X.w X.K X.mg X.base CX0 k x sp) (hr : Room j X.A) (hk : k ≤ j) (ha : PA X (e :: es) t) (hg : Gl X x := by rfl)
    (hdb : (x == ("__debug__" : Str)) = false := by decide) (he : starEach (e :: es) X.env = (false, eval e X.env) :: starEach es X.env := by rfl) (hpl : (backTo pos (starEach es X.env)).any (·.1) = false := by rfl) :
    PE X (.Call (.Name x p) (e :: es) [] pos) (fun σ H Q => t σ H fun vs H1 => sp (vs ++ []) H1 Q E0) := by
  obtain ⟨f, fd, ps, F, hm, hkp, hb⟩ := c
  exact peImp (pe_call F (hr.mono hk) hg hm hkp hb .nil pass0 ha hdb he hpl) fun σ H Q q => q
end
theorem sql_off {K : PySem.W.Frag} {H H' : Hp} {p q : Addr} {xs : List V} (h : SqL K H q xs) (hq : q ≠ p) (e : OffP p H H') : SqL K H' q xs := by
  rcases h with (h | ⟨o, h⟩) | h
  · exact .inl (.inl (e _ _ hq h))
  · exact .inl (.inr ⟨o, e _ _ hq h⟩)
  · exact .inr h
def tPopArg (K : PySem.W.Frag) : TA := tCons (fun σ H Q => tCons (tVar 0) (tCons (tCB (fun xs H Q => ∃ x n, xs = [x] ∧ LenV K x H n ∧ Q (.int n) H) (tCons (tVar 3) tNil)) tNil) σ H fun vs H1 => spRoll (vs ++ []) H1 Q E0) tNil
def tPop (K : PySem.W.Frag) : TE := tBM K "list" rPopAt (tVar 3) (tPopArg K)
/-- one of the items -/
def spPick (K : PySem.W.Frag) : Sp := fun vs H Q _ => ∃ (p q : Addr) (xs : List V) (ds : List PyData) (n : Nat), vs = [.ref p, .ref q] ∧ q ≠ p ∧ SqL K H q xs ∧ DaAll K H xs ds ∧ immAll ds = true ∧ 1 ≤ ds.length ∧ ds.length ≤ 1000 ∧ DiceAt H p n ∧ n ≤ 100000 ∧
  ∀ d x H', d ∈ ds → OffP p H H' → DiceAt H' p (n + 1) → Da K H' x d → Q x H'
/-- some different ones of the items -/
def spSome (K : PySem.W.Frag) : Sp := fun vs H Q _ => ∃ (p q : Addr) (xs : List V) (ds : List PyData) (m n : Nat), vs = [.ref p, .ref q, .int (m : Nat)] ∧ q ≠ p ∧ SqL K H q xs ∧ DaAll K H xs ds ∧ immAll ds = true ∧ ds.length ≤ 10 ∧ m ≤ 1000 ∧ DiceAt H p n ∧ n ≤ 100000 ∧
  ∀ (pd rd : List PyData) (z : Addr) H', (pd ++ rd).Perm ds → pd.length = min m ds.length → OffP p H H' → DiceAt H' p (n + 10) → z ≠ p → Da K H' (.ref z) (.list pd) → Q (.ref z) H'
abbrev sPick : Stmt := top 36
abbrev sSome : Stmt := top 37
abbrev nSome : List Str := ["_law_dice_here", "_law_items", "_law_size", "_law_left", "_law_turn"]
theorem scPick : FnScope ["_law_dice_here", "_law_items"] ["_law_dice_here", "_law_items"] (defScope sPick) := ⟨rfl, rfl, rfl, by decide +kernel, rfl, by decide +kernel, by decide +kernel⟩
theorem scSome : FnScope nSome ["_law_dice_here", "_law_items", "_law_size"] (defScope sSome) := ⟨rfl, rfl, rfl, by decide +kernel, rfl, by decide +kernel, by decide +kernel⟩
theorem immAll_at {ds : List PyData} (h : immAll ds = true) : ∀ d ∈ ds, imm d = true := by
  induction ds with
  | nil => intro d hd; cases hd
  | cons a ds ih =>
    have h' : imm a = true ∧ immAll ds = true := by simpa [immAll] using h
    intro d hd
    rcases List.mem_cons.mp hd with e | hd
    · rw [e]; exact h'.1
    · exact ih h'.2 d hd
section
variable {P : Program} {w : World} {K : PySem.W.Frag} {mg : Str → Option Value} {base : Heap} {f : Addr} {fd : FuncData}
theorem ok_pick (F : Fun K "_law_pick" "_law_pick" sPick f fd) (g : Gt mg) (c : Fk P w K mg base CX0 1 "_law_roll" spRoll) : FnOk P w K mg base CX0 2 f fd ["_law_dice_here", "_law_items"] (spPick K) := by
  refine F.ok scPick (fun vs H Q E h => ?_) (fun cdv A outer s H vs Q E hr h => ?_)
  · obtain ⟨p, q, xs, ds, n, rfl, _⟩ := h
    rfl
  obtain ⟨p, q, xs, ds, n, rfl, hqp, hsq, hda, him, hd1, hd2, hdi, hn, hQ⟩ := h
  have hl := hda.length
  obtain ⟨ys, hp⟩ := hdi.has
  refine ⟨_, pss_one (ps_ret (pe_ix ix_list (pe_var (i := 1) rfl (Or.inl rfl) (by decide) (by decide)) (pe_callK c hr (by decide) (pa_cons (pe_var (i := 0) rfl (Or.inl rfl) (by decide) (by decide)) (pa_cons (pe_callB call_len rfl g.len (by decide +kernel) (pa_cons (pe_var (i := 1) rfl (Or.inl rfl) (by decide) (by decide)) pa_nil)) pa_nil))) (fun _ _ => rfl))), ?_⟩
  refine ⟨.ref q, rfl, .ref p, rfl, .ref q, rfl, _, xs.length, rfl, .inl ⟨xs, hsq, rfl⟩, p, xs.length, n, rfl, hdi, by omega, by omega, by omega, fun r H' hr0 hr1 ho hdi' => ?_⟩
  obtain ⟨m, rfl⟩ := Int.eq_ofNat_of_zero_le hr0
  have hm : m < xs.length := by omega
  have hx : xs[m]? = some xs[m] := List.getElem?_eq_getElem hm
  obtain ⟨d, hd, hv⟩ := hda.at' hx
  refine ⟨q, xs, (m : Nat), xs[m], rfl, rfl, sql_off hsq hqp ho, atI_nat hx, ?_⟩
  exact hQ d _ H' (List.mem_of_getElem? hd) ho hdi' (Da.off hp ho (immAll_at him d (List.mem_of_getElem? hd)) hv)
theorem erase_perm {α : Type} : ∀ (l : List α) (i : Nat) {x : α}, l[i]? = some x → (x :: l.eraseIdx i).Perm l
  | [], i, x, h => by simp at h
  | a :: l, 0, x, h => by
    have e : a = x := Option.some.inj h
    subst e
    exact .refl _
  | a :: l, i + 1, x, h => by
    have ih := erase_perm l i (x := x) (by simpa using h)
    rw [List.eraseIdx_cons_succ]
    exact (List.Perm.swap _ _ _).trans (ih.cons a)
theorem da_erase {K : PySem.W.Frag} {H : Hp} : ∀ {vs : List V} {ds : List PyData} (i : Nat), DaAll K H vs ds → DaAll K H (vs.eraseIdx i) (ds.eraseIdx i)
  | _, _, _, .nil => .nil
  | _, _, 0, .cons _ h => h
  | _, _, i + 1, .cons a h => .cons a (da_erase i h)
theorem imm_perm {ds es : List PyData} (h : ds.Perm es) (hi : immAll es = true) : immAll ds = true := immAll_mem fun d hd => immAll_at hi d (h.mem_iff.mp hd)
theorem ok_some (F : Fun K "_law_some" "_law_some" sSome f fd) (g : Gt mg) (c : Fk P w K mg base CX0 1 "_law_roll" spRoll) : FnOk P w K mg base CX0 2 f fd ["_law_dice_here", "_law_items", "_law_size"] (spSome K) := by
  refine F.ok scSome (fun vs H Q E h => ?_) (fun cdv A outer s H vs Q E hr h => ?_)
  · obtain ⟨p, q, xs, ds, m, n, rfl, _⟩ := h
    rfl
  obtain ⟨p, q, xs, ds, m, n, rfl, hqp, hsq, hda, him, hd1, hm, hdi, hn, hQ⟩ := h
  have hl := hda.length
  obtain ⟨ys, hp⟩ := hdi.has
  refine ⟨_, pss_cons (ps_set (i := 3) scSome.nd rfl (Or.inr rfl) (pe_callTy call_list_of rfl g.list (by decide +kernel) (pa_cons (pe_var (i := 1) rfl (Or.inl rfl) (by decide) (by decide)) pa_nil) (by decide) (by decide) rfl rfl))
    (pss_one (ps_ret (pe_lc (own := [("_law_turn", 4)]) (g := gName 4) (tt := tYes) (te := tPop K) rfl scSome.nd (pi_range1 rfl g.range (pa_cons (pe_callB (call_min2 rfl) rfl g.min (by decide +kernel) (pa_cons (pe_var (i := 2) rfl (Or.inl rfl) (by decide) (by decide)) (pa_cons (pe_callB call_len rfl g.len (by decide +kernel) (pa_cons (pe_var (i := 3) rfl (Or.inr (Or.inl rfl)) (by decide) (by decide)) pa_nil)) pa_nil))) pa_nil)) (blkOk_by (by rfl))
      (fun _ _ _ _ _ => pg_name (i := 4) scSome.nd rfl (Or.inl rfl)) (fun _ _ _ _ _ => pts_nil)
      (fun s H C cl fp => by exact pe_bm PySem.F.plainAttrs_list PySem.F.slot_list_pop PySem.F.type_list_pop mt_popAt (pe_var (i := 3) rfl (Or.inr (Or.inl rfl)) (by decide) (by decide)) (pa_cons (pe_callK c hr (by decide) (pa_cons (pe_var (i := 0) rfl (Or.inr (Or.inl rfl)) (by decide) (by decide)) (pa_cons (pe_callB call_len rfl g.len (by decide +kernel) (pa_cons (pe_var (i := 3) rfl (Or.inr (Or.inl rfl)) (by decide) (by decide)) pa_nil)) pa_nil))) pa_nil))))), ?main⟩
  refine ⟨.ref q, rfl, q, xs, rfl, .inl hsq, fun L hL => ?_⟩
  have hLp : L ≠ p := fun e => by rw [e, hp] at hL; cases hL
  have hp1 : upd H L (.lst xs) p = some (.lst ys) := by rw [upd_ne (Ne.symm hLp)]; exact hp
  have eL : Same H (upd H L (.lst xs)) := same_new hL
  refine ⟨.int (m : Nat), rfl, .ref L, rfl, _, xs.length, rfl, .inl ⟨xs, SqL.of upd_same, rfl⟩, (m : Nat), (xs.length : Nat), rfl, _, rfl, ?_, ?_, ?_⟩
  · split <;> omega
  · split <;> omega
  intro D hD
  have hDL : D ≠ L := fun e => by rw [e, upd_same] at hD; cases hD
  have hDp : D ≠ p := fun e => by rw [e, hp1] at hD; cases hD
  have hHD : H D = none := by
    cases e : H D with
    | none => rfl
    | some u => have := eL _ _ e; rw [hD] at this; cases this
  have hcnt : (if ((xs.length : Nat) : Int) < (m : Nat) then ((xs.length : Nat) : Int) else (m : Nat)).toNat = min m ds.length := by
    rw [← hl]
    split <;> omega
  rw [hcnt]
  refine lc_it (vs := [4]) (σ := [some (.ref p), some (.ref q), some (.int (m : Nat)), some (.ref L), none]) (g := gName 4) (tt := tYes) (Qd := fun H' => Q (V.ref D) H') (walk_range (lo := 0) (n := min m ds.length))
    (fun i H' => ∃ pv rv pd rd, H' D = some (.lst pv) ∧ H' L = some (.lst rv) ∧ DaAll K H' pv pd ∧ DaAll K H' rv rd ∧ (pd ++ rd).Perm ds ∧ pd.length = i ∧ i ≤ min m ds.length ∧ DiceAt H' p (n + i) ∧ (∀ b o, b ≠ p → H b = some o → H' b = some o)) ?_ (fun _ _ _ _ => trivial) (fun i x Ha Hb hi ⟨pv, rv, pd, rd, a1, a2, a3, a4, a5, a6, a7, a8, a9⟩ y => ?_) fun H' ⟨pv, rv, pd, rd, a1, a2, a3, a4, a5, a6, a7, a8, a9⟩ => ?_
  · refine ⟨[], xs, [], ds, upd_same, ?_, .nil, (hda.mono eL).mono (same_new hD), .refl _, rfl, Nat.zero_le _, (hdi.mono eL).mono (same_new hD), fun b o hb h => same_new hD _ _ (eL _ _ h)⟩
    rw [upd_ne (Ne.symm hDL), upd_same]
  · obtain ⟨rfl, rfl⟩ := y
    have hrl : rv.length = rd.length := a4.length
    have hpl : pd.length + rd.length = ds.length := by rw [← List.length_append]; exact a5.length_eq
    have hrpos : 1 ≤ rv.length := by omega
    refine ⟨rfl, ?_⟩
    unfold tYes
    refine L2.iteT ?_
    have hpb : ∃ zs, Hb p = some (.lst zs) := a8.has
    obtain ⟨zs, hpb⟩ := hpb
    refine ⟨.ref L, rfl, .inl ⟨rfl, rv, SqL.of a2⟩, .ref p, rfl, .ref L, rfl, _, rv.length, rfl, .inl ⟨rv, SqL.of a2, rfl⟩, p, rv.length, n + i, rfl, a8, by omega, by omega, by omega, fun r H' hr0 hr1 ho hdi' => ?_⟩
    obtain ⟨j, rfl⟩ := Int.eq_ofNat_of_zero_le hr0
    have hj : j < rv.length := by omega
    have hx : rv[j]? = some rv[j] := List.getElem?_eq_getElem hj
    obtain ⟨d, hd, hv⟩ := a4.at' hx
    have himr : immAll rd = true := immAll_mem fun e he => immAll_at him e (a5.mem_iff.mp (List.mem_append_right _ he))
    have himp : immAll pd = true := immAll_mem fun e he => immAll_at him e (a5.mem_iff.mp (List.mem_append_left _ he))
    have hid : imm d = true := immAll_at himr d (List.mem_of_getElem? hd)
    have hL2 : H' L = some (.lst rv) := ho _ _ hLp a2
    have hD2 : H' D = some (.lst pv) := ho _ _ hDp a1
    have hp2 : (upd H' L (.lst (rv.eraseIdx j))) p = H' p := upd_ne (Ne.symm hLp)
    refine ⟨L, rv, (j : Nat), j, rv[j], rfl, rfl, hL2, by omega, by omega, ?_, hx, ?_⟩
    · unfold seqIndex?
      have e1 : ¬ ((j : Int) < 0) := by omega
      have e2 : (j : Int) < (rv.length : Nat) := by omega
      have e3 : (0 : Int) ≤ (j : Nat) := by omega
      simp only [e1, e2, e3, if_false, decide_true, Bool.and_self, if_true, Int.toNat_natCast]
    · have d1 : DaAll K H' rv rd := DaAll.off hpb ho himr a4
      have d2 : DaAll K H' pv pd := DaAll.off hpb ho himp a3
      have d3 : Da K H' rv[j] d := Da.off hpb ho hid hv
      refine ⟨pv, ?_, ?_, pv ++ [rv[j]], rv.eraseIdx j, pd ++ [d], rd.eraseIdx j, upd_same, ?_, ?_, ?_, ?_, ?_, by omega, ?_, ?_⟩
      · rw [upd_ne hDL]
        exact hD2
      · rw [a3.length]
        exact Nat.lt_of_le_of_lt (show _ ≤ 100000 by omega) (by decide)
      · rw [upd_ne (Ne.symm hDL), upd_same]
      · refine DaAll.write (u := .lst pv) (by rw [upd_ne hDL]; exact hD2) trivial ?_ (DaAll.snoc (DaAll.write hL2 trivial himp d2) (Da.write hL2 trivial hid d3))
        exact immAll_mem fun e he => by
          rcases List.mem_append.mp he with he | he
          · exact immAll_at himp e he
          · rw [List.mem_singleton.mp he]
            exact hid
      · have him2 : immAll (rd.eraseIdx j) = true := immAll_mem fun e he => immAll_at himr e (List.mem_of_mem_eraseIdx he)
        exact DaAll.write (u := .lst pv) (by rw [upd_ne hDL]; exact hD2) trivial him2 (DaAll.write hL2 trivial him2 (da_erase j d1))
      · have := erase_perm rd j hd
        rw [List.append_assoc]
        exact (List.Perm.append_left pd this).trans a5
      · rw [List.length_append, List.length_singleton, a6]
      · obtain ⟨x1, x2, x3, x4, x5⟩ := hdi'
        refine ⟨x1, x2, x3, ?_, ?_⟩
        · rw [upd_ne (Ne.symm hDp), upd_ne (Ne.symm hLp)]
          exact x4
        · exact x5
      · intro b o hb h
        have hbL : b ≠ L := fun e => by rw [e, hL] at h; cases h
        have hbD : b ≠ D := fun e => by rw [e, hHD] at h; cases h
        rw [upd_ne hbD, upd_ne hbL]
        exact ho _ _ hb (a9 b o hb h)
  · exact hQ pd rd D H' a5 a6 a9 (a8.le (by omega)) hDp (.lst (SqL.of a1) a3)
end
end K7


set_option Elab.async false
set_option linter.all false
set_option maxRecDepth 100000
/-! _law_rising, _law_a_state. -/
namespace K7
open PySem PySem.Spec PyProof.Rows L2

def its7 : List Int := [0, 1, 2, 3, 7, 10, 39]
abbrev rTupL (K : PySem.W.Frag) : List V → Hp → VK → Prop := fun xs H Q => ∃ p ys, xs = [.ref p] ∧ ((SqL K H p ys ∧ ∀ l, H l = none → Q (.ref l) (upd H l (.tup ys))) ∨ (SqT K H p ys ∧ Q (.ref p) H))
/-- drawn numbers -/
structure RisOk (m : Nat) (ns : List Int) : Prop where
  len : ns.length ≤ m
  ris : rises ns = true
  mem : ∀ n ∈ ns, n ∈ its7
theorem its7_nm : ∀ n ∈ its7, Nm n := fun n hn => by
  simp only [its7, List.mem_cons, List.not_mem_nil, or_false] at hn
  unfold Nm
  rcases hn with rfl | rfl | rfl | rfl | rfl | rfl | rfl <;> exact ⟨by decide, by decide⟩
theorem RisOk.nm {m : Nat} {ns : List Int} (h : RisOk m ns) : ∀ n ∈ ns, Nm n := fun n hn => its7_nm n (h.mem n hn)
theorem RisOk.few {m : Nat} {ns : List Int} (h : RisOk m ns) (hm : m ≤ 10) : Few ns := ⟨h.nm, Nat.le_trans h.len hm⟩
/-- some of the seven, ascending -/
def spRising (K : PySem.W.Frag) : Sp := fun vs H Q _ => ∃ (p : Addr) (m n : Nat), vs = [.ref p, .int (m : Nat)] ∧ m ≤ 10 ∧ DiceAt H p n ∧ n ≤ 90000 ∧
  ∀ ns y H', RisOk m ns → OffP p H H' → DiceAt H' p (n + 11) → Da K H' y (eNs ns) → Q y H'
abbrev sRising : Stmt := top 38
abbrev nRising : List Str := ["_law_dice_here", "_law_most"]
theorem scRising : FnScope nRising ["_law_dice_here", "_law_most"] (defScope sRising) := ⟨rfl, rfl, rfl, by decide +kernel, rfl, by decide +kernel, by decide +kernel⟩
theorem nodup7 : its7.Nodup := by decide
theorem perm_ints {pd rd : List PyData} (h : (pd ++ rd).Perm (its7.map .int)) : ∃ ns : List Int, pd = ns.map .int ∧ ns.Nodup ∧ ∀ n ∈ ns, n ∈ its7 := by
  have h1 : ∀ d ∈ pd ++ rd, ∃ n ∈ its7, PyData.int n = d := fun d hd => by
    obtain ⟨n, hn, e⟩ := List.mem_map.mp (h.mem_iff.mp hd)
    exact ⟨n, hn, e⟩
  have lift : ∀ l : List PyData, (∀ d ∈ l, ∃ n ∈ its7, PyData.int n = d) → ∃ ns : List Int, l = ns.map .int ∧ ∀ n ∈ ns, n ∈ its7 := fun l => by
    induction l with
    | nil => intro _; exact ⟨[], rfl, fun n h => nomatch h⟩
    | cons a l ih =>
      intro hh
      obtain ⟨n, hn, e⟩ := hh a (List.mem_cons_self ..)
      obtain ⟨ns, e2, h2⟩ := ih fun d hd => hh d (List.mem_cons_of_mem _ hd)
      refine ⟨n :: ns, by rw [e2, List.map_cons, e], fun k hk => ?_⟩
      rcases List.mem_cons.mp hk with e | hk
      · rw [e]; exact hn
      · exact h2 k hk
  obtain ⟨ns, e, h2⟩ := lift pd fun d hd => h1 d (List.mem_append_left _ hd)
  refine ⟨ns, e, ?_, h2⟩
  have nd : (its7.map PyData.int).Nodup := List.Pairwise.map _ (fun a b q e => q (int_inj _ _ e)) nodup7
  have nd2 : (pd ++ rd).Nodup := h.nodup_iff.mpr nd
  have nd3 : pd.Nodup := (List.nodup_append.mp nd2).1
  rw [e] at nd3
  exact (List.pairwise_map.mp nd3).imp fun {a b} q e => q (by rw [e])
section
variable {P : Program} {w : World} {K : PySem.W.Frag} {mg : Str → Option Value} {base : Heap} {f : Addr} {fd : FuncData}
theorem ok_rising (F : Fun K "_law_rising" "_law_rising" sRising f fd) (g : Gt mg) (c : Fk P w K mg base CX0 1 "_law_roll" spRoll) (c2 : Fk P w K mg base CX0 2 "_law_some" (spSome K)) : FnOk P w K mg base CX0 3 f fd ["_law_dice_here", "_law_most"] (spRising K) := by
  refine F.ok scRising (fun vs H Q E h => ?_) (fun cdv A outer s H vs Q E hr h => ?_)
  · obtain ⟨p, m, n, rfl, _⟩ := h
    rfl
  obtain ⟨p, m, n, rfl, hm, hdi, hn, hQ⟩ := h
  obtain ⟨ys, hp⟩ := hdi.has
  refine ⟨_, pss_one (ps_ret (pe_callTy call_tuple_of rfl g.tuple (by decide +kernel) (pa_cons (pe_callB cr_sortedI rfl g.sorted (by decide +kernel) (pa_cons (pe_callK c2 hr (by decide)
    (pa_cons (pe_var (i := 0) rfl (Or.inl rfl) (by decide) (by decide)) (pa_cons (pe_lst (pa_cons pe_int (pa_cons pe_int (pa_cons pe_int (pa_cons pe_int (pa_cons pe_int (pa_cons pe_int (pa_cons pe_int pa_nil))))))))
      (pa_cons (pe_callK c hr (by decide) (pa_cons (pe_var (i := 0) rfl (Or.inl rfl) (by decide) (by decide)) (pa_cons (pe_op op_add (pe_var (i := 1) rfl (Or.inl rfl) (by decide) (by decide)) pe_int) pa_nil))) pa_nil)))) pa_nil)) pa_nil) (by decide) (by decide) rfl rfl)), ?_⟩
  refine ⟨.ref p, rfl, ⟨by decide, fun q hq => ?_⟩⟩
  have hqp : q ≠ p := fun e => by rw [e, hp] at hq; cases hq
  have e1 : Same H (upd H q (.lst (its7.map V.int))) := same_new hq
  refine ⟨.ref p, rfl, .int (m : Nat), rfl, m, 1, rfl, rfl, p, (m : Int) + 1, n, rfl, hdi.mono e1, by omega, by omega, by omega, fun r H2 hr0 hr1 ho hdi2 => ?_⟩
  obtain ⟨k, rfl⟩ := Int.eq_ofNat_of_zero_le hr0
  have hq2 : H2 q = some (.lst (its7.map V.int)) := ho _ _ hqp upd_same
  refine ⟨p, q, its7.map V.int, its7.map .int, k, n + 1, rfl, hqp, SqL.of hq2, da_ints _, by decide +kernel, by decide, by omega, hdi2, by omega, fun pd rd z H3 hperm hlen ho3 hdi3 hzp hz => ?_⟩
  obtain ⟨ns, e, nd, hmem⟩ := perm_ints hperm
  subst e
  show rSortedI K [.ref z] H3 fun y H4 => rTupL K [y] H4 Q
  refine cd_soI (X := (cxOf CX0 P w K mg base nRising "_law_rising" (defScope sRising) f cdv A outer s H E).nox) nd _ H3 _ (.cons hz .nil) fun z2 H4 e4 hz2 => ?_
  refine cd_tupL (X := (cxOf CX0 P w K mg base nRising "_law_rising" (defScope sRising) f cdv A outer s H E).nox) _ H4 _ (.cons hz2 .nil) fun z3 H5 e5 hz3 => ?_
  refine hQ (usort ltI ns) z3 H5 ⟨?_, ?_, ?_⟩ ((((offS e1).trans ho).trans ho3).trans ((offS e4).trans (offS e5))) ((hdi3.mono e4).mono e5) hz3
  · rw [(usort_len sto_int nd).length_eq]
    rw [List.length_map] at hlen
    omega
  · exact (risesB_pw sto_int _).mpr (usort_pw sto_int _)
  · intro k hk
    exact hmem k ((usort_mem sto_int k ns).mp hk)
end
end K7


set_option Elab.async false
set_option linter.all false
set_option maxRecDepth 100000
/-! _law_a_state. -/
namespace K7
open PySem PySem.Spec PyProof.Rows L2

theorem uins_le {α : Type} (lt : α → α → Bool) (x : α) : ∀ l : List α, (uins lt x l).length ≤ l.length + 1
  | [] => by simp [uins]
  | y :: ys => by
    have ih := uins_le lt x ys
    unfold uins
    split
    · simp
    · split
      · simp only [List.length_cons]; omega
      · simp
theorem usort_le {α : Type} (lt : α → α → Bool) : ∀ l : List α, (usort lt l).length ≤ l.length
  | [] => by simp [usort]
  | x :: xs => by
    have ih := usort_le lt xs
    have h := uins_le lt x (usort lt xs)
    show (uins lt x (usort lt xs)).length ≤ _
    rw [List.length_cons]
    omega
theorem cd_tupR {X : Cx} {ds : List PyData} : CallD X.K (rTupL X.K) [.list ds] (.tuple ds) := cd_tupL
/-- a drawn state -/
structure StD (st : St2) : Prop where
  r1 : RisOk 4 st.1
  r2 : ∀ c ∈ st.2, RisOk 3 c
  len : st.2.length ≤ 3
  asc : risesT st.2 = true
theorem StD.ok {st : St2} (h : StD st) : StOk st := ⟨h.r1.nm, fun c hc => (h.r2 c hc).nm, h.r1.ris, List.all_eq_true.mpr fun c hc => (h.r2 c hc).ris, h.asc⟩
theorem StD.few {st : St2} (h : StD st) : FewS st := ⟨h.r1.few (by decide), fun c hc => (h.r2 c hc).few (by decide), Nat.le_trans h.len (by decide)⟩
def spAState (K : PySem.W.Frag) : Sp := fun vs H Q _ => ∃ (p : Addr) (n : Nat), vs = [.ref p] ∧ DiceAt H p n ∧ n ≤ 80000 ∧
  ∀ st y H', StD st → OffP p H H' → DiceAt H' p (n + 45) → Da K H' y (eSt st) → Q y H'
abbrev sAState : Stmt := top 39
abbrev nAState : List Str := ["_law_dice_here", "_law_turn"]
theorem scAState : FnScope nAState ["_law_dice_here"] (defScope sAState) := ⟨rfl, rfl, rfl, by decide +kernel, rfl, by decide +kernel, by decide +kernel⟩
def tRis (K : PySem.W.Frag) : TE := fun σ H Q => tCons (tVar 0) (tCons (tC (.int 3)) tNil) σ H fun vs H1 => spRising K (vs ++ []) H1 Q E0
section
variable {P : Program} {w : World} {K : PySem.W.Frag} {mg : Str → Option Value} {base : Heap} {f : Addr} {fd : FuncData}
theorem ok_aState (F : Fun K "_law_a_state" "_law_a_state" sAState f fd) (g : Gt mg) (c : Fk P w K mg base CX0 1 "_law_roll" spRoll) (c2 : Fk P w K mg base CX0 3 "_law_rising" (spRising K)) : FnOk P w K mg base CX0 4 f fd ["_law_dice_here"] (spAState K) := by
  refine F.ok scAState (fun vs H Q E h => ?_) (fun cdv A outer s H vs Q E hr h => ?_)
  · obtain ⟨p, n, rfl, _⟩ := h
    rfl
  obtain ⟨p, n, rfl, hdi, hn, hQ⟩ := h
  obtain ⟨ys, hp⟩ := hdi.has
  refine ⟨_, pss_one (ps_ret (pe_tup (pa_cons (pe_callK c2 hr (by decide) (pa_cons (pe_var (i := 0) rfl (Or.inr (Or.inl rfl)) (by decide) (by decide)) (pa_cons pe_int pa_nil)))
    (pa_cons (pe_callTy call_tuple_of rfl g.tuple (by decide +kernel) (pa_cons (pe_soSetT g.sorted g.set hr.units
      (pe_lc (own := [("_law_turn", 1)]) (g := gName 1) (tt := tYes) (te := tRis K) rfl scAState.nd (pi_range1 rfl g.range (pa_cons (pe_callK c hr (by decide) (pa_cons (pe_var (i := 0) rfl (Or.inr (Or.inl rfl)) (by decide) (by decide)) (pa_cons pe_int pa_nil))) pa_nil)) (blkOk_by (by rfl))
        (fun _ _ _ _ _ => pg_name (i := 1) scAState.nd rfl (Or.inl rfl)) (fun _ _ _ _ _ => pts_nil)
        (fun s H C cl fp => by exact pe_callK c2 hr (by decide) (pa_cons (pe_var (i := 0) rfl (Or.inr (Or.inl rfl)) (by decide) (by decide)) (pa_cons pe_int pa_nil))))) pa_nil) (by decide) (by decide) rfl rfl) pa_nil)))), ?_⟩
  refine ⟨.ref p, rfl, p, 4, n, rfl, by decide, hdi, by omega, fun ns y1 H1 hns ho1 hdi1 hy1 => ?_⟩
  obtain ⟨zs, hp1⟩ := hdi1.has
  refine ⟨.ref p, rfl, p, 4, n + 11, rfl, hdi1, by decide, by decide, by omega, fun r H2 hr0 hr1 ho2 hdi2 => ?_⟩
  obtain ⟨m, rfl⟩ := Int.eq_ofNat_of_zero_le hr0
  have hm : m ≤ 3 := by omega
  have hy2 : Da K H2 y1 (eNs ns) := Da.off hp1 ho2 (imm_eNs ns) hy1
  refine ⟨(m : Nat), rfl, by omega, by omega, ?_⟩
  intro D hD
  obtain ⟨ws, hp2⟩ := hdi2.has
  have hDp : D ≠ p := fun e => by rw [e, hp2] at hD; cases hD
  rw [Int.toNat_natCast]
  refine lc_it (vs := [1]) (σ := [some (.ref p), none]) (g := gName 1) (tt := tYes) (Qd := fun H' => rSetOfT K P w [V.ref D] H' fun y H2 => rSoST K P w [y] H2 fun z H3 => rTupL K [z] H3 fun z2 H4 => tNil [some (.ref p), none] H4 fun xs H5 => (y1 :: z2 :: xs).length ≤ sizeLine ∧ ∀ q, H5 q = none → Q (.ref q) (upd H5 q (.tup (y1 :: z2 :: xs)))) (walk_range (lo := 0) (n := m))
    (fun i H' => ∃ (vs : List V) (cs : List (List Int)), H' D = some (.lst vs) ∧ DaAll K H' vs (cs.map eNs) ∧ cs.length = i ∧ i ≤ m ∧ (∀ c ∈ cs, RisOk 3 c) ∧ DiceAt H' p (n + 12 + 11 * i) ∧ Da K H' y1 (eNs ns) ∧ OffP p H H') ?_ (fun _ _ _ _ => trivial) (fun i x Ha Hb hi ⟨vs, cs, a1, a2, a3, a4, a5, a6, a7, a8⟩ y => ?_) fun H' ⟨vs, cs, a1, a2, a3, a4, a5, a6, a7, a8⟩ => ?_
  · exact ⟨[], [], upd_same, .nil, rfl, Nat.zero_le _, (fun c h => nomatch h), hdi2.mono (same_new hD), hy2.mono (same_new hD), (ho1.trans ho2).trans (offS (same_new hD))⟩
  · obtain ⟨rfl, rfl⟩ := y
    obtain ⟨us, hpb⟩ := a6.has
    refine ⟨rfl, ?_⟩
    unfold tYes
    refine L2.iteT ?_
    refine ⟨.ref p, rfl, p, 3, n + 12 + 11 * i, rfl, by decide, a6, by omega, fun c y3 H3 hc ho3 hdi3 hy3 => ?_⟩
    have himc : immAll (cs.map eNs) = true := immAll_mem fun d hd => by
      obtain ⟨c, _, rfl⟩ := List.mem_map.mp hd
      exact imm_eNs c
    have hD3 : H3 D = some (.lst vs) := ho3 _ _ hDp a1
    have d1 : DaAll K H3 vs (cs.map eNs) := DaAll.off hpb ho3 himc a2
    have d2 : Da K H3 y1 (eNs ns) := Da.off hpb ho3 (imm_eNs ns) a7
    refine ⟨vs, hD3, ?_, vs ++ [y3], cs ++ [c], upd_same, ?_, ?_, by omega, ?_, ?_, Da.write hD3 trivial (imm_eNs ns) d2, ?_⟩
    · rw [a2.length, List.length_map]
      exact Nat.lt_of_le_of_lt (show _ ≤ 100000 by omega) (by decide)
    · rw [List.map_append]
      refine DaAll.write hD3 trivial ?_ (DaAll.snoc d1 hy3)
      exact immAll_mem fun d hd => by
        rcases List.mem_append.mp hd with h | h
        · exact immAll_at himc d h
        · rw [List.mem_singleton.mp h]
          exact imm_eNs c
    · rw [List.length_append, List.length_singleton, a3]
    · intro b hb
      rcases List.mem_append.mp hb with h | h
      · exact a5 b h
      · rw [List.mem_singleton.mp h]
        exact hc
    · obtain ⟨x1, x2, x3, x4, x5, x6, x7, x8, x9⟩ := hdi3
      refine ⟨x1, x2, x3, ?_, x5, x6, x7, x8, by omega⟩
      rw [upd_ne (Ne.symm hDp)]
      exact x4
    · intro b o hb h
      have hbD : b ≠ D := fun e => by
        rw [e] at h
        have := (ho1.trans ho2) D o hDp h
        rw [hD] at this
        cases this
      rw [upd_ne hbD]
      exact ho3 _ _ hb (a8 b o hb h)
  · refine setT_sorted (X := (cxOf CX0 P w K mg base nAState "_law_a_state" (defScope sAState) f cdv A outer s H E).nox) (.lst (SqL.of a1) a2) (by omega) fun z2 H4 e4 hz2 => ?_
    refine cd_tupR (X := (cxOf CX0 P w K mg base nAState "_law_a_state" (defScope sAState) f cdv A outer s H E).nox) _ H4 _ (.cons hz2 .nil) fun z3 H5 e5 hz3 => ?_
    refine ⟨by show 2 ≤ sizeLine; exact Nat.le_trans (show 2 ≤ 100000 by decide) (by decide), fun q hq => ?_⟩
    have e6 := same_new (o := HO.tup [y1, z3]) hq
    refine hQ (ns, usort HT.lexLt cs) (.ref q) _ ⟨hns, fun c hc => a5 c ((usort_mem sto_lx c cs).mp hc), Nat.le_trans (usort_le _ _) (by omega), (risesB_pw sto_lx _).mpr (usort_pw sto_lx _)⟩ (a8.trans ((offS e4).trans ((offS e5).trans (offS e6)))) ((((a6.le (by omega)).mono e4).mono e5).mono e6) ?_
    exact .tup upd_same (.cons (((a7.mono e4).mono e5).mono e6) (.cons (hz3.mono e6) .nil))
end
end K7


set_option Elab.async false
set_option linter.all false
set_option maxRecDepth 100000
/-! _law_bent. -/
namespace K7
open PySem PySem.Spec PyProof.Rows L2

theorem sl_to_len (z : Str) {i : Int} (h : 0 ≤ i) : (Txt.slice z none (some i)).length ≤ z.length ∧ ∀ j : Int, i ≤ j → (Txt.slice z none (some i)).length + (Txt.slice z (some j) none).length ≤ z.length := by
  have e := SX.slice_to (a := z.cps.toList) (i := i) h
  rw [SX.S_tl] at e
  have hz : z.length = z.cps.toList.length := TL.len_tl z
  refine ⟨?_, fun j hj => ?_⟩
  · rw [e, SX.S_len, List.length_take]
    omega
  · have e2 := SX.slice_from (a := z.cps.toList) (i := j) (by omega)
    rw [SX.S_tl] at e2
    rw [e, e2, SX.S_len, SX.S_len, List.length_take, List.length_drop]
    omega
def bends : List Str :=
  [" ", "\n", "0", "1",
  "-", "; ", " | ", ": ",
  "none", "a", "|",
  ";", "00"]
theorem bends_len : ∀ z ∈ bends, z.length ≤ 4 := by decide +kernel
def spBent (K : PySem.W.Frag) : Sp := fun vs H Q _ => ∃ (p : Addr) (z : Str) (n : Nat), vs = [.ref p, .str z] ∧ z.length ≤ 1000 ∧ DiceAt H p n ∧ n ≤ 90000 ∧
  ∀ (z' : Str) H', z'.length ≤ z.length + 4 → OffP p H H' → DiceAt H' p (n + 4) → Q (.str z') H'
abbrev sBent : Stmt := top 46
abbrev nBent : List Str := ["_law_dice_here", "_law_text", "_law_at", "_law_sign"]
theorem scBent : FnScope nBent ["_law_dice_here", "_law_text"] (defScope sBent) := ⟨rfl, rfl, rfl, by decide +kernel, rfl, by decide +kernel, by decide +kernel⟩
section
variable {P : Program} {w : World} {K : PySem.W.Frag} {mg : Str → Option Value} {base : Heap} {f : Addr} {fd : FuncData}
theorem ok_bent (F : Fun K "_law_bent" "_law_bent" sBent f fd) (g : Gt mg) (c : Fk P w K mg base CX0 1 "_law_roll" spRoll) (c2 : Fk P w K mg base CX0 2 "_law_pick" (spPick K)) : FnOk P w K mg base CX0 3 f fd ["_law_dice_here", "_law_text"] (spBent K) := by
  refine F.ok scBent (fun vs H Q E h => ?_) (fun cdv A outer s H vs Q E hr h => ?_)
  · obtain ⟨p, z, n, rfl, _⟩ := h
    rfl
  obtain ⟨p, z, n, rfl, hz, hdi, hn, hQ⟩ := h
  obtain ⟨ys, hp⟩ := hdi.has
  have zl : z.length ≤ sizeLine := sz5 (by omega)
  refine ⟨_, pss_cons (ps_set (i := 2) scBent.nd rfl (Or.inl rfl) (pe_callK c hr (by decide) (pa_cons (pe_var (i := 0) rfl (Or.inl rfl) (by decide) (by decide)) (pa_cons (pe_op op_add (pe_callB call_len rfl g.len (by decide +kernel) (pa_cons (pe_var (i := 1) rfl (Or.inl rfl) (by decide) (by decide)) pa_nil)) pe_int) pa_nil))))
    (pss_cons (ps_set (i := 3) scBent.nd rfl (Or.inl rfl) (pe_callK c2 hr (by decide) (pa_cons (pe_var (i := 0) rfl (Or.inl rfl) (by decide) (by decide)) (pa_cons (pe_lst (pa_cons pe_str (pa_cons pe_str (pa_cons pe_str (pa_cons pe_str (pa_cons pe_str (pa_cons pe_str (pa_cons pe_str (pa_cons pe_str (pa_cons pe_str (pa_cons pe_str (pa_cons pe_str (pa_cons pe_str (pa_cons pe_str pa_nil)))))))))))))) pa_nil))))
      (pss_one (ps_ret (pe_op op_add_str (pe_op op_add_str (pe_slice C8.sl_txt (pe_var (i := 1) rfl (Or.inl rfl) (by decide) (by decide)) po_none (po_some (pe_var (i := 2) rfl (Or.inl rfl) (by decide) (by decide))))
        (pe_callK c2 hr (by decide) (pa_cons (pe_var (i := 0) rfl (Or.inl rfl) (by decide) (by decide)) (pa_cons (pe_lst (pa_cons (pe_var (i := 3) rfl (Or.inl rfl) (by decide) (by decide)) (pa_cons (pe_var (i := 3) rfl (Or.inl rfl) (by decide) (by decide)) (pa_cons pe_str pa_nil)))) pa_nil))))
        (pe_slice C8.sl_txt (pe_var (i := 1) rfl (Or.inl rfl) (by decide) (by decide)) (po_some (pe_op op_add (pe_var (i := 2) rfl (Or.inl rfl) (by decide) (by decide)) (pe_callK c hr (by decide) (pa_cons (pe_var (i := 0) rfl (Or.inl rfl) (by decide) (by decide)) (pa_cons pe_int pa_nil))))) po_none))))), ?_⟩
  refine ⟨.ref p, rfl, .str z, rfl, _, z.length, rfl, ⟨zl, rfl⟩, z.length, 1, rfl, rfl, p, (z.length : Int) + 1, n, rfl, hdi, by omega, by omega, by omega, fun a H1 ha0 ha1 ho1 hdi1 => ?_⟩
  refine ⟨.ref p, rfl, ⟨by decide, fun q hq => ?_⟩⟩
  obtain ⟨zs, hp1⟩ := hdi1.has
  have hqp : q ≠ p := fun e => by rw [e, hp1] at hq; cases hq
  have e2 : Same H1 (upd H1 q (.lst (bends.map V.str))) := same_new hq
  refine ⟨p, q, bends.map V.str, bends.map .str, n + 1, rfl, hqp, SqL.of upd_same, da_strs _, by decide +kernel, by decide, by decide, hdi1.mono e2, by omega, fun d x H3 hd ho3 hdi3 hx => ?_⟩
  obtain ⟨y, hy, rfl⟩ := List.mem_map.mp hd
  have hyl := bends_len y hy
  have ex := hx.str_inv
  subst ex
  refine ⟨.str z, rfl, .int a, rfl, a, rfl, z, rfl, zl, .ref p, rfl, .str y, rfl, .str y, rfl, ⟨sz5 (show 3 ≤ 100000 by decide), fun r hr => ?_⟩⟩
  obtain ⟨ws, hp3⟩ := hdi3.has
  have hrp : r ≠ p := fun e => by rw [e, hp3] at hr; cases hr
  have e4 : Same H3 (upd H3 r (.lst ([y, y, ""].map V.str))) := same_new hr
  refine ⟨p, r, [y, y, ""].map V.str, [y, y, ""].map .str, n + 2, rfl, hrp, SqL.of upd_same, da_strs _, rfl, (show 1 ≤ 3 by decide), (show 3 ≤ 1000 by decide), hdi3.mono e4, by omega, fun d x H5 hd ho5 hdi5 hx => ?_⟩
  obtain ⟨v, hv, rfl⟩ := List.mem_map.mp hd
  have hvl : v.length ≤ 4 := by
    simp only [List.mem_cons, List.not_mem_nil, or_false] at hv
    rcases hv with rfl | rfl | rfl
    · exact hyl
    · exact hyl
    · decide
  have ex := hx.str_inv
  subst ex
  have hs1 := (sl_to_len z ha0).1
  refine ⟨_, _, rfl, rfl, sz5 (by omega), .str z, rfl, .int a, rfl, .ref p, rfl, p, 3, n + 3, rfl, hdi5, by decide, by decide, by omega, fun b H6 hb0 hb1 ho6 hdi6 => ?_⟩
  have hs2 := (sl_to_len z ha0).2 (a + b) (by omega)
  have hap : ∀ x y : Str, (x ++ y).length = x.length + y.length := fun x y => by rw [TL.len_tl, TL.tl_append, List.length_append, ← TL.len_tl, ← TL.len_tl]
  refine ⟨a, b, rfl, rfl, _, rfl, z, rfl, zl, _, _, rfl, rfl, sz5 (by rw [hap]; omega), ?_⟩
  exact hQ _ H6 (by rw [hap, hap]; omega) ((ho1.trans (offS e2)).trans (ho3.trans ((offS e4).trans (ho5.trans ho6)))) hdi6
end
end K7


set_option Elab.async false
set_option linter.all false
set_option maxRecDepth 100000
/-! Plain: how long what is drawn is. -/
namespace K7
open PySem PySem.Spec PyProof.Rows L2
open TL (tl joinL)

theorem join_len (y : Str) (ps : List Str) : (Txt.join y ps).length = (ps.map (·.length)).sum + y.length * (ps.length - 1) := by
  rw [TL.len_tl, tl_txtjoin, joinL_len]
  unfold total
  rw [List.length_map, List.map_map, ← TL.len_tl]
  have e : ps.map (List.length ∘ TL.tl) = ps.map (·.length) := List.map_congr_left fun p _ => (TL.len_tl p).symm
  rw [e]
def subs {α : Type} : List α → List (List α)
  | [] => [[]]
  | x :: xs => subs xs ++ (subs xs).map (x :: ·)
theorem filter_subs {α : Type} (p : α → Bool) : ∀ l : List α, l.filter p ∈ subs l
  | [] => by simp [subs]
  | x :: xs => by
    have ih := filter_subs p xs
    unfold subs
    rw [List.mem_append]
    cases h : p x with
    | true =>
      rw [List.filter_cons_of_pos h]
      exact .inr (List.mem_map.mpr ⟨_, ih, rfl⟩)
    | false =>
      rw [List.filter_cons_of_neg (by rw [h]; exact Bool.false_ne_true)]
      exact .inl ih
theorem its7_pw : its7.Pairwise (fun a b => ltI a b = true) := by decide
theorem RisOk.sub {m : Nat} {ns : List Int} (h : RisOk m ns) : ns ∈ subs its7 := by
  have e : ns = its7.filter (fun n => decide (n ∈ ns)) := by
    refine pw_unique sto_int ((risesB_pw sto_int ns).mp h.ris) (its7_pw.sublist List.filter_sublist) fun z => ?_
    rw [List.mem_filter, decide_eq_true_eq]
    exact ⟨fun hz => ⟨h.mem z hz, hz⟩, fun hz => hz.2⟩
  rw [e]
  exact filter_subs _ _
theorem subs_len : ∀ ns ∈ subs its7, (ns.length ≤ 4 → (lineOf ns).length ≤ 9) ∧ (ns.length ≤ 3 → (lineOf ns).length ≤ 7) := by decide +kernel
theorem RisOk.line4 {ns : List Int} (h : RisOk 4 ns) : (lineOf ns).length ≤ 9 := (subs_len ns h.sub).1 h.len
theorem RisOk.line3 {ns : List Int} (h : RisOk 3 ns) : (lineOf ns).length ≤ 7 := (subs_len ns h.sub).2 h.len
theorem StD.line {st : St2} (h : StD st) : (stLine st).length ≤ 37 := by
  have h1 := h.r1.line4
  have h2 : (clsOf st.2).length ≤ 25 := by
    unfold clsOf
    split
    · decide
    · rw [join_len]
      have e := sum_le (l := (st.2.map lineOf).map (·.length)) (m := 7) fun x hx => by
        rw [List.map_map] at hx
        obtain ⟨c, hc, rfl⟩ := List.mem_map.mp hx
        exact (h.r2 c hc).line3
      rw [List.length_map, List.length_map] at e
      have hs : ("; " : Str).length = 2 := by decide
      rw [hs, List.length_map]
      have := h.len
      omega
  unfold stLine
  rw [lenS, lenS]
  have hs : (" | " : Str).length = 3 := by decide
  omega
def keys5 : List (List Int) := [[0, 0], [0, 1], [1, 0], [2, 5], [10, 2]]
theorem keys5_line : ∀ k ∈ keys5, (lineOf k).length ≤ 4 ∧ k.length = 2 ∧ ∀ n ∈ k, n ∈ its7 ++ [5] := by decide +kernel
/-- a drawn table -/
structure TabD (rows : Tab) : Prop where
  key : ∀ r ∈ rows, r.1 ∈ keys5
  st : ∀ r ∈ rows, StD r.2
  len : rows.length ≤ 4
  asc : ascT rows
theorem key_nm {k : List Int} (h : k ∈ keys5) : ∀ n ∈ k, Nm n := fun n hn => by
  rcases List.mem_append.mp ((keys5_line k h).2.2 n hn) with q | q
  · exact its7_nm n q
  · rw [List.mem_singleton.mp q]
    exact ⟨by decide, by decide⟩
theorem TabD.rowOk {rows : Tab} (h : TabD rows) : ∀ r ∈ rows, RowOk r := fun r hr => ⟨key_nm (h.key r hr), (keys5_line _ (h.key r hr)).2.1, (h.st r hr).ok⟩
theorem TabD.ok {rows : Tab} (h : TabD rows) : TabOk rows := ⟨h.rowOk, fun r hr => (h.st r hr).few, Nat.le_trans h.len (by decide), h.asc⟩
theorem row_len {k : List Int} {st : St2} (h1 : k ∈ keys5) (h2 : StD st) : (rowLine (k, st)).length ≤ 43 := by
  have a := (keys5_line k h1).1
  have b := h2.line
  unfold rowLine
  rw [lenS, lenS]
  have hs : (": " : Str).length = 2 := by decide
  show (lineOf k).length + (": " : Str).length + (stLine st).length ≤ 43
  omega
theorem TabD.text {rows : Tab} (h : TabD rows) : (tabText rows).length ≤ 175 := by
  unfold tabText
  split
  · decide
  · rw [join_len]
    have e := sum_le (l := (rows.map rowLine).map (·.length)) (m := 43) fun x hx => by
      rw [List.map_map] at hx
      obtain ⟨r, hr, rfl⟩ := List.mem_map.mp hx
      exact row_len (h.key r hr) (h.st r hr)
    rw [List.length_map, List.length_map] at e
    have hs : ("\n" : Str).length = 1 := by decide
    rw [hs, List.length_map]
    have := h.len
    omega
def picks5 : List Int := [0, 0, 1, 5, 10 ^ 20]
/-- drawn numbers of a row -/
structure NumD (ns : List Int) : Prop where
  len : ns.length ≤ 3
  mem : ∀ n ∈ ns, n ∈ picks5
theorem picks5_nm : ∀ n ∈ picks5, (sN n).length ≤ 21 ∧ Nm n := by
  have h : ∀ n ∈ picks5, (sN n).length ≤ 21 ∧ 0 ≤ n ∧ n < 10 ^ 60 := by decide +kernel
  exact h
theorem NumD.nm {ns : List Int} (h : NumD ns) : ∀ n ∈ ns, Nm n := fun n hn => (picks5_nm n (h.mem n hn)).2
theorem NumD.few {ns : List Int} (h : NumD ns) : Few ns := ⟨h.nm, Nat.le_trans h.len (by decide)⟩
theorem NumD.line {ns : List Int} (h : NumD ns) : (lineOf ns).length ≤ 66 := by
  unfold lineOf
  split
  · decide
  · rw [join_len]
    have e := sum_le (l := (ns.map sN).map (·.length)) (m := 21) fun x hx => by
      rw [List.map_map] at hx
      obtain ⟨n, hn, rfl⟩ := List.mem_map.mp hx
      exact (picks5_nm n (h.mem n hn)).1
    rw [List.length_map, List.length_map] at e
    have hs : (" " : Str).length = 1 := by decide
    rw [hs, List.length_map]
    have := h.len
    omega

/-! ### signs -/
def SOk (z : Str) : Prop := ∀ c ∈ tl z, c < 1114112
theorem SOk.ok {z : Str} (h : SOk z) : PyData.strOk z = true := by
  unfold PyData.strOk
  rw [← Array.all_toList, List.all_eq_true]
  intro c hc
  exact decide_eq_true (h c hc)
theorem SOk.app {a b : Str} (ha : SOk a) (hb : SOk b) : SOk (a ++ b) := fun c hc => by
  rw [TL.tl_append, List.mem_append] at hc
  rcases hc with h | h
  · exact ha c h
  · exact hb c h
theorem SOk.join {y : Str} {ps : List Str} (hy : SOk y) (h : ∀ p ∈ ps, SOk p) : SOk (Txt.join y ps) := fun c hc => by
  rw [tl_txtjoin] at hc
  rcases joinL_mem hc with z | ⟨p, hp, hc⟩
  · exact hy c z
  · obtain ⟨q, hq, rfl⟩ := List.mem_map.mp hp
    exact h q hq c hc
theorem sok_lit {z : Str} (h : (tl z).all (fun c => decide (c < 1114112)) = true) : SOk z := fun c hc => of_decide_eq_true (List.all_eq_true.mp h c hc)
theorem sok_line {ns : List Int} (h : ∀ n ∈ ns, Nm n) : SOk (lineOf ns) := fun c hc => by
  rcases tl_line h c hc with z | z | z <;> omega
theorem sok_st {st : St2} (h : StOk st) : SOk (stLine st) := ((sok_line h.n1).app (sok_lit (by decide +kernel))).app fun c hc => by
  rcases cls_free h.n2 c hc with (z | z) | z
  · rcases z with z | z | z <;> omega
  · omega
  · simp at z
    omega
theorem sok_row {r : List Int × St2} (h : RowOk r) : SOk (rowLine r) := ((sok_line h.k).app (sok_lit (by decide +kernel))).app (sok_st h.s)
theorem sok_tab {rows : Tab} (h : ∀ r ∈ rows, RowOk r) : SOk (tabText rows) := by
  unfold tabText
  split
  · exact sok_lit (by decide +kernel)
  · exact SOk.join (sok_lit (by decide +kernel)) fun p hp => by
      obtain ⟨r, hr, rfl⟩ := List.mem_map.mp hp
      exact sok_row (h r hr)
/-- a list of texts and itself -/
theorem ne_same {K : PySem.W.Frag} {zs : List Str} (h : ∀ z ∈ zs, SOk z) : OpD K (rNeD K) (.list (zs.map .str)) (.list (zs.map .str)) (.bool false) := by
  have nd : PyData.hasDict (.list (zs.map .str)) = false := by rw [PyData.hasDict]; exact nod_enc (fun z => by simp [PyData.hasDict]) zs
  have sh : SeqAt.shaped (.list (zs.map .str)) = true := shp (k := 1) (by
    rw [PyData.canLay0]
    clear nd
    induction zs with
    | nil => simp [PyData.canLayAll0]
    | cons z zs ih =>
      rw [List.map_cons, PyData.canLayAll0, ih fun x hx => h x (List.mem_cons_of_mem _ hx), PyData.canLay0, (h z (List.mem_cons_self ..)).ok]
      rfl) (by
    rw [PyData.depth]
    exact Nat.succ_le_succ (depth_enc (k := 0) (fun z => by simp [PyData.depth]) zs)) (by decide)
  have e : PyData.eqv (.list (zs.map .str)) (.list (zs.map .str)) = true := by
    rw [PyData.eqv, eqvAll_enc (enc := PyData.str) (fun a b => by
      rw [PyData.eqv]
      exact Bool.beq_eq_decide_eq a b) zs zs]
    exact decide_eq_true rfl
  have q := opd_neD (K := K) nd nd sh sh
  rw [e] at q
  exact q
/-- what is drawn, shown -/
theorem shw_three {ns : List Int} {st : St2} {rows : Tab} (h1 : NumD ns) (h2 : StD st) (h3 : TabD rows) : Shw (.list [eNs ns, eSt st, eTab rows]) := by
  have a1 := shown_nums (numbersOf_line h1.nm)
  have a2 := shown_state (stateOf_line h2.ok)
  have a3 := shown_table (tableOf_text h3.rowOk h3.asc)
  have b1 := h1.line
  have b2 := h2.line
  have b3 := h3.text
  refine ⟨?_, ?_, ?_⟩
  · rw [PyData.showable, PyData.showableAll, PyData.showableAll, PyData.showableAll, PyData.showableAll, show_eNs h1.nm, show_eSt h2.ok.n1 h2.ok.n2, show_eTab h3.rowOk]
    rfl
  · have d1 := depth_eNs ns
    have d2 := dep_eSt st
    have d3 := dep_eTab rows
    rw [PyData.depth, PyData.depthAll, PyData.depthAll, PyData.depthAll, PyData.depthAll]
    omega
  · rw [PyData.shown]
    have := list_le (PyData.shownAll [eNs ns, eSt st, eTab rows])
    have e : PyData.shownAll [eNs ns, eSt st, eTab rows] = [(eNs ns).shown, (eSt st).shown, (eTab rows).shown] := by simp [PyData.shownAll]
    rw [e, pile_cons, pile_cons, pile_cons, show pile [] = 0 from rfl] at this
    rw [e]
    exact big6 (by omega)
end K7


set_option Elab.async false
set_option linter.all false
set_option maxRecDepth 100000
set_option maxHeartbeats 1000000
/-! _law_right, its end. -/
namespace K7
open PySem PySem.Spec PyProof.Rows L2 LamX

/-- all but the tables and what stands at p stay -/
def OffX (p : Addr) (H H' : Hp) : Prop := ∀ b o, b ≠ p → H b = some o → (∀ ps, o ≠ .tbl ps) → H' b = some o
theorem OffX.refl (p : Addr) (H : Hp) : OffX p H H := fun _ _ _ h _ => h
theorem OffX.trans {p : Addr} {H H1 H2 : Hp} (a : OffX p H H1) (b : OffX p H1 H2) : OffX p H H2 := fun c o n h t => b c o n (a c o n h t) t
theorem OffP.x {p : Addr} {H H' : Hp} (a : OffP p H H') : OffX p H H' := fun b o n h _ => a b o n h
theorem offN {p : Addr} {H H' : Hp} (e : ExtN H H') : OffX p H H' := fun b o _ h t => e b o h t
theorem TabS.off {H H' : Hp} {P p : Addr} {q : Str} {xs : List V} (t : TabS H P q) (hp : H p = some (.lst xs)) (e : OffP p H H') : TabS H' P q := by
  obtain ⟨ps, h1, h2, h3⟩ := t
  refine ⟨ps, e _ _ (fun z => by rw [z, hp] at h1; cases h1) h1, h2, fun pos cv hc => ?_⟩
  obtain ⟨c, e1, e2⟩ := h3 pos cv hc
  exact ⟨c, e1, e _ _ (fun z => by rw [z, hp] at e2; cases e2) e2⟩
theorem tabs_off {T : List (Addr × Str)} {H H' : Hp} {p : Addr} {xs : List V} (t : Tabs T H) (hp : H p = some (.lst xs)) (e : OffP p H H') : Tabs T H' := fun x hx => TabS.off (t x hx) hp e
theorem DiceAt.ext {H H' : Hp} {p : Addr} {n : Nat} (d : DiceAt H p n) (e : ExtN H H') : DiceAt H' p n := by
  obtain ⟨a, b, c, h, r⟩ := d
  exact ⟨a, b, c, e _ _ h (fun ps z => by cases z), r⟩
abbrev sRight : Stmt := top 49
abbrev nRight : List Str := ["_law_dice_here", "_law_turn", "_law_numbers", "_law_state", "_law_table", "_law_lines", "_law_key", "_law_due", "_law_one"]
theorem scRight : FnScope nRight ["_law_dice_here"] (defScope sRight) := ⟨rfl, rfl, rfl, by decide +kernel, rfl, by decide +kernel, by decide +kernel⟩
/-- a function by its name, without guards -/
structure Gk (P : Program) (w : World) (K : PySem.W.Frag) (mg : Str → Option Value) (base : Heap) (k : Nat) (x : Str) (ps : List Str) (sp : Sp) (f : Addr) (fd : FuncData) : Prop where
  ok : FnG P w K mg base CX0 k f fd ps sp
  at_ : mg x = some (.ref f)
  kp : PySem.W.keepIn K (.ref f) = true
  bd : Binds K fd ps []
def lits5 : List Str := ["", "-", "none", "- | none", "0 0: - | -"]
def tSR3 (K : PySem.W.Frag) (T : List (Addr × Str)) : TT := tNot (tB (tCallG (spSR K T) (tCons (tVar 8) (tCons (tVar 8) (tCons (tVar 8) tNil)))))
section
variable {P : Program} {w : World} {K : PySem.W.Frag} {mg : Str → Option Value} {base : Heap} {f : Addr} {cdv : Value} {A : Around} {outer : List Env} {s : Shared} {H : Hp} {E : XK} {T : List (Addr × Str)} {fs : Addr} {fds : FuncData}
abbrev xRi (P : Program) (w : World) (K : PySem.W.Frag) (mg : Str → Option Value) (base : Heap) (f : Addr) (cdv : Value) (A : Around) (outer : List Env) (s : Shared) (H : Hp) (E : XK) : Cx := (cxOf CX0 P w K mg base nRight "_law_right" (defScope sRight) f cdv A outer s H E).nox
abbrev srPs : List Str := ["_law_one", "_law_two", "_law_six"]
/-- what the last statement is asked -/
def tbLast (T : List (Addr × Str)) : TS := fun D σ H => σ.length = 9 ∧ Tabs T H ∧ ∀ H', ExtN H H' → Tabs T H' → D.rt (.bl true) H'
theorem ri_last (g : Gt mg) (hr : Room 12 (A.deeper (envOfC "_law_right" (defScope sRight) s.heap.objs.size f cdv))) (hgd : (A.deeper (envOfC "_law_right" (defScope sRight) s.heap.objs.size f cdv)).guards = some [])
    (c : Gk P w K mg base 12 "_law_strings_right" srPs (spSR K T) fs fds) : PSs (xRi P w K mg base f cdv A outer s H E) ((defBody sRight).drop 7) (tbLast T) := by
  refine pssImp (pss_one (ps_ret (pe_cmpR (op_eqD hr.units) (pe_lc (own := [("_law_one", 8)]) (g := gName 8) (tt := tSR3 K T) (te := tVar 8) rfl scRight.nd
    (pi_list (pe_lst (pa_cons pe_str (pa_cons pe_str (pa_cons pe_str (pa_cons pe_str (pa_cons pe_str pa_nil))))))) (blkOk_by (by rfl))
    (fun _ _ _ _ _ => pg_name (i := 8) scRight.nd rfl (Or.inl rfl))
    (fun s H C cl fp => by exact pts_one (pt_not (pt_val (pe_callG c.ok hr hgd rfl c.at_ c.kp c.bd (pa_cons (pe_var (i := 8) rfl (Or.inl rfl) (by decide) (by decide)) (pa_cons (pe_var (i := 8) rfl (Or.inl rfl) (by decide) (by decide)) (pa_cons (pe_var (i := 8) rfl (Or.inl rfl) (by decide) (by decide)) pa_nil)))))))
    (fun s H C cl fp => by exact pe_var (i := 8) rfl (Or.inl rfl) (by decide) (by decide))) (pe_lst pa_nil) rfl))) fun D σ H1 ⟨hlen, hT, hq⟩ => ?_
  refine ⟨by decide, fun q hq1 => ⟨q, rfl, ⟨_, SqL.of upd_same⟩, ?_⟩⟩
  intro L hL
  have e1 : Same H1 (upd H1 q (.lst (lits5.map V.str))) := same_new hq1
  have e2 : Same (upd H1 q (.lst (lits5.map V.str))) (upd (upd H1 q (.lst (lits5.map V.str))) L (.lst [])) := same_new hL
  have hLq : L ≠ q := fun e => by rw [e, upd_same] at hL; cases hL
  refine lc_it (vs := [8]) (σ := σ) (g := gName 8) (tt := tSR3 K T) (Qd := fun H' => _) (walk_list (K := K) (a := q) (xs := lits5.map V.str))
    (fun i H' => ExtN H1 H' ∧ Tabs T H' ∧ H' L = some (.lst []) ∧ H' q = some (.lst (lits5.map V.str))) ?_ (fun i H' _ h => SqL.of h.2.2.2) (fun i x Ha Hb hi ⟨a1, a2, a3, a4⟩ y => ?_) fun H' ⟨a1, a2, a3, a4⟩ => ?_
  · exact ⟨extS (e1.trans e2), (hT.ext e1).ext e2, upd_same, e2 _ _ upd_same⟩
  · obtain ⟨rfl, hx⟩ := y
    rw [List.length_map] at hi
    rw [List.getElem?_map, List.getElem?_eq_getElem hi] at hx
    have hx' : x = .str lits5[i] := (Option.some.inj hx).symm
    subst hx'
    have hz : (lits5[i]).length ≤ 189 := by
      have h : ∀ z ∈ lits5, z.length ≤ 189 := by decide
      exact h _ (List.getElem_mem hi)
    have h8 : ((wipe σ [8]).set 8 (some (V.str lits5[i])))[8]? = some (some (V.str lits5[i])) := by
      rw [List.getElem?_set_self (by simp [wipe, hlen])]
    refine ⟨by simp [wipe], ?_⟩
    refine ⟨.str lits5[i], h8, .str lits5[i], h8, .str lits5[i], h8, lits5[i], lits5[i], lits5[i], hz, hz, hz, .cons (.str _) (.cons (.str _) (.cons (.str _) .nil)), a2, fun H2 x2 t2 => ⟨true, rfl, ?_⟩⟩
    refine L2.iteF ?_
    exact ⟨a1.trans x2, t2, x2 _ _ a3 (fun ps z => by cases z), x2 _ _ a4 (fun ps z => by cases z)⟩
  · refine ⟨Nat.zero_le _, fun M hM => ?_⟩
    have e3 : Same H' (upd H' M (.lst [])) := same_new hM
    have hLM : (upd H' M (.lst [])) L = some (.lst []) := e3 _ _ a3
    have hq2 := opd_eqD (K := K) (d := .list []) (e := .list []) (by simp [PyData.hasDict, PyData.hasDictAll]) (by simp [PyData.hasDict, PyData.hasDictAll]) (by decide +kernel) (by decide +kernel) (.ref L) (.ref M) (upd H' M (.lst []))
    refine hq2 _ (.lst (SqL.of hLM) .nil) (.lst (SqL.of upd_same) .nil) fun z H3 e4 hz => ?_
    have ez : PyData.eqv (.list []) (.list []) = true := by decide +kernel
    rw [ez] at hz
    cases hz
    exact hq H3 ((a1.trans (extS e3)).trans (extS e4)) ((a2.ext e3).ext e4)
end
end K7


set_option Elab.async false
set_option linter.all false
set_option maxRecDepth 100000
set_option maxHeartbeats 1000000
/-! _law_right, the loop over bent texts. -/
namespace K7
open PySem PySem.Spec PyProof.Rows L2 LamX

/-- dice at p, dues at q -/
structure RIn (T : List (Addr × Str)) (p q : Addr) (a b c : Str) (σ : L2.St) (n : Nat) (H : Hp) : Prop where
  len : σ.length = 9
  s0 : σ[0]? = some (some (.ref p))
  s7 : σ[7]? = some (some (.ref q))
  ne : q ≠ p
  due : H q = some (.lst [.str a, .str b, .str c])
  dice : DiceAt H p n
  tabs : Tabs T H
theorem RIn.off {T : List (Addr × Str)} {p q : Addr} {a b c : Str} {σ : L2.St} {n m : Nat} {H H' : Hp} (r : RIn T p q a b c σ n H) (e : OffP p H H') (d : DiceAt H' p m) : RIn T p q a b c σ m H' := by
  obtain ⟨ys, hp⟩ := r.dice.has
  exact ⟨r.len, r.s0, r.s7, r.ne, e _ _ r.ne r.due, d, tabs_off r.tabs hp e⟩
theorem RIn.ext {T : List (Addr × Str)} {p q : Addr} {a b c : Str} {σ : L2.St} {n : Nat} {H H' : Hp} (r : RIn T p q a b c σ n H) (e : ExtN H H') (t : Tabs T H') : RIn T p q a b c σ n H' :=
  ⟨r.len, r.s0, r.s7, r.ne, e _ _ r.due (fun ps z => by cases z), r.dice.ext e, t⟩
structure Dues (a b c : Str) : Prop where
  a : a.length ≤ 185
  b : b.length ≤ 185
  c : c.length ≤ 185
/-- what a turn is asked -/
def tbTurn (T : List (Addr × Str)) : TS := fun D σ H => ∃ p q a b c n, Dues a b c ∧ RIn T p q a b c σ n H ∧ n ≤ 1000 ∧ ∀ H', OffX p H H' → RIn T p q a b c σ (n + 12) H' → D.nx σ H'
/-- what the loop and what follows is asked -/
def tbTurns (T : List (Addr × Str)) : TS := fun D σ H => ∃ p q a b c n, Dues a b c ∧ RIn T p q a b c σ n H ∧ n ≤ 800 ∧ ∀ H', OffX p H H' → Tabs T H' → D.rt (.bl true) H'
section
variable {P : Program} {w : World} {K : PySem.W.Frag} {mg : Str → Option Value} {base : Heap} {f : Addr} {cdv : Value} {A : Around} {outer : List Env} {s : Shared} {H : Hp} {E : XK} {T : List (Addr × Str)} {fs : Addr} {fds : FuncData}
theorem ri_turn (g : Gt mg) (hr : Room 12 (A.deeper (envOfC "_law_right" (defScope sRight) s.heap.objs.size f cdv))) (hgd : (A.deeper (envOfC "_law_right" (defScope sRight) s.heap.objs.size f cdv)).guards = some [])
    (c : Gk P w K mg base 12 "_law_strings_right" srPs (spSR K T) fs fds) (c2 : Fk P w K mg base CX0 3 "_law_bent" (spBent K)) : PSs (xRi P w K mg base f cdv A outer s H E) (forBody ((defBody sRight).getD 6 (.Pass ⟨0, 0, 0, 0⟩))) (tbTurn T) := by
  refine pssImp (pss_one (ps_if (pt_not (pt_val (pe_callG c.ok hr hgd rfl c.at_ c.kp c.bd
    (pa_cons (pe_callK c2 hr (by decide) (pa_cons (pe_var (i := 0) rfl (Or.inr (Or.inl rfl)) (by decide) (by decide)) (pa_cons (pe_ix ix_list (pe_var (i := 7) rfl (Or.inl rfl) (by decide) (by decide)) pe_int (fun _ _ => rfl)) pa_nil)))
    (pa_cons (pe_callK c2 hr (by decide) (pa_cons (pe_var (i := 0) rfl (Or.inr (Or.inl rfl)) (by decide) (by decide)) (pa_cons (pe_ix ix_list (pe_var (i := 7) rfl (Or.inl rfl) (by decide) (by decide)) pe_int (fun _ _ => rfl)) pa_nil)))
    (pa_cons (pe_callK c2 hr (by decide) (pa_cons (pe_var (i := 0) rfl (Or.inr (Or.inl rfl)) (by decide) (by decide)) (pa_cons (pe_ix ix_list (pe_var (i := 7) rfl (Or.inl rfl) (by decide) (by decide)) pe_int (fun _ _ => rfl)) pa_nil))) pa_nil)))))) pssBot pss_nil)) fun D σ H1 ⟨p, q, a, b, c, n, hd, r, hn, hq⟩ => ?_
  have ha := hd.a
  have hb := hd.b
  have hc := hd.c
  refine ⟨.ref p, r.s0, .ref q, r.s7, q, [.str a, .str b, .str c], 0, .str a, rfl, rfl, SqL.of r.due, rfl, p, a, n, rfl, by omega, r.dice, by omega, fun a' H2 ha' o2 d2 => ?_⟩
  have r2 := r.off o2 d2
  refine ⟨.ref p, r2.s0, .ref q, r2.s7, q, [.str a, .str b, .str c], 1, .str b, rfl, rfl, SqL.of r2.due, rfl, p, b, n + 4, rfl, by omega, r2.dice, by omega, fun b' H3 hb' o3 d3 => ?_⟩
  have r3 := r2.off o3 d3
  refine ⟨.ref p, r3.s0, .ref q, r3.s7, q, [.str a, .str b, .str c], 2, .str c, rfl, rfl, SqL.of r3.due, rfl, p, c, n + 4 + 4, rfl, by omega, r3.dice, by omega, fun c' H4 hc' o4 d4 => ?_⟩
  have r4 := r3.off o4 d4
  refine ⟨a', b', c', by omega, by omega, by omega, .cons (.str _) (.cons (.str _) (.cons (.str _) .nil)), r4.tabs, fun H5 x5 t5 => ⟨true, rfl, ?_⟩⟩
  refine L2.iteF ?_
  exact hq H5 (((o2.x.trans o3.x).trans o4.x).trans (offN x5)) (r4.ext x5 t5)
theorem ri_turns (g : Gt mg) (hr : Room 12 (A.deeper (envOfC "_law_right" (defScope sRight) s.heap.objs.size f cdv))) (hgd : (A.deeper (envOfC "_law_right" (defScope sRight) s.heap.objs.size f cdv)).guards = some [])
    (c : Gk P w K mg base 12 "_law_strings_right" srPs (spSR K T) fs fds) (c2 : Fk P w K mg base CX0 3 "_law_bent" (spBent K)) : PSs (xRi P w K mg base f cdv A outer s H E) ((defBody sRight).drop 6) (tbTurns T) := by
  refine pssImp (pss_cons (ps_for PassesOwn.never rfl (pi_range1 rfl g.range (pa_cons pe_int pa_nil)) (pg_name (i := 1) scRight.nd rfl (Or.inl rfl)) (ri_turn (s := s) (H := H) (E := E) (outer := outer) g hr hgd c c2)) (ri_last (s := s) (H := H) (E := E) (outer := outer) g hr hgd c)) fun D σ H1 ⟨p, q, a, b, c, n, hd, r, hn, hq⟩ => ?_
  refine ⟨6, rfl, by decide, by decide, ?_⟩
  refine for_it (g := gName 1) (tb := tbTurn T) (walk_range (lo := 0) (n := 6)) (fun i σ' H' => RIn T p q a b c σ' (n + 12 * i) H' ∧ OffX p H1 H') ⟨r, OffX.refl p H1⟩ (fun _ _ _ _ _ => trivial) (fun i x σ' Ha Hb hi ⟨r1, o1⟩ y => ?_) fun σ' H' ⟨r1, o1⟩ => ?_
  · obtain ⟨rfl, rfl⟩ := y
    have r2 : RIn T p q a b c (σ'.set 1 (some (.int (0 + (i : Nat))))) (n + 12 * i) Hb := ⟨by rw [List.length_set]; exact r1.len, by rw [List.getElem?_set_ne (by decide)]; exact r1.s0, by rw [List.getElem?_set_ne (by decide)]; exact r1.s7, r1.ne, r1.due, r1.dice, r1.tabs⟩
    exact ⟨p, q, a, b, c, n + 12 * i, hd, r2, by omega, fun H' o2 r3 => ⟨r3, o1.trans o2⟩⟩
  · exact ⟨r1.len, r1.tabs, fun H2 x2 t2 => hq H2 (o1.trans (offN x2)) t2⟩
end
end K7


set_option Elab.async false
set_option linter.all false
set_option maxRecDepth 100000
set_option maxHeartbeats 1000000
/-! _law_right, what is written and read. -/
namespace K7
open PySem PySem.Spec PyProof.Rows L2 LamX

section
variable {X : Cx} {l : Sk} {e : Expr} {p pos : Pos} {z x : Str} {d : PyData} {C f : Addr} {fd : FuncData} {res : Str → Except PyData PyData} {k j : Nat}
/-- a reader's call that raises nothing -/
theorem pd_read (R : Rk X.prog X.w X.K X.mg X.base C k x res f fd) (hr : Room j X.A) (hk : k ≤ j) (h : PD X l e (.str z)) (hz : z.length ≤ 189) (hres : res z = .ok d) (hg : Gl X x := by rfl) (hdb : (x == ("__debug__" : Str)) = false := by decide)
    (he : starEach [e] X.env = (false, eval e X.env) :: starEach [] X.env := by rfl) (hpl : (backTo pos (starEach [] X.env)).any (·.1) = false := by rfl) : PD X l (.Call (.Name x p) [e] [] pos) d :=
  peImp (pe_callS R.ok (hr.mono hk) hg R.at_ R.kp R.bd (fun σ => passAt L2.takes0 σ) (pa_cons h pa_nil he) hdb he hpl) fun σ H Q ⟨s, k⟩ => ⟨s, fun v H1 e1 q1 => ⟨z, hz, .cons q1 .nil, fun r hr2 y H2 e2 q2 => by
    rw [hres] at hr2
    injection hr2 with hr2
    subst hr2
    exact k y H2 (e1.trans e2) q2, fun e he2 => by rw [hres] at he2; cases he2⟩⟩
end
/-- the drawn row, the lines -/
abbrev lMid (ns : List Int) (st : St2) (rows : Tab) : Sk := [none, none, some (eNs ns), some (eSt st), some (eTab rows), some (.list ((rows.map rowLine).map .str)), none, none, none]
def tbMid (K : PySem.W.Frag) (T : List (Addr × Str)) : TS := fun D σ H => ∃ p n ns st rows, NumD ns ∧ StD st ∧ TabD rows ∧ Sl K σ H (lMid ns st rows) ∧ σ[0]? = some (some (.ref p)) ∧ DiceAt H p n ∧ n ≤ 700 ∧ Tabs T H ∧ ∀ H', OffX p H H' → Tabs T H' → D.rt (.bl true) H'
section
variable {P : Program} {w : World} {K : PySem.W.Frag} {mg : Str → Option Value} {base : Heap} {f : Addr} {cdv : Value} {A : Around} {outer : List Env} {s : Shared} {H : Hp} {E : XK} {T : List (Addr × Str)} {C fs f1 f2 f3 : Addr} {fds fd1 fd2 fd3 : FuncData}
theorem ri_mid (g : Gt mg) (m : SM base) (hr : Room 12 (A.deeper (envOfC "_law_right" (defScope sRight) s.heap.objs.size f cdv))) (hgd : (A.deeper (envOfC "_law_right" (defScope sRight) s.heap.objs.size f cdv)).guards = some [])
    (c : Gk P w K mg base 12 "_law_strings_right" srPs (spSR K T) fs fds) (c2 : Fk P w K mg base CX0 3 "_law_bent" (spBent K))
    (R1 : Rk P w K mg base C 9 "read_numbers" resN f1 fd1) (R2 : Rk P w K mg base C 9 "read_state" resS f2 fd2) (R3 : Rk P w K mg base C 9 "read_table" resT f3 fd3)
    (w1 : Fk P w K mg base CX0 4 "write_numbers" (spD K domWriteNumbers)) (w2 : Fk P w K mg base CX0 6 "write_state" (spD K domWriteState)) (w3 : Fk P w K mg base CX0 7 "write_table" (spD K domWriteTable))
    (t1 : Fk P w K mg base CX0 1 "_law_line" (spD K domNumbersText)) (t2 : Fk P w K mg base CX0 2 "_law_state_line" (spD K domStateText)) :
    PSs (xRi P w K mg base f cdv A outer s H E) ((defBody sRight).drop 3) (tbMid K T) := ⟨fun pins s' σ H1 D I ⟨p, n, ns, st, rows, hns, hst, htb, sl, h0, hdi, hn, hT, hq⟩ => by
  have l1 := hns.line
  have l2 := hst.line
  have l3 := htb.text
  let zs : List Str := [lineOf ns, stLine st, tabText rows]
  let l7 : Sk := [none, none, some (eNs ns), some (eSt st), some (eTab rows), none, none, some (.list (zs.map .str)), none]
  have hsok : ∀ z ∈ zs, SOk z := fun z hz => by
    simp only [zs, List.mem_cons, List.not_mem_nil, or_false] at hz
    rcases hz with rfl | rfl | rfl
    · exact sok_line hns.nm
    · exact sok_st hst.ok
    · exact sok_tab htb.rowOk
  have hif : PD (xRi P w K mg base f cdv A outer s H E) (lMid ns st rows) (match (defBody sRight).getD 3 (.Pass ⟨0, 0, 0, 0⟩) with | .Assign _ (.List [_, _, e] _) _ => e | _ => .Constant .none 0 ⟨0, 0, 0, 0⟩) (.str (tabText rows)) := by
    rcases isEmpty_cases rows with ⟨e, e2⟩ | ⟨e, e2⟩
    · have el : tabText rows = "none" := by unfold tabText; rw [if_pos e]
      rw [el]
      exact pd_ifF (pdt_cmp (op_neE hr.units0) (neE_b (ds := (rows.map rowLine).map .str) (by rw [e]; rfl)) (pd_var 5) pd_nil) pd_str
    · have el : tabText rows = Txt.join "\n" (rows.map rowLine) := by unfold tabText; rw [if_neg e]
      rw [el]
      refine pd_ifT (pdt_cmp (op_neE hr.units0) (neE_b (ds := (rows.map rowLine).map .str) (by rw [List.isEmpty_map, List.isEmpty_map]; exact e2)) (pd_var 5) pd_nil) (pd_join pd_str (pd_var 5) ?_)
      have h1 := sum_le (l := (rows.map rowLine).map (·.length)) (m := 43) fun x hx => by
        rw [List.map_map] at hx
        obtain ⟨r, hr, rfl⟩ := List.mem_map.mp hx
        exact row_len (htb.key r hr) (htb.st r hr)
      rw [List.length_map, List.length_map] at h1
      have h2 := htb.len
      have hs : ("\n" : Str).length = 1 := by decide
      rw [hs, List.length_map]
      omega
  have hp : PSs (xRi P w K mg base f cdv A outer s H E) ((defBody sRight).drop 3) _ := pss_cons (ps_set (i := 7) scRight.nd rfl (Or.inl rfl) (pe_lst (pda_cons (l := lMid ns st rows) (pd_call t1 hr (by decide) (pda1 (pd_var 2)) ⟨ns, hns.nm, Nat.le_trans hns.len (by decide), rfl, rfl⟩) (pda_cons (pd_call t2 hr (by decide) (pda1 (pd_var 3)) ⟨st, hst.few, rfl, rfl⟩) (pda1 hif)))))
    (pn_ifF (l := l7) (pdt_cmp (op_neD hr.units) (ne_same (zs := zs) hsok) (pd_lst (pda_cons (pd_call w1 hr (by decide) (pda1 (pd_var 2)) ⟨ns, hns.few, rfl, rfl⟩) (pda_cons (pd_call w2 hr (by decide) (pda1 (pd_var 3)) ⟨st, hst.few, hst.ok, rfl, rfl⟩) (pda1 (pd_call w3 hr (by decide) (pda1 (pd_var 4)) ⟨rows, htb.ok, rfl, rfl⟩)))) (show 3 ≤ 100000 by decide)) (pd_var 7))
    (pn_ifF (l := l7) (pdt_cmp op_ne (neS_f rfl) (pd_repr hgd hr.units m g (pd_lst (ds := [eNs ns, eSt st, eTab rows]) (pda_cons (pd_read R1 hr (by decide) (pd_ix ix_list (opd_ixL (i := 0) (ds := zs.map .str) rfl) (pd_var 7) pd_int) (z := lineOf ns) (by omega) (by unfold resN; rw [numbersOf_line hns.nm])) (pda_cons (pd_read R2 hr (by decide) (pd_ix ix_list (opd_ixL (i := 1) (ds := zs.map .str) rfl) (pd_var 7) pd_int) (z := stLine st) (by omega) (by unfold resS; rw [stateOf_line hst.ok])) (pda1 (pd_read R3 hr (by decide) (pd_ix ix_list (opd_ixL (i := 2) (ds := zs.map .str) rfl) (pd_var 7) pd_int) (z := tabText rows) (by omega) (by unfold resT; rw [tableOf_text htb.rowOk htb.asc]))))) (show 3 ≤ 100000 by decide)) (shw_three hns hst htb))
      (pd_repr hgd hr.units m g (pd_lst (ds := [eNs ns, eSt st, eTab rows]) (pda_cons (pd_var 2) (pda_cons (pd_var 3) (pda1 (pd_var 4)))) (show 3 ≤ 100000 by decide)) (shw_three hns hst htb)))
      (ri_turns (s := s) (H := H) (E := E) (outer := outer) g hr hgd c c2)))
  refine hp.run pins s' σ H1 D I ⟨sl, fun xs H2 e2 q2 => ⟨sz5 (by rw [q2.length]; exact (show 3 ≤ 100000 by decide)), fun q hq2 => ?_⟩⟩
  have ex : xs = zs.map V.str := strs_da (ns := zs) q2
  subst ex
  have e3 : Same H2 (upd H2 q (.lst (zs.map V.str))) := same_new hq2
  obtain ⟨ys, hpp⟩ := hdi.has
  have hqp : q ≠ p := fun e => by rw [e, e2 _ _ hpp] at hq2; cases hq2
  have sl2 : Sl K (σ.set 7 (some (.ref q))) (upd H2 q (.lst (zs.map V.str))) ((lMid ns st rows).set 7 (some (.list (zs.map .str)))) := ((sl.mono e2).mono e3).set 7 (.lst (SqL.of upd_same) (da_strs zs))
  have sl3 : Sl K (σ.set 7 (some (.ref q))) (upd H2 q (.lst (zs.map V.str))) l7 := sl2.less rfl fun i d h => by
    match i with
    | 0 | 1 | 2 | 3 | 4 | 6 | 7 | 8 => exact h
    | 5 => cases h
    | n + 9 => cases h
  refine ⟨sl3, fun H3 e4 => ⟨sl3.mono e4, fun H4 e5 => ?_⟩⟩
  have eA : Same H1 H4 := ((e2.trans e3).trans e4).trans e5
  refine ⟨p, q, lineOf ns, stLine st, tabText rows, n, ⟨by omega, by omega, by omega⟩, ⟨sl3.len, ?_, ?_, hqp, e5 _ _ (e4 _ _ upd_same), hdi.mono eA, hT.ext eA⟩, by omega, fun H' o t => hq H' ((offS eA).x.trans o) t⟩
  · rw [List.getElem?_set_ne (by decide)]
    exact h0
  · rw [List.getElem?_set_self (by rw [sl.len]; exact (show 7 < 9 by decide))]⟩
end
end K7


set_option Elab.async false
set_option linter.all false
set_option maxRecDepth 100000
set_option maxHeartbeats 1000000
/-! _law_right, the loop over keys. -/
namespace K7
open PySem PySem.Spec PyProof.Rows L2 LamX

/-- all but three places -/
def Off3 (p a b : Addr) (H H' : Hp) : Prop := ∀ c o, c ≠ p → c ≠ a → c ≠ b → H c = some o → H' c = some o
structure LIn (K : PySem.W.Frag) (T : List (Addr × Str)) (p Dd L : Addr) (ns : List Int) (st : St2) (σ : L2.St) (n : Nat) (rows : Tab) (H : Hp) : Prop where
  sl : Sl K σ H [none, none, some (eNs ns), some (eSt st), none, none, none, none, none]
  s0 : σ[0]? = some (some (.ref p))
  s4 : σ[4]? = some (some (.ref Dd))
  s5 : σ[5]? = some (some (.ref L))
  lp : L ≠ p
  tab : ∃ vs, TabAt K H Dd rows vs
  lin : H L = some (.lst ((rows.map rowLine).map V.str))
  dice : DiceAt H p n
  tabs : Tabs T H
abbrev lKey (rows : Tab) (k : List Int) : Sk := [none, none, none, none, some (eTab rows), none, some (eNs k), none, none]
/-- lines.append(..) -/
def tbApp (K : PySem.W.Frag) : TS := fun D σ H => ∃ rows k st, k ∈ keys5 ∧ StD st ∧ (k, st) ∈ rows ∧ (rows.map (·.1)).Nodup ∧ Sl K σ H (lKey rows k) ∧ ∃ L vs, σ[5]? = some (some (.ref L)) ∧ H L = some (.lst vs) ∧ vs.length < sizeLine ∧ ∀ H', Same H H' → D.nx σ (upd H' L (.lst (vs ++ [.str (rowLine (k, st))])))
def tbKey (K : PySem.W.Frag) (T : List (Addr × Str)) : TS := fun D σ H => ∃ p Dd L ns st rows n k pk, LIn K T p Dd L ns st σ n rows H ∧ σ[6]? = some (some (.ref pk)) ∧ H pk = some (.tup (k.map V.int)) ∧ k ∈ keys5 ∧ k ∉ rows.map (·.1) ∧ (rows.map (·.1)).Nodup ∧ rows.length ≤ 10 ∧ n ≤ 700 ∧
  ∀ st' H', StD st' → Off3 p Dd L H H' → LIn K T p Dd L ns st σ (n + 45) (rows ++ [(k, st')]) H' → D.nx σ H'
theorem TabS.upd {H : Hp} {P p : Addr} {q : Str} {u o : HO} (t : TabS H P q) (hp : H p = some u) (hu : (∀ xs, u ≠ .tbl xs) ∧ ∀ c q, u ≠ CodeO c q) : TabS (upd H p o) P q := by
  obtain ⟨ps, h1, h2, h3⟩ := t
  refine ⟨ps, by rw [upd_ne (fun z => by rw [z, hp] at h1; exact hu.1 _ (Option.some.inj h1))]; exact h1, h2, fun pos cv hc => ?_⟩
  obtain ⟨c, e1, e2⟩ := h3 pos cv hc
  exact ⟨c, e1, by rw [upd_ne (fun z => by rw [z, hp] at e2; exact hu.2 _ _ (Option.some.inj e2))]; exact e2⟩
section
variable {P : Program} {w : World} {K : PySem.W.Frag} {mg : Str → Option Value} {base : Heap} {f : Addr} {cdv : Value} {A : Around} {outer : List Env} {s : Shared} {H : Hp} {E : XK} {T : List (Addr × Str)}
theorem ri_app (hr : Room 12 (A.deeper (envOfC "_law_right" (defScope sRight) s.heap.objs.size f cdv))) (t1 : Fk P w K mg base CX0 1 "_law_line" (spD K domNumbersText)) (t2 : Fk P w K mg base CX0 2 "_law_state_line" (spD K domStateText)) :
    PSs (xRi P w K mg base f cdv A outer s H E) ((forBody ((defBody sRight).getD 2 (.Pass ⟨0, 0, 0, 0⟩))).drop 1) (tbApp K) := ⟨fun pins s' σ H1 D I ⟨rows, k, st, hk, hst, hmem, nd, sl, L, vs, h5, hL, hlen, hq⟩ => by
  have hu := hr.units
  have hu1 : (A.deeper (envOfC "_law_right" (defScope sRight) s.heap.objs.size f cdv)).units + 1 < cLine := by omega
  have l1 := (keys5_line k hk).1
  have l2 := hst.line
  have hs : (": " : Str).length = 2 := by decide
  have hp : PSs (xRi P w K mg base f cdv A outer s H E) ((forBody ((defBody sRight).getD 2 (.Pass ⟨0, 0, 0, 0⟩))).drop 1) _ := pss_one (ps_app 5 (l := lKey rows k) (d := .str (rowLine (k, st))) (pd_bin op_add_str (opd_addS (a := lineOf k ++ ": ") (b := stLine st) (sz5 (by rw [lenS]; omega))) (pd_bin op_add_str (opd_addS (a := lineOf k) (b := ": ") (sz5 (by omega)))
    (pd_call t1 hr (by decide) (pda1 (pd_var 6)) ⟨k, key_nm hk, by rw [(keys5_line k hk).2.1]; decide, rfl, rfl⟩) pd_str) (pd_call t2 hr (by decide) (pda1 (pd_dget (rows := rows) (r := (k, st)) hu1 (pd_var 4) (pd_var 6) nd hmem)) ⟨st, hst.few, rfl, rfl⟩)))
  refine hp.run pins s' σ H1 D I ⟨sl, L, vs, h5, hL, hlen, fun v H2 e2 d2 => ?_⟩
  cases d2
  exact hq H2 e2⟩
theorem ri_key (hr : Room 12 (A.deeper (envOfC "_law_right" (defScope sRight) s.heap.objs.size f cdv))) (c : Fk P w K mg base CX0 4 "_law_a_state" (spAState K)) (t1 : Fk P w K mg base CX0 1 "_law_line" (spD K domNumbersText)) (t2 : Fk P w K mg base CX0 2 "_law_state_line" (spD K domStateText)) :
    PSs (xRi P w K mg base f cdv A outer s H E) (forBody ((defBody sRight).getD 2 (.Pass ⟨0, 0, 0, 0⟩))) (tbKey K T) := by
  have hu := hr.units
  have hu1 : (A.deeper (envOfC "_law_right" (defScope sRight) s.heap.objs.size f cdv)).units + 1 < cLine := by omega
  refine pssImp (pss_cons (ps_asg (pe_callK c hr (by decide) (pa_cons (pe_var (i := 0) rfl (Or.inr (Or.inl rfl)) (by decide) (by decide)) pa_nil)) (pg_sub (pe_var (i := 4) rfl (Or.inl rfl) (by decide) (by decide)) (pe_var (i := 6) rfl (Or.inl rfl) (by decide) (by decide)) (set_dict hu1))) (ri_app (s := s) (H := H) (E := E) (outer := outer) hr t1 t2)) fun D σ H1 ⟨p, Dd, L, ns, st, rows, n, k, pk, r, h6, hpk, hk, hkn, nd, hrl, hn, hq⟩ => ?_
  obtain ⟨vs, tb⟩ := r.tab
  obtain ⟨ys, hp⟩ := r.dice.has
  have hDp : Dd ≠ p := fun e => by have := tb.at_; rw [e, hp] at this; cases this
  have hDL : Dd ≠ L := fun e => by have := tb.at_; rw [e, r.lin] at this; cases this
  have hkp : pk ≠ p := fun e => by rw [e, hp] at hpk; cases hpk
  have hkD : pk ≠ Dd := fun e => by have := tb.at_; rw [← e, hpk] at this; cases this
  have hkL : pk ≠ L := fun e => by have := r.lin; rw [← e, hpk] at this; cases this
  refine ⟨.ref p, r.s0, p, n, rfl, r.dice, by omega, fun st' y H2 hst' o2 d2 hy => ?_⟩
  have himm : immAll (rows.map fun r => eSt r.2) = true := immAll_mem fun d hd => by
    obtain ⟨r, hr, rfl⟩ := List.mem_map.mp hd
    exact imm_eSt r.2
  have tb2 : TabAt K H2 Dd rows vs := ⟨o2 _ _ hDp tb.at_, DaAll.off hp o2 himm tb.da⟩
  have hpk2 : H2 pk = some (.tup (k.map V.int)) := o2 _ _ hkp hpk
  have hlen := kvs_len tb2.len
  refine ⟨.ref Dd, r.s4, .ref pk, h6, Dd, _, rfl, DPut.t (k := keyI k) tb2.at_ (by rw [keyI_V]; exact hpk2) (by rw [hlen]; exact Nat.lt_of_le_of_lt hrl (by decide)), ?_⟩
  have tb3 := tb2.put hy hkn
  have hL2 : H2 L = some (.lst ((rows.map rowLine).map V.str)) := o2 _ _ r.lp r.lin
  have hL3 : upd H2 Dd (.dT (putK (kvsOf rows vs) (keyI k) y)) L = some (.lst ((rows.map rowLine).map V.str)) := by rw [upd_ne (Ne.symm hDL)]; exact hL2
  have hpk3 : upd H2 Dd (.dT (putK (kvsOf rows vs) (keyI k) y)) pk = some (.tup (k.map V.int)) := by rw [upd_ne hkD]; exact hpk2
  have ndr : ((rows ++ [(k, st')]).map (·.1)).Nodup := by
    rw [List.map_append, List.map_singleton]
    refine List.nodup_append.mpr ⟨nd, by simp, fun a ha b hb e => ?_⟩
    rw [List.mem_singleton.mp hb] at e
    rw [e] at ha
    exact hkn ha
  have sl0 : Sl K σ (upd H2 Dd (.dT (putK (kvsOf rows vs) (keyI k) y))) [none, none, none, none, none, none, none, none, none] := ⟨r.sl.len, fun i d h => by
    match i with
    | 0 | 1 | 2 | 3 | 4 | 5 | 6 | 7 | 8 => cases h
    | n + 9 => cases h⟩
  have sl3 : Sl K σ (upd H2 Dd (.dT (putK (kvsOf rows vs) (keyI k) y))) (lKey (rows ++ [(k, st')]) k) := (sl0.know 4 r.s4 tb3.dat).know 6 h6 (eNs_of hpk3)
  refine ⟨rows ++ [(k, st')], k, st', hk, hst', List.mem_append_right _ (List.mem_singleton.mpr rfl), ndr, sl3, L, _, r.s5, hL3, ?_, fun H4 e4 => ?_⟩
  · rw [List.length_map, List.length_map]
    exact Nat.lt_of_le_of_lt hrl (by decide)
  refine hq st' _ hst' (fun b o h1 h2 h3 h => ?_) ⟨?_, r.s0, r.s4, r.s5, r.lp, ?_, ?_, ?_, ?_⟩
  · rw [upd_ne h3]
    refine e4 _ _ ?_
    rw [upd_ne h2]
    exact o2 _ _ h1 h
  · have hi : immS [none, none, some (eNs ns), some (eSt st), none, none, none, none, none] = true := by
      simp [immS, imm_eNs, imm_eSt]
    exact (((r.sl.off hi hp o2).write hi tb2.at_ trivial).mono e4).write hi (e4 _ _ hL3) trivial
  · have tb4 := tb3.mono e4
    have hi2 : immAll ((rows ++ [(k, st')]).map fun r => eSt r.2) = true := immAll_mem fun d hd => by
      obtain ⟨r, hr, rfl⟩ := List.mem_map.mp hd
      exact imm_eSt r.2
    exact ⟨_, by rw [upd_ne hDL]; exact tb4.at_, DaAll.write (e4 _ _ hL3) trivial hi2 tb4.da⟩
  · rw [upd_same, List.map_append, List.map_append]
    rfl
  · obtain ⟨a, b, c, h, rr⟩ := d2
    refine ⟨a, b, c, ?_, rr⟩
    rw [upd_ne (Ne.symm r.lp)]
    refine e4 _ _ ?_
    rw [upd_ne (Ne.symm hDp)]
    exact h
  · intro x hx
    have t2 := tabs_off r.tabs hp o2
    have t3 := TabS.upd (o := HO.dT (putK (kvsOf rows vs) (keyI k) y)) (t2 x hx) tb2.at_ ⟨fun xs z => (by cases z), fun c q z => (by cases z)⟩
    exact TabS.upd (t3.ext e4) (e4 _ _ hL3) ⟨fun xs z => (by cases z), fun c q z => (by cases z)⟩
end
end K7


set_option Elab.async false
set_option linter.all false
set_option maxRecDepth 100000
set_option maxHeartbeats 1000000
/-! _law_right, the loop over keys, whole. -/
namespace K7
open PySem PySem.Spec PyProof.Rows L2 LamX

theorem perm_enc {α : Type} {enc : α → PyData} {base : List α} {pd rd : List PyData} (inj : ∀ a b, enc a = enc b → a = b) (nd : base.Nodup) (h : (pd ++ rd).Perm (base.map enc)) : ∃ ks : List α, pd = ks.map enc ∧ ks.Nodup ∧ ∀ k ∈ ks, k ∈ base := by
  have h1 : ∀ d ∈ pd ++ rd, ∃ n ∈ base, enc n = d := fun d hd => by
    obtain ⟨n, hn, e⟩ := List.mem_map.mp (h.mem_iff.mp hd)
    exact ⟨n, hn, e⟩
  have lift : ∀ l : List PyData, (∀ d ∈ l, ∃ n ∈ base, enc n = d) → ∃ ns : List α, l = ns.map enc ∧ ∀ n ∈ ns, n ∈ base := fun l => by
    induction l with
    | nil => intro _; exact ⟨[], rfl, fun n h => nomatch h⟩
    | cons a l ih =>
      intro hh
      obtain ⟨n, hn, e⟩ := hh a (List.mem_cons_self ..)
      obtain ⟨ns, e2, h2⟩ := ih fun d hd => hh d (List.mem_cons_of_mem _ hd)
      refine ⟨n :: ns, by rw [e2, List.map_cons, e], fun k hk => ?_⟩
      rcases List.mem_cons.mp hk with e | hk
      · rw [e]; exact hn
      · exact h2 k hk
  obtain ⟨ns, e, h2⟩ := lift pd fun d hd => h1 d (List.mem_append_left _ hd)
  refine ⟨ns, e, ?_, h2⟩
  have nd1 : (base.map enc).Nodup := List.Pairwise.map _ (fun a b q e => q (inj _ _ e)) nd
  have nd2 : (pd ++ rd).Nodup := h.nodup_iff.mpr nd1
  have nd3 : pd.Nodup := (List.nodup_append.mp nd2).1
  rw [e] at nd3
  exact (List.pairwise_map.mp nd3).imp fun {a b} q e => q (by rw [e])
theorem keys5_nodup : keys5.Nodup := by decide
def tbKeys (K : PySem.W.Frag) (T : List (Addr × Str)) : TS := fun D σ H => ∃ H0 p Dd L ns st n, NumD ns ∧ StD st ∧ LIn K T p Dd L ns st σ n [] H ∧ n ≤ 200 ∧ OffX p H0 H ∧ H0 Dd = none ∧ H0 L = none ∧ ∀ H', OffX p H0 H' → Tabs T H' → D.rt (.bl true) H'
abbrev lN : Sk := [none, none, none, none, none, none, none, none, none]
theorem sl_none {K : PySem.W.Frag} {σ : L2.St} {H : Hp} (h : σ.length = 9) : Sl K σ H lN := ⟨h, fun i d q => by
  match i with
  | 0 | 1 | 2 | 3 | 4 | 5 | 6 | 7 | 8 => cases q
  | n + 9 => cases q⟩
theorem LIn.off {K : PySem.W.Frag} {T : List (Addr × Str)} {p Dd L : Addr} {ns : List Int} {st : St2} {σ : L2.St} {n m : Nat} {rows : Tab} {H H' : Hp} (r : LIn K T p Dd L ns st σ n rows H) (e : OffP p H H') (d : DiceAt H' p m) : LIn K T p Dd L ns st σ m rows H' := by
  obtain ⟨ys, hp⟩ := r.dice.has
  obtain ⟨vs, tb⟩ := r.tab
  have hDp : Dd ≠ p := fun e => by have := tb.at_; rw [e, hp] at this; cases this
  have himm : immAll (rows.map fun r => eSt r.2) = true := immAll_mem fun d hd => by
    obtain ⟨r, hr, rfl⟩ := List.mem_map.mp hd
    exact imm_eSt r.2
  have hi : immS [none, none, some (eNs ns), some (eSt st), none, none, none, none, none] = true := by
    simp [immS, imm_eNs, imm_eSt]
  exact ⟨r.sl.off hi hp e, r.s0, r.s4, r.s5, r.lp, ⟨vs, e _ _ hDp tb.at_, DaAll.off hp e himm tb.da⟩, e _ _ r.lp r.lin, d, tabs_off r.tabs hp e⟩
section
variable {P : Program} {w : World} {K : PySem.W.Frag} {mg : Str → Option Value} {base : Heap} {f : Addr} {cdv : Value} {A : Around} {outer : List Env} {s : Shared} {H : Hp} {E : XK} {T : List (Addr × Str)}
theorem ri_keys (g : Gt mg) (hr : Room 12 (A.deeper (envOfC "_law_right" (defScope sRight) s.heap.objs.size f cdv))) (c : Fk P w K mg base CX0 4 "_law_a_state" (spAState K)) (c1 : Fk P w K mg base CX0 1 "_law_roll" spRoll) (c2 : Fk P w K mg base CX0 2 "_law_some" (spSome K))
    (t1 : Fk P w K mg base CX0 1 "_law_line" (spD K domNumbersText)) (t2 : Fk P w K mg base CX0 2 "_law_state_line" (spD K domStateText)) (hrest : PSs (xRi P w K mg base f cdv A outer s H E) ((defBody sRight).drop 3) (tbMid K T)) :
    PSs (xRi P w K mg base f cdv A outer s H E) ((defBody sRight).drop 2) (tbKeys K T) := by
  refine pssImp (pss_cons (ps_for PassesOwn.never rfl (pi_list (pe_callB (cr_soT hr.units) rfl g.sorted (by decide +kernel) (pa_cons (pe_callK c2 hr (by decide) (pa_cons (pe_var (i := 0) rfl (Or.inr (Or.inl rfl)) (by decide) (by decide))
    (pa_cons (pe_lst (pda_cons (l := lN) (pd_tup (pda_cons pd_int (pda1 pd_int)) (show 2 ≤ 100000 by decide)) (pda_cons (pd_tup (pda_cons pd_int (pda1 pd_int)) (show 2 ≤ 100000 by decide)) (pda_cons (pd_tup (pda_cons pd_int (pda1 pd_int)) (show 2 ≤ 100000 by decide)) (pda_cons (pd_tup (pda_cons pd_int (pda1 pd_int)) (show 2 ≤ 100000 by decide)) (pda1 (pd_tup (pda_cons pd_int (pda1 pd_int)) (show 2 ≤ 100000 by decide))))))))
      (pa_cons (pe_callK c1 hr (by decide) (pa_cons (pe_var (i := 0) rfl (Or.inr (Or.inl rfl)) (by decide) (by decide)) (pa_cons pe_int pa_nil))) pa_nil)))) pa_nil))) (pg_name (i := 6) scRight.nd rfl (Or.inl rfl)) (ri_key (s := s) (H := H) (E := E) (outer := outer) (T := T) hr c t1 t2)) hrest) fun D σ H1 ⟨H0, p, Dd, L, ns, st, n, hns, hst, r, hn, o0, n1, n2, hq⟩ => ?_
  obtain ⟨ys, hp⟩ := r.dice.has
  refine ⟨.ref p, r.s0, sl_none r.sl.len, fun vs H2 e2 d2 => ⟨sz5 (by rw [d2.length]; exact (show 5 ≤ 100000 by decide)), fun q hq2 => ?_⟩⟩
  have hqp : q ≠ p := fun e => by rw [e, e2 _ _ hp] at hq2; cases hq2
  have e3 : Same H2 (upd H2 q (.lst vs)) := same_new hq2
  have r3 := r.off (offS (e2.trans e3)) ((r.dice.mono e2).mono e3)
  obtain ⟨ys3, hp3⟩ := r3.dice.has
  refine ⟨.ref p, r3.s0, p, 5, n, rfl, r3.dice, by decide, by decide, by omega, fun m H4 hm0 hm1 o4 d4 => ?_⟩
  obtain ⟨m, rfl⟩ := Int.eq_ofNat_of_zero_le hm0
  have r4 := r3.off o4 d4
  have hq4 : H4 q = some (.lst vs) := o4 _ _ hqp upd_same
  have himk : immAll (keys5.map eNs) = true := immAll_mem fun d hd => by
    obtain ⟨k, _, rfl⟩ := List.mem_map.mp hd
    exact imm_eNs k
  have dv4 : DaAll K H4 vs (keys5.map eNs) := DaAll.off hp3 o4 himk (d2.mono e3)
  refine ⟨p, q, vs, keys5.map eNs, m, n + 1, rfl, hqp, SqL.of hq4, dv4, himk, by decide, by omega, d4, by omega, fun pd rd z H5 hperm hlen o5 d5 hzp hz => ?_⟩
  obtain ⟨ks, e, nd, hmem⟩ := perm_enc eNs_inj keys5_nodup hperm
  subst e
  have r5 := r4.off o5 d5
  cases hz with
  | lst g1 g2 =>
    refine ⟨z, _, ks, rfl, g1, g2, nd, fun ys z2 dy hz2 => ⟨z2, rfl, ⟨_, SqL.of upd_same⟩, ?_⟩⟩
    have e6 : Same H5 (upd H5 z2 (.lst ys)) := same_new hz2
    have r6 := r5.off (offS e6) (d5.mono e6)
    obtain ⟨ys5, hp5⟩ := r5.dice.has
    obtain ⟨vs5, tb5⟩ := r5.tab
    have hzp2 : z2 ≠ p := fun e => by rw [e, hp5] at hz2; cases hz2
    have hzD : z2 ≠ Dd := fun e => by rw [e, tb5.at_] at hz2; cases hz2
    have hzL : z2 ≠ L := fun e => by rw [e, r5.lin] at hz2; cases hz2
    have dy6 : DaAll K (upd H5 z2 (.lst ys)) ys ((usort HT.lexLt ks).map eNs) := dy.mono e6
    have hyl : ys.length = (usort HT.lexLt ks).length := by
      have := dy.length
      rw [List.length_map] at this
      exact this
    have hul : (usort HT.lexLt ks).length ≤ 4 := by
      rw [(usort_len sto_lx nd).length_eq]
      rw [List.length_map, List.length_map] at hlen
      omega
    have hpw := usort_pw sto_lx ks
    have o6 : OffX p H0 (upd H5 z2 (.lst ys)) := o0.trans ((((offS (e2.trans e3)).trans o4).trans o5).trans (offS e6)).x
    refine for_it (g := gName 6) (tb := tbKey K T) (walk_list (K := K) (a := z2) (xs := ys)) (fun i σ' H' => ∃ rows, rows.map (·.1) = (usort HT.lexLt ks).take i ∧ (∀ r ∈ rows, StD r.2) ∧ LIn K T p Dd L ns st σ' (n + 1 + 10 + 45 * i) rows H' ∧ H' z2 = some (.lst ys) ∧ DaAll K H' ys ((usort HT.lexLt ks).map eNs) ∧ OffX p H0 H') ?_ (fun i σ' H' _ ⟨rows, _, _, _, h, _⟩ => SqL.of h) (fun i x σ' Ha Hb hi ⟨rows, k1, k2, k3, k4, k5, k6⟩ y => ?_) fun σ' H' ⟨rows, k1, k2, k3, k4, k5, k6⟩ => ?_
    · exact ⟨[], by simp, fun r h => (nomatch h), r6, upd_same, dy6, o6⟩
    · obtain ⟨rfl, hx⟩ := y
      rw [hyl] at hi
      have hk : (usort HT.lexLt ks)[i]? = some (usort HT.lexLt ks)[i] := List.getElem?_eq_getElem hi
      obtain ⟨d, hd, hv⟩ := k5.at' hx
      rw [List.getElem?_map, hk] at hd
      have ed : eNs (usort HT.lexLt ks)[i] = d := Option.some.inj hd
      subst ed
      obtain ⟨pk, rfl, hpk⟩ := eNs_at hv
      have hrl : rows.length = i := by
        have := congrArg List.length k1
        rw [List.length_map, List.length_take] at this
        omega
      have hin : (usort HT.lexLt ks)[i] ∈ keys5 := hmem _ ((usort_mem sto_lx _ ks).mp (List.getElem_mem hi))
      have hnd : (usort HT.lexLt ks).Nodup := pw_nodup sto_lx hpw
      have htk : (usort HT.lexLt ks).take (i + 1) = (usort HT.lexLt ks).take i ++ [(usort HT.lexLt ks)[i]] := by
        rw [List.take_add_one, hk]
        rfl
      have hnd1 : ((usort HT.lexLt ks).take (i + 1)).Nodup := hnd.sublist (List.take_sublist ..)
      rw [htk] at hnd1
      have hnin : (usort HT.lexLt ks)[i] ∉ rows.map (·.1) := fun h => by
        rw [k1] at h
        exact (List.nodup_append.mp hnd1).2.2 _ h _ (List.mem_singleton.mpr rfl) rfl
      have sl2 : Sl K (σ'.set 6 (some (.ref pk))) Hb [none, none, some (eNs ns), some (eSt st), none, none, none, none, none] := k3.sl.unset 6
      have r7 : LIn K T p Dd L ns st (σ'.set 6 (some (.ref pk))) (n + 1 + 10 + 45 * i) rows Hb := ⟨sl2, by rw [List.getElem?_set_ne (by decide)]; exact k3.s0, by rw [List.getElem?_set_ne (by decide)]; exact k3.s4, by rw [List.getElem?_set_ne (by decide)]; exact k3.s5, k3.lp, k3.tab, k3.lin, k3.dice, k3.tabs⟩
      refine ⟨p, Dd, L, ns, st, rows, n + 1 + 10 + 45 * i, _, pk, r7, ?_, hpk, hin, hnin, ?_, by omega, by omega, fun st' H' hst' o7 r8 => ?_⟩
      · rw [List.getElem?_set_self (by rw [k3.sl.len]; exact (show 6 < 9 by decide))]
      · rw [k1]
        exact hnd.sublist (List.take_sublist ..)
      · obtain ⟨ysb, hpb⟩ := k3.dice.has
        obtain ⟨vsb, tbb⟩ := k3.tab
        refine ⟨rows ++ [((usort HT.lexLt ks)[i], st')], ?_, fun q hq => ?_, r8, o7 _ _ hzp2 hzD hzL k4, ?_, ?_⟩
        · rw [List.map_append, k1, htk]
          rfl
        · rcases List.mem_append.mp hq with h | h
          · exact k2 q h
          · rw [List.mem_singleton.mp h]
            exact hst'
        · -- keys are tuples of ints
          have lift : ∀ {vs : List V} {cs : List (List Int)}, DaAll K Hb vs (cs.map eNs) → DaAll K H' vs (cs.map eNs) := fun {vs cs} => by
            induction cs generalizing vs with
            | nil =>
              intro h
              cases h
              exact .nil
            | cons c cs ih =>
              intro h
              cases h with
              | cons a1 a2 =>
                obtain ⟨a, rfl, ha⟩ := eNs_at a1
                refine .cons (eNs_of (o7 _ _ (fun e => ?_) (fun e => ?_) (fun e => ?_) ha)) (ih a2)
                · rw [e, hpb] at ha; cases ha
                · rw [e, tbb.at_] at ha; cases ha
                · rw [e, k3.lin] at ha; cases ha
          exact lift k5
        · intro b o hb h ht
          refine o7 _ _ hb (fun e => ?_) (fun e => ?_) (k6 b o hb h ht)
          · rw [e, n1] at h; cases h
          · rw [e, n2] at h; cases h
    · rw [hyl, List.take_length] at k1
      obtain ⟨vs7, tb7⟩ := k3.tab
      have hrl : rows.length ≤ 4 := by
        have := congrArg List.length k1
        rw [List.length_map] at this
        omega
      have htd : TabD rows := ⟨fun r hr => hmem _ ((usort_mem sto_lx _ ks).mp (by rw [← k1]; exact List.mem_map.mpr ⟨r, hr, rfl⟩)), k2, hrl, by unfold ascT; rw [k1]; exact hpw⟩
      refine ⟨p, _, ns, st, rows, hns, hst, htd, (k3.sl.know 4 k3.s4 tb7.dat).know 5 k3.s5 (.lst (SqL.of k3.lin) (da_strs _)), k3.s0, k3.dice, by rw [hyl]; omega, k3.tabs, fun H'' o t => hq H'' (k6.trans o) t⟩
end
end K7


set_option Elab.async false
set_option linter.all false
set_option maxRecDepth 100000
set_option maxHeartbeats 1000000
/-! _law_right, whole. -/
namespace K7
open PySem PySem.Spec PyProof.Rows L2 LamX

def spRight (T : List (Addr × Str)) : Sp := fun vs H Q _ => ∃ (p : Addr), vs = [.ref p] ∧ DiceAt H p 0 ∧ Tabs T H ∧ ∀ H', OffX p H H' → Tabs T H' → Q (.bl true) H'
def tPick5 (K : PySem.W.Frag) : TE := fun σ H Q => tCons (tVar 0) (tCons (tLst (tCons (tC (.int 0)) (tCons (tC (.int 0)) (tCons (tC (.int 1)) (tCons (tC (.int 5)) (tCons (tD K lN (.int (10 ^ 20))) tNil)))))) tNil) σ H fun vs H1 => spPick K (vs ++ []) H1 Q E0
section
variable {P : Program} {w : World} {K : PySem.W.Frag} {mg : Str → Option Value} {base : Heap} {f : Addr} {fd : FuncData} {T : List (Addr × Str)} {C fs f1 f2 f3 : Addr} {fds fd1 fd2 fd3 : FuncData}
def tNums (K : PySem.W.Frag) (T : List (Addr × Str)) : TE := fun σ H Q => ∃ p, σ.length = 9 ∧ σ[0]? = some (some (.ref p)) ∧ DiceAt H p 0 ∧ Tabs T H ∧ ∀ ns y H', NumD ns → OffP p H H' → DiceAt H' p 4 → Tabs T H' → Da K H' y (eNs ns) → Q y H'
theorem ri_nums {cdv : Value} {A : Around} {outer : List Env} {s : Shared} {H : Hp} {E : XK} (g : Gt mg) (hr : Room 12 (A.deeper (envOfC "_law_right" (defScope sRight) s.heap.objs.size f cdv))) (c1 : Fk P w K mg base CX0 1 "_law_roll" spRoll) (c2 : Fk P w K mg base CX0 2 "_law_pick" (spPick K)) :
    PE (xRi P w K mg base f cdv A outer s H E) (match (defBody sRight).getD 0 (.Pass ⟨0, 0, 0, 0⟩) with | .Assign _ e _ => e | _ => .Constant .none 0 ⟨0, 0, 0, 0⟩) (tNums K T) := by
  refine peImp (pe_callTy call_tuple_of rfl g.tuple (by decide +kernel) (pa_cons
      (pe_lc (own := [("_law_turn", 1)]) (g := gName 1) (tt := tYes) (te := tPick5 K) rfl scRight.nd (pi_range1 rfl g.range (pa_cons (pe_callK c1 hr (by decide) (pa_cons (pe_var (i := 0) rfl (Or.inr (Or.inl rfl)) (by decide) (by decide)) (pa_cons pe_int pa_nil))) pa_nil)) (blkOk_by (by rfl))
        (fun _ _ _ _ _ => pg_name (i := 1) scRight.nd rfl (Or.inl rfl)) (fun _ _ _ _ _ => pts_nil)
        (fun s H C cl fp => by exact pe_callK c2 hr (by decide) (pa_cons (pe_var (i := 0) rfl (Or.inr (Or.inl rfl)) (by decide) (by decide)) (pa_cons (pe_lst (pa_cons pe_int (pa_cons pe_int (pa_cons pe_int (pa_cons pe_int (pa_cons pd_pow20 pa_nil)))))) pa_nil)))) pa_nil) (by decide) (by decide) rfl rfl) fun σ H Q ⟨p, hlen, hs0, hdi, hT, hQ⟩ => ?_
  obtain ⟨ys, hp⟩ := hdi.has
  refine ⟨.ref p, hs0, p, 4, 0, rfl, hdi, by decide, by decide, by decide, fun r H2 hr0 hr1 o2 d2 => ?_⟩
  obtain ⟨m', rfl⟩ := Int.eq_ofNat_of_zero_le hr0
  have hm : m' ≤ 3 := by omega
  refine ⟨(m' : Nat), rfl, by omega, by omega, ?_⟩
  intro D hD
  obtain ⟨ws, hp2⟩ := d2.has
  have hDp : D ≠ p := fun e => by rw [e, hp2] at hD; cases hD
  rw [Int.toNat_natCast]
  have hT2 := tabs_off hT hp o2
  have eD : Same H2 (upd H2 D (.lst [])) := same_new hD
  refine lc_it (vs := [1]) (σ := σ) (g := gName 1) (tt := tYes) (Qd := fun H' => rTupL K [V.ref D] H' Q) (walk_range (lo := 0) (n := m'))
    (fun i H' => ∃ ns : List Int, H' D = some (.lst (ns.map V.int)) ∧ ns.length = i ∧ (∀ n ∈ ns, n ∈ picks5) ∧ DiceAt H' p (1 + i) ∧ Tabs T H' ∧ OffP p H H') ?_ (fun _ _ _ _ => trivial) (fun i x Ha Hb hi ⟨ns, a1, a2, a3, a4, a5, a6⟩ y => ?_) fun H' ⟨ns, a1, a2, a3, a4, a5, a6⟩ => ?_
  · exact ⟨[], upd_same, rfl, (fun n h => nomatch h), d2.mono eD, hT2.ext eD, o2.trans (offS eD)⟩
  · obtain ⟨rfl, rfl⟩ := y
    obtain ⟨us, hpb⟩ := a4.has
    have h1 : ((wipe σ [1]).set 1 (some (V.int (0 + (i : Nat)))))[0]? = some (some (.ref p)) := by
      rw [List.getElem?_set_ne (by decide)]
      show (σ.set 1 none)[0]? = _
      rw [List.getElem?_set_ne (by decide)]
      exact hs0
    refine ⟨by simp [wipe], ?_⟩
    unfold tYes
    refine L2.iteT ?_
    refine ⟨.ref p, h1, sl_none (by simp [wipe, hlen]), fun x5 H4 e4 d5 => ?_⟩
    cases d5
    refine ⟨sz5 (show 5 ≤ 100000 by decide), fun q hq => ?_⟩
    have hqp : q ≠ p := fun e => by rw [e, e4 _ _ hpb] at hq; cases hq
    have e5 : Same H4 (upd H4 q (.lst (picks5.map V.int))) := same_new hq
    refine ⟨p, q, picks5.map V.int, picks5.map .int, 1 + i, rfl, hqp, SqL.of upd_same, da_ints _, by decide +kernel, by decide, by decide, (a4.mono e4).mono e5, by omega, fun d x H6 hd o6 d6 hx => ?_⟩
    obtain ⟨v, hv, rfl⟩ := List.mem_map.mp hd
    have ex := hx.int_inv
    subst ex
    have o7 : OffP p Hb H6 := ((offS e4).trans (offS e5)).trans o6
    have hD6 : H6 D = some (.lst (ns.map V.int)) := o7 _ _ hDp a1
    refine ⟨ns.map V.int, hD6, ?_, ns ++ [v], ?_, ?_, ?_, ?_, ?_, ?_⟩
    · rw [List.length_map, a2]
      exact Nat.lt_of_le_of_lt (show _ ≤ 100000 by omega) (by decide)
    · rw [upd_same, List.map_append]
      rfl
    · rw [List.length_append, List.length_singleton, a2]
    · intro n hn
      rcases List.mem_append.mp hn with h | h
      · exact a3 n h
      · rw [List.mem_singleton.mp h]
        exact hv
    · obtain ⟨x1, x2, x3, x4, x5, x6, x7, x8, x9⟩ := d6
      refine ⟨x1, x2, x3, ?_, x5, x6, x7, x8, by omega⟩
      rw [upd_ne (Ne.symm hDp)]
      exact x4
    · have t6 := tabs_off a5 hpb o7
      intro x hx
      exact TabS.upd (t6 x hx) hD6 ⟨fun xs z => (by cases z), fun c q z => (by cases z)⟩
    · intro b o hb h
      have hbD : b ≠ D := fun e => by
        rw [e] at h
        have := o2 D o hDp h
        rw [hD] at this
        cases this
      rw [upd_ne hbD]
      exact o7 _ _ hb (a6 b o hb h)
  · refine cd_tupR (X := (cxOf CX0 P w K mg base nRight "_law_right" (defScope sRight) f cdv A outer s H E).nox) _ H' _ (.cons (.lst (SqL.of a1) (da_ints ns)) .nil) fun z3 H3 e3 hz3 => ?_
    exact hQ ns z3 H3 ⟨by omega, a3⟩ (a6.trans (offS e3)) ((a4.le (by omega)).mono e3) (a5.ext e3) hz3
theorem ok_right (F : Fun K "_law_right" "_law_right" sRight f fd) (g : Gt mg) (m : SM base)
    (cS : Gk P w K mg base 12 "_law_strings_right" srPs (spSR K T) fs fds)
    (R1 : Rk P w K mg base C 9 "read_numbers" resN f1 fd1) (R2 : Rk P w K mg base C 9 "read_state" resS f2 fd2) (R3 : Rk P w K mg base C 9 "read_table" resT f3 fd3)
    (w1 : Fk P w K mg base CX0 4 "write_numbers" (spD K domWriteNumbers)) (w2 : Fk P w K mg base CX0 6 "write_state" (spD K domWriteState)) (w3 : Fk P w K mg base CX0 7 "write_table" (spD K domWriteTable))
    (t1 : Fk P w K mg base CX0 1 "_law_line" (spD K domNumbersText)) (t2 : Fk P w K mg base CX0 2 "_law_state_line" (spD K domStateText))
    (c1 : Fk P w K mg base CX0 1 "_law_roll" spRoll) (c2 : Fk P w K mg base CX0 2 "_law_pick" (spPick K)) (c3 : Fk P w K mg base CX0 2 "_law_some" (spSome K)) (c4 : Fk P w K mg base CX0 4 "_law_a_state" (spAState K)) (c5 : Fk P w K mg base CX0 3 "_law_bent" (spBent K)) :
    FnG P w K mg base CX0 13 f fd ["_law_dice_here"] (spRight T) := by
  refine fnG_of F scRight (fun vs H Q E h => ?_) (fun cdv A outer s H vs Q E hfd hr hgd h => ?_)
  · obtain ⟨p, rfl, _⟩ := h
    rfl
  obtain ⟨p, rfl, hdi, hT, hQ⟩ := h
  obtain ⟨ys, hp⟩ := hdi.has
  have tail := ri_keys (s := s) (H := H) (E := E) (outer := outer) (T := T) g hr c4 c1 c3 t1 t2 (ri_mid (s := s) (H := H) (E := E) (outer := outer) g m hr hgd cS c5 R1 R2 R3 w1 w2 w3 t1 t2)
  refine ⟨_, pss_cons (ps_set (i := 2) scRight.nd rfl (Or.inl rfl) (ri_nums (s := s) (H := H) (E := E) (outer := outer) (T := T) g hr c1 c2))
    (pss_cons (ps_par3 (i := 3) (j := 4) (l := 5) rfl scRight.nd rfl rfl rfl (by decide) (by decide) (by decide) rfl rfl rfl (pa_cons (pe_callK c4 hr (by decide) (pa_cons (pe_var (i := 0) rfl (Or.inr (Or.inl rfl)) (by decide) (by decide)) pa_nil)) (pa_cons pe_dnewT (pa_cons (pe_lst pa_nil) pa_nil))) rfl) tail), ?_⟩
  refine ⟨p, rfl, rfl, hdi, hT, fun ns z3 H3 hns a6 d3 a5 hz3 => ?_⟩
  have h0 : ((L2.start nRight [V.ref p]).set 2 (some z3))[0]? = some (some (.ref p)) := rfl
  refine ⟨.ref p, h0, p, 4, rfl, d3, by omega, fun st y H4 hst o4 d4 hy => fun Dd hDd => ⟨Nat.zero_le _, fun L hL => ⟨y, .ref Dd, .ref L, rfl, ?_⟩⟩⟩
  obtain ⟨us, hp3⟩ := d3.has
  obtain ⟨us4, hp4⟩ := d4.has
  have e5 : Same H4 (upd H4 Dd (.dT [])) := same_new hDd
  have e6 : Same (upd H4 Dd (.dT [])) (upd (upd H4 Dd (.dT [])) L (.lst [])) := same_new hL
  have hLD : L ≠ Dd := fun e => by rw [e, upd_same] at hL; cases hL
  have hLp : L ≠ p := fun e => by rw [e, e5 _ _ hp4] at hL; cases hL
  have hDdp : Dd ≠ p := fun e => by rw [e, hp4] at hDd; cases hDd
  have oA : OffP p H H4 := a6.trans o4
  have oB : OffP p H (upd (upd H4 Dd (.dT [])) L (.lst [])) := oA.trans ((offS e5).trans (offS e6))
  have n1 : H Dd = none := by
    cases h : H Dd with
    | none => rfl
    | some u => have := oA _ _ hDdp h; rw [hDd] at this; cases this
  have n2 : H L = none := by
    cases h : H L with
    | none => rfl
    | some u =>
      have := (oA.trans (offS e5)) _ _ hLp h
      rw [hL] at this
      cases this
  refine ⟨H, p, Dd, L, ns, st, 4 + 45, hns, hst, ⟨?_, rfl, rfl, rfl, hLp, ⟨[], (tab_new H4 Dd).mono e6⟩, upd_same, (d4.mono e5).mono e6, ((tabs_off a5 hp3 o4).ext e5).ext e6⟩, by omega, oB.x, n1, n2, hQ⟩
  have z4 : Da K H4 z3 (eNs ns) := Da.off hp3 o4 (imm_eNs ns) hz3
  have s1 : Sl K ((L2.start nRight [V.ref p]).set 2 (some z3)) (upd (upd H4 Dd (.dT [])) L (.lst [])) (lN.set 2 (some (eNs ns))) := (sl_none (σ := L2.start nRight [V.ref p]) rfl).set 2 ((z4.mono e5).mono e6)
  exact ((s1.set 3 ((hy.mono e5).mono e6)).unset 4).unset 5
end
end K7


set_option Elab.async false
set_option linter.all false
set_option maxRecDepth 100000
set_option maxHeartbeats 1000000
/-! law. -/
namespace K7
open PySem PySem.Spec PyProof.Rows L2 LamX

abbrev sLaw : Stmt := top 50
abbrev nLaw : List Str := ["_law_script", "_law_spot"]
theorem scLaw : FnScope nLaw ["_law_script"] (defScope sLaw) := ⟨rfl, rfl, rfl, by decide +kernel, rfl, by decide +kernel, by decide +kernel⟩
def spLaw (K : PySem.W.Frag) (T : List (Addr × Str)) : Sp := fun vs H Q _ => ∃ (a : Addr) (ns : List Int), vs = [.ref a] ∧ SqL K H a (ns.map V.int) ∧ Tabs T H ∧ ∀ H', ExtN H H' → Tabs T H' → Q (.bl true) H'
theorem sql_ext {K : PySem.W.Frag} {H H' : Hp} {a : Addr} {xs : List V} (h : SqL K H a xs) (e : ExtN H H') : SqL K H' a xs := by
  rcases h with h1 | h1
  · exact .inl (ext_rd e h1 (fun ps z => by cases z))
  · exact .inr h1
/-- a turn -/
def tbLaw (K : PySem.W.Frag) (T : List (Addr × Str)) : TS := fun D σ H => ∃ (a : Addr) (ns : List Int) (spot : Nat), σ[0]? = some (some (.ref a)) ∧ σ[1]? = some (some (.int (spot : Nat))) ∧ spot < 8 ∧ SqL K H a (ns.map V.int) ∧ Tabs T H ∧ ∀ H', ExtN H H' → Tabs T H' → D.nx σ H'
section
variable {P : Program} {w : World} {K : PySem.W.Frag} {mg : Str → Option Value} {base : Heap} {f : Addr} {fd : FuncData} {T : List (Addr × Str)} {fr : Addr} {fdr : FuncData}
theorem ok_law (F : Fun K "law" "law" sLaw f fd) (g : Gt mg) (c : Gk P w K mg base 13 "_law_right" ["_law_dice_here"] (spRight T) fr fdr) (c2 : Fk P w K mg base CX0 1 "_law_dice" (spDice K)) :
    FnG P w K mg base CX0 14 f fd ["_law_script"] (spLaw K T) := by
  refine fnG_of F scLaw (fun vs H Q E h => ?_) (fun cdv A outer s H vs Q E hfd hr hgd h => ?_)
  · obtain ⟨a, ns, rfl, _⟩ := h
    rfl
  obtain ⟨a, ns, rfl, ha, hT, hq⟩ := h
  have body : PSs (cxOf CX0 P w K mg base nLaw "law" (defScope sLaw) f cdv A outer s H E).nox (forBody ((defBody sLaw).getD 0 (.Pass ⟨0, 0, 0, 0⟩))) (tbLaw K T) := by
    refine pssImp (pss_one (ps_if (pt_not (pt_val (pe_callG c.ok hr hgd rfl c.at_ c.kp c.bd (pa_cons (pe_callK c2 hr (by decide) (pa_cons (pe_var (i := 0) rfl (Or.inl rfl) (by decide) (by decide)) (pa_cons (pe_var (i := 1) rfl (Or.inl rfl) (by decide) (by decide)) pa_nil))) pa_nil)))) pssBot pss_nil)) fun D σ H1 ⟨a, ns, spot, h0, h1, hs, ha, hT, hq⟩ => ?_
    refine ⟨.ref a, h0, .int (spot : Nat), h1, a, ns, spot, rfl, ha, hs, fun p H2 e2 hp d2 => ?_⟩
    refine ⟨p, rfl, d2, hT.ext e2, fun H3 o3 t3 => ⟨true, rfl, ?_⟩⟩
    refine L2.iteF ?_
    refine hq H3 (fun b o hb ht => o3 b o (fun e => ?_) (e2 _ _ hb) ht) t3
    rw [e, hp] at hb
    cases hb
  refine ⟨_, pss_cons (ps_for PassesOwn.never rfl (pi_range1 rfl g.range (pa_cons (pe_callB (call_max2 rfl) rfl g.max (by decide +kernel) (pa_cons pe_int (pa_cons (pe_callB (call_min2 rfl) rfl g.min (by decide +kernel) (pa_cons pe_int (pa_cons (pe_callB call_len rfl g.len (by decide +kernel) (pa_cons (pe_var (i := 0) rfl (Or.inl rfl) (by decide) (by decide)) pa_nil)) pa_nil))) pa_nil))) pa_nil)) (pg_name (i := 1) scLaw.nd rfl (Or.inl rfl)) body) (pss_one (ps_ret pe_bl)), ?_⟩
  refine ⟨.ref a, rfl, _, (ns.map V.int).length, rfl, .inl ⟨_, ha, rfl⟩, 8, ((ns.map V.int).length : Nat), rfl, 1, _, rfl, ?_⟩
  generalize hk : (if (if ((ns.map V.int).length : Int) < 8 then ((ns.map V.int).length : Int) else 8) > 1 then (if ((ns.map V.int).length : Int) < 8 then ((ns.map V.int).length : Int) else 8) else 1) = k
  have hk1 : 1 ≤ k ∧ k ≤ 8 := by
    rw [← hk]
    split <;> split <;> omega
  refine ⟨k, rfl, by omega, by omega, ?_⟩
  refine for_it (g := gName 1) (tb := tbLaw K T) (walk_range (lo := 0) (n := k.toNat)) (fun i σ' H' => σ'.length = 2 ∧ σ'[0]? = some (some (.ref a)) ∧ SqL K H' a (ns.map V.int) ∧ Tabs T H' ∧ ExtN H H') ⟨rfl, rfl, ha, hT, ExtN.refl H⟩ (fun _ _ _ _ _ => trivial) (fun i x σ' Ha Hb hi ⟨k0, k1, k2, k3, k4⟩ y => ?_) fun σ' H' ⟨k0, k1, k2, k3, k4⟩ => ?_
  · obtain ⟨rfl, rfl⟩ := y
    refine ⟨a, ns, i, ?_, ?_, by omega, k2, k3, fun H' x t => ⟨?_, ?_, sql_ext k2 x, t, k4.trans x⟩⟩
    · rw [List.getElem?_set_ne (by decide)]
      exact k1
    · rw [List.getElem?_set_self (by rw [k0]; exact (show 1 < 2 by decide))]
      show some (some (V.int (0 + (i : Nat)))) = _
      rw [Int.zero_add]
    · rw [List.length_set]
      exact k0
    · rw [List.getElem?_set_ne (by decide)]
      exact k1
  · exact hq H' k4 k3
end
end K7


set_option Elab.async false
set_option linter.all false
set_option maxRecDepth 100000
set_option maxHeartbeats 2000000
/-! The end: from the head's heap to the law's call. -/
namespace K7
open PySem PySem.Spec PyProof.Rows L2 LamX

/-- the heap that the head leaves, the script at a, one table of code objects at Pt -/
structure EndAt (K : PySem.W.Frag) (mg mb : Str → Option Value) (s : Shared) (c Pt a : Addr) (vs : List Value) (ns : List Int) : Prop where
  kin : K.In s.heap
  glob : s.heap.Ns mainGlobals mg
  blt : s.heap.Ns builtinsNs mb
  same : ∀ y : Str, y ≠ "__name__" → mb y = bootBuiltins y
  lim : s.heap.NoLimit
  gens : s.gens = #[]
  tab : s.heap.get? Pt = some { cls := .none, data := .fields #[] }
  out : K.lookup Pt = none
  code : PySem.W.CodeHd s.heap c Pt
  bm : ∃ (m : Addr) (q : Obj), mg "__builtins__" = some (.ref m) ∧ m ≠ builtinsNs ∧ s.heap.get? m = some q ∧ q.cls = .type "module" ∧ q.dict = some builtinsNs ∧ q.data = .plain
  seer : ∃ mm, s.heap.Ns sysModules mm
  script : s.heap.get? a = some { cls := .type "list", data := .seq vs.toArray }
  its : IntsAre vs ns
  few : ns.length ≤ sizeLine
/-- what is tracked -/
def trk0 (Pt a : Addr) (u : Option HO) : Hp := fun b => if b = Pt then some (.tbl #[]) else if b = a then u else none
abbrev scrO (vs : List Value) : Obj := { cls := .type "list", data := .seq vs.toArray }
/-- the script is known already, or tracked -/
def Scr (K : PySem.W.Frag) (a : Addr) (vs : List Value) (ns : List Int) (u : Option HO) : Prop := (u = none ∧ K.lookup a = some (scrO vs)) ∨ (u = some (.frz (scrO vs) (.lst (ns.map V.int))) ∧ K.lookup a = none)
theorem trk_tab {Pt a : Addr} {u : Option HO} : trk0 Pt a u Pt = some (.tbl #[]) := if_pos rfl
theorem trk_off {Pt a b : Addr} {u : Option HO} (h1 : b ≠ Pt) (h2 : b ≠ a) : trk0 Pt a u b = none := (if_neg h1).trans (if_neg h2)
theorem trk_scr {Pt a : Addr} {u : Option HO} (h : a ≠ Pt) : trk0 Pt a u a = u := (if_neg h).trans (if_pos rfl)
section
variable {P : Program} {w : World} {K : PySem.W.Frag} {mg mb : Str → Option Value} {s : Shared} {c Pt a : Addr} {vs : List Value} {ns : List Int} {u : Option HO}
theorem EndAt.ne (e : EndAt K mg mb s c Pt a vs ns) : a ≠ Pt := fun q => by
  have h := e.script
  rw [q, e.tab] at h
  have h' := congrArg Obj.data (Option.some.inj h)
  cases h'
theorem EndAt.rest (e : EndAt K mg mb s c Pt a vs ns) {b : Addr} {o : Obj} (h : s.heap.get? b = some o) (n1 : ∀ v n, o.data ≠ .seq v n) (n2 : o.data ≠ .fields #[]) : trk0 Pt a u b = none := by
  refine trk_off (fun q => ?_) fun q => ?_
  · rw [q, e.tab] at h
    exact n2 (by rw [← Option.some.inj h])
  · rw [q, e.script] at h
    exact n1 _ _ (by rw [← Option.some.inj h])
theorem EndAt.hid (e : EndAt K mg mb s c Pt a vs ns) {b : Addr} {o : Obj} (h : s.heap.get? b = some o) (n1 : ∀ v n, o.data ≠ .seq v n) (n2 : o.data ≠ .fields #[]) : (hidT s.heap (trk0 Pt a u)).get? b = some o := hidT_get h (e.rest h n1 n2)
theorem EndAt.nsp (e : EndAt K mg mb s c Pt a vs ns) {b : Addr} {m : Str → Option Value} (h : s.heap.Ns b m) : (hidT s.heap (trk0 Pt a u)).Ns b m := by
  obtain ⟨o, es, ep, h1, h2, h3⟩ := h
  exact ⟨o, es, ep, e.hid h1 (fun v n q => by rw [h2] at q; cases q) (fun q => by rw [h2] at q; cases q), h2, h3⟩
theorem EndAt.kInH (e : EndAt K mg mb s c Pt a vs ns) (hu : Scr K a vs ns u) : K.In (hidT s.heap (trk0 Pt a u)) := fun b o h => by
  refine hidT_get (e.kin b o h) ?_
  by_cases h1 : b = Pt
  · rw [h1, e.out] at h
    cases h
  · by_cases h2 : b = a
    · rw [h2, trk_scr e.ne]
      rcases hu with ⟨q, _⟩ | ⟨_, q⟩
      · exact q
      · rw [h2, q] at h
        cases h
    · exact trk_off h1 h2
theorem EndAt.mod (e : EndAt K mg mb s c Pt a vs ns) (hu : Scr K a vs ns u) : L2.Mod K mg (hidT s.heap (trk0 Pt a u)) := by
  obtain ⟨mc, l1, l2⟩ := e.lim
  exact ⟨e.kInH hu, e.nsp e.glob, ⟨mb, e.nsp e.blt, e.same⟩, ⟨mc, e.nsp l1, l2⟩⟩
theorem EndAt.sm (e : EndAt K mg mb s c Pt a vs ns) : SM (hidT s.heap (trk0 Pt a u)) := by
  obtain ⟨mm, h⟩ := e.seer
  exact ⟨mm, e.nsp h⟩
theorem EndAt.tabB (e : EndAt K mg mb s c Pt a vs ns) : TabB (hidT s.heap (trk0 Pt a u)) mg c Pt := by
  refine ⟨?_, ?_, fun q => ?_⟩
  · obtain ⟨o, fs, fl, tf, gs, tg, nF, tx, tt, h1, h2, h3, h4, rest⟩ := e.code
    refine ⟨o, fs, fl, tf, gs, tg, nF, tx, tt, e.hid h1 (fun v n q => by rw [h3] at q; cases q) (fun q => ?_), h2, h3, h4, rest⟩
    rw [h3] at q
    cases q
    simp at h4
  · obtain ⟨m, q, h1, h2, h3, h4, h5, h6⟩ := e.bm
    refine ⟨m, q, h1, h2, fun z => ?_, fun z => ?_, e.hid h3 (fun v n z => by rw [h6] at z; cases z) (fun z => by rw [h6] at z; cases z), h4, h5, h6⟩
    · obtain ⟨o, es, ep, g1, g2, _⟩ := e.glob
      rw [z, g1] at h3
      rw [← Option.some.inj h3, g2] at h6
      cases h6
    · rw [z, e.tab] at h3
      rw [← Option.some.inj h3] at h6
      cases h6
  · obtain ⟨o, es, ep, g1, g2, _⟩ := e.glob
    rw [q, e.tab] at g1
    rw [← Option.some.inj g1] at g2
    cases g2
theorem EndAt.sq (e : EndAt K mg mb s c Pt a vs ns) (hu : Scr K a vs ns u) : SqL K (trk0 Pt a u) a (ns.map V.int) := by
  rcases hu with ⟨h1, h2⟩ | ⟨h1, h2⟩
  · exact .inr ⟨_, vs.toArray, _, h2, rfl, rfl, rfl, by rw [List.size_toArray, e.its.length]; exact e.few, by simpa using vals_ints e.its⟩
  · exact .inl (.inr ⟨scrO vs, by rw [trk_scr e.ne]; exact h1⟩)
theorem EndAt.hok (e : EndAt K mg mb s c Pt a vs ns) (hu : Scr K a vs ns u) : HOk P w (trk0 Pt a u) s.heap := fun b z h => by
  by_cases h1 : b = Pt
  · subst h1
    rw [trk_tab] at h
    rw [← Option.some.inj h]
    exact e.tab
  · by_cases h2 : b = a
    · subst h2
      rw [trk_scr h1] at h
      rcases hu with ⟨q, _⟩ | ⟨q, _⟩
      · rw [q] at h
        cases h
      · rw [q] at h
        rw [← Option.some.inj h]
        exact ⟨e.script, by rw [List.length_map]; exact e.few, vs, _, vals_ints e.its, e.script⟩
    · rw [trk_off h1 h2] at h
      cases h
/-- the law's call, from what holds of each base -/
theorem EndAt.call {k : Nat} {fa : Addr} {fd : FuncData} {x : Str} {sp : Sp} (e : EndAt K mg mb s c Pt a vs ns) (hr : Room k callerA)
    (F : ∀ base : Heap, SM base → TabB base mg c Pt → FnG P w K mg base CX0 k fa fd [x] sp) (hb : ∀ (s : Shared) (v : Value), BindsTo s fd ⟨[v], []⟩ [(x, v)])
    (hsp : ∀ H : Hp, H Pt = some (.tbl #[]) → SqL K H a (ns.map V.int) → sp [.ref a] H (fun v _ => v = .bl true) fun _ _ _ => False) :
    codeAny (model P w) callerA (.call (.ref fa) ⟨[.ref a], []⟩) (fun r s' => r = .ok (.ret (.bool true)) ∧ OldK s.heap s'.heap ∧ s'.os = s.os ∧ AllBare s'.gens) s := by
  obtain ⟨u, hu⟩ : ∃ u, Scr K a vs ns u := by
    cases q : K.lookup a with
    | none => exact ⟨_, .inr ⟨rfl, q⟩⟩
    | some o =>
      have h := e.kin a o q
      rw [e.script] at h
      exact ⟨_, .inl ⟨rfl, by rw [q, ← Option.some.inj h]⟩⟩
  have hE : Env0 P w K mg (hidT s.heap (trk0 Pt a u)) callerA [] s (trk0 Pt a u) :=
    { frames := rfl, mod := e.mod hu, bs := fun b o h => of_hidT h, bsz := Nat.le_of_eq (hidT_size _ _), funs := trivial, frf := fun b h => absurd (show b ∈ ([] : List Addr) from h) (by simp), hok := e.hok hu, bare := .of_eq e.gens }
  refine codeAny_mono ((F _ e.sm e.tabB).run callerA [] s (trk0 Pt a u) ⟨[.ref a], []⟩ [.ref a] [.ref a] _ _ hr rfl hE (hb s (.ref a)) (.cons rfl .nil) (hsp _ trk_tab (e.sq hu))) fun r s' h => ?_
  cases r with
  | error z => exact (show False from h).elim
  | ok fl =>
    cases fl with
    | next => exact False.elim h
    | brk => exact False.elim h
    | cont => exact False.elim h
    | ret z =>
      obtain ⟨v, H', os, bare, un, hok', rv, q⟩ := h
      have qv : v = .bl true := q
      subst qv
      have ez : z = Value.bool true := rv
      subst ez
      -- what stood at the start stands still; the table may have grown
      have keep : ∀ b o, b ≠ Pt → s.heap.get? b = some o → s'.heap.get? b = some o := fun b o n h => by
        by_cases h2 : b = a
        · subst h2
          rcases hu with ⟨g1, g2⟩ | ⟨g1, g2⟩
          · exact un.keep b o h (by rw [trk_scr n]; exact g1) (by intro z; exact absurd (show b ∈ ([] : List Addr) from z) (by simp)) (by simp)
          · have t0 : trk0 Pt b u b = some (.frz (scrO vs) (.lst (ns.map V.int))) := by rw [trk_scr n]; exact g1
            have t1 := un.frzs b _ _ t0
            rw [e.script] at h
            rw [← Option.some.inj h]
            exact (hok' b _ t1).1
        · exact un.keep b o h (trk_off n h2) (by intro z; exact absurd (show b ∈ ([] : List Addr) from z) (by simp)) (by simp)
      obtain ⟨more, hm⟩ := un.tbls Pt #[] trk_tab
      have grown : s'.heap.get? Pt = some { cls := .none, data := .fields (#[] ++ more) } := hok' Pt _ hm
      refine ⟨rfl, ⟨fun b o h => ?_, fun b o h => ?_⟩, os, bare⟩
      · by_cases h1 : b = Pt
        · subst h1
          rw [e.tab] at h
          cases h
          exact .inr (.inl ⟨(e.code.tab e.tab).isCodeTable, rfl, #[], more, rfl, grown⟩)
        · exact .inl (keep b o h1 h)
      · by_cases h1 : b = Pt
        · subst h1
          exact ⟨_, grown⟩
        · exact ⟨o, keep b o h1 h⟩
end
/-- what is known of the law at the head's heap h -/
def LawG (l : PySem.W.OpenLaw) (w : World) (K : PySem.W.Frag) (k : Nat) (x : Str) (mg : Str → Option Value) (fa : Addr) (h : Heap) : Prop :=
  ∃ (fd : FuncData) (c Pt : Addr) (sp : Sp), h.get? Pt = some { cls := .none, data := .fields #[] } ∧ K.lookup Pt = none ∧ PySem.W.CodeHd h c Pt ∧ (∀ (s : Shared) (v : Value), BindsTo s fd ⟨[v], []⟩ [(x, v)]) ∧
    (∀ (H : Hp) (a : Addr) (ns : List Int), H Pt = some (.tbl #[]) → SqL K H a (ns.map V.int) → sp [.ref a] H (fun v _ => v = .bl true) fun _ _ _ => False) ∧
    ∀ base : Heap, SM base → TabB base mg c Pt → FnG l.prog w K mg base CX0 k fa fd [x] sp
theorem walk_ofG {l : PySem.W.OpenLaw} {n k : Nat} {q : Program} {loose : List Str} {XP : (Str → Option Value) → Heap → Prop} {YP : World → Heap → Prop} {d : DefRec} {K : Params → PySem.W.Frag} {x : Str} (hn : l.most = some n) (hn2 : n ≤ sizeLine) (hdf : d.params.defaults = []) (hr : Room k callerA) (hI : importsNone q = true) (hY : ∀ (w : World) (h : Heap), YP w h → (K w.params).In h)
    (F : ∀ (w : World) (mg : Str → Option Value) (fa : Addr) (h : Heap), YP w h → XP mg h → (K w.params).In h → h.Ns mainGlobals mg → mg d.name = some (.ref fa) → LawG l w (K w.params) k x mg fa h) : PySem.W.WalkO q loose XP YP l.row.toRowW d [] (fun f vs => PySem.call f vs) := by
  refine Att.attach_callB hn hdf fun w s₀ s₁ mg mb fa o pm cd doc a vs ns G Y ho hd hcd hmg hobj hints hlen hbits hg => ?_
  obtain ⟨fd, c, Pt, sp, h1, h2, h3, h4, h5, h6⟩ := F w mg fa _ Y G.X (hY w _ Y) G.T.g hmg
  obtain ⟨mm, h7, _⟩ := (G.T.seer hI).mods
  exact EndAt.call ⟨hY w _ Y, G.T.g, G.T.b, G.T.builtins, G.T.nolimit, hg, h1, h2, h3, G.T.bmain, ⟨mm, h7⟩, hobj, hints, Nat.le_trans hlen hn2⟩ hr h6 h4 fun H hH hS => h5 H a ns hH hS
end K7


set_option Elab.async false
set_option linter.all false
set_option maxRecDepth 100000
set_option maxHeartbeats 8000000
/-! What the top leaves, put together (printed by gen_all.py). -/
namespace K7
open PySem PySem.Spec PyProof.Rows L2 LamX

/-- an error of the class at S is what its clause names -/
theorem own_clause {K : PySem.W.Frag} {S : Addr} (b1 : PySem.W.subIn K (.ref S) (.type "BaseException") = some true) (b2 : PySem.W.isClsIn K S = true) (b3 : PySem.W.typeIn K (.ref S) = some (.type "type")) (b4 : PySem.W.subIn K (.ref S) (.ref S) = some true) :
    PySem.W.exmOne K (.ref S) (.ref S) = some true := by
  have q1 : (PySem.W.subIn K (.ref S) (.type "BaseException") == some true) = true := by rw [b1] <;> rfl
  have q2 : ((PySem.W.clsIn K S).isSome && PySem.W.typeIn K (.ref S) == some (.type "type")) = true := by
    have z : (PySem.W.clsIn K S).isSome = true := b2
    rw [z, b3] <;> rfl
  unfold PySem.W.exmOne
  rw [if_pos q1]
  unfold PySem.W.kitCls
  exact (if_pos q2).trans b4
theorem all_mk {l : PySem.W.OpenLaw} {w : World} {K : PySem.W.Frag} {h : Heap} {mg : Str → Option Value} {fa : Addr} {ts : List Addr} (X : K.In h) (G : h.Ns mainGlobals mg) (hfa : mg "law" = some (.ref fa)) (hts : ∀ P ∈ ts, h.get? P = some { cls := .none, data := .fields #[] }) (hL : ∃ t, mg "LONGEST" = some (.int (10 ^ 60) t))
    {f0 : Addr} {od0 an0 : Option Addr} {sl0 : Array (Option Value)} {oc0 kV0 dc0 pm0 cd0 ct0 : Value}
    {f1 : Addr} {od1 an1 : Option Addr} {sl1 : Array (Option Value)} {oc1 kV1 dc1 pm1 cd1 ct1 : Value}
    {f2 : Addr} {od2 an2 : Option Addr} {sl2 : Array (Option Value)} {oc2 kV2 dc2 pm2 cd2 ct2 : Value}
    {f3 : Addr} {od3 an3 : Option Addr} {sl3 : Array (Option Value)} {oc3 kV3 dc3 pm3 cd3 ct3 : Value}
    {f4 : Addr} {od4 an4 : Option Addr} {sl4 : Array (Option Value)} {oc4 kV4 dc4 pm4 cd4 ct4 : Value}
    {f5 : Addr} {od5 an5 : Option Addr} {sl5 : Array (Option Value)} {oc5 kV5 dc5 pm5 cd5 ct5 : Value}
    {f6 : Addr} {od6 an6 : Option Addr} {sl6 : Array (Option Value)} {oc6 kV6 dc6 pm6 cd6 ct6 : Value}
    {f7 : Addr} {od7 an7 : Option Addr} {sl7 : Array (Option Value)} {oc7 kV7 dc7 pm7 cd7 ct7 : Value}
    {f8 : Addr} {od8 an8 : Option Addr} {sl8 : Array (Option Value)} {oc8 kV8 dc8 pm8 cd8 ct8 : Value}
    {f9 : Addr} {od9 an9 : Option Addr} {sl9 : Array (Option Value)} {oc9 kV9 dc9 pm9 cd9 ct9 : Value}
    {f10 : Addr} {od10 an10 : Option Addr} {sl10 : Array (Option Value)} {oc10 kV10 dc10 pm10 cd10 ct10 : Value}
    {f11 : Addr} {od11 an11 : Option Addr} {sl11 : Array (Option Value)} {oc11 kV11 dc11 pm11 cd11 ct11 : Value}
    {f12 : Addr} {od12 an12 : Option Addr} {sl12 : Array (Option Value)} {oc12 kV12 dc12 pm12 cd12 ct12 : Value}
    {f13 : Addr} {od13 an13 : Option Addr} {sl13 : Array (Option Value)} {oc13 kV13 dc13 pm13 cd13 ct13 : Value}
    {f14 : Addr} {od14 an14 : Option Addr} {sl14 : Array (Option Value)} {oc14 kV14 dc14 pm14 cd14 ct14 : Value}
    {f15 : Addr} {od15 an15 : Option Addr} {sl15 : Array (Option Value)} {oc15 kV15 dc15 pm15 cd15 ct15 : Value}
    {f16 : Addr} {od16 an16 : Option Addr} {sl16 : Array (Option Value)} {oc16 kV16 dc16 pm16 cd16 ct16 : Value}
    {f17 : Addr} {od17 an17 : Option Addr} {sl17 : Array (Option Value)} {oc17 kV17 dc17 pm17 cd17 ct17 : Value}
    {f18 : Addr} {od18 an18 : Option Addr} {sl18 : Array (Option Value)} {oc18 kV18 dc18 pm18 cd18 ct18 : Value}
    {f19 : Addr} {od19 an19 : Option Addr} {sl19 : Array (Option Value)} {oc19 kV19 dc19 pm19 cd19 ct19 : Value}
    {f20 : Addr} {od20 an20 : Option Addr} {sl20 : Array (Option Value)} {oc20 kV20 dc20 pm20 cd20 ct20 : Value}
    {f21 : Addr} {od21 an21 : Option Addr} {sl21 : Array (Option Value)} {oc21 kV21 dc21 pm21 cd21 ct21 : Value}
    {f22 : Addr} {od22 an22 : Option Addr} {sl22 : Array (Option Value)} {oc22 kV22 dc22 pm22 cd22 ct22 : Value}
    {f23 : Addr} {od23 an23 : Option Addr} {sl23 : Array (Option Value)} {oc23 kV23 dc23 pm23 cd23 ct23 : Value}
    {f24 : Addr} {od24 an24 : Option Addr} {sl24 : Array (Option Value)} {oc24 kV24 dc24 pm24 cd24 ct24 : Value}
    {f25 : Addr} {od25 an25 : Option Addr} {sl25 : Array (Option Value)} {oc25 kV25 dc25 pm25 cd25 ct25 : Value}
    {f26 : Addr} {od26 an26 : Option Addr} {sl26 : Array (Option Value)} {oc26 kV26 dc26 pm26 cd26 ct26 : Value}
    {f27 : Addr} {od27 an27 : Option Addr} {sl27 : Array (Option Value)} {oc27 kV27 dc27 pm27 cd27 ct27 : Value}
    {f28 : Addr} {od28 an28 : Option Addr} {sl28 : Array (Option Value)} {oc28 kV28 dc28 pm28 cd28 ct28 : Value}
    {f29 : Addr} {od29 an29 : Option Addr} {sl29 : Array (Option Value)} {oc29 kV29 dc29 pm29 cd29 ct29 : Value}
    {f30 : Addr} {od30 an30 : Option Addr} {sl30 : Array (Option Value)} {oc30 kV30 dc30 pm30 cd30 ct30 : Value}
    {f31 : Addr} {od31 an31 : Option Addr} {sl31 : Array (Option Value)} {oc31 kV31 dc31 pm31 cd31 ct31 : Value}
    {f32 : Addr} {od32 an32 : Option Addr} {sl32 : Array (Option Value)} {oc32 kV32 dc32 pm32 cd32 ct32 : Value}
    {f33 : Addr} {od33 an33 : Option Addr} {sl33 : Array (Option Value)} {oc33 kV33 dc33 pm33 ct33 : Value}
    {f34 : Addr} {od34 an34 : Option Addr} {sl34 : Array (Option Value)} {oc34 kV34 dc34 pm34 cd34 ct34 : Value}
    {f35 : Addr} {od35 an35 : Option Addr} {sl35 : Array (Option Value)} {oc35 kV35 dc35 pm35 cd35 ct35 : Value}
    {c Pt : Addr} {dcd : Option Addr} {vsc : Array Value} {slc : Array (Option Value)} {tk1 tk2 tk3 tk4 tk5 tk6 : Tok}
    {C fI : Addr} {nm q : Str} {Nn : Addr} {bs bm : List Value} {sn : List Str} {sub : List Value} {ab : Bool} {col : Option Bool} {dd : Option Addr} {m0 m1 m2 m3 m5 : Option Value} {odI anI : Option Addr} {slI : Array (Option Value)} {ocI dcI pmI cdI ctI : Value}
    (a0 : PySem.W.nsIn K mainGlobals "is_integer" = some (some (.ref f0))) (l0 : K.lookup f0 = some ⟨oc0, od0, .func (PySem.W.fnOf "is_integer" "is_integer" (defArgs sIsInt) (defBody sIsInt) (defScope sIsInt) .none kV0 dc0 pm0 an0 cd0 ct0), sl0⟩) (c0 : PySem.W.codeIn K cd0 "is_integer" = true) (k0 : PySem.W.keepIn K (.ref f0) = true)
    (a1 : PySem.W.nsIn K mainGlobals "is_within" = some (some (.ref f1))) (l1 : K.lookup f1 = some ⟨oc1, od1, .func (PySem.W.fnOf "is_within" "is_within" (defArgs sIsWithin) (defBody sIsWithin) (defScope sIsWithin) .none kV1 dc1 pm1 an1 cd1 ct1), sl1⟩) (c1 : PySem.W.codeIn K cd1 "is_within" = true) (k1 : PySem.W.keepIn K (.ref f1) = true)
    (a2 : PySem.W.nsIn K mainGlobals "number_of" = some (some (.ref f2))) (l2 : K.lookup f2 = some ⟨oc2, od2, .func (PySem.W.fnOf "number_of" "number_of" (defArgs sNumberOf) (defBody sNumberOf) (defScope sNumberOf) .none kV2 dc2 pm2 an2 cd2 ct2), sl2⟩) (c2 : PySem.W.codeIn K cd2 "number_of" = true) (k2 : PySem.W.keepIn K (.ref f2) = true)
    (a3 : PySem.W.nsIn K mainGlobals "require_string" = some (some (.ref f3))) (l3 : K.lookup f3 = some ⟨oc3, od3, .func (PySem.W.fnOf "require_string" "require_string" (defArgs sRequire) (defBody sRequire) (defScope sRequire) .none kV3 dc3 pm3 an3 cd3 ct3), sl3⟩) (c3 : PySem.W.codeIn K cd3 "require_string" = true) (k3 : PySem.W.keepIn K (.ref f3) = true)
    (a4 : PySem.W.nsIn K mainGlobals "are_numbers" = some (some (.ref f4))) (l4 : K.lookup f4 = some ⟨oc4, od4, .func (PySem.W.fnOf "are_numbers" "are_numbers" (defArgs sAreNumbers) (defBody sAreNumbers) (defScope sAreNumbers) .none kV4 dc4 pm4 an4 cd4 ct4), sl4⟩) (c4 : PySem.W.codeIn K cd4 "are_numbers" = true) (k4 : PySem.W.keepIn K (.ref f4) = true)
    (a5 : PySem.W.nsIn K mainGlobals "is_rising" = some (some (.ref f5))) (l5 : K.lookup f5 = some ⟨oc5, od5, .func (PySem.W.fnOf "is_rising" "is_rising" (defArgs sIsRising) (defBody sIsRising) (defScope sIsRising) .none kV5 dc5 pm5 an5 cd5 ct5), sl5⟩) (c5 : PySem.W.codeIn K cd5 "is_rising" = true) (k5 : PySem.W.keepIn K (.ref f5) = true)
    (a6 : PySem.W.nsIn K mainGlobals "numbers_text" = some (some (.ref f6))) (l6 : K.lookup f6 = some ⟨oc6, od6, .func (PySem.W.fnOf "numbers_text" "numbers_text" (defArgs sNumbersText) (defBody sNumbersText) (defScope sNumbersText) .none kV6 dc6 pm6 an6 cd6 ct6), sl6⟩) (c6 : PySem.W.codeIn K cd6 "numbers_text" = true) (k6 : PySem.W.keepIn K (.ref f6) = true)
    (a7 : PySem.W.nsIn K mainGlobals "numbers_of" = some (some (.ref f7))) (l7 : K.lookup f7 = some ⟨oc7, od7, .func (PySem.W.fnOf "numbers_of" "numbers_of" (defArgs sNumbersOf) (defBody sNumbersOf) (defScope sNumbersOf) .none kV7 dc7 pm7 an7 cd7 ct7), sl7⟩) (c7 : PySem.W.codeIn K cd7 "numbers_of" = true) (k7 : PySem.W.keepIn K (.ref f7) = true)
    (a8 : PySem.W.nsIn K mainGlobals "write_numbers" = some (some (.ref f8))) (l8 : K.lookup f8 = some ⟨oc8, od8, .func (PySem.W.fnOf "write_numbers" "write_numbers" (defArgs sWriteNumbers) (defBody sWriteNumbers) (defScope sWriteNumbers) .none kV8 dc8 pm8 an8 cd8 ct8), sl8⟩) (c8 : PySem.W.codeIn K cd8 "write_numbers" = true) (k8 : PySem.W.keepIn K (.ref f8) = true)
    (a9 : PySem.W.nsIn K mainGlobals "read_numbers" = some (some (.ref f9))) (l9 : K.lookup f9 = some ⟨oc9, od9, .func (PySem.W.fnOf "read_numbers" "read_numbers" (defArgs sReadNumbers) (defBody sReadNumbers) (defScope sReadNumbers) .none kV9 dc9 pm9 an9 cd9 ct9), sl9⟩) (c9 : PySem.W.codeIn K cd9 "read_numbers" = true) (k9 : PySem.W.keepIn K (.ref f9) = true)
    (a10 : PySem.W.nsIn K mainGlobals "is_state_row" = some (some (.ref f10))) (l10 : K.lookup f10 = some ⟨oc10, od10, .func (PySem.W.fnOf "is_state_row" "is_state_row" (defArgs sIsStateRow) (defBody sIsStateRow) (defScope sIsStateRow) .none kV10 dc10 pm10 an10 cd10 ct10), sl10⟩) (c10 : PySem.W.codeIn K cd10 "is_state_row" = true) (k10 : PySem.W.keepIn K (.ref f10) = true)
    (a11 : PySem.W.nsIn K mainGlobals "state_text" = some (some (.ref f11))) (l11 : K.lookup f11 = some ⟨oc11, od11, .func (PySem.W.fnOf "state_text" "state_text" (defArgs sStateText) (defBody sStateText) (defScope sStateText) .none kV11 dc11 pm11 an11 cd11 ct11), sl11⟩) (c11 : PySem.W.codeIn K cd11 "state_text" = true) (k11 : PySem.W.keepIn K (.ref f11) = true)
    (a12 : PySem.W.nsIn K mainGlobals "state_of" = some (some (.ref f12))) (l12 : K.lookup f12 = some ⟨oc12, od12, .func (PySem.W.fnOf "state_of" "state_of" (defArgs sStateOf) (defBody sStateOf) (defScope sStateOf) .none kV12 dc12 pm12 an12 cd12 ct12), sl12⟩) (c12 : PySem.W.codeIn K cd12 "state_of" = true) (k12 : PySem.W.keepIn K (.ref f12) = true)
    (a13 : PySem.W.nsIn K mainGlobals "write_state" = some (some (.ref f13))) (l13 : K.lookup f13 = some ⟨oc13, od13, .func (PySem.W.fnOf "write_state" "write_state" (defArgs sWriteState) (defBody sWriteState) (defScope sWriteState) .none kV13 dc13 pm13 an13 cd13 ct13), sl13⟩) (c13 : PySem.W.codeIn K cd13 "write_state" = true) (k13 : PySem.W.keepIn K (.ref f13) = true)
    (a14 : PySem.W.nsIn K mainGlobals "read_state" = some (some (.ref f14))) (l14 : K.lookup f14 = some ⟨oc14, od14, .func (PySem.W.fnOf "read_state" "read_state" (defArgs sReadState) (defBody sReadState) (defScope sReadState) .none kV14 dc14 pm14 an14 cd14 ct14), sl14⟩) (c14 : PySem.W.codeIn K cd14 "read_state" = true) (k14 : PySem.W.keepIn K (.ref f14) = true)
    (a15 : PySem.W.nsIn K mainGlobals "is_table_row" = some (some (.ref f15))) (l15 : K.lookup f15 = some ⟨oc15, od15, .func (PySem.W.fnOf "is_table_row" "is_table_row" (defArgs sIsTableRow) (defBody sIsTableRow) (defScope sIsTableRow) .none kV15 dc15 pm15 an15 cd15 ct15), sl15⟩) (c15 : PySem.W.codeIn K cd15 "is_table_row" = true) (k15 : PySem.W.keepIn K (.ref f15) = true)
    (a16 : PySem.W.nsIn K mainGlobals "write_table" = some (some (.ref f16))) (l16 : K.lookup f16 = some ⟨oc16, od16, .func (PySem.W.fnOf "write_table" "write_table" (defArgs sWriteTable) (defBody sWriteTable) (defScope sWriteTable) .none kV16 dc16 pm16 an16 cd16 ct16), sl16⟩) (c16 : PySem.W.codeIn K cd16 "write_table" = true) (k16 : PySem.W.keepIn K (.ref f16) = true)
    (a17 : PySem.W.nsIn K mainGlobals "table_row_of" = some (some (.ref f17))) (l17 : K.lookup f17 = some ⟨oc17, od17, .func (PySem.W.fnOf "table_row_of" "table_row_of" (defArgs sTableRowOf) (defBody sTableRowOf) (defScope sTableRowOf) .none kV17 dc17 pm17 an17 cd17 ct17), sl17⟩) (c17 : PySem.W.codeIn K cd17 "table_row_of" = true) (k17 : PySem.W.keepIn K (.ref f17) = true)
    (a18 : PySem.W.nsIn K mainGlobals "read_table" = some (some (.ref f18))) (l18 : K.lookup f18 = some ⟨oc18, od18, .func (PySem.W.fnOf "read_table" "read_table" (defArgs sReadTable) (defBody sReadTable) (defScope sReadTable) .none kV18 dc18 pm18 an18 cd18 ct18), sl18⟩) (c18 : PySem.W.codeIn K cd18 "read_table" = true) (k18 : PySem.W.keepIn K (.ref f18) = true)
    (a19 : PySem.W.nsIn K mainGlobals "_law_dice" = some (some (.ref f19))) (l19 : K.lookup f19 = some ⟨oc19, od19, .func (PySem.W.fnOf "_law_dice" "_law_dice" (defArgs sDice) (defBody sDice) (defScope sDice) .none kV19 dc19 pm19 an19 cd19 ct19), sl19⟩) (c19 : PySem.W.codeIn K cd19 "_law_dice" = true) (k19 : PySem.W.keepIn K (.ref f19) = true)
    (a20 : PySem.W.nsIn K mainGlobals "_law_roll" = some (some (.ref f20))) (l20 : K.lookup f20 = some ⟨oc20, od20, .func (PySem.W.fnOf "_law_roll" "_law_roll" (defArgs sRoll) (defBody sRoll) (defScope sRoll) .none kV20 dc20 pm20 an20 cd20 ct20), sl20⟩) (c20 : PySem.W.codeIn K cd20 "_law_roll" = true) (k20 : PySem.W.keepIn K (.ref f20) = true)
    (a21 : PySem.W.nsIn K mainGlobals "_law_pick" = some (some (.ref f21))) (l21 : K.lookup f21 = some ⟨oc21, od21, .func (PySem.W.fnOf "_law_pick" "_law_pick" (defArgs sPick) (defBody sPick) (defScope sPick) .none kV21 dc21 pm21 an21 cd21 ct21), sl21⟩) (c21 : PySem.W.codeIn K cd21 "_law_pick" = true) (k21 : PySem.W.keepIn K (.ref f21) = true)
    (a22 : PySem.W.nsIn K mainGlobals "_law_some" = some (some (.ref f22))) (l22 : K.lookup f22 = some ⟨oc22, od22, .func (PySem.W.fnOf "_law_some" "_law_some" (defArgs sSome) (defBody sSome) (defScope sSome) .none kV22 dc22 pm22 an22 cd22 ct22), sl22⟩) (c22 : PySem.W.codeIn K cd22 "_law_some" = true) (k22 : PySem.W.keepIn K (.ref f22) = true)
    (a23 : PySem.W.nsIn K mainGlobals "_law_rising" = some (some (.ref f23))) (l23 : K.lookup f23 = some ⟨oc23, od23, .func (PySem.W.fnOf "_law_rising" "_law_rising" (defArgs sRising) (defBody sRising) (defScope sRising) .none kV23 dc23 pm23 an23 cd23 ct23), sl23⟩) (c23 : PySem.W.codeIn K cd23 "_law_rising" = true) (k23 : PySem.W.keepIn K (.ref f23) = true)
    (a24 : PySem.W.nsIn K mainGlobals "_law_a_state" = some (some (.ref f24))) (l24 : K.lookup f24 = some ⟨oc24, od24, .func (PySem.W.fnOf "_law_a_state" "_law_a_state" (defArgs sAState) (defBody sAState) (defScope sAState) .none kV24 dc24 pm24 an24 cd24 ct24), sl24⟩) (c24 : PySem.W.codeIn K cd24 "_law_a_state" = true) (k24 : PySem.W.keepIn K (.ref f24) = true)
    (a25 : PySem.W.nsIn K mainGlobals "_law_line" = some (some (.ref f25))) (l25 : K.lookup f25 = some ⟨oc25, od25, .func (PySem.W.fnOf "_law_line" "_law_line" (defArgs sLawLine) (defBody sLawLine) (defScope sLawLine) .none kV25 dc25 pm25 an25 cd25 ct25), sl25⟩) (c25 : PySem.W.codeIn K cd25 "_law_line" = true) (k25 : PySem.W.keepIn K (.ref f25) = true)
    (a26 : PySem.W.nsIn K mainGlobals "_law_state_line" = some (some (.ref f26))) (l26 : K.lookup f26 = some ⟨oc26, od26, .func (PySem.W.fnOf "_law_state_line" "_law_state_line" (defArgs sLawStateLine) (defBody sLawStateLine) (defScope sLawStateLine) .none kV26 dc26 pm26 an26 cd26 ct26), sl26⟩) (c26 : PySem.W.codeIn K cd26 "_law_state_line" = true) (k26 : PySem.W.keepIn K (.ref f26) = true)
    (a27 : PySem.W.nsIn K mainGlobals "_law_due_numbers" = some (some (.ref f27))) (l27 : K.lookup f27 = some ⟨oc27, od27, .func (PySem.W.fnOf "_law_due_numbers" "_law_due_numbers" (defArgs sLawDueNumbers) (defBody sLawDueNumbers) (defScope sLawDueNumbers) .none kV27 dc27 pm27 an27 cd27 ct27), sl27⟩) (c27 : PySem.W.codeIn K cd27 "_law_due_numbers" = true) (k27 : PySem.W.keepIn K (.ref f27) = true)
    (a28 : PySem.W.nsIn K mainGlobals "_law_is_rising" = some (some (.ref f28))) (l28 : K.lookup f28 = some ⟨oc28, od28, .func (PySem.W.fnOf "_law_is_rising" "_law_is_rising" (defArgs sLawIsRising) (defBody sLawIsRising) (defScope sLawIsRising) .none kV28 dc28 pm28 an28 cd28 ct28), sl28⟩) (c28 : PySem.W.codeIn K cd28 "_law_is_rising" = true) (k28 : PySem.W.keepIn K (.ref f28) = true)
    (a29 : PySem.W.nsIn K mainGlobals "_law_due_state" = some (some (.ref f29))) (l29 : K.lookup f29 = some ⟨oc29, od29, .func (PySem.W.fnOf "_law_due_state" "_law_due_state" (defArgs sLawDueState) (defBody sLawDueState) (defScope sLawDueState) .none kV29 dc29 pm29 an29 cd29 ct29), sl29⟩) (c29 : PySem.W.codeIn K cd29 "_law_due_state" = true) (k29 : PySem.W.keepIn K (.ref f29) = true)
    (a30 : PySem.W.nsIn K mainGlobals "_law_due_table" = some (some (.ref f30))) (l30 : K.lookup f30 = some ⟨oc30, od30, .func (PySem.W.fnOf "_law_due_table" "_law_due_table" (defArgs sLawDueTable) (defBody sLawDueTable) (defScope sLawDueTable) .none kV30 dc30 pm30 an30 cd30 ct30), sl30⟩) (c30 : PySem.W.codeIn K cd30 "_law_due_table" = true) (k30 : PySem.W.keepIn K (.ref f30) = true)
    (a31 : PySem.W.nsIn K mainGlobals "_law_bent" = some (some (.ref f31))) (l31 : K.lookup f31 = some ⟨oc31, od31, .func (PySem.W.fnOf "_law_bent" "_law_bent" (defArgs sBent) (defBody sBent) (defScope sBent) .none kV31 dc31 pm31 an31 cd31 ct31), sl31⟩) (c31 : PySem.W.codeIn K cd31 "_law_bent" = true) (k31 : PySem.W.keepIn K (.ref f31) = true)
    (a32 : PySem.W.nsIn K mainGlobals "_law_got" = some (some (.ref f32))) (l32 : K.lookup f32 = some ⟨oc32, od32, .func (PySem.W.fnOf "_law_got" "_law_got" (defArgs sLawGot) (defBody sLawGot) (defScope sLawGot) .none kV32 dc32 pm32 an32 cd32 ct32), sl32⟩) (c32 : PySem.W.codeIn K cd32 "_law_got" = true) (k32 : PySem.W.keepIn K (.ref f32) = true)
    (a33 : PySem.W.nsIn K mainGlobals "_law_strings_right" = some (some (.ref f33))) (l33 : K.lookup f33 = some ⟨oc33, od33, .func (PySem.W.fnOf "_law_strings_right" "_law_strings_right" (defArgs sStringsRight) (defBody sStringsRight) (defScope sStringsRight) .none kV33 dc33 pm33 an33 (.ref c) ct33), sl33⟩) (c33 : PySem.W.codeIn K (.ref c) "_law_strings_right" = true) (k33 : PySem.W.keepIn K (.ref f33) = true)
    (a34 : PySem.W.nsIn K mainGlobals "_law_right" = some (some (.ref f34))) (l34 : K.lookup f34 = some ⟨oc34, od34, .func (PySem.W.fnOf "_law_right" "_law_right" (defArgs sRight) (defBody sRight) (defScope sRight) .none kV34 dc34 pm34 an34 cd34 ct34), sl34⟩) (c34 : PySem.W.codeIn K cd34 "_law_right" = true) (k34 : PySem.W.keepIn K (.ref f34) = true)
    (a35 : PySem.W.nsIn K mainGlobals "law" = some (some (.ref f35))) (l35 : K.lookup f35 = some ⟨oc35, od35, .func (PySem.W.fnOf "law" "law" (defArgs sLaw) (defBody sLaw) (defScope sLaw) .none kV35 dc35 pm35 an35 cd35 ct35), sl35⟩) (c35 : PySem.W.codeIn K cd35 "law" = true) (k35 : PySem.W.keepIn K (.ref f35) = true)
    (z_isinstance : PySem.W.nsIn K mainGlobals "isinstance" = some none)
    (z_int : PySem.W.nsIn K mainGlobals "int" = some none)
    (z_bool : PySem.W.nsIn K mainGlobals "bool" = some none)
    (z_str : PySem.W.nsIn K mainGlobals "str" = some none)
    (z_tuple : PySem.W.nsIn K mainGlobals "tuple" = some none)
    (z_dict : PySem.W.nsIn K mainGlobals "dict" = some none)
    (z_list : PySem.W.nsIn K mainGlobals "list" = some none)
    (z_set : PySem.W.nsIn K mainGlobals "set" = some none)
    (z_len : PySem.W.nsIn K mainGlobals "len" = some none)
    (z_all : PySem.W.nsIn K mainGlobals "all" = some none)
    (z_zip : PySem.W.nsIn K mainGlobals "zip" = some none)
    (z_enumerate : PySem.W.nsIn K mainGlobals "enumerate" = some none)
    (z_sorted : PySem.W.nsIn K mainGlobals "sorted" = some none)
    (z_max : PySem.W.nsIn K mainGlobals "max" = some none)
    (z_min : PySem.W.nsIn K mainGlobals "min" = some none)
    (z_abs : PySem.W.nsIn K mainGlobals "abs" = some none)
    (z_range : PySem.W.nsIn K mainGlobals "range" = some none)
    (z_repr : PySem.W.nsIn K mainGlobals "repr" = some none)
    (g1 : PySem.W.nsIn K mainGlobals "MAX_DIGITS" = some (some (.int 60 tk1)))
    (g2 : PySem.W.nsIn K mainGlobals "DIGITS" = some (some (.str "0123456789" tk2)))
    (g3 : PySem.W.nsIn K mainGlobals "NOTHING" = some (some (.str "-" tk3)))
    (g4 : PySem.W.nsIn K mainGlobals "NONE" = some (some (.str "none" tk4)))
    (g5 : PySem.W.nsIn K mainGlobals "BAR" = some (some (.str " | " tk5)))
    (g6 : PySem.W.nsIn K mainGlobals "BETWEEN" = some (some (.str "; " tk6)))
    (hcc : K.lookup c = some ⟨.type "code", dcd, .fields vsc, slc⟩) (hP : (vsc[11]? : Option Value) = some (.ref Pt)) (hmem : Pt ∈ ts) (hout : K.lookup Pt = none) (hcode : PySem.W.codeHdIn K c Pt = true)
    (eA : PySem.W.nsIn K mainGlobals "ParseError" = some (some (.ref C)))
    (eL : K.lookup C = some (excClassObj nm q C Nn bs bm true sn sub ab col dd m0 m1 m2 m3 m5 "ValueError.__new__")) (eB : PySem.HandSPX.refsVE bm = true)
    (e1 : PySem.W.findIn K (.ref C) "__setattr__" = some (some (.builtin "object.__setattr__"))) (e2 : PySem.W.findIn K (.ref C) "__getattribute__" = some (some (.builtin "BaseException.__getattribute__"))) (e3 : PySem.W.findIn K (.ref C) "__getattr__" = some none) (e4 : PySem.W.findIn K (.ref C) "line" = some none)
    (e5 : PySem.W.findIn K (.ref C) "__init__" = some (some (.ref fI))) (e6 : PySem.W.typeIn K (.ref fI) = some (.type "function"))
    (e7 : K.lookup fI = some ⟨ocI, odI, .func (PySem.W.fnOf "__init__" "ParseError.__init__" (K7E.iA ⟨16, 17, 16, 21⟩ ⟨16, 23, 16, 27⟩) (K7E.iB ⟨17, 8, 17, 12⟩ ⟨17, 8, 17, 17⟩ ⟨17, 20, 17, 24⟩ ⟨17, 8, 17, 24⟩) K7E.iS .none .none dcI pmI anI cdI ctI), slI⟩) (e8 : PySem.W.codeIn K cdI "ParseError.__init__" = true)
    (e9 : PySem.W.keepIn K (.ref C) = true) (e10 : PySem.W.subIn K (.ref C) (.type "BaseException") = some true) (e11 : PySem.W.typeIn K (.ref C) = some (.type "type")) (e12 : PySem.W.hasDictIn K C = true) (e13 : PySem.W.isClsIn K C = true) (e14 : PySem.W.subIn K (.ref C) (.ref C) = some true) :
    LawG l w K 14 "_law_script" mg fa h := by
  have eq := hfa.symm.trans (PySem.W.mg_of X G a35)
  cases eq
  have g : Gt mg := { isinstance := PySem.W.mg_none_of X G z_isinstance, int := PySem.W.mg_none_of X G z_int, bool := PySem.W.mg_none_of X G z_bool, str := PySem.W.mg_none_of X G z_str, tuple := PySem.W.mg_none_of X G z_tuple, dict := PySem.W.mg_none_of X G z_dict, list := PySem.W.mg_none_of X G z_list, set := PySem.W.mg_none_of X G z_set, len := PySem.W.mg_none_of X G z_len, all := PySem.W.mg_none_of X G z_all, zip := PySem.W.mg_none_of X G z_zip, enumerate := PySem.W.mg_none_of X G z_enumerate, sorted := PySem.W.mg_none_of X G z_sorted, max := PySem.W.mg_none_of X G z_max, min := PySem.W.mg_none_of X G z_min, abs := PySem.W.mg_none_of X G z_abs, range := PySem.W.mg_none_of X G z_range, repr := PySem.W.mg_none_of X G z_repr, LONGEST := hL, MAX_DIGITS := ⟨_, PySem.W.mg_of X G g1⟩, DIGITS := ⟨_, PySem.W.mg_of X G g2⟩, NOTHING := ⟨_, PySem.W.mg_of X G g3⟩, NONE := ⟨_, PySem.W.mg_of X G g4⟩, BAR := ⟨_, PySem.W.mg_of X G g5⟩, BETWEEN := ⟨_, PySem.W.mg_of X G g6⟩ }
  have T : K7E.ErrTxt K mg C fI := { gC := PySem.W.mg_of X G eA, cls := ⟨nm, q, Nn, bs, bm, sn, sub, ab, col, dd, m0, m1, m2, m3, m5, eL, eB⟩, sa := e1, ga := e2, gg := e3, noN := e4, iC := e5, tC := e6, kC := e9, exC := e10, tyC := e11, hdC := e12, te := own_clause e10 e13 e11 e14, fn := ⟨_, _, _, _, _, _, _, _, _, _, _, _, _, _, e7, e8⟩ }
  have F0 := fun_mk (st := sIsInt) l0 c0 k0
  have b0 := F0.binds (ps := ["value"]) fun _ _ _ _ _ _ us hl => match us, hl with | [_], _ => rfl
  have m0_ := PySem.W.mg_of X G a0
  have F1 := fun_mk (st := sIsWithin) l1 c1 k1
  have b1 := F1.binds (ps := ["value", "least", "most"]) fun _ _ _ _ _ _ us hl => match us, hl with | [_, _, _], _ => rfl
  have m1_ := PySem.W.mg_of X G a1
  have F2 := fun_mk (st := sNumberOf) l2 c2 k2
  have b2 := F2.binds (ps := ["word"]) fun _ _ _ _ _ _ us hl => match us, hl with | [_], _ => rfl
  have m2_ := PySem.W.mg_of X G a2
  have F3 := fun_mk (st := sRequire) l3 c3 k3
  have b3 := F3.binds (ps := ["text"]) fun _ _ _ _ _ _ us hl => match us, hl with | [_], _ => rfl
  have m3_ := PySem.W.mg_of X G a3
  have F4 := fun_mk (st := sAreNumbers) l4 c4 k4
  have b4 := F4.binds (ps := ["value"]) fun _ _ _ _ _ _ us hl => match us, hl with | [_], _ => rfl
  have m4_ := PySem.W.mg_of X G a4
  have F5 := fun_mk (st := sIsRising) l5 c5 k5
  have b5 := F5.binds (ps := ["value"]) fun _ _ _ _ _ _ us hl => match us, hl with | [_], _ => rfl
  have m5_ := PySem.W.mg_of X G a5
  have F6 := fun_mk (st := sNumbersText) l6 c6 k6
  have b6 := F6.binds (ps := ["numbers"]) fun _ _ _ _ _ _ us hl => match us, hl with | [_], _ => rfl
  have m6_ := PySem.W.mg_of X G a6
  have F7 := fun_mk (st := sNumbersOf) l7 c7 k7
  have b7 := F7.binds (ps := ["text"]) fun _ _ _ _ _ _ us hl => match us, hl with | [_], _ => rfl
  have m7_ := PySem.W.mg_of X G a7
  have F8 := fun_mk (st := sWriteNumbers) l8 c8 k8
  have b8 := F8.binds (ps := ["numbers"]) fun _ _ _ _ _ _ us hl => match us, hl with | [_], _ => rfl
  have m8_ := PySem.W.mg_of X G a8
  have F9 := fun_mk (st := sReadNumbers) l9 c9 k9
  have b9 := F9.binds (ps := ["text"]) fun _ _ _ _ _ _ us hl => match us, hl with | [_], _ => rfl
  have m9_ := PySem.W.mg_of X G a9
  have F10 := fun_mk (st := sIsStateRow) l10 c10 k10
  have b10 := F10.binds (ps := ["value"]) fun _ _ _ _ _ _ us hl => match us, hl with | [_], _ => rfl
  have m10_ := PySem.W.mg_of X G a10
  have F11 := fun_mk (st := sStateText) l11 c11 k11
  have b11 := F11.binds (ps := ["state"]) fun _ _ _ _ _ _ us hl => match us, hl with | [_], _ => rfl
  have m11_ := PySem.W.mg_of X G a11
  have F12 := fun_mk (st := sStateOf) l12 c12 k12
  have b12 := F12.binds (ps := ["text"]) fun _ _ _ _ _ _ us hl => match us, hl with | [_], _ => rfl
  have m12_ := PySem.W.mg_of X G a12
  have F13 := fun_mk (st := sWriteState) l13 c13 k13
  have b13 := F13.binds (ps := ["state"]) fun _ _ _ _ _ _ us hl => match us, hl with | [_], _ => rfl
  have m13_ := PySem.W.mg_of X G a13
  have F14 := fun_mk (st := sReadState) l14 c14 k14
  have b14 := F14.binds (ps := ["text"]) fun _ _ _ _ _ _ us hl => match us, hl with | [_], _ => rfl
  have m14_ := PySem.W.mg_of X G a14
  have F15 := fun_mk (st := sIsTableRow) l15 c15 k15
  have b15 := F15.binds (ps := ["value"]) fun _ _ _ _ _ _ us hl => match us, hl with | [_], _ => rfl
  have m15_ := PySem.W.mg_of X G a15
  have F16 := fun_mk (st := sWriteTable) l16 c16 k16
  have b16 := F16.binds (ps := ["table"]) fun _ _ _ _ _ _ us hl => match us, hl with | [_], _ => rfl
  have m16_ := PySem.W.mg_of X G a16
  have F17 := fun_mk (st := sTableRowOf) l17 c17 k17
  have b17 := F17.binds (ps := ["line"]) fun _ _ _ _ _ _ us hl => match us, hl with | [_], _ => rfl
  have m17_ := PySem.W.mg_of X G a17
  have F18 := fun_mk (st := sReadTable) l18 c18 k18
  have b18 := F18.binds (ps := ["text"]) fun _ _ _ _ _ _ us hl => match us, hl with | [_], _ => rfl
  have m18_ := PySem.W.mg_of X G a18
  have F19 := fun_mk (st := sDice) l19 c19 k19
  have b19 := F19.binds (ps := ["_law_script", "_law_spot"]) fun _ _ _ _ _ _ us hl => match us, hl with | [_, _], _ => rfl
  have m19_ := PySem.W.mg_of X G a19
  have F20 := fun_mk (st := sRoll) l20 c20 k20
  have b20 := F20.binds (ps := ["_law_dice_here", "_law_total"]) fun _ _ _ _ _ _ us hl => match us, hl with | [_, _], _ => rfl
  have m20_ := PySem.W.mg_of X G a20
  have F21 := fun_mk (st := sPick) l21 c21 k21
  have b21 := F21.binds (ps := ["_law_dice_here", "_law_items"]) fun _ _ _ _ _ _ us hl => match us, hl with | [_, _], _ => rfl
  have m21_ := PySem.W.mg_of X G a21
  have F22 := fun_mk (st := sSome) l22 c22 k22
  have b22 := F22.binds (ps := ["_law_dice_here", "_law_items", "_law_size"]) fun _ _ _ _ _ _ us hl => match us, hl with | [_, _, _], _ => rfl
  have m22_ := PySem.W.mg_of X G a22
  have F23 := fun_mk (st := sRising) l23 c23 k23
  have b23 := F23.binds (ps := ["_law_dice_here", "_law_most"]) fun _ _ _ _ _ _ us hl => match us, hl with | [_, _], _ => rfl
  have m23_ := PySem.W.mg_of X G a23
  have F24 := fun_mk (st := sAState) l24 c24 k24
  have b24 := F24.binds (ps := ["_law_dice_here"]) fun _ _ _ _ _ _ us hl => match us, hl with | [_], _ => rfl
  have m24_ := PySem.W.mg_of X G a24
  have F25 := fun_mk (st := sLawLine) l25 c25 k25
  have b25 := F25.binds (ps := ["_law_numbers"]) fun _ _ _ _ _ _ us hl => match us, hl with | [_], _ => rfl
  have m25_ := PySem.W.mg_of X G a25
  have F26 := fun_mk (st := sLawStateLine) l26 c26 k26
  have b26 := F26.binds (ps := ["_law_state"]) fun _ _ _ _ _ _ us hl => match us, hl with | [_], _ => rfl
  have m26_ := PySem.W.mg_of X G a26
  have F27 := fun_mk (st := sLawDueNumbers) l27 c27 k27
  have b27 := F27.binds (ps := ["_law_text"]) fun _ _ _ _ _ _ us hl => match us, hl with | [_], _ => rfl
  have m27_ := PySem.W.mg_of X G a27
  have F28 := fun_mk (st := sLawIsRising) l28 c28 k28
  have b28 := F28.binds (ps := ["_law_row"]) fun _ _ _ _ _ _ us hl => match us, hl with | [_], _ => rfl
  have m28_ := PySem.W.mg_of X G a28
  have F29 := fun_mk (st := sLawDueState) l29 c29 k29
  have b29 := F29.binds (ps := ["_law_text"]) fun _ _ _ _ _ _ us hl => match us, hl with | [_], _ => rfl
  have m29_ := PySem.W.mg_of X G a29
  have F30 := fun_mk (st := sLawDueTable) l30 c30 k30
  have b30 := F30.binds (ps := ["_law_text"]) fun _ _ _ _ _ _ us hl => match us, hl with | [_], _ => rfl
  have m30_ := PySem.W.mg_of X G a30
  have F31 := fun_mk (st := sBent) l31 c31 k31
  have b31 := F31.binds (ps := ["_law_dice_here", "_law_text"]) fun _ _ _ _ _ _ us hl => match us, hl with | [_, _], _ => rfl
  have m31_ := PySem.W.mg_of X G a31
  have F32 := fun_mk (st := sLawGot) l32 c32 k32
  have b32 := F32.binds (ps := ["_law_call"]) fun _ _ _ _ _ _ us hl => match us, hl with | [_], _ => rfl
  have m32_ := PySem.W.mg_of X G a32
  have F33 := fun_mk (st := sStringsRight) l33 c33 k33
  have b33 := F33.binds (ps := ["_law_one", "_law_two", "_law_six"]) fun _ _ _ _ _ _ us hl => match us, hl with | [_, _, _], _ => rfl
  have m33_ := PySem.W.mg_of X G a33
  have F34 := fun_mk (st := sRight) l34 c34 k34
  have b34 := F34.binds (ps := ["_law_dice_here"]) fun _ _ _ _ _ _ us hl => match us, hl with | [_], _ => rfl
  have m34_ := PySem.W.mg_of X G a34
  have F35 := fun_mk (st := sLaw) l35 c35 k35
  refine ⟨PySem.W.fnOf "law" "law" (defArgs sLaw) (defBody sLaw) (defScope sLaw) .none kV35 dc35 pm35 an35 cd35 ct35, c, Pt, spLaw K [(Pt, qSR)], hts Pt hmem, hout, PySem.W.codeHd_of_K X hcode, fun s v => .of_eq rfl, fun H a ns hH hS => ⟨a, ns, rfl, hS, fun p hp => by rw [List.mem_singleton.mp hp]; exact TabS.nil hH, fun _ _ _ => rfl⟩, fun base sm TB => ?_⟩
  have i1 : Fk l.prog w K mg base CX0 1 "is_integer" (spD K domIsInt) := ⟨_, _, _, ok_isInt F0 g, m0_, F0.kp, b0⟩
  have i2 : Fk l.prog w K mg base CX0 2 "is_within" (spD K domIsWithin) := ⟨_, _, _, ok_isWithin F1 i1, m1_, F1.kp, b1⟩
  have nu : Fk l.prog w K mg base CX0 1 "number_of" (spD K domNumberOf) := ⟨_, _, _, ok_numberOf F2 g, m2_, F2.kp, b2⟩
  have rq : Fk l.prog w K mg base CX0 1 "require_string" (spD K domRequire) := ⟨_, _, _, ok_require F3 g, m3_, F3.kp, b3⟩
  have an : Fk l.prog w K mg base CX0 3 "are_numbers" (spD K domAreNumbers) := ⟨_, _, _, ok_areNumbers F4 g i2, m4_, F4.kp, b4⟩
  have ri : Fk l.prog w K mg base CX0 4 "is_rising" (spD K domIsRising) := ⟨_, _, _, ok_isRising F5 g an, m5_, F5.kp, b5⟩
  have nt : Fk l.prog w K mg base CX0 1 "numbers_text" (spD K domNumbersText) := ⟨_, _, _, ok_numbersText F6 g, m6_, F6.kp, b6⟩
  have no : Fk l.prog w K mg base CX0 2 "numbers_of" (spD K domNumbersOf) := ⟨_, _, _, ok_numbersOf F7 g nu, m7_, F7.kp, b7⟩
  have wn : Fk l.prog w K mg base CX0 4 "write_numbers" (spD K domWriteNumbers) := ⟨_, _, _, ok_writeNumbers F8 an nt, m8_, F8.kp, b8⟩
  have sr : Fk l.prog w K mg base CX0 5 "is_state_row" (spD K domIsStateRow) := ⟨_, _, _, ok_isStateRow F10 g ri, m10_, F10.kp, b10⟩
  have st : Fk l.prog w K mg base CX0 2 "state_text" (spD K domStateText) := ⟨_, _, _, ok_stateText F11 g nt, m11_, F11.kp, b11⟩
  have so : Fk l.prog w K mg base CX0 6 "state_of" (spD K domStateOf) := ⟨_, _, _, ok_stateOf F12 g no sr, m12_, F12.kp, b12⟩
  have ws : Fk l.prog w K mg base CX0 6 "write_state" (spD K domWriteState) := ⟨_, _, _, ok_writeState F13 sr st, m13_, F13.kp, b13⟩
  have tr : Fk l.prog w K mg base CX0 6 "is_table_row" (spD K domIsTableRow) := ⟨_, _, _, ok_isTableRow F15 g an sr, m15_, F15.kp, b15⟩
  have wt : Fk l.prog w K mg base CX0 7 "write_table" (spD K domWriteTable) := ⟨_, _, _, ok_writeTable F16 g tr st, m16_, F16.kp, b16⟩
  have ro : Fk l.prog w K mg base CX0 7 "table_row_of" (spD K domTableRowOf) := ⟨_, _, _, ok_tableRowOf F17 g no so, m17_, F17.kp, b17⟩
  have r1 : Rk l.prog w K mg base C 9 "read_numbers" resN _ _ := ⟨(ok_readNumbers F9 g T rq no).mono (by decide), m9_, F9.kp, b9⟩
  have r2 : Rk l.prog w K mg base C 9 "read_state" resS _ _ := ⟨(ok_readState F14 g T rq so).mono (by decide), m14_, F14.kp, b14⟩
  have r3 : Rk l.prog w K mg base C 9 "read_table" resT _ _ := ⟨(ok_readTable F18 g T rq ro).mono (by decide), m18_, F18.kp, b18⟩
  have d0 : Fk l.prog w K mg base CX0 1 "_law_dice" (spDice K) := ⟨_, _, _, ok_dice F19 g, m19_, F19.kp, b19⟩
  have d1 : Fk l.prog w K mg base CX0 1 "_law_roll" spRoll := ⟨_, _, _, ok_roll F20 g, m20_, F20.kp, b20⟩
  have d2 : Fk l.prog w K mg base CX0 2 "_law_pick" (spPick K) := ⟨_, _, _, ok_pick F21 g d1, m21_, F21.kp, b21⟩
  have d3 : Fk l.prog w K mg base CX0 2 "_law_some" (spSome K) := ⟨_, _, _, ok_some F22 g d1, m22_, F22.kp, b22⟩
  have d4 : Fk l.prog w K mg base CX0 3 "_law_rising" (spRising K) := ⟨_, _, _, ok_rising F23 g d1 d3, m23_, F23.kp, b23⟩
  have d5 : Fk l.prog w K mg base CX0 4 "_law_a_state" (spAState K) := ⟨_, _, _, ok_aState F24 g d1 d4, m24_, F24.kp, b24⟩
  have t1 : Fk l.prog w K mg base CX0 1 "_law_line" (spD K domNumbersText) := ⟨_, _, _, ok_lawLine F25 g, m25_, F25.kp, b25⟩
  have t2 : Fk l.prog w K mg base CX0 2 "_law_state_line" (spD K domStateText) := ⟨_, _, _, ok_lawStateLine F26 g t1, m26_, F26.kp, b26⟩
  have u1 : Fk l.prog w K mg base CX0 1 "_law_due_numbers" (spD K domNumbersOf) := ⟨_, _, _, ok_lawDueNumbers F27 g, m27_, F27.kp, b27⟩
  have u0 : Fk l.prog w K mg base CX0 1 "_law_is_rising" (spD K domIsRising) := ⟨_, _, _, ok_lawIsRising F28 g, m28_, F28.kp, b28⟩
  have u2 : Fk l.prog w K mg base CX0 2 "_law_due_state" (spD K domStateOf) := ⟨_, _, _, ok_lawDueState F29 g u1 u0, m29_, F29.kp, b29⟩
  have u3 : Fk l.prog w K mg base CX0 3 "_law_due_table" (spD K domLawDueTable) := ⟨_, _, _, ok_lawDueTable F30 g u1 u2, m30_, F30.kp, b30⟩
  have bt : Fk l.prog w K mg base CX0 3 "_law_bent" (spBent K) := ⟨_, _, _, ok_bent F31 g d1 d2, m31_, F31.kp, b31⟩
  have s1 : Gk l.prog w K mg base 12 "_law_strings_right" srPs (spSR K [(Pt, qSR)]) _ _ := ⟨ok_stringsRight F33 rfl g T sm TB r1 r2 r3 F32 m32_ F32.kp b32 u1 u2 u3, m33_, F33.kp, b33⟩
  have s2 : Gk l.prog w K mg base 13 "_law_right" ["_law_dice_here"] (spRight [(Pt, qSR)]) _ _ := ⟨ok_right F34 g sm s1 r1 r2 r3 wn ws wt t1 t2 d1 d2 d3 d5 bt, m34_, F34.kp, b34⟩
  exact ok_law F35 g s2 d0
end K7


set_option Elab.async false
set_option linter.all false
set_option maxRecDepth 100000
namespace K7
open PySem PySem.Spec PyProof.Rows L2
theorem longest {mg : Str → Option Value} {h : Heap} (x : PySem.W.LooseAre [(("LONGEST" : Str), PySem.W.WData.int 1000000000000000000000000000000000000000000000000000000000000)] mg h) : ∃ t, mg "LONGEST" = some (.int (10 ^ 60) t) := by
  obtain ⟨v, e1, e2⟩ := x.val _ (List.mem_singleton.mpr rfl)
  have e : (1000000000000000000000000000000000000000000000000000000000000 : Int) = 10 ^ 60 := by decide +kernel
  cases e2 with
  | int i t => exact ⟨t, by rw [e1, e]⟩
end K7
open PySem PySem.W PyProof.Rows
set_option maxRecDepth 100000 in
set_option maxHeartbeats 0 in
theorem PySem.Challenge.cw_firstneed_k70_whole_numbers_states_and_t_holds : PySem.Challenge.rw_firstneed_k70_whole_numbers_states_and_t.Holds := by
  w_on; o_law; k_head; (case hw => w_witness2)
  k_fill
  refine K7.walk_ofG (l := PySem.Challenge.rw_firstneed_k70_whole_numbers_states_and_t) (n := 63) (k := 14) (x := "_law_script") rfl (by decide) rfl ⟨rfl, by decide, by decide⟩ (by decide +kernel) (fun w h Y => PySem.W.km_in_of Y) ?F
  case F =>
    intro w mg fa h Y XL KX G hmg
    have hL : ∃ t, mg "LONGEST" = some (.int (10 ^ 60) t) := K7.longest XL.2
    refine' K7.all_mk KX G hmg (PySem.W.km_tabs_of Y) hL ?a0 ?l0 ?c0 ?k0 ?a1 ?l1 ?c1 ?k1 ?a2 ?l2 ?c2 ?k2 ?a3 ?l3 ?c3 ?k3 ?a4 ?l4 ?c4 ?k4 ?a5 ?l5 ?c5 ?k5 ?a6 ?l6 ?c6 ?k6 ?a7 ?l7 ?c7 ?k7 ?a8 ?l8 ?c8 ?k8 ?a9 ?l9 ?c9 ?k9 ?a10 ?l10 ?c10 ?k10 ?a11 ?l11 ?c11 ?k11 ?a12 ?l12 ?c12 ?k12 ?a13 ?l13 ?c13 ?k13 ?a14 ?l14 ?c14 ?k14 ?a15 ?l15 ?c15 ?k15 ?a16 ?l16 ?c16 ?k16 ?a17 ?l17 ?c17 ?k17 ?a18 ?l18 ?c18 ?k18 ?a19 ?l19 ?c19 ?k19 ?a20 ?l20 ?c20 ?k20 ?a21 ?l21 ?c21 ?k21 ?a22 ?l22 ?c22 ?k22 ?a23 ?l23 ?c23 ?k23 ?a24 ?l24 ?c24 ?k24 ?a25 ?l25 ?c25 ?k25 ?a26 ?l26 ?c26 ?k26 ?a27 ?l27 ?c27 ?k27 ?a28 ?l28 ?c28 ?k28 ?a29 ?l29 ?c29 ?k29 ?a30 ?l30 ?c30 ?k30 ?a31 ?l31 ?c31 ?k31 ?a32 ?l32 ?c32 ?k32 ?a33 ?l33 ?c33 ?k33 ?a34 ?l34 ?c34 ?k34 ?a35 ?l35 ?c35 ?k35 ?z_isinstance ?z_int ?z_bool ?z_str ?z_tuple ?z_dict ?z_list ?z_set ?z_len ?z_all ?z_zip ?z_enumerate ?z_sorted ?z_max ?z_min ?z_abs ?z_range ?z_repr ?g1 ?g2 ?g3 ?g4 ?g5 ?g6 ?hcc ?hP ?hmem ?hout ?hcode ?eA ?eL ?eB ?e1 ?e2 ?e3 ?e4 ?e5 ?e6 ?e7 ?e8 ?e9 ?e10 ?e11 ?e12 ?e13 ?e14
    (case a0 => k_is)
    (case l0 => k_is)
    (case c0 => k_is)
    (case k0 => k_is)
    (case a1 => k_is)
    (case l1 => k_is)
    (case c1 => k_is)
    (case k1 => k_is)
    (case a2 => k_is)
    (case l2 => k_is)
    (case c2 => k_is)
    (case k2 => k_is)
    (case a3 => k_is)
    (case l3 => k_is)
    (case c3 => k_is)
    (case k3 => k_is)
    (case a4 => k_is)
    (case l4 => k_is)
    (case c4 => k_is)
    (case k4 => k_is)
    (case a5 => k_is)
    (case l5 => k_is)
    (case c5 => k_is)
    (case k5 => k_is)
    (case a6 => k_is)
    (case l6 => k_is)
    (case c6 => k_is)
    (case k6 => k_is)
    (case a7 => k_is)
    (case l7 => k_is)
    (case c7 => k_is)
    (case k7 => k_is)
    (case a8 => k_is)
    (case l8 => k_is)
    (case c8 => k_is)
    (case k8 => k_is)
    (case a9 => k_is)
    (case l9 => k_is)
    (case c9 => k_is)
    (case k9 => k_is)
    (case a10 => k_is)
    (case l10 => k_is)
    (case c10 => k_is)
    (case k10 => k_is)
    (case a11 => k_is)
    (case l11 => k_is)
    (case c11 => k_is)
    (case k11 => k_is)
    (case a12 => k_is)
    (case l12 => k_is)
    (case c12 => k_is)
    (case k12 => k_is)
    (case a13 => k_is)
    (case l13 => k_is)
    (case c13 => k_is)
    (case k13 => k_is)
    (case a14 => k_is)
    (case l14 => k_is)
    (case c14 => k_is)
    (case k14 => k_is)
    (case a15 => k_is)
    (case l15 => k_is)
    (case c15 => k_is)
    (case k15 => k_is)
    (case a16 => k_is)
    (case l16 => k_is)
    (case c16 => k_is)
    (case k16 => k_is)
    (case a17 => k_is)
    (case l17 => k_is)
    (case c17 => k_is)
    (case k17 => k_is)
    (case a18 => k_is)
    (case l18 => k_is)
    (case c18 => k_is)
    (case k18 => k_is)
    (case a19 => k_is)
    (case l19 => k_is)
    (case c19 => k_is)
    (case k19 => k_is)
    (case a20 => k_is)
    (case l20 => k_is)
    (case c20 => k_is)
    (case k20 => k_is)
    (case a21 => k_is)
    (case l21 => k_is)
    (case c21 => k_is)
    (case k21 => k_is)
    (case a22 => k_is)
    (case l22 => k_is)
    (case c22 => k_is)
    (case k22 => k_is)
    (case a23 => k_is)
    (case l23 => k_is)
    (case c23 => k_is)
    (case k23 => k_is)
    (case a24 => k_is)
    (case l24 => k_is)
    (case c24 => k_is)
    (case k24 => k_is)
    (case a25 => k_is)
    (case l25 => k_is)
    (case c25 => k_is)
    (case k25 => k_is)
    (case a26 => k_is)
    (case l26 => k_is)
    (case c26 => k_is)
    (case k26 => k_is)
    (case a27 => k_is)
    (case l27 => k_is)
    (case c27 => k_is)
    (case k27 => k_is)
    (case a28 => k_is)
    (case l28 => k_is)
    (case c28 => k_is)
    (case k28 => k_is)
    (case a29 => k_is)
    (case l29 => k_is)
    (case c29 => k_is)
    (case k29 => k_is)
    (case a30 => k_is)
    (case l30 => k_is)
    (case c30 => k_is)
    (case k30 => k_is)
    (case a31 => k_is)
    (case l31 => k_is)
    (case c31 => k_is)
    (case k31 => k_is)
    (case a32 => k_is)
    (case l32 => k_is)
    (case c32 => k_is)
    (case k32 => k_is)
    (case a33 => k_is)
    (case l33 => k_is)
    (case c33 => k_is)
    (case k33 => k_is)
    (case a34 => k_is)
    (case l34 => k_is)
    (case c34 => k_is)
    (case k34 => k_is)
    (case a35 => k_is)
    (case l35 => k_is)
    (case c35 => k_is)
    (case k35 => k_is)
    (case z_isinstance => k_is)
    (case z_int => k_is)
    (case z_bool => k_is)
    (case z_str => k_is)
    (case z_tuple => k_is)
    (case z_dict => k_is)
    (case z_list => k_is)
    (case z_set => k_is)
    (case z_len => k_is)
    (case z_all => k_is)
    (case z_zip => k_is)
    (case z_enumerate => k_is)
    (case z_sorted => k_is)
    (case z_max => k_is)
    (case z_min => k_is)
    (case z_abs => k_is)
    (case z_range => k_is)
    (case z_repr => k_is)
    (case g1 => k_is)
    (case g2 => k_is)
    (case g3 => k_is)
    (case g4 => k_is)
    (case g5 => k_is)
    (case g6 => k_is)
    (case hcc => k_is)
    (case hP => first | rfl | decide)
    (case hmem => first | exact List.mem_singleton.mpr rfl | decide)
    (case hout => first | kernel_rfl | rfl)
    (case hcode => first | kernel_rfl | rfl)
    (case eA => k_is)
    (case eL => k_is)
    (case eB => rfl)
    (case e1 => k_is)
    (case e2 => k_is)
    (case e3 => k_is)
    (case e4 => k_is)
    (case e5 => k_is)
    (case e6 => k_is)
    (case e7 => k_is)
    (case e8 => k_is)
    (case e9 => k_is)
    (case e10 => k_is)
    (case e11 => k_is)
    (case e12 => k_is)
    (case e13 => k_is)
    (case e14 => first | rfl | k_is)
