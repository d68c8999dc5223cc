import PyProof.Rows.All
import Wide.All
import OpenK.AllK
import Wide.FinOn
import HandS.ForMost
import HandS.IsInst
import HandS.Style
import HandS.Flow
import HandS.TupAny
import PySem.Challenge.RW_proofabode_k49_words_of_two_terms
set_option Elab.async false
set_option linter.all false
set_option maxRecDepth 100000
/-! MiniA: values as data, the store of changing objects, readings by plain functions. -/
namespace Mini
open PySem L2

/-- a datum: what does not change is told whole, what changes by its place in the store -/
inductive D where
  | non | bl (b : Bool) | int (i : Int) | str (x : Str) | tup (ds : List D) | loc (n : Nat)
  deriving Inhabited

/-- an object of the store -/
inductive O where
  | lst (ds : List D)
  | frz (ds : List D)
  deriving Inhabited

abbrev Sto := List O
abbrev EnvD := List (Option D)

/-! ### data and values -/
mutual
inductive Rep (K : PySem.W.Frag) (ρ : List Addr) (H : Hp) : D → V → Prop
  | non : Rep K ρ H .non .non
  | bl (b : Bool) : Rep K ρ H (.bl b) (.bl b)
  | int (i : Int) : Rep K ρ H (.int i) (.int i)
  | str (x : Str) : Rep K ρ H (.str x) (.str x)
  | tup {ds : List D} {a : Addr} {vs : List V} : SqT K H a vs → Reps K ρ H ds vs → Rep K ρ H (.tup ds) (.ref a)
  | loc {n : Nat} {a : Addr} : ρ[n]? = some a → Rep K ρ H (.loc n) (.ref a)
inductive Reps (K : PySem.W.Frag) (ρ : List Addr) (H : Hp) : List D → List V → Prop
  | nil : Reps K ρ H [] []
  | cons {d : D} {v : V} {ds : List D} {vs : List V} : Rep K ρ H d v → Reps K ρ H ds vs → Reps K ρ H (d :: ds) (v :: vs)
end

/-- what an object that changes is in the abstract heap -/
def RepH (K : PySem.W.Frag) (ρ : List Addr) (H : Hp) : O → HO → Prop
  | .lst ds, .lst vs => Reps K ρ H ds vs
  | _, _ => False
def RepO (K : PySem.W.Frag) (ρ : List Addr) (H : Hp) (a : Addr) (o : O) : Prop := match o with
  | .frz ds => ∃ vs, ((∃ u, H a = some (.frz u (.lst vs))) ∨ SqL K (fun _ => none) a vs) ∧ Reps K ρ H ds vs
  | o => ∃ h, H a = some h ∧ RepH K ρ H o h
def O.mut : O → Bool
  | .frz _ => false
  | _ => true

/-- the store stands in the heap at the addresses ρ -/
structure G (K : PySem.W.Frag) (ρ : List Addr) (H : Hp) (S : Sto) : Prop where
  len : ρ.length = S.length
  nd : ∀ (i j : Nat) (a : Addr) (o q : O), ρ[i]? = some a → ρ[j]? = some a → S[i]? = some o → S[j]? = some q → o.mut = true → q.mut = true → i = j
  ob : ∀ (i : Nat) (a : Addr) (o : O), ρ[i]? = some a → S[i]? = some o → RepO K ρ H a o

/-- later: more places, the tuples stay -/
structure Ext (K : PySem.W.Frag) (ρ : List Addr) (H : Hp) (ρ' : List Addr) (H' : Hp) : Prop where
  pre : ρ <+: ρ'
  tup : ∀ a xs, SqT K H a xs → SqT K H' a xs

theorem Ext.refl {K : PySem.W.Frag} {ρ : List Addr} {H : Hp} : Ext K ρ H ρ H := ⟨List.prefix_refl _, fun _ _ h => h⟩
theorem Ext.trans {K : PySem.W.Frag} {ρ ρ1 ρ2 : List Addr} {H H1 H2 : Hp} (a : Ext K ρ H ρ1 H1) (b : Ext K ρ1 H1 ρ2 H2) : Ext K ρ H ρ2 H2 :=
  ⟨a.pre.trans b.pre, fun c xs h => b.tup c xs (a.tup c xs h)⟩
theorem pre_get {α : Type} {l m : List α} (h : l <+: m) {i : Nat} {a : α} (e : l[i]? = some a) : m[i]? = some a := by
  obtain ⟨t, rfl⟩ := h
  have hi : i < l.length := (List.getElem?_eq_some_iff.mp e).1
  rw [List.getElem?_append_left hi, e]

mutual
theorem Rep.mono {K : PySem.W.Frag} {ρ ρ' : List Addr} {H H' : Hp} (x : Ext K ρ H ρ' H') : ∀ {d : D} {v : V}, Rep K ρ H d v → Rep K ρ' H' d v
  | _, _, .non => .non
  | _, _, .bl b => .bl b
  | _, _, .int i => .int i
  | _, _, .str z => .str z
  | _, _, .tup h r => .tup (x.tup _ _ h) (Reps.mono x r)
  | _, _, .loc h => .loc (pre_get x.pre h)
theorem Reps.mono {K : PySem.W.Frag} {ρ ρ' : List Addr} {H H' : Hp} (x : Ext K ρ H ρ' H') : ∀ {ds : List D} {vs : List V}, Reps K ρ H ds vs → Reps K ρ' H' ds vs
  | _, _, .nil => .nil
  | _, _, .cons h r => .cons (Rep.mono x h) (Reps.mono x r)
end
theorem Reps.length {K : PySem.W.Frag} {ρ : List Addr} {H : Hp} : ∀ {ds : List D} {vs : List V}, Reps K ρ H ds vs → ds.length = vs.length
  | _, _, .nil => rfl
  | _, _, .cons _ r => congrArg (· + 1) (Reps.length r)
theorem Reps.get {K : PySem.W.Frag} {ρ : List Addr} {H : Hp} : ∀ {ds : List D} {vs : List V} {i : Nat} {d : D}, Reps K ρ H ds vs → ds[i]? = some d → ∃ v, vs[i]? = some v ∧ Rep K ρ H d v
  | _, _, _, _, .nil, e => by simp at e
  | _, _, 0, _, .cons h _, e => by simp at e; subst e; exact ⟨_, rfl, h⟩
  | _, _, i + 1, d, .cons _ r, e => by
    obtain ⟨v, h1, h2⟩ := Reps.get (i := i) (d := d) r (by simpa using e)
    exact ⟨v, by simpa using h1, h2⟩
theorem Reps.getV {K : PySem.W.Frag} {ρ : List Addr} {H : Hp} : ∀ {ds : List D} {vs : List V} {i : Nat} {v : V}, Reps K ρ H ds vs → vs[i]? = some v → ∃ d, ds[i]? = some d ∧ Rep K ρ H d v
  | _, _, _, _, .nil, e => by simp at e
  | _, _, 0, _, .cons h _, e => by simp at e; subst e; exact ⟨_, rfl, h⟩
  | _, _, i + 1, v, .cons _ r, e => by
    obtain ⟨d, h1, h2⟩ := Reps.getV (i := i) (v := v) r (by simpa using e)
    exact ⟨d, by simpa using h1, h2⟩
theorem Reps.append {K : PySem.W.Frag} {ρ : List Addr} {H : Hp} : ∀ {ds es : List D} {vs ws : List V}, Reps K ρ H ds vs → Reps K ρ H es ws → Reps K ρ H (ds ++ es) (vs ++ ws)
  | _, _, _, _, .nil, s => s
  | _, _, _, _, .cons h r, s => .cons h (Reps.append r s)
theorem Reps.take {K : PySem.W.Frag} {ρ : List Addr} {H : Hp} : ∀ {ds : List D} {vs : List V} (n : Nat), Reps K ρ H ds vs → Reps K ρ H (ds.take n) (vs.take n)
  | _, _, 0, _ => .nil
  | _, _, _ + 1, .nil => .nil
  | _, _, n + 1, .cons h r => .cons h (Reps.take n r)
theorem Reps.drop {K : PySem.W.Frag} {ρ : List Addr} {H : Hp} : ∀ {ds : List D} {vs : List V} (n : Nat), Reps K ρ H ds vs → Reps K ρ H (ds.drop n) (vs.drop n)
  | _, _, 0, r => r
  | _, _, _ + 1, .nil => .nil
  | _, _, n + 1, .cons _ r => Reps.drop n r
theorem Reps.set {K : PySem.W.Frag} {ρ : List Addr} {H : Hp} {d : D} {v : V} (x : Rep K ρ H d v) : ∀ {ds : List D} {vs : List V} (n : Nat), Reps K ρ H ds vs → Reps K ρ H (ds.set n d) (vs.set n v)
  | _, _, _, .nil => .nil
  | _, _, 0, .cons _ r => .cons x r
  | _, _, n + 1, .cons h r => .cons h (Reps.set x n r)

/-! ### one change of the heap -/
section
variable {K : PySem.W.Frag} {ρ ρ' : List Addr} {H H' : Hp} {S : Sto} {p a : Addr} {o : HO} {q : O} {ds : List D} {vs : List V}
theorem sqT_new (hp : H p = none) : ∀ a xs, SqT K H a xs → SqT K (upd H p o) a xs := fun a xs h => by
  rcases h with (h | ⟨u, h⟩) | h
  · exact .inl (.inl (by rw [upd_ne (ne_of_none h hp)]; exact h))
  · exact .inl (.inr ⟨u, by rw [upd_ne (ne_of_none h hp)]; exact h⟩)
  · exact .inr h
/-- what a store's object is: neither a tuple nor locked -/
def Chg : HO → Prop
  | .tup _ => False
  | .frz _ _ => False
  | _ => True
theorem sqT_chg {u : HO} (hp : H p = some u) (c : Chg u) : ∀ a ys, SqT K H a ys → SqT K (upd H p o) a ys := fun a ys h => by
  have ne : ∀ w, H a = some w → ¬ Chg w → a ≠ p := fun w e n z => by
    rw [z, hp] at e; cases e; exact n c
  rcases h with (h | ⟨u, h⟩) | h
  · exact .inl (.inl (by rw [upd_ne (ne _ h fun z => z)]; exact h))
  · exact .inl (.inr ⟨u, by rw [upd_ne (ne _ h fun z => z)]; exact h⟩)
  · exact .inr h
theorem RepH.chg {q : O} {h : HO} (r : RepH K ρ H q h) : Chg h := by
  cases q <;> cases h <;> first | exact r.elim | trivial
theorem RepH.mono {q : O} {h : HO} (x : Ext K ρ H ρ' H') (r : RepH K ρ H q h) : RepH K ρ' H' q h := by
  cases q <;> cases h <;> first | exact r.elim | exact Reps.mono x r
theorem RepO.frz_iff : RepO K ρ H a (.frz ds) ↔ ∃ vs, ((∃ u, H a = some (.frz u (.lst vs))) ∨ SqL K (fun _ => none) a vs) ∧ Reps K ρ H ds vs := Iff.rfl
theorem RepO.mut_iff (m : q.mut = true) : RepO K ρ H a q ↔ ∃ h, H a = some h ∧ RepH K ρ H q h := by
  cases q with
  | frz ds => cases m
  | lst ds => exact Iff.rfl
theorem RepO.mono {q : O} (x : Ext K ρ H ρ' H') (e : ∀ u, H a = some u → H' a = some u) (h : RepO K ρ H a q) : RepO K ρ' H' a q := by
  cases hm : q.mut with
  | true =>
    obtain ⟨u, h1, h2⟩ := (RepO.mut_iff hm).mp h
    exact (RepO.mut_iff hm).mpr ⟨u, e u h1, h2.mono x⟩
  | false =>
    cases q with
    | lst ds => cases hm
    | frz ds =>
      obtain ⟨vs, h1, h2⟩ := h
      refine ⟨vs, ?_, h2.mono x⟩
      rcases h1 with ⟨u, h1⟩ | h1
      · exact .inl ⟨u, e _ h1⟩
      · exact .inr h1
theorem upd_new (hp : H p = none) : ∀ a u, H a = some u → upd H p o a = some u := fun a u h => by rw [upd_ne (ne_of_none h hp)]; exact h
theorem ext_new (hp : H p = none) : Ext K ρ H ρ (upd H p o) := ⟨List.prefix_refl _, sqT_new hp⟩
/-- the heap grows, the store is as it was -/
theorem G.grow (g : G K ρ H S) (x : Ext K ρ H ρ H') (e : ∀ a u, H a = some u → H' a = some u) : G K ρ H' S :=
  ⟨g.len, g.nd, fun i a o h1 h2 => (g.ob i a o h1 h2).mono x (e a)⟩
/-- a new object -/
theorem G.new (g : G K ρ H S) (hp : H p = none) (m : q.mut = true) (r : RepH K ρ H q o) : G K (ρ ++ [p]) (upd H p o) (S ++ [q]) ∧ Ext K ρ H (ρ ++ [p]) (upd H p o) := by
  have x : Ext K ρ H (ρ ++ [p]) (upd H p o) := ⟨List.prefix_append _ _, sqT_new hp⟩
  have old : ∀ (i : Nat) (a : Addr) (w : O), i < S.length → (ρ ++ [p])[i]? = some a → (S ++ [q])[i]? = some w → ρ[i]? = some a ∧ S[i]? = some w := fun i a w hi h1 h2 => by
    rw [List.getElem?_append_left (by rw [g.len]; exact hi)] at h1
    rw [List.getElem?_append_left hi] at h2
    exact ⟨h1, h2⟩
  have new : ∀ (i : Nat) (a : Addr) (w : O), ¬ i < S.length → (ρ ++ [p])[i]? = some a → (S ++ [q])[i]? = some w → i = S.length ∧ a = p ∧ w = q := fun i a w hi h1 h2 => by
    have hlt := (List.getElem?_eq_some_iff.mp h2).1
    have e : i = S.length := by rw [List.length_append, List.length_singleton] at hlt; omega
    subst e
    refine ⟨rfl, ?_, ?_⟩
    · rw [← g.len] at h1; simpa using h1.symm
    · simpa using h2.symm
  have apart : ∀ (i : Nat) (w : O), ρ[i]? = some p → S[i]? = some w → w.mut = true → False := fun i w h1 h2 m => by
    obtain ⟨u, e, _⟩ := (RepO.mut_iff m).mp (g.ob i p w h1 h2)
    rw [hp] at e; cases e
  refine ⟨⟨by simp [g.len], fun i j a w z h1 h2 h3 h4 m1 m2 => ?_, fun i a w h1 h2 => ?_⟩, x⟩
  · by_cases hi : i < S.length
    · obtain ⟨a1, a2⟩ := old i a w hi h1 h3
      by_cases hj : j < S.length
      · obtain ⟨b1, b2⟩ := old j a z hj h2 h4
        exact g.nd i j a w z a1 b1 a2 b2 m1 m2
      · obtain ⟨_, rfl, _⟩ := new j a z hj h2 h4
        exact (apart i w a1 a2 m1).elim
    · obtain ⟨e1, rfl, _⟩ := new i a w hi h1 h3
      by_cases hj : j < S.length
      · obtain ⟨b1, b2⟩ := old j a z hj h2 h4
        exact (apart j z b1 b2 m2).elim
      · obtain ⟨e2, _⟩ := new j a z hj h2 h4
        omega
  · by_cases hi : i < S.length
    · obtain ⟨a1, a2⟩ := old i a w hi h1 h2
      exact (g.ob i a w a1 a2).mono x (upd_new hp a)
    · obtain ⟨rfl, rfl, rfl⟩ := new i a w hi h1 h2
      exact (RepO.mut_iff m).mpr ⟨o, upd_same, r.mono x⟩
/-- an object changes -/
theorem G.set (g : G K ρ H S) {n : Nat} {q' : O} (hn : ρ[n]? = some p) (hs : S[n]? = some q') (m' : q'.mut = true) (m : q.mut = true) (r : RepH K ρ H q o) : G K ρ (upd H p o) (S.set n q) ∧ Ext K ρ H ρ (upd H p o) := by
  obtain ⟨u, hu, ru⟩ := (RepO.mut_iff m').mp (g.ob n p q' hn hs)
  have x : Ext K ρ H ρ (upd H p o) := ⟨List.prefix_refl _, sqT_chg hu ru.chg⟩
  have hlt : n < S.length := (List.getElem?_eq_some_iff.mp hs).1
  have look : ∀ (i : Nat) (w : O), (S.set n q)[i]? = some w → (i = n ∧ w = q) ∨ (i ≠ n ∧ S[i]? = some w) := fun i w h => by
    by_cases e : i = n
    · subst e
      rw [List.getElem?_set_self hlt] at h
      cases h
      exact .inl ⟨rfl, rfl⟩
    · rw [List.getElem?_set_ne (Ne.symm e)] at h
      exact .inr ⟨e, h⟩
  refine ⟨⟨by rw [List.length_set]; exact g.len, fun i j a w z h1 h2 h3 h4 m1 m2 => ?_, fun i a w h1 h2 => ?_⟩, x⟩
  · rcases look i w h3 with ⟨e1, w1⟩ | ⟨_, k3⟩
    · rcases look j z h4 with ⟨e2, _⟩ | ⟨_, k4⟩
      · exact e1.trans e2.symm
      · rw [e1] at h1 ⊢
        exact g.nd n j a q' z h1 h2 hs k4 m' m2
    · rcases look j z h4 with ⟨e2, _⟩ | ⟨_, k4⟩
      · rw [e2] at h2 ⊢
        exact g.nd i n a w q' h1 h2 k3 hs m1 m'
      · exact g.nd i j a w z h1 h2 k3 k4 m1 m2
  · rcases look i w h2 with ⟨rfl, rfl⟩ | ⟨ne, h2⟩
    · rw [hn] at h1; cases h1
      exact (RepO.mut_iff m).mpr ⟨o, upd_same, r.mono x⟩
    · cases hm : w.mut with
      | true =>
        have na : a ≠ p := fun e => ne (g.nd i n a w q' h1 (e ▸ hn) h2 hs hm m')
        exact (g.ob i a w h1 h2).mono x fun u e => by rw [upd_ne na]; exact e
      | false =>
        cases w with
        | lst _ => cases hm
        | frz ds =>
          obtain ⟨vs, k1, k2⟩ := g.ob i a _ h1 h2
          refine ⟨vs, ?_, k2.mono x⟩
          rcases k1 with ⟨y, k1⟩ | k1
          · refine .inl ⟨y, ?_⟩
            rw [upd_ne (fun e => by rw [e, hu] at k1; cases k1; exact ru.chg)]; exact k1
          · exact .inr k1
end
end Mini

/-! MiniB: readings by plain functions; expressions, tests, statements, loops. -/
namespace Mini
open PySem L2

/-- how a statement ends -/
inductive Res where
  | nx (e : EnvD) (S : Sto) | rt (d : D) (S : Sto) | bk (e : EnvD) (S : Sto) | ct (e : EnvD) (S : Sto)
  deriving Inhabited
abbrev XE := EnvD → Sto → Option (D × Sto)
abbrev XL := EnvD → Sto → Option (List D × Sto)
abbrev XB := EnvD → Sto → Option (Bool × Sto)
abbrev XS := EnvD → Sto → Option Res

/-- the names' slots hold these data -/
structure RE (K : PySem.W.Frag) (ρ : List Addr) (H : Hp) (e : EnvD) (σ : L2.St) : Prop where
  len : e.length = σ.length
  at_ : ∀ (i : Nat) (d : D), e[i]? = some (some d) → ∃ v, σ[i]? = some (some v) ∧ Rep K ρ H d v
theorem RE.mono {K : PySem.W.Frag} {ρ ρ' : List Addr} {H H' : Hp} {e : EnvD} {σ : L2.St} (x : Ext K ρ H ρ' H') (r : RE K ρ H e σ) : RE K ρ' H' e σ :=
  ⟨r.len, fun i d h => let ⟨v, h1, h2⟩ := r.at_ i d h; ⟨v, h1, h2.mono x⟩⟩
theorem RE.set {K : PySem.W.Frag} {ρ : List Addr} {H : Hp} {e : EnvD} {σ : L2.St} {d : D} {v : V} (r : RE K ρ H e σ) (i : Nat) (h : Rep K ρ H d v) : RE K ρ H (e.set i (some d)) (σ.set i (some v)) := by
  refine ⟨by rw [List.length_set, List.length_set]; exact r.len, fun j d' q => ?_⟩
  by_cases z : j = i
  · subst z
    have hl : j < e.length := by
      have h9 := (List.getElem?_eq_some_iff.mp q).1
      rwa [List.length_set] at h9
    rw [List.getElem?_set_self hl] at q
    cases q
    exact ⟨v, List.getElem?_set_self (r.len ▸ hl), h⟩
  · rw [List.getElem?_set_ne (Ne.symm z)] at q
    obtain ⟨w, h1, h2⟩ := r.at_ j d' q
    exact ⟨w, by rw [List.getElem?_set_ne (Ne.symm z)]; exact h1, h2⟩

/-! ### readings -/
section
variable (K : PySem.W.Frag)
def rE (m : XE) : TE := fun σ H Q => ∃ ρ e S d S', RE K ρ H e σ ∧ G K ρ H S ∧ m e S = some (d, S') ∧ ∀ ρ' H' v, Ext K ρ H ρ' H' → G K ρ' H' S' → Rep K ρ' H' d v → Q v H'
def rL (m : XL) : TA := fun σ H Q => ∃ ρ e S ds S', RE K ρ H e σ ∧ G K ρ H S ∧ m e S = some (ds, S') ∧ ∀ ρ' H' vs, Ext K ρ H ρ' H' → G K ρ' H' S' → Reps K ρ' H' ds vs → Q vs H'
def rB (m : XB) : TT := fun σ H Q => ∃ ρ e S b S', RE K ρ H e σ ∧ G K ρ H S ∧ m e S = some (b, S') ∧ ∀ ρ' H', Ext K ρ H ρ' H' → G K ρ' H' S' → Q b H'
/-- what is wanted behind a statement holds -/
def After (ρ : List Addr) (H : Hp) (E : Ends) : Res → Prop
  | .nx e S => ∀ ρ' H' σ', Ext K ρ H ρ' H' → G K ρ' H' S → RE K ρ' H' e σ' → E.nx σ' H'
  | .bk e S => ∀ ρ' H' σ', Ext K ρ H ρ' H' → G K ρ' H' S → RE K ρ' H' e σ' → E.bk σ' H'
  | .ct e S => ∀ ρ' H' σ', Ext K ρ H ρ' H' → G K ρ' H' S → RE K ρ' H' e σ' → E.ct σ' H'
  | .rt d S => ∀ ρ' H' v, Ext K ρ H ρ' H' → G K ρ' H' S → Rep K ρ' H' d v → E.rt v H'
def rS (m : XS) : TS := fun E σ H => ∃ ρ e S r, RE K ρ H e σ ∧ G K ρ H S ∧ m e S = some r ∧ After K ρ H E r
end
theorem After.mono {K : PySem.W.Frag} {ρ ρ' : List Addr} {H H' : Hp} {E : Ends} {r : Res} (x : Ext K ρ H ρ' H') (a : After K ρ H E r) : After K ρ' H' E r := by
  cases r <;> exact fun p h v y => a p h v (x.trans y)

section
variable {X : Cx} {e : Expr} {es : List Expr} {st : Stmt} {sts : List Stmt}
theorem PE.imp {t t' : TE} (h : PE X e t) (i : ∀ σ H Q, t' σ H Q → t σ H Q) : PE X e t' := ⟨fun pins s σ H Q I q => h.run pins s σ H Q I (i σ H Q q)⟩
theorem PT.imp {t t' : TT} (h : PT X e t) (i : ∀ σ H Q, t' σ H Q → t σ H Q) : PT X e t' := ⟨fun pins s σ H Q I q => h.run pins s σ H Q I (i σ H Q q)⟩
theorem PW.imp {t t' : TT} (h : PW X e t) (i : ∀ σ H Q, t' σ H Q → t σ H Q) : PW X e t' := ⟨fun wh pins s σ H Q I q => h.run wh pins s σ H Q I (i σ H Q q)⟩
theorem PA.imp {t t' : TA} (h : PA X es t) (i : ∀ σ H Q, t' σ H Q → t σ H Q) : PA X es t' := ⟨fun pos pins s σ H Q I q => h.run pos pins s σ H Q I (i σ H Q q)⟩
theorem PS.imp {t t' : TS} (h : PS X st t) (i : ∀ E σ H, t' E σ H → t E σ H) : PS X st t' := ⟨fun pins s σ H E I q => h.run pins s σ H E I (i E σ H q)⟩
theorem PSs.imp {t t' : TS} (h : PSs X sts t) (i : ∀ E σ H, t' E σ H → t E σ H) : PSs X sts t' := ⟨fun pins s σ H E I q => h.run pins s σ H E I (i E σ H q)⟩
end

/-! ### expressions -/
def xVar (i : Nat) : XE := fun e S => match e[i]? with
  | some (some d) => some (d, S)
  | _ => none
def xC (d : D) : XE := fun _ S => some (d, S)
/-- two values in a row, then f -/
def xOp (f : D → D → Sto → Option (D × Sto)) (a b : XE) : XE := fun e S => match a e S with
  | none => none
  | some (x, S1) => match b e S1 with
    | none => none
    | some (y, S2) => f x y S2
def xUn (f : D → Sto → Option (D × Sto)) (a : XE) : XE := fun e S => match a e S with
  | none => none
  | some (x, S1) => f x S1
def xNil : XL := fun _ S => some ([], S)
def xCons (a : XE) (l : XL) : XL := fun e S => match a e S with
  | none => none
  | some (x, S1) => match l e S1 with
    | none => none
    | some (xs, S2) => some (x :: xs, S2)
/-- the values of some expressions, then f -/
def xAll (f : List D → Sto → Option (D × Sto)) (l : XL) : XE := fun e S => match l e S with
  | none => none
  | some (xs, S1) => f xs S1
def xIf (c : XB) (a b : XE) : XE := fun e S => match c e S with
  | none => none
  | some (true, S1) => a e S1
  | some (false, S1) => b e S1
def xAnd (a b : XE) : XE := fun e S => match a e S with
  | some (.bl true, S1) => b e S1
  | some (.bl false, S1) => some (.bl false, S1)
  | _ => none
def xOr (a b : XE) : XE := fun e S => match a e S with
  | some (.bl true, S1) => some (.bl true, S1)
  | some (.bl false, S1) => b e S1
  | _ => none

def OpM (K : PySem.W.Frag) (f : D → D → Sto → Option (D × Sto)) (r : R2) : Prop := ∀ ρ H S x y d S' vx vy (Q : VK), G K ρ H S → Rep K ρ H x vx → Rep K ρ H y vy → f x y S = some (d, S') →
  (∀ ρ' H' v, Ext K ρ H ρ' H' → G K ρ' H' S' → Rep K ρ' H' d v → Q v H') → r vx vy H Q
def UnM (K : PySem.W.Frag) (f : D → Sto → Option (D × Sto)) (r : V → Hp → VK → Prop) : Prop := ∀ ρ H S x d S' vx (Q : VK), G K ρ H S → Rep K ρ H x vx → f x S = some (d, S') →
  (∀ ρ' H' v, Ext K ρ H ρ' H' → G K ρ' H' S' → Rep K ρ' H' d v → Q v H') → r vx H Q
def AllM (K : PySem.W.Frag) (f : List D → Sto → Option (D × Sto)) (r : List V → Hp → VK → Prop) : Prop := ∀ ρ H S xs d S' vs (Q : VK), G K ρ H S → Reps K ρ H xs vs → f xs S = some (d, S') →
  (∀ ρ' H' v, Ext K ρ H ρ' H' → G K ρ' H' S' → Rep K ρ' H' d v → Q v H') → r vs H Q
/-- what stays within the heap -/
theorem OpM.pure {K : PySem.W.Frag} {f : D → D → Sto → Option (D × Sto)} {r : R2} (h : ∀ ρ H S x y d S' vx vy (Q : VK), G K ρ H S → Rep K ρ H x vx → Rep K ρ H y vy → f x y S = some (d, S') → S' = S ∧ ((∀ v, Rep K ρ H d v → Q v H) → r vx vy H Q)) : OpM K f r :=
  fun ρ H S x y d S' vx vy Q g hx hy e k => by
    obtain ⟨rfl, h⟩ := h ρ H S x y d S' vx vy Q g hx hy e
    exact h fun v q => k ρ H v .refl g q

section
variable {X : Cx} {a b c : Expr} {pos : Pos}
theorem r_var (i : Nat) {x : Str} (hN : X.N[i]? = some x) (hv : Vis X.env.scope x) (hd : (x == ("__debug__" : Str)) = false := by decide) (hcd : (x == ("__classdict__" : Str)) = false := by decide) : PE X (.Name x pos) (rE X.K (xVar i)) := by
  refine PE.imp (pe_var hN hv hd hcd) fun σ H Q ⟨ρ, e, S, d, S', re, g, h, k⟩ => ?_
  unfold xVar at h
  split at h
  · rename_i d' q
    cases h
    obtain ⟨v, hv, hr⟩ := re.at_ i _ q
    exact ⟨v, hv, k ρ H v .refl g hr⟩
  · cases h
theorem rC_of {e : Expr} {d : D} {v : V} (h : PE X e (tC v)) (r : ∀ ρ H, Rep X.K ρ H d v) : PE X e (rE X.K (xC d)) :=
  PE.imp h fun σ H Q ⟨ρ, e, S, d', S', re, g, h, k⟩ => by
    cases h
    exact k ρ H v .refl g (r ρ H)
theorem r_int {i : Int} {j} : PE X (.Constant (.int i) j pos) (rE X.K (xC (.int i))) := rC_of pe_int fun _ _ => .int i
theorem r_bl {k : Bool} {j} : PE X (.Constant (.bool k) j pos) (rE X.K (xC (.bl k))) := rC_of pe_bl fun _ _ => .bl k
theorem r_non {j} : PE X (.Constant .none j pos) (rE X.K (xC .non)) := rC_of pe_non fun _ _ => .non
theorem r_str {x : Str} {j} : PE X (.Constant (.str x) j pos) (rE X.K (xC (.str x))) := rC_of pe_str fun _ _ => .str x
/-- the two readings of a pair of expressions -/
theorem two {f : D → D → Sto → Option (D × Sto)} {r : R2} {ma mb : XE} {K : PySem.W.Frag} (o : OpM K f r) : ∀ σ H Q, rE K (xOp f ma mb) σ H Q → tOp r (rE K ma) (rE K mb) σ H Q := by
  intro σ H Q ⟨ρ, e, S, d, S', re, g, h, k⟩
  unfold xOp at h
  split at h
  · cases h
  rename_i x S1 ea
  split at h
  · cases h
  rename_i y S2 eb
  exact ⟨ρ, e, S, x, _, re, g, ea, fun ρ1 H1 vx x1 g1 hx => ⟨ρ1, e, _, y, _, re.mono x1, g1, eb, fun ρ2 H2 vy x2 g2 hy =>
    o ρ2 H2 S2 x y d S' vx vy Q g2 (hx.mono x2) hy h fun ρ3 H3 v x3 g3 hv => k ρ3 H3 v ((x1.trans x2).trans x3) g3 hv⟩⟩
theorem r_op {f : D → D → Sto → Option (D × Sto)} {r : R2} {op : Operator} {ma mb : XE} (ho : OpR X (binaryOp op) r) (o : OpM X.K f r) (ha : PE X a (rE X.K ma)) (hb : PE X b (rE X.K mb)) : PE X (.BinOp a op b pos) (rE X.K (xOp f ma mb)) :=
  PE.imp (pe_op ho ha hb) (two o)
theorem r_cmp {f : D → D → Sto → Option (D × Sto)} {r : R2} {op : CmpOp} {ma mb : XE} (ho : OpR X (compareOp op) r) (o : OpM X.K f r) (ha : PE X a (rE X.K ma)) (hb : PE X b (rE X.K mb)) (hm : behindInMarks op b = false) : PE X (.Compare a [op] [b] pos) (rE X.K (xOp f ma mb)) :=
  PE.imp (pe_cmpR ho ha hb hm) (two o)
theorem r_ix {f : D → D → Sto → Option (D × Sto)} {r : R2} {ma mb : XE} (ho : IxR X r) (o : OpM X.K f r) (ha : PE X a (rE X.K ma)) (hb : PE X b (rE X.K mb)) (hs : PlainIx b) : PE X (.Subscript a b pos) (rE X.K (xOp f ma mb)) :=
  PE.imp (pe_ix ho ha hb hs) (two o)
theorem r_un {f : D → Sto → Option (D × Sto)} {r : V → Hp → VK → Prop} {op : UnaryOp} {ma : XE} (ho : UnR X (unaryOp op) r) (o : UnM X.K f r) (ha : PE X a (rE X.K ma)) : PE X (.UnaryOp op a pos) (rE X.K (xUn f ma)) := by
  refine PE.imp (pe_un ho ha) fun σ H Q ⟨ρ, e, S, d, S', re, g, h, k⟩ => ?_
  unfold xUn at h
  split at h
  · cases h
  rename_i x S1 ea
  exact ⟨ρ, e, S, x, _, re, g, ea, fun ρ1 H1 vx x1 g1 hx => o ρ1 H1 S1 x d S' vx Q g1 hx h fun ρ3 H3 v x3 g3 hv => k ρ3 H3 v (x1.trans x3) g3 hv⟩
theorem ra_nil : PA X [] (rL X.K xNil) := PA.imp pa_nil fun σ H Q ⟨ρ, e, S, ds, S', re, g, h, k⟩ => by
  cases h
  exact k ρ H [] .refl g .nil
theorem ra_cons {es : List Expr} {ma : XE} {l : XL} (ha : PE X a (rE X.K ma)) (hr : PA X es (rL X.K l)) (hs : starEach (a :: es) X.env = (false, eval a X.env) :: starEach es X.env := by rfl) : PA X (a :: es) (rL X.K (xCons ma l)) := by
  refine PA.imp (pa_cons ha hr hs) fun σ H Q ⟨ρ, e, S, ds, S', re, g, h, k⟩ => ?_
  unfold xCons at h
  split at h
  · cases h
  rename_i x S1 ea
  split at h
  · cases h
  rename_i xs S2 eb
  cases h
  exact ⟨ρ, e, S, x, _, re, g, ea, fun ρ1 H1 vx x1 g1 hx => ⟨ρ1, e, _, xs, _, re.mono x1, g1, eb, fun ρ2 H2 vs x2 g2 hvs => k ρ2 H2 (vx :: vs) (x1.trans x2) g2 (.cons (hx.mono x2) hvs)⟩⟩
theorem all_of {f : List D → Sto → Option (D × Sto)} {r : List V → Hp → VK → Prop} {l : XL} {K : PySem.W.Frag} (o : AllM K f r) : ∀ σ H Q, rE K (xAll f l) σ H Q → tCB r (rL K l) σ H Q := by
  intro σ H Q ⟨ρ, e, S, d, S', re, g, h, k⟩
  unfold xAll at h
  split at h
  · cases h
  rename_i xs S1 ea
  exact ⟨ρ, e, S, xs, _, re, g, ea, fun ρ1 H1 vs x1 g1 hx => o ρ1 H1 S1 xs d S' vs Q g1 hx h fun ρ3 H3 v x3 g3 hv => k ρ3 H3 v (x1.trans x3) g3 hv⟩
def mkTup (ds : List D) (S : Sto) : Option (D × Sto) := if ds.length ≤ 100000 then some (.tup ds, S) else none
def mkLst (ds : List D) (S : Sto) : Option (D × Sto) := if ds.length ≤ 100000 then some (.loc S.length, S ++ [.lst ds]) else none
theorem line5 {n : Nat} (h : n ≤ 100000) : n ≤ sizeLine := Nat.le_trans h (by decide)
theorem tup_new {K : PySem.W.Frag} {ρ : List Addr} {H : Hp} {S : Sto} {ds : List D} {vs : List V} {p : Addr} (g : G K ρ H S) (r : Reps K ρ H ds vs) (hp : H p = none) :
    Ext K ρ H ρ (upd H p (.tup vs)) ∧ G K ρ (upd H p (.tup vs)) S ∧ Rep K ρ (upd H p (.tup vs)) (.tup ds) (.ref p) :=
  ⟨ext_new hp, g.grow (ext_new hp) (upd_new hp), .tup (.inl (.inl upd_same)) (r.mono (ext_new hp))⟩
theorem lst_new {K : PySem.W.Frag} {ρ : List Addr} {H : Hp} {S : Sto} {ds : List D} {vs : List V} {p : Addr} (g : G K ρ H S) (r : Reps K ρ H ds vs) (hp : H p = none) :
    Ext K ρ H (ρ ++ [p]) (upd H p (.lst vs)) ∧ G K (ρ ++ [p]) (upd H p (.lst vs)) (S ++ [.lst ds]) ∧ Rep K (ρ ++ [p]) (upd H p (.lst vs)) (.loc S.length) (.ref p) := by
  obtain ⟨g1, x1⟩ := g.new (q := .lst ds) (o := .lst vs) hp rfl r
  exact ⟨x1, g1, .loc (by rw [← g.len]; simp)⟩
theorem r_tup {es : List Expr} {l : XL} {x1} (h : PA X es (rL X.K l)) : PE X (.Tuple es x1 pos) (rE X.K (xAll mkTup l)) := by
  refine PE.imp (pe_tup h) (all_of (r := fun xs H Q => xs.length ≤ sizeLine ∧ ∀ p, H p = none → Q (.ref p) (upd H p (.tup xs))) fun ρ H S ds d S' vs Q g hr h k => ?_)
  unfold mkTup at h
  split at h
  · rename_i hl
    cases h
    refine ⟨hr.length ▸ line5 hl, fun p hp => ?_⟩
    obtain ⟨x, g', r'⟩ := tup_new g hr hp
    exact k _ _ _ x g' r'
  · cases h
theorem r_lst {es : List Expr} {l : XL} (h : PA X es (rL X.K l)) : PE X (.List es pos) (rE X.K (xAll mkLst l)) := by
  refine PE.imp (pe_lst h) (all_of (r := fun xs H Q => xs.length ≤ sizeLine ∧ ∀ p, H p = none → Q (.ref p) (upd H p (.lst xs))) fun ρ H S ds d S' vs Q g hr h k => ?_)
  unfold mkLst at h
  split at h
  · rename_i hl
    cases h
    refine ⟨hr.length ▸ line5 hl, fun p hp => ?_⟩
    obtain ⟨x, g', r'⟩ := lst_new g hr hp
    exact k _ _ _ x g' r'
  · cases h
theorem r_ifx {mc : XB} {ma mb : XE} (hc : PT X c (rB X.K mc)) (ha : PE X a (rE X.K ma)) (hb : PE X b (rE X.K mb)) : PE X (.IfExp c a b pos) (rE X.K (xIf mc ma mb)) := by
  refine PE.imp (pe_ifExp hc ha hb) fun σ H Q ⟨ρ, e, S, d, S', re, g, h, k⟩ => ?_
  unfold xIf at h
  split at h
  · cases h
  · rename_i S1 ec
    refine ⟨ρ, e, S, true, _, re, g, ec, fun ρ1 H1 x1 g1 => ?_⟩
    refine iteT ?_
    exact ⟨ρ1, e, _, d, S', re.mono x1, g1, h, fun ρ2 H2 v x2 g2 hv => k ρ2 H2 v (x1.trans x2) g2 hv⟩
  · rename_i S1 ec
    refine ⟨ρ, e, S, false, _, re, g, ec, fun ρ1 H1 x1 g1 => ?_⟩
    refine iteF ?_
    exact ⟨ρ1, e, _, d, S', re.mono x1, g1, h, fun ρ2 H2 v x2 g2 hv => k ρ2 H2 v (x1.trans x2) g2 hv⟩
theorem r_one {op} {ma : XE} (ha : PE X a (rE X.K ma)) : PE X (.BoolOp op [a] pos) (rE X.K ma) := pe_one ha
theorem r_and {rest : List Expr} {ma mb : XE} (ha : PE X a (rE X.K ma)) (hb : PE X (.BoolOp .And (b :: rest) pos) (rE X.K mb)) : PE X (.BoolOp .And (a :: b :: rest) pos) (rE X.K (xAnd ma mb)) := by
  refine PE.imp (pe_and ha hb) fun σ H Q ⟨ρ, e, S, d, S', re, g, h, k⟩ => ?_
  unfold xAnd at h
  split at h
  · rename_i S1 ec
    refine ⟨ρ, e, S, _, _, re, g, ec, fun ρ1 H1 v x1 g1 hv => ?_⟩
    cases hv
    refine ⟨true, rfl, ?_⟩
    refine iteT ?_
    exact ⟨ρ1, e, _, d, S', re.mono x1, g1, h, fun ρ2 H2 v x2 g2 hv => k ρ2 H2 v (x1.trans x2) g2 hv⟩
  · rename_i S1 ec
    cases h
    refine ⟨ρ, e, S, _, _, re, g, ec, fun ρ1 H1 v x1 g1 hv => ?_⟩
    cases hv
    refine ⟨false, rfl, ?_⟩
    refine iteF ?_
    exact k ρ1 H1 _ x1 g1 (.bl false)
  · cases h
theorem r_or {rest : List Expr} {ma mb : XE} (ha : PE X a (rE X.K ma)) (hb : PE X (.BoolOp .Or (b :: rest) pos) (rE X.K mb)) : PE X (.BoolOp .Or (a :: b :: rest) pos) (rE X.K (xOr ma mb)) := by
  refine PE.imp (pe_or ha hb) fun σ H Q ⟨ρ, e, S, d, S', re, g, h, k⟩ => ?_
  unfold xOr at h
  split at h
  · rename_i S1 ec
    cases h
    refine ⟨ρ, e, S, _, _, re, g, ec, fun ρ1 H1 v x1 g1 hv => ?_⟩
    cases hv
    refine ⟨true, rfl, ?_⟩
    refine iteT ?_
    exact k ρ1 H1 _ x1 g1 (.bl true)
  · rename_i S1 ec
    refine ⟨ρ, e, S, _, _, re, g, ec, fun ρ1 H1 v x1 g1 hv => ?_⟩
    cases hv
    refine ⟨false, rfl, ?_⟩
    refine iteF ?_
    exact ⟨ρ1, e, _, d, S', re.mono x1, g1, h, fun ρ2 H2 v x2 g2 hv => k ρ2 H2 v (x1.trans x2) g2 hv⟩
  · cases h
end

/-! ### tests -/
/-- the truth of a datum -/
def truth (S : Sto) : D → Option Bool
  | .non => some false
  | .bl b => some b
  | .int i => some (i != 0)
  | .str x => if x.length ≤ 100000 then some ((x.length : Int) != 0) else none
  | .tup ds => some (!ds.isEmpty)
  | .loc n => match S[n]? with
    | some (.lst ds) => some (!ds.isEmpty)
    | some (.frz ds) => some (!ds.isEmpty)
    | _ => none
def bTru (a : XE) : XB := fun e S => match a e S with
  | none => none
  | some (x, S1) => match truth S1 x with
    | none => none
    | some b => some (b, S1)
/-- a truth value as a test -/
def bVal (a : XE) : XB := fun e S => match a e S with
  | some (.bl t, S1) => some (t, S1)
  | _ => none
def bAnd (a b : XB) : XB := fun e S => match a e S with
  | none => none
  | some (true, S1) => b e S1
  | some (false, S1) => some (false, S1)
def bOr (a b : XB) : XB := fun e S => match a e S with
  | none => none
  | some (true, S1) => some (true, S1)
  | some (false, S1) => b e S1
def bNot (a : XB) : XB := fun e S => match a e S with
  | none => none
  | some (k, S1) => some (!k, S1)
def xOfB (a : XB) : XE := fun e S => match a e S with
  | none => none
  | some (k, S1) => some (.bl k, S1)
theorem empty_of {K : PySem.W.Frag} {ρ : List Addr} {H : Hp} {ds : List D} {vs : List V} (r : Reps K ρ H ds vs) : (!ds.isEmpty) = !vs.isEmpty := by
  cases r <;> rfl
/-- a list of the store as it is read -/
theorem RepO.sqL {K : PySem.W.Frag} {ρ : List Addr} {H : Hp} {a : Addr} {ds : List D} {q : O} (h : RepO K ρ H a q) (e : q = .lst ds ∨ q = .frz ds) : ∃ vs, SqL K H a vs ∧ Reps K ρ H ds vs := by
  rcases e with rfl | rfl
  · obtain ⟨u, h1, h2⟩ := h
    cases u with
    | lst vs => exact ⟨vs, .inl (.inl h1), h2⟩
    | _ => exact h2.elim
  · obtain ⟨vs, h1, h2⟩ := h
    refine ⟨vs, ?_, h2⟩
    rcases h1 with ⟨u, h1⟩ | h1
    · exact .inl (.inr ⟨u, h1⟩)
    · rcases h1 with (h1 | ⟨u, h1⟩) | h1
      · cases h1
      · cases h1
      · exact .inr h1
def lstAt (S : Sto) (n : Nat) : Option (List D) := match S[n]? with
  | some (.lst ds) => some ds
  | some (.frz ds) => some ds
  | none => none
theorem G.lst {K : PySem.W.Frag} {ρ : List Addr} {H : Hp} {S : Sto} {n : Nat} {a : Addr} {ds : List D} (g : G K ρ H S) (hn : ρ[n]? = some a) (h : lstAt S n = some ds) : ∃ vs, SqL K H a vs ∧ Reps K ρ H ds vs := by
  unfold lstAt at h
  split at h
  · rename_i ds' q
    cases h
    exact (g.ob n a _ hn q).sqL (.inl rfl)
  · rename_i ds' q
    cases h
    exact (g.ob n a _ hn q).sqL (.inr rfl)
  · cases h
theorem tru_rep {K : PySem.W.Frag} {ρ : List Addr} {H : Hp} {S : Sto} {d : D} {v : V} {k : Bool} (g : G K ρ H S) (r : Rep K ρ H d v) (h : truth S d = some k) : TruV K v H k := by
  cases r with
  | non => cases h; rfl
  | bl b => cases h; rfl
  | int i => cases h; rfl
  | str x =>
    have h' : (if x.length ≤ 100000 then some ((x.length : Int) != 0) else none) = some k := h
    split at h'
    · rename_i hl; cases h'; exact ⟨line5 hl, rfl⟩
    · cases h'
  | tup hs hr =>
    cases h
    exact .inr (.inl ⟨_, hs, empty_of hr⟩)
  | @loc n a hn =>
    have : ∃ ds, lstAt S n = some ds ∧ k = !ds.isEmpty := by
      have h' : (match S[n]? with | some (.lst ds) => some (!ds.isEmpty) | some (.frz ds) => some (!ds.isEmpty) | _ => none) = some k := h
      unfold lstAt
      split at h' <;> rename_i q <;> first | (cases h'; rw [q]; exact ⟨_, rfl, rfl⟩) | cases h'
    obtain ⟨ds, e, rfl⟩ := this
    obtain ⟨vs, h1, h2⟩ := g.lst hn e
    exact .inl ⟨vs, h1, empty_of h2⟩
section
variable {X : Cx} {a b c : Expr} {pos : Pos}
theorem r_tru {ma : XE} (ha : PE X a (rE X.K ma)) (he : ∀ whole, isTrue a X.env whole = (do let v ← whole; standAt a.pos; holding [v] (truthy v))) : PT X a (rB X.K (bTru ma)) := by
  refine PT.imp (pt_truth ha he) fun σ H Q ⟨ρ, e, S, d, S', re, g, h, k⟩ => ?_
  unfold bTru at h
  split at h
  · cases h
  rename_i x S1 ea
  split at h
  · cases h
  rename_i t et
  cases h
  exact ⟨ρ, e, S, x, _, re, g, ea, fun ρ1 H1 v x1 g1 hv => ⟨_, tru_rep g1 hv et, k ρ1 H1 x1 g1⟩⟩
/-- a comparison as a test -/
theorem r_tcmp {f : D → D → Sto → Option (D × Sto)} {r : R2} {op : CmpOp} {ma mb : XE} (ho : OpR X (compareOp op) r) (o : OpM X.K f r) (ha : PE X a (rE X.K ma)) (hb : PE X b (rE X.K mb)) (hm : behindInMarks op b = false) : PT X (.Compare a [op] [b] pos) (rB X.K (bVal (xOp f ma mb))) := by
  refine PT.imp (pt_cmpR ho ha hb hm) fun σ H Q ⟨ρ, e, S, d, S', re, g, h, k⟩ => ?_
  unfold bVal at h
  split at h
  · rename_i t S1 ea
    cases h
    refine two o σ H _ ⟨ρ, e, S, _, _, re, g, ea, fun ρ1 H1 v x1 g1 hv => ?_⟩
    cases hv
    exact ⟨_, rfl, k ρ1 H1 x1 g1⟩
  · cases h
theorem rw_and1 {ma : XB} (ha : PT X a (rB X.K ma)) : PW X (.BoolOp .And [a] pos) (rB X.K ma) := pw_and1 ha
theorem rw_or1 {ma : XB} (ha : PT X a (rB X.K ma)) : PW X (.BoolOp .Or [a] pos) (rB X.K ma) := pw_or1 ha
theorem rw_and {rest : List Expr} {ma mb : XB} (ha : PT X a (rB X.K ma)) (hb : PW X (.BoolOp .And (b :: rest) pos) (rB X.K mb)) : PW X (.BoolOp .And (a :: b :: rest) pos) (rB X.K (bAnd ma mb)) := by
  refine PW.imp (pw_and ha hb) fun σ H Q ⟨ρ, e, S, d, S', re, g, h, k⟩ => ?_
  unfold bAnd at h
  split at h
  · cases h
  · rename_i S1 ec
    refine ⟨ρ, e, S, true, _, re, g, ec, fun ρ1 H1 x1 g1 => ?_⟩
    refine iteT ?_
    exact ⟨ρ1, e, _, d, S', re.mono x1, g1, h, fun ρ2 H2 x2 g2 => k ρ2 H2 (x1.trans x2) g2⟩
  · rename_i S1 ec
    cases h
    refine ⟨ρ, e, S, false, _, re, g, ec, fun ρ1 H1 x1 g1 => ?_⟩
    refine iteF ?_
    exact k ρ1 H1 x1 g1
theorem rw_or {rest : List Expr} {ma mb : XB} (ha : PT X a (rB X.K ma)) (hb : PW X (.BoolOp .Or (b :: rest) pos) (rB X.K mb)) : PW X (.BoolOp .Or (a :: b :: rest) pos) (rB X.K (bOr ma mb)) := by
  refine PW.imp (pw_or ha hb) fun σ H Q ⟨ρ, e, S, d, S', re, g, h, k⟩ => ?_
  unfold bOr at h
  split at h
  · cases h
  · rename_i S1 ec
    cases h
    refine ⟨ρ, e, S, true, _, re, g, ec, fun ρ1 H1 x1 g1 => ?_⟩
    refine iteT ?_
    exact k ρ1 H1 x1 g1
  · rename_i S1 ec
    refine ⟨ρ, e, S, false, _, re, g, ec, fun ρ1 H1 x1 g1 => ?_⟩
    refine iteF ?_
    exact ⟨ρ1, e, _, d, S', re.mono x1, g1, h, fun ρ2 H2 x2 g2 => k ρ2 H2 (x1.trans x2) g2⟩
theorem r_not {ma : XB} (ha : PT X a (rB X.K ma)) : PT X (.UnaryOp .Not a pos) (rB X.K (bNot ma)) := by
  refine PT.imp (pt_not ha) fun σ H Q ⟨ρ, e, S, d, S', re, g, h, k⟩ => ?_
  unfold bNot at h
  split at h
  · cases h
  rename_i t S1 ec
  cases h
  exact ⟨ρ, e, S, t, _, re, g, ec, k⟩
end
end Mini

/-! MiniC: statements, loops, defs and their calls. -/
namespace Mini
open PySem L2

/-! ### statements -/
def sNil : XS := fun e S => some (.nx e S)
def sSeq (a b : XS) : XS := fun e S => match a e S with
  | some (.nx e1 S1) => b e1 S1
  | r => r
def sRet (m : XE) : XS := fun e S => match m e S with
  | none => none
  | some (d, S1) => some (.rt d S1)
def sRetN : XS := fun _ S => some (.rt .non S)
def sExpr (m : XE) : XS := fun e S => match m e S with
  | none => none
  | some (_, S1) => some (.nx e S1)
def sIf (c : XB) (a b : XS) : XS := fun e S => match c e S with
  | none => none
  | some (true, S1) => a e S1
  | some (false, S1) => b e S1
def sBrk : XS := fun e S => some (.bk e S)
def sCnt : XS := fun e S => some (.ct e S)
/-- targets -/
abbrev XG := D → EnvD → Option EnvD
abbrev XGs := List D → EnvD → Option EnvD
def gN (i : Nat) : XG := fun d e => some (e.set i (some d))
def gsN : XGs := fun ds e => match ds with
  | [] => some e
  | _ => none
def gsC (g : XG) (u : XGs) : XGs := fun ds e => match ds with
  | [] => none
  | d :: r => match g d e with
    | none => none
    | some e1 => u r e1
def gT (n : Nat) (u : XGs) : XG := fun d e => match d with
  | .tup ds => if ds.length = n then u ds e else none
  | _ => none
def sAsg (m : XE) (g : XG) : XS := fun e S => match m e S with
  | none => none
  | some (d, S1) => match g d e with
    | none => none
    | some e1 => some (.nx e1 S1)
def sAug (i : Nat) (f : D → D → Sto → Option (D × Sto)) (m : XE) : XS := fun e S => match e[i]? with
  | some (some x) => match m e S with
    | none => none
    | some (y, S1) => match f x y S1 with
      | none => none
      | some (z, S2) => some (.nx (e.set i (some z)) S2)
  | _ => none
/-- o[i] = v -/
def sPut (f : D → D → D → Sto → Option Sto) (v o i : XE) : XS := fun e S => match v e S with
  | none => none
  | some (y, S1) => match o e S1 with
    | none => none
    | some (x, S2) => match i e S2 with
      | none => none
      | some (k, S3) => match f x k y S3 with
        | none => none
        | some S4 => some (.nx e S4)

/-- a target's reading -/
def rG (K : PySem.W.Frag) (g : XG) : TG := fun v σ H Q => ∃ ρ e d e', RE K ρ H e σ ∧ Rep K ρ H d v ∧ g d e = some e' ∧ ∀ σ', RE K ρ H e' σ' → Q σ' H
def rGs (K : PySem.W.Frag) (u : XGs) : TGs := fun vs σ H Q => ∃ ρ e ds e', RE K ρ H e σ ∧ Reps K ρ H ds vs ∧ u ds e = some e' ∧ ∀ σ', RE K ρ H e' σ' → Q σ' H
def PutM (K : PySem.W.Frag) (f : D → D → D → Sto → Option Sto) (t : TSet) : Prop := ∀ ρ H S x i y S' vx vi vy (Q : Hp → Prop), G K ρ H S → Rep K ρ H x vx → Rep K ρ H i vi → Rep K ρ H y vy → f x i y S = some S' →
  (∀ ρ' H', Ext K ρ H ρ' H' → G K ρ' H' S' → Q H') → t vx vi vy H Q

section
variable {X : Cx} {st : Stmt} {rest : List Stmt} {e : Expr} {pos : Pos}
theorem rs_nil : PSs X [] (rS X.K sNil) := PSs.imp pss_nil fun E σ H ⟨ρ, e, S, r, re, g, h, k⟩ => by
  cases h
  exact k ρ H σ .refl g re
theorem rs_cons {a b : XS} (h1 : PS X st (rS X.K a)) (h2 : PSs X rest (rS X.K b)) : PSs X (st :: rest) (rS X.K (sSeq a b)) := by
  refine PSs.imp (pss_cons h1 h2) fun E σ H ⟨ρ, e, S, r, re, g, h, k⟩ => ?_
  unfold sSeq at h
  split at h
  · rename_i e1 S1 ea
    exact ⟨ρ, e, S, .nx e1 S1, re, g, ea, fun ρ1 H1 σ1 x1 g1 re1 => ⟨ρ1, e1, S1, r, re1, g1, h, k.mono x1⟩⟩
  · rename_i o no
    refine ⟨ρ, e, S, r, re, g, h, ?_⟩
    cases r with
    | nx e1 S1 => exact absurd h (no e1 S1)
    | rt _ _ => exact k
    | bk _ _ => exact k
    | ct _ _ => exact k
theorem rs_ret {m : XE} (he : PE X e (rE X.K m)) : PS X (.Return (some e) pos) (rS X.K (sRet m)) := by
  refine PS.imp (ps_ret he) fun E σ H ⟨ρ, e, S, r, re, g, h, k⟩ => ?_
  unfold sRet at h
  split at h
  · cases h
  · rename_i d S1 ea
    cases h
    exact ⟨ρ, e, S, d, S1, re, g, ea, k⟩
theorem rs_retN : PS X (.Return none pos) (rS X.K sRetN) := PS.imp ps_retN fun E σ H ⟨ρ, e, S, r, re, g, h, k⟩ => by
  cases h
  exact k ρ H _ .refl g .non
theorem rs_expr {m : XE} (he : PE X e (rE X.K m)) (hs : swapsWith e none pos.line X.env = pure false := by rfl) : PS X (.Expr e pos) (rS X.K (sExpr m)) := by
  refine PS.imp (ps_expr he hs) fun E σ H ⟨ρ, e, S, r, re, g, h, k⟩ => ?_
  unfold sExpr at h
  split at h
  · cases h
  · rename_i d S1 ea
    cases h
    exact ⟨ρ, e, S, d, S1, re, g, ea, fun ρ1 H1 v x1 g1 _ => k ρ1 H1 σ x1 g1 (re.mono x1)⟩
theorem rs_if {c : Expr} {a b : List Stmt} {mc : XB} {ma mb : XS} (hc : PT X c (rB X.K mc)) (ha : PSs X a (rS X.K ma)) (hb : PSs X b (rS X.K mb)) : PS X (.If c a b pos) (rS X.K (sIf mc ma mb)) := by
  refine PS.imp (ps_if hc ha hb) fun E σ H ⟨ρ, e, S, r, re, g, h, k⟩ => ?_
  unfold sIf at h
  split at h
  · cases h
  · rename_i S1 ec
    refine ⟨ρ, e, S, true, _, re, g, ec, fun ρ1 H1 x1 g1 => ?_⟩
    refine iteT ?_
    exact ⟨ρ1, e, S1, r, re.mono x1, g1, h, k.mono x1⟩
  · rename_i S1 ec
    refine ⟨ρ, e, S, false, _, re, g, ec, fun ρ1 H1 x1 g1 => ?_⟩
    refine iteF ?_
    exact ⟨ρ1, e, S1, r, re.mono x1, g1, h, k.mono x1⟩
theorem rs_pass : PS X (.Pass pos) (rS X.K sNil) := PS.imp ps_pass fun E σ H ⟨ρ, e, S, r, re, g, h, k⟩ => by
  cases h
  exact k ρ H σ .refl g re
theorem rs_brk : PS X (.Break pos) (rS X.K sBrk) := PS.imp ps_break fun E σ H ⟨ρ, e, S, r, re, g, h, k⟩ => by
  cases h
  exact k ρ H σ .refl g re
theorem rs_cnt : PS X (.Continue pos) (rS X.K sCnt) := PS.imp ps_continue fun E σ H ⟨ρ, e, S, r, re, g, h, k⟩ => by
  cases h
  exact k ρ H σ .refl g re

/-! targets -/
theorem PG.imp {t : Expr} {g g' : TG} (h : PG X t g) (i : ∀ v σ H Q, g' v σ H Q → g v σ H Q) : PG X t g' := ⟨fun pins s σ H v u Q I r q => h.run pins s σ H v u Q I r (i _ _ _ _ q)⟩
theorem PGs.imp {t : List Expr} {g g' : TGs} (h : PGs X t g) (i : ∀ v σ H Q, g' v σ H Q → g v σ H Q) : PGs X t g' := ⟨fun pins s σ H v u Q I r q => h.run pins s σ H v u Q I r (i _ _ _ _ q)⟩
theorem rg_name (i : Nat) {x : Str} (hN : X.N.Nodup) (hi : X.N[i]? = some x) (hx : Loc X.env.scope x) (hf : X.fn x = true ∨ X.env.scope.names.lookup x = some .local := by first | exact .inl rfl | exact .inr rfl | assumption) : PG X (.Name x pos) (rG X.K (gN i)) :=
  PG.imp (pg_name hN hi hx hf) fun v σ H Q ⟨ρ, e, d, e', re, r, h, k⟩ => by
    cases h
    exact k _ (re.set i r)
theorem rgs_nil : PGs X [] (rGs X.K gsN) := PGs.imp pgs_nil fun v σ H Q ⟨ρ, e, d, e', re, r, h, k⟩ => by
  cases r with
  | nil => cases h; exact ⟨rfl, k _ re⟩
  | cons _ _ => cases h
theorem rgs_cons {t : Expr} {ts : List Expr} {g : XG} {u : XGs} (h1 : PG X t (rG X.K g)) (h2 : PGs X ts (rGs X.K u))
    (ha : (assignEach (t :: ts) X.env).map (·.2) = assign t X.env :: (assignEach ts X.env).map (·.2) := by rfl) : PGs X (t :: ts) (rGs X.K (gsC g u)) := by
  refine PGs.imp (pgs_cons h1 h2 ha) fun v σ H Q ⟨ρ, e, ds, e', re, r, h, k⟩ => ?_
  cases r with
  | nil => cases h
  | @cons d0 v0 ds0 vs0 hr hrs =>
    have h' : (match g d0 e with | none => none | some e1 => u ds0 e1) = some e' := h
    split at h'
    · cases h'
    rename_i e1 ea
    exact ⟨_, _, rfl, ρ, e, _, e1, re, hr, ea, fun σ1 re1 => ⟨ρ, e1, _, e', re1, hrs, h', k⟩⟩
theorem rg_tup {ts : List Expr} {kk : Nat} {u : XGs} {n : Nat} (hc : X.calm = true) (h : PGs X ts (rGs X.K u))
    (hn : (assignEach ts X.env).length = n := by rfl) (hst : (assignEach ts X.env).findIdx? (·.1) = none := by rfl) : PG X (.Tuple ts kk pos) (rG X.K (gT n u)) := by
  refine PG.imp (pg_tup (n := n) hc h hn hst) fun v σ H Q ⟨ρ, e, d, e', re, r, h, k⟩ => ?_
  unfold gT at h
  split at h
  · rename_i ds
    split at h
    · rename_i hl
      cases r with
      | tup hs hr => exact ⟨_, _, rfl, hs, hr.length ▸ hl, ρ, e, ds, e', re, hr, h, k⟩
    · cases h
  · cases h
theorem rs_asg {tg : Expr} {m : XE} {g : XG} (he : PE X e (rE X.K m)) (hg : PG X tg (rG X.K g)) (hs : swapsWithSole [tg] e pos.line X.env = pure false := by rfl) (hw : swappedStores [tg] e X.env = pure none := by rfl)
    (h1 : (assignEach [tg] X.env).map (·.2) = [assign tg X.env] := by rfl) : PS X (.Assign [tg] e pos) (rS X.K (sAsg m g)) := by
  refine PS.imp (ps_asg he hg hs hw h1) fun E σ H ⟨ρ, e, S, r, re, g, h, k⟩ => ?_
  unfold sAsg at h
  split at h
  · cases h
  rename_i d S1 ea
  split at h
  · cases h
  rename_i e1 eg
  cases h
  exact ⟨ρ, e, S, d, S1, re, g, ea, fun ρ1 H1 v x1 g1 hv => ⟨ρ1, e, d, e1, re.mono x1, hv, eg, fun σ1 re1 => k ρ1 H1 σ1 x1 g1 re1⟩⟩
theorem rs_put {o i v : Expr} {mo mi mv : XE} {f : D → D → D → Sto → Option Sto} {t : TSet} {tpos : Pos} (hp : PSet X t) (pm : PutM X.K f t) (hv : PE X v (rE X.K mv)) (ho : PE X o (rE X.K mo)) (hi : PE X i (rE X.K mi))
    (hs : swapsWithSole [.Subscript o i tpos] v pos.line X.env = pure false := by rfl) (hw : swappedStores [.Subscript o i tpos] v X.env = pure none := by rfl)
    (h1 : (assignEach [.Subscript o i tpos] X.env).map (·.2) = [assign (.Subscript o i tpos) X.env] := by rfl)
    (h2 : ∀ u, assign (.Subscript o i tpos) X.env u = (do
      let ov ← holding [u] (eval o X.env)
      let iv ← holding [u, ov] (eval i X.env)
      standAt tpos
      holding [u, ov, iv] (setItem ov iv u)
      release [u, ov, iv] []) := by intro _; rfl) : PS X (.Assign [.Subscript o i tpos] v pos) (rS X.K (sPut f mv mo mi)) := by
  refine PS.imp (ps_asg hv (pg_sub ho hi hp h2) hs hw h1) fun E σ H ⟨ρ, e, S, r, re, g, h, k⟩ => ?_
  unfold sPut at h
  split at h
  · cases h
  rename_i y S1 ey
  split at h
  · cases h
  rename_i x S2 ex
  split at h
  · cases h
  rename_i kk S3 ek
  split at h
  · cases h
  rename_i S4 ef
  cases h
  refine ⟨ρ, e, S, y, S1, re, g, ey, fun ρ1 H1 vy x1 g1 hy => ⟨ρ1, e, S1, x, S2, re.mono x1, g1, ex, fun ρ2 H2 vx x2 g2 hx => ⟨ρ2, e, S2, kk, S3, re.mono (x1.trans x2), g2, ek, fun ρ3 H3 vk x3 g3 hk => ?_⟩⟩⟩
  exact pm ρ3 H3 S3 x kk y S4 vx vk vy _ g3 (hx.mono x3) hk (hy.mono (x2.trans x3)) ef fun ρ4 H4 x4 g4 => k ρ4 H4 σ (((x1.trans x2).trans x3).trans x4) g4 (re.mono (((x1.trans x2).trans x3).trans x4))
end
end Mini

/-! MiniD: loops, defs and their calls. -/
namespace Mini
open PySem L2

/-! ### for -/
/-- over items that are known -/
def forL (g : XG) (b : XS) : List D → EnvD → Sto → Option Res
  | [], e, S => some (.nx e S)
  | d :: ds, e, S => match g d e with
    | none => none
    | some e1 => match b e1 S with
      | none => none
      | some (.nx e2 S2) => forL g b ds e2 S2
      | some (.ct e2 S2) => forL g b ds e2 S2
      | some (.bk e2 S2) => some (.nx e2 S2)
      | some (.rt d S2) => some (.rt d S2)
/-- over a list of the store, as it stands at each turn: k turns at most, the next is the i-th -/
def forV (n : Nat) (g : XG) (b : XS) : Nat → Nat → EnvD → Sto → Option Res
  | 0, _, _, _ => none
  | k + 1, i, e, S => match lstAt S n with
    | none => none
    | some ds => match ds[i]? with
      | none => some (.nx e S)
      | some d => match g d e with
        | none => none
        | some e1 => match b e1 S with
          | none => none
          | some (.nx e2 S2) => forV n g b k (i + 1) e2 S2
          | some (.ct e2 S2) => forV n g b k (i + 1) e2 S2
          | some (.bk e2 S2) => some (.nx e2 S2)
          | some (.rt d S2) => some (.rt d S2)
/-- what is walked: known items, or a list of the store -/
inductive Walk where
  | fix (ds : List D)
  | live (n : Nat)
abbrev XW := EnvD → Sto → Option (Walk × Sto)
def turns : Nat := 20000000
def sFor (w : XW) (g : XG) (b : XS) : XS := fun e S => match w e S with
  | none => none
  | some (.fix ds, S1) => forL g b ds e S1
  | some (.live n, S1) => forV n g b turns 0 e S1

/-- a walk's promise: the items come one by one -/
def WalkOk (K : PySem.W.Frag) (ρ : List Addr) (H : Hp) (J : It) : Walk → Prop
  | .fix ds => (∀ ρ' H', Ext K ρ H ρ' H' → J.stop ds.length H') ∧ ∀ (i : Nat) (d : D), ds[i]? = some d → ∀ ρ' H', Ext K ρ H ρ' H' → J.go i H' ∧
      ∀ x H2, J.yld i H' x H2 → ∀ S, G K ρ' H' S → Ext K ρ' H' ρ' H2 ∧ G K ρ' H2 S ∧ Rep K ρ' H2 d x
  | .live n => ∃ a, ρ[n]? = some a ∧ J = Itl K a
def rW (K : PySem.W.Frag) (w : XW) : TI := fun σ H R => ∃ ρ e S wk S', RE K ρ H e σ ∧ G K ρ H S ∧ w e S = some (wk, S') ∧ ∀ ρ' H' J, Ext K ρ H ρ' H' → G K ρ' H' S' → WalkOk K ρ' H' J wk → R J H'

section
variable {X : Cx} {st : Stmt} {rest : List Stmt} {e : Expr} {pos : Pos}
theorem for_fix {K : PySem.W.Frag} {J : It} {ds : List D} {ρ0 : List Addr} {H0 : Hp} {g : XG} {b : XS} {E : Ends} {σ : L2.St} {e : EnvD} {S : Sto} {r : Res} (re : RE K ρ0 H0 e σ) (gg : G K ρ0 H0 S) (w : WalkOk K ρ0 H0 J (.fix ds)) (h : forL g b ds e S = some r) (k : After K ρ0 H0 E r) :
    ∃ W : Nat → Nat → L2.St → Hp → Prop, (∃ m, W 0 m σ H0) ∧ ∀ i m σ H, W i m σ H → (J.stop i H ∧ E.nx σ H) ∨ (J.go i H ∧ ∃ N : L2.St → Hp → Prop, (∀ σ' H', N σ' H' → ∃ m', m' < m ∧ W (i + 1) m' σ' H') ∧
      ∀ x H', J.yld i H x H' → rG K g x σ H' fun σ2 H2 => rS K b { E with nx := N, ct := N, bk := E.nx } σ2 H2) := by
  refine ⟨fun i m σ H => m = ds.length - i ∧ i ≤ ds.length ∧ ∃ ρ e S r, Ext K ρ0 H0 ρ H ∧ RE K ρ H e σ ∧ G K ρ H S ∧ forL g b (ds.drop i) e S = some r ∧ After K ρ H E r, ⟨_, rfl, Nat.zero_le _, ρ0, e, S, r, .refl, re, gg, h, k⟩, ?_⟩
  rintro i m σ H ⟨rfl, hi, ρ, e, S, r, x0, re, gg, h, k⟩
  by_cases hlt : i < ds.length
  · obtain ⟨q1, q2⟩ := w.2 i ds[i] (List.getElem?_eq_getElem hlt) ρ H x0
    rw [List.drop_eq_getElem_cons hlt] at h
    have h' : (match g ds[i] e with
      | none => none
      | some e1 => match b e1 S with
        | none => none
        | some (.nx e2 S2) => forL g b (ds.drop (i + 1)) e2 S2
        | some (.ct e2 S2) => forL g b (ds.drop (i + 1)) e2 S2
        | some (.bk e2 S2) => some (.nx e2 S2)
        | some (.rt d S2) => some (.rt d S2)) = some r := h
    split at h'
    · cases h'
    rename_i e1 eg
    refine .inr ⟨q1, fun σ H => ∃ ρ e S r, Ext K ρ0 H0 ρ H ∧ RE K ρ H e σ ∧ G K ρ H S ∧ forL g b (ds.drop (i + 1)) e S = some r ∧ After K ρ H E r, fun σ' H' n => ⟨ds.length - (i + 1), by omega, rfl, hlt, n⟩, fun x H' y => ?_⟩
    obtain ⟨x1, g1, rx⟩ := q2 x H' y S gg
    refine ⟨ρ, e, ds[i], e1, re.mono x1, rx, eg, fun σ1 re1 => ?_⟩
    split at h'
    · cases h'
    · rename_i e2 S2 eb
      exact ⟨ρ, e1, S, .nx e2 S2, re1, g1, eb, fun ρ2 H2 σ2 x2 g2 re2 => ⟨ρ2, e2, S2, r, (x0.trans x1).trans x2, re2, g2, h', k.mono (x1.trans x2)⟩⟩
    · rename_i e2 S2 eb
      exact ⟨ρ, e1, S, .ct e2 S2, re1, g1, eb, fun ρ2 H2 σ2 x2 g2 re2 => ⟨ρ2, e2, S2, r, (x0.trans x1).trans x2, re2, g2, h', k.mono (x1.trans x2)⟩⟩
    · rename_i e2 S2 eb
      cases h'
      exact ⟨ρ, e1, S, .bk e2 S2, re1, g1, eb, fun ρ2 H2 σ2 x2 g2 re2 => k ρ2 H2 σ2 (x1.trans x2) g2 re2⟩
    · rename_i d2 S2 eb
      cases h'
      exact ⟨ρ, e1, S, .rt d2 S2, re1, g1, eb, fun ρ2 H2 v x2 g2 hv => k ρ2 H2 v (x1.trans x2) g2 hv⟩
  · have ei : i = ds.length := by omega
    subst ei
    rw [List.drop_length] at h
    cases h
    exact .inl ⟨w.1 ρ H x0, k ρ H σ .refl gg re⟩
theorem for_live {K : PySem.W.Frag} {n : Nat} {a : Addr} {ρ0 : List Addr} {H0 : Hp} {g : XG} {b : XS} {E : Ends} {σ : L2.St} {e : EnvD} {S : Sto} {r : Res} (t : Nat) (re : RE K ρ0 H0 e σ) (gg : G K ρ0 H0 S) (hn : ρ0[n]? = some a) (h : forV n g b t 0 e S = some r) (k : After K ρ0 H0 E r) :
    ∃ W : Nat → Nat → L2.St → Hp → Prop, (∃ m, W 0 m σ H0) ∧ ∀ i m σ H, W i m σ H → ((Itl K a).stop i H ∧ E.nx σ H) ∨ ((Itl K a).go i H ∧ ∃ N : L2.St → Hp → Prop, (∀ σ' H', N σ' H' → ∃ m', m' < m ∧ W (i + 1) m' σ' H') ∧
      ∀ x H', (Itl K a).yld i H x H' → rG K g x σ H' fun σ2 H2 => rS K b { E with nx := N, ct := N, bk := E.nx } σ2 H2) := by
  refine ⟨fun i m σ H => ∃ ρ e S r, Ext K ρ0 H0 ρ H ∧ RE K ρ H e σ ∧ G K ρ H S ∧ forV n g b m i e S = some r ∧ After K ρ H E r, ⟨_, ρ0, e, S, r, .refl, re, gg, h, k⟩, ?_⟩
  rintro i m σ H ⟨ρ, e, S, r, x0, re, gg, h, k⟩
  cases m with
  | zero => cases h
  | succ m =>
    have h' : (match lstAt S n with
      | none => none
      | some ds => match ds[i]? with
        | none => some (.nx e S)
        | some d => match g d e with
          | none => none
          | some e1 => match b e1 S with
            | none => none
            | some (.nx e2 S2) => forV n g b m (i + 1) e2 S2
            | some (.ct e2 S2) => forV n g b m (i + 1) e2 S2
            | some (.bk e2 S2) => some (.nx e2 S2)
            | some (.rt d S2) => some (.rt d S2)) = some r := h
    split at h'
    · cases h'
    rename_i ds el
    obtain ⟨vs, hs, hr⟩ := gg.lst (pre_get x0.pre hn) el
    split at h'
    · rename_i ed
      cases h'
      exact .inl ⟨⟨vs, hs, by rw [← hr.length]; exact List.getElem?_eq_none_iff.mp ed⟩, k ρ H σ .refl gg re⟩
    rename_i d ed
    obtain ⟨v, hv, rv⟩ := hr.get ed
    split at h'
    · cases h'
    rename_i e1 eg
    refine .inr ⟨⟨vs, v, hs, hv⟩, fun σ H => ∃ ρ e S r, Ext K ρ0 H0 ρ H ∧ RE K ρ H e σ ∧ G K ρ H S ∧ forV n g b m (i + 1) e S = some r ∧ After K ρ H E r, fun σ' H' q => ⟨m, Nat.lt_succ_self m, q⟩, fun x H' y => ?_⟩
    obtain ⟨rfl, y2⟩ := y
    have ex := y2 vs hs
    rw [hv] at ex
    cases ex
    refine ⟨ρ, e, d, e1, re, rv, eg, fun σ1 re1 => ?_⟩
    split at h'
    · cases h'
    · rename_i e2 S2 eb
      exact ⟨ρ, e1, S, .nx e2 S2, re1, gg, eb, fun ρ2 H2 σ2 x2 g2 re2 => ⟨ρ2, e2, S2, r, x0.trans x2, re2, g2, h', k.mono x2⟩⟩
    · rename_i e2 S2 eb
      exact ⟨ρ, e1, S, .ct e2 S2, re1, gg, eb, fun ρ2 H2 σ2 x2 g2 re2 => ⟨ρ2, e2, S2, r, x0.trans x2, re2, g2, h', k.mono x2⟩⟩
    · rename_i e2 S2 eb
      cases h'
      exact ⟨ρ, e1, S, .bk e2 S2, re1, gg, eb, k⟩
    · rename_i d2 S2 eb
      cases h'
      exact ⟨ρ, e1, S, .rt d2 S2, re1, gg, eb, k⟩
theorem rs_for {tg iter : Expr} {body : List Stmt} {w : XW} {g : XG} {b : XS} (hp : PassesOwn (model X.prog X.w) X.A X.env X.xe) (hc : X.calm = true) (hi : PI X tg iter (rW X.K w)) (hg : PG X tg (rG X.K g)) (hb : PSs X body (rS X.K b))
    (hs : ∀ x, foldedSetIterable iter X.env x = pure x := by intro _; rfl) : PS X (.For tg iter body [] pos) (rS X.K (sFor w g b)) := by
  refine PS.imp (ps_for hp hc hi hg hb hs) fun E σ H ⟨ρ, e, S, r, re, gg, h, k⟩ => ?_
  unfold sFor at h
  split at h
  · cases h
  · rename_i ds S1 ew
    refine ⟨ρ, e, S, .fix ds, S1, re, gg, ew, fun ρ1 H1 J x1 g1 wk => ?_⟩
    exact for_fix (re.mono x1) g1 wk h (k.mono x1)
  · rename_i n S1 ew
    refine ⟨ρ, e, S, .live n, S1, re, gg, ew, fun ρ1 H1 J x1 g1 wk => ?_⟩
    obtain ⟨a, ha, rfl⟩ := wk
    exact for_live turns (re.mono x1) g1 ha h (k.mono x1)

/-! what is walked -/
theorem PI.imp {tg iter : Expr} {w w' : TI} (h : PI X tg iter w) (i : ∀ σ H R, w' σ H R → w σ H R) : PI X tg iter w' := ⟨fun pins s σ H R I q => h.run pins s σ H R I (i _ _ _ q)⟩
def wLst (m : XE) : XW := fun e S => match m e S with
  | some (.loc n, S1) => match lstAt S1 n with
    | some _ => some (.live n, S1)
    | none => none
  | _ => none
def wTup (m : XE) : XW := fun e S => match m e S with
  | some (.tup ds, S1) => some (.fix ds, S1)
  | _ => none
def rngD (lo hi : Int) : List D := (List.range (hi - lo).toNat).map fun (k : Nat) => .int (lo + k)
def smallI (i : Int) : Bool := decide (-1000000 ≤ i) && decide (i ≤ 1000000)
def wRng1 (m : XE) : XW := fun e S => match m e S with
  | some (.int j, S1) => if smallI j = true then some (.fix (rngD 0 j), S1) else none
  | _ => none
def wRng2 (m n : XE) : XW := fun e S => match m e S with
  | some (.int i, S1) => match n e S1 with
    | some (.int j, S2) => if (smallI i && smallI j) = true then some (.fix (rngD i j), S2) else none
    | _ => none
  | _ => none
theorem rw_lst {tg l : Expr} {m : XE} (hl : PE X l (rE X.K m)) : PI X tg l (rW X.K (wLst m)) := by
  refine PI.imp (pi_list hl) fun σ H R ⟨ρ, e, S, wk, S', re, g, h, k⟩ => ?_
  unfold wLst at h
  split at h
  · rename_i n S1 em
    split at h
    · rename_i ds el
      cases h
      refine ⟨ρ, e, S, _, _, re, g, em, fun ρ1 H1 v x1 g1 hv => ?_⟩
      cases hv with
      | loc hn =>
        obtain ⟨vs, hs, _⟩ := g1.lst hn el
        exact ⟨_, rfl, ⟨vs, hs⟩, k ρ1 H1 _ x1 g1 ⟨_, hn, rfl⟩⟩
    · cases h
  · cases h
theorem rw_tup {tg l : Expr} {m : XE} (hl : PE X l (rE X.K m)) : PI X tg l (rW X.K (wTup m)) := by
  refine PI.imp (pi_tup hl) fun σ H R ⟨ρ, e, S, wk, S', re, g, h, k⟩ => ?_
  unfold wTup at h
  split at h
  · rename_i ds S1 em
    cases h
    refine ⟨ρ, e, S, _, _, re, g, em, fun ρ1 H1 v x1 g1 hv => ?_⟩
    cases hv with
    | tup hs hr =>
      refine ⟨_, rfl, ⟨_, hs⟩, k ρ1 H1 _ x1 g1 ⟨fun ρ2 H2 x2 => ⟨_, x2.tup _ _ hs, by rw [hr.length]; exact Nat.le_refl _⟩, fun i d hd ρ2 H2 x2 => ?_⟩⟩
      obtain ⟨v, hv, rv⟩ := hr.get hd
      refine ⟨⟨_, v, x2.tup _ _ hs, hv⟩, fun x H3 y S3 g3 => ?_⟩
      obtain ⟨rfl, y2⟩ := y
      have ex := y2 _ (x2.tup _ _ hs)
      rw [hv] at ex
      cases ex
      exact ⟨.refl, g3, rv.mono x2⟩
  · cases h
theorem rng_ok {K : PySem.W.Frag} {ρ : List Addr} {H : Hp} {lo hi : Int} : WalkOk K ρ H (Itr lo (hi - lo).toNat) (.fix (rngD lo hi)) := by
  have hl : (rngD lo hi).length = (hi - lo).toNat := by simp [rngD]
  refine ⟨fun ρ' H' _ => by rw [hl]; exact Nat.le_refl _, fun i d hd ρ' H' x => ?_⟩
  have hi' : i < (hi - lo).toNat := hl ▸ (List.getElem?_eq_some_iff.mp hd).1
  have ed : d = .int (lo + (i : Int)) := by
    unfold rngD at hd
    rw [List.getElem?_map, List.getElem?_range hi'] at hd
    cases hd
    rfl
  subst ed
  refine ⟨hi', fun v H2 y S g => ?_⟩
  obtain ⟨rfl, rfl⟩ := y
  exact ⟨.refl, g, .int _⟩
theorem small_b {i : Int} (h : smallI i = true) : -(2 ^ 62) ≤ i ∧ i < 2 ^ 62 := by
  unfold smallI at h
  simp only [Bool.and_eq_true, decide_eq_true_eq] at h
  omega
theorem rw_rng1 {tg a : Expr} {m : XE} {p : Pos} (hg : Gl X "range") (hm : X.mg "range" = none) (ha : PE X a (rE X.K m)) (hs : starEach [a] X.env = [(false, eval a X.env)] := by rfl) : PI X tg (.Call (.Name "range" p) [a] [] pos) (rW X.K (wRng1 m)) := by
  refine PI.imp (pi_range1 hg hm (pa_cons ha pa_nil hs) hs) fun σ H R ⟨ρ, e, S, wk, S', re, g, h, k⟩ => ?_
  unfold wRng1 at h
  split at h
  · rename_i j S1 em
    split at h
    · rename_i hsm
      cases h
      refine ⟨ρ, e, S, _, _, re, g, em, fun ρ1 H1 v x1 g1 hv => ?_⟩
      cases hv
      obtain ⟨b1, b2⟩ := small_b hsm
      have q := k ρ1 H1 (Itr 0 (j - 0).toNat) x1 g1 rng_ok
      rw [Int.sub_zero] at q
      exact ⟨j, rfl, b1, b2, q⟩
    · cases h
  · cases h
theorem rw_rng2 {tg a b : Expr} {m n : XE} {p : Pos} (hg : Gl X "range") (hm : X.mg "range" = none) (ha : PE X a (rE X.K m)) (hb : PE X b (rE X.K n)) (hs : starEach [a, b] X.env = [(false, eval a X.env), (false, eval b X.env)] := by rfl) (hs2 : starEach [b] X.env = [(false, eval b X.env)] := by rfl) :
    PI X tg (.Call (.Name "range" p) [a, b] [] pos) (rW X.K (wRng2 m n)) := by
  refine PI.imp (pi_range2 hg hm (pa_cons ha (pa_cons hb pa_nil hs2) (by rw [hs, hs2])) hs hs2) fun σ H R ⟨ρ, e, S, wk, S', re, g, h, k⟩ => ?_
  unfold wRng2 at h
  split at h
  · rename_i i S1 em
    split at h
    · rename_i j S2 en
      split at h
      · rename_i hsm
        cases h
        rw [Bool.and_eq_true] at hsm
        refine ⟨ρ, e, S, _, _, re, g, em, fun ρ1 H1 v x1 g1 hv => ⟨ρ1, e, _, _, _, re.mono x1, g1, en, fun ρ2 H2 v2 x2 g2 hv2 => ?_⟩⟩
        cases hv
        cases hv2
        obtain ⟨b1, b2⟩ := small_b hsm.1
        obtain ⟨b3, b4⟩ := small_b hsm.2
        exact ⟨i, j, rfl, ⟨b1, b2, b3, b4⟩, k ρ2 H2 _ (x1.trans x2) g2 rng_ok⟩
      · cases h
    · cases h
  · cases h

/-! ### while -/
def sWhlN (c : XB) (b : XS) : Nat → EnvD → Sto → Option Res
  | 0, _, _ => none
  | k + 1, e, S => match c e S with
    | none => none
    | some (false, S1) => some (.nx e S1)
    | some (true, S1) => match b e S1 with
      | none => none
      | some (.nx e2 S2) => sWhlN c b k e2 S2
      | some (.ct e2 S2) => sWhlN c b k e2 S2
      | some (.bk e2 S2) => some (.nx e2 S2)
      | some (.rt d S2) => some (.rt d S2)
def sWhl (c : XB) (b : XS) : XS := sWhlN c b turns
theorem whl_of {K : PySem.W.Frag} {mc : XB} {b : XS} (t : Nat) : ∀ E σ H, rS K (sWhlN mc b t) E σ H → tWhile (rB K mc) (rS K b) E σ H := by
  intro E σ H h
  refine ⟨fun m σ H => rS K (sWhlN mc b m) E σ H, ⟨t, h⟩, ?_⟩
  intro m σ H ⟨ρ, e, S, r, re, g, h, k⟩
  cases m with
  | zero => cases h
  | succ m =>
    have h' : (match mc e S with
      | none => none
      | some (false, S1) => some (.nx e S1)
      | some (true, S1) => match b e S1 with
        | none => none
        | some (.nx e2 S2) => sWhlN mc b m e2 S2
        | some (.ct e2 S2) => sWhlN mc b m e2 S2
        | some (.bk e2 S2) => some (.nx e2 S2)
        | some (.rt d S2) => some (.rt d S2)) = some r := h
    split at h'
    · cases h'
    · rename_i S1 ec
      cases h'
      refine ⟨ρ, e, S, false, _, re, g, ec, fun ρ1 H1 x1 g1 => ?_⟩
      refine iteF ?_
      exact k ρ1 H1 σ x1 g1 (re.mono x1)
    · rename_i S1 ec
      refine ⟨ρ, e, S, true, _, re, g, ec, fun ρ1 H1 x1 g1 => ?_⟩
      refine iteT ⟨fun σ H => rS K (sWhlN mc b m) E σ H, fun σ' H' q => ⟨m, Nat.lt_succ_self m, q⟩, ?_⟩
      split at h'
      · cases h'
      · rename_i e2 S2 eb
        exact ⟨ρ1, e, S1, .nx e2 S2, re.mono x1, g1, eb, fun ρ2 H2 σ2 x2 g2 re2 => ⟨ρ2, e2, S2, r, re2, g2, h', k.mono (x1.trans x2)⟩⟩
      · rename_i e2 S2 eb
        exact ⟨ρ1, e, S1, .ct e2 S2, re.mono x1, g1, eb, fun ρ2 H2 σ2 x2 g2 re2 => ⟨ρ2, e2, S2, r, re2, g2, h', k.mono (x1.trans x2)⟩⟩
      · rename_i e2 S2 eb
        cases h'
        exact ⟨ρ1, e, S1, .bk e2 S2, re.mono x1, g1, eb, k.mono x1⟩
      · rename_i d2 S2 eb
        cases h'
        exact ⟨ρ1, e, S1, .rt d2 S2, re.mono x1, g1, eb, k.mono x1⟩
theorem rs_whl {c : Expr} {body : List Stmt} {mc : XB} {b : XS} (hp : PassesOwn (model X.prog X.w) X.A X.env X.xe) (hc : PT X c (rB X.K mc)) (hb : PSs X body (rS X.K b)) : PS X (.While c body [] pos) (rS X.K (sWhl mc b)) :=
  PS.imp (ps_while hp hc hb) (whl_of turns)
end
end Mini

/-! MiniE: defs and their calls, the law's end. -/
namespace Mini
open PySem PySem.Spec PyProof.Rows L2

/-- room for n calls, one in another, each of the cost c -/
structure Rm (c n : Nat) (A : Around) : Prop where
  hd : A.handled = none
  dp : A.depth + c * n + 8 < recursionLimit
  un : A.units + 4 * (c * n) + 300 < cLine
theorem Rm.mono {c m n : Nat} {A : Around} (r : Rm c n A) (h : m ≤ n) : Rm c m A := by
  have hm : c * m ≤ c * n := Nat.mul_le_mul_left c h
  exact ⟨r.hd, by have := r.dp; omega, by have := r.un; omega⟩
theorem Rm.step {c n : Nat} {A : Around} (hc : 1 ≤ c) (r : Rm c (n + 1) A) (env : Env) : Rm c n (A.deeper env) := by
  have hm : c * (n + 1) = c * n + c := Nat.mul_succ c n
  refine ⟨r.hd, ?_, ?_⟩
  · have := r.dp
    show A.depth + 1 + c * n + 8 < _
    omega
  · have := r.un
    show A.units + 3 + 4 * (c * n) + 300 < _
    omega
theorem Rm.un64 {c n : Nat} {A : Around} (r : Rm c n A) : A.units + 64 < cLine := by have := r.un; omega
theorem Rm.un250 {c n : Nat} {A : Around} (r : Rm c n A) : A.units + 250 < cLine := by have := r.un; omega
theorem Rm.un1 {c n : Nat} {A : Around} (r : Rm c n A) : A.units + 1 < cLine := by have := r.un; omega
theorem Rm.un0 {c n : Nat} {A : Around} (r : Rm c n A) : A.units < cLine := by have := r.un; omega

/-- a def's promise: what m gives for data in the store -/
structure FnAt (P : Program) (w : World) (K : PySem.W.Frag) (mg : Str → Option Value) (base : Heap) (c n : Nat) (f : Addr) (fd : FuncData) (ps : List Str) (m : List D → Sto → Option (D × Sto)) : Prop where
  run : ∀ (A : Around) (outer : List Env) (s : Shared) (H : Hp) (args : Args) (us : List Value) (vs : List V) (ds : List D) (ρ : List Addr) (S S' : Sto) (d : D) (Q : VK),
    Rm c n A → Env0 P w K mg base A outer s H → BindsTo s fd args (ps.zip us) → Vals vs us → Reps K ρ H ds vs → G K ρ H S → ds.length = ps.length → m ds S = some (d, S') →
    (∀ ρ' H' v, Ext K ρ H ρ' H' → G K ρ' H' S' → Rep K ρ' H' d v → Q v H') →
    codeAny (model P w) A (.call (.ref f) args) (CR CX0 outer P w H s Q E0) s
theorem FnAt.none {P : Program} {w : World} {K : PySem.W.Frag} {mg : Str → Option Value} {base : Heap} {c n : Nat} {f : Addr} {fd : FuncData} {ps : List Str} : FnAt P w K mg base c n f fd ps fun _ _ => none :=
  ⟨fun _ _ _ _ _ _ _ _ _ _ _ _ _ _ _ _ _ _ _ _ h => nomatch h⟩

/-- the names at the entry of a body -/
def entry (k : Nat) (ds : List D) : EnvD := ds.map some ++ List.replicate (k - ds.length) none
/-- what a body gives -/
def ends : Option Res → Option (D × Sto)
  | some (.rt d S) => some (d, S)
  | some (.nx _ S) => some (.non, S)
  | _ => none
theorem re_entry {K : PySem.W.Frag} {ρ : List Addr} {H : Hp} {N : List Str} {ds : List D} {vs : List V} (r : Reps K ρ H ds vs) : RE K ρ H (entry N.length ds) (L2.start N vs) := by
  have hl := r.length
  refine ⟨?_, fun i d h => ?_⟩
  · unfold entry L2.start
    rw [List.length_append, List.length_append, List.length_map, List.length_map, List.length_replicate, List.length_replicate, hl]
  · unfold entry at h
    by_cases hi : i < ds.length
    · rw [List.getElem?_append_left (by rw [List.length_map]; exact hi), List.getElem?_map] at h
      cases q : ds[i]? with
      | none => rw [q] at h; cases h
      | some d' =>
        rw [q] at h
        cases h
        obtain ⟨v, hv, rv⟩ := r.get q
        refine ⟨v, ?_, rv⟩
        unfold L2.start
        rw [List.getElem?_append_left (by rw [List.length_map]; omega), List.getElem?_map, hv]
        rfl
    · rw [List.getElem?_append_right (by rw [List.length_map]; omega), List.getElem?_replicate] at h
      split at h <;> cases h
section
variable {P : Program} {w : World} {K : PySem.W.Frag} {mg : Str → Option Value} {base : Heap} {c n : Nat}
/-- THE RULE for a def, by its body -/
theorem fnAt_of {x qual : Str} {st : Stmt} {f : Addr} {fd : FuncData} {N ps : List Str} {b : XS} (hc : 1 ≤ c) (F : Fun K x qual st f fd) (S : FnScope N ps (defScope st))
    (hb : ∀ (cdv : Value) (A : Around) (outer : List Env) (s : Shared) (H : Hp) (E : XK), Rm c n (A.deeper (envOfC qual (defScope st) s.heap.objs.size f cdv)) →
      PSs (cxOf CX0 P w K mg base N qual (defScope st) f cdv A outer s H E).nox (defBody st) (rS K b)) :
    FnAt P w K mg base c (n + 1) f fd ps fun ds S => ends (b (entry N.length ds) S) := by
  obtain ⟨oc, od, kV, doc, pm, an, cdv, ct, osl, rfl, lk, hcd⟩ := F.ex
  refine ⟨fun A outer s H args us vs ds ρ S0 S1 d Q hr e0 hbd r rd g hlen hm k => ?_⟩
  have hvl : vs.length = ps.length := by rw [← hlen]; exact rd.length.symm
  have KX : K.In s.heap := e0.mod.kin.keeps fun a o h => (e0.bs a o h).1
  have lim : s.heap.NoLimit := e0.mod.nolimit.keeps fun a o h => (e0.bs a o h).1
  have kinds : ∀ y ∈ ps.zip us, (defScope st).names.lookup y.1 = some .local ∨ ((defScope st).names.lookup y.1 = some .cell ∧ ((cellsFrom (s.heap.objs.size + 1) (defScope st).names []).lookup y.1).isSome = true) := fun ⟨z, v⟩ hy => by
    rcases S.par z (List.of_mem_zip hy).1 with q | q
    · exact .inl q
    · exact .inr ⟨q, PySem.W.cellsFrom_some _ _ _ (.inl q)⟩
  refine codeAny_call_function (by have := hr.dp; omega) (KX _ _ lk) rfl S.co S.gen rfl (PySem.W.codeRec_of KX hcd) (hbd _ _ _ _ ?_)
  refine wpAny_newFunctionEnv_cells S.kind kinds fun env he s1 x => ?_
  subst he
  refine ⟨lim.keeps x.toInCall.keep, codeAny_func ?_⟩
  have body := (hb cdv A outer s H E0 (hr.step hc _)).nox
  have I : Inv (cxOf CX0 P w K mg base N qual (defScope st) f cdv A outer s H E0) [] (L2.start N vs) H s1 := inv_start S hr.hd e0 hvl r x
  have rr : ∃ res, b (entry N.length ds) S0 = some res ∧ After K ρ H { nx := fun _ H' => Q .non H', rt := Q } res := by
    cases q : b (entry N.length ds) S0 with
    | none => rw [q] at hm; cases hm
    | some res =>
      rw [q] at hm
      refine ⟨res, rfl, ?_⟩
      cases res with
      | rt d' S' => cases hm; exact k
      | nx e' S' => cases hm; exact fun ρ' H' σ' x' g' _ => k ρ' H' .non x' g' .non
      | bk _ _ => cases hm
      | ct _ _ => cases hm
  obtain ⟨res, hres, aft⟩ := rr
  refine wpAny_mono (body.run [] s1 (L2.start N vs) H { nx := fun _ H' => Q .non H', rt := Q } I ⟨ρ, _, S0, res, re_entry rd, g, hres, aft⟩) (fun fl s' hs => ?_) fun e s' hs => hs
  have fin : ∀ {σ' : L2.St} {H' : Hp} {v : V} {u : Value}, Inv (cxOf CX0 P w K mg base N qual (defScope st) f cdv A outer s H E0) [] σ' H' s' → RelV v u → Q v H' → CE outer P w H s Q u s' :=
    fun {σ' H' v u} J rv q => ⟨v, H', J.os, J.bare, J.base, J.hok, rv, q⟩
  cases fl with
  | ret u => obtain ⟨v, σ', H', J, rv, q⟩ := hs; exact fin J rv q
  | next => obtain ⟨σ', H', J, q⟩ := hs; exact fin (v := V.non) (u := Value.none) J rfl q
  | brk => obtain ⟨_, _, _, q⟩ := hs; exact q.elim
  | cont => obtain ⟨_, _, _, q⟩ := hs; exact q.elim
/-- what a def's name stands for -/
structure Known (K : PySem.W.Frag) (mg : Str → Option Value) (x : Str) (f : Addr) (fd : FuncData) (ps : List Str) : Prop where
  at_ : mg x = some (.ref f)
  kp : PySem.W.keepIn K (.ref f) = true
  bd : Binds K fd ps []
end
section
variable {X : Cx} {c n : Nat} {f : Addr} {fd : FuncData} {ps : List Str} {m : List D → Sto → Option (D × Sto)} {x : Str} {p pos : Pos} {e : Expr} {es : List Expr} {l : XL}
/-- a call's m asks for the right number of arguments -/
def xCall (k : Nat) (m : List D → Sto → Option (D × Sto)) (l : XL) : XE := fun e S => match l e S with
  | none => none
  | some (ds, S1) => if ds.length = k then m ds S1 else none
theorem r_call (F : FnAt X.prog X.w X.K X.mg X.base c n f fd ps m) (kn : Known X.K X.mg x f fd ps) (hr : Rm c n X.A) (hg : Gl X x) (k : Nat) (hk : ps.length = k) (ha : PA X (e :: es) (rL X.K l)) (hdb : (x == ("__debug__" : Str)) = false := by decide)
    (he : starEach (e :: es) X.env = (false, eval e X.env) :: starEach es X.env := by rfl) (hpl : (backTo pos (starEach es X.env)).any (·.1) = false := by rfl) :
    PE X (.Call (.Name x p) (e :: es) [] pos) (rE X.K (xCall k m l)) := by
  refine ⟨fun pins s σ H Q I ⟨ρ, en, S, d, S', re, g, h, kk⟩ => ?_⟩
  unfold xCall at h
  split at h
  · cases h
  rename_i ds S1 el
  by_cases hl : ds.length = k
  case neg => rw [if_neg hl] at h; cases h
  rw [if_pos hl] at h
  refine wpAny_Call_Name_kw (ld_glob I hg kn.at_ ?_ hdb)
  refine PySem.W.callWith_K (h₀ := X.base) I.ok.mod.kin kn.kp (thn (ha.run pos pins s σ H (fun vs H1 => ∃ ρ1, Ext X.K ρ H ρ1 H1 ∧ G X.K ρ1 H1 S1 ∧ Reps X.K ρ1 H1 ds vs) I ⟨ρ, en, S, ds, S1, re, g, el, fun ρ1 H1 vs x1 g1 r1 => ⟨ρ1, x1, g1, r1⟩⟩) fun us s1 ⟨vs, H1, I1, r, ρ1, x1, g1, r1⟩ => ⟨I1.kIn, ?_⟩) he hpl
  have hus : (us ++ []).length = ps.length := by
    rw [List.append_nil, ← r.length, ← r1.length, hl, hk]
  refine wpAny_call (codeAny_mono (F.run X.A X.stack s1 H1 ⟨us, []⟩ us vs ds ρ1 S1 S' d Q hr I1.env0 (by have q := kn.bd s1 us I1.kIn hus; rw [List.append_nil] at q; exact q) r r1 g1 (hl.trans hk.symm) h fun ρ2 H2 v x2 g2 hv => kk ρ2 H2 v (x1.trans x2) g2 hv) fun res s2 hq => ?_)
  cases res with
  | error _ => exact hq.elim
  | ok fl =>
    cases fl with
    | ret u => exact I1.after hq
    | next => exact hq.elim
    | brk => exact hq.elim
    | cont => exact hq.elim
theorem r_call0 (F : FnAt X.prog X.w X.K X.mg X.base c n f fd [] m) (kn : Known X.K X.mg x f fd []) (hr : Rm c n X.A) (hg : Gl X x) (hdb : (x == ("__debug__" : Str)) = false := by decide) :
    PE X (.Call (.Name x p) [] [] pos) (rE X.K (xCall 0 m xNil)) := by
  refine ⟨fun pins s σ H Q I ⟨ρ, en, S, d, S', re, g, h, kk⟩ => ?_⟩
  have h' : m [] S = some (d, S') := h
  refine wpAny_Call_Name_kw (ld_glob I hg kn.at_ ?_ hdb)
  refine PySem.W.callWith_K0 I.kIn kn.kp ?_
  refine wpAny_call (codeAny_mono (F.run X.A X.stack s H ⟨[], []⟩ [] [] [] ρ S S' d Q hr I.env0 (kn.bd s [] I.kIn rfl) .nil .nil g rfl h' kk) fun res s2 hq => ?_)
  cases res with
  | error _ => exact hq.elim
  | ok fl =>
    cases fl with
    | ret u => exact I.after hq
    | next => exact hq.elim
    | brk => exact hq.elim
    | cont => exact hq.elim
end

/-! ### a promise by a plainer function: what was made on the way is let go -/
mutual
/-- no place from k on -/
def D.low (k : Nat) : D → Prop
  | .tup ds => D.lows k ds
  | .loc n => n < k
  | _ => True
def D.lows (k : Nat) : List D → Prop
  | [] => True
  | d :: ds => D.low k d ∧ D.lows k ds
end
def O.low (k : Nat) : O → Prop
  | .lst ds => D.lows k ds
  | .frz ds => D.lows k ds
mutual
theorem Rep.cut {K : PySem.W.Frag} {ρ : List Addr} {H : Hp} {k : Nat} : ∀ {d : D} {v : V}, D.low k d → Rep K ρ H d v → Rep K (ρ.take k) H d v
  | _, _, _, .non => .non
  | _, _, _, .bl b => .bl b
  | _, _, _, .int i => .int i
  | _, _, _, .str z => .str z
  | _, _, l, .tup h r => .tup h (Reps.cut l r)
  | .loc n, _, l, .loc h => .loc (by rw [List.getElem?_take_of_lt l]; exact h)
theorem Reps.cut {K : PySem.W.Frag} {ρ : List Addr} {H : Hp} {k : Nat} : ∀ {ds : List D} {vs : List V}, D.lows k ds → Reps K ρ H ds vs → Reps K (ρ.take k) H ds vs
  | _, _, _, .nil => .nil
  | _, _, l, .cons h r => .cons (Rep.cut l.1 h) (Reps.cut l.2 r)
end
mutual
theorem Rep.low {K : PySem.W.Frag} {ρ : List Addr} {H : Hp} : ∀ {d : D} {v : V}, Rep K ρ H d v → D.low ρ.length d
  | _, _, .non => trivial
  | _, _, .bl b => trivial
  | _, _, .int i => trivial
  | _, _, .str z => trivial
  | _, _, .tup h r => Reps.low r
  | _, _, .loc h => (List.getElem?_eq_some_iff.mp h).1
theorem Reps.low {K : PySem.W.Frag} {ρ : List Addr} {H : Hp} : ∀ {ds : List D} {vs : List V}, Reps K ρ H ds vs → D.lows ρ.length ds
  | _, _, .nil => trivial
  | _, _, .cons h r => ⟨Rep.low h, Reps.low r⟩
end
theorem RepO.cut {K : PySem.W.Frag} {ρ : List Addr} {H : Hp} {a : Addr} {k : Nat} {q : O} (l : O.low k q) (h : RepO K ρ H a q) : RepO K (ρ.take k) H a q := by
  cases q with
  | lst ds =>
    obtain ⟨u, h1, h2⟩ := h
    cases u with
    | lst vs => exact ⟨.lst vs, h1, Reps.cut l h2⟩
    | _ => exact h2.elim
  | frz ds =>
    obtain ⟨vs, h1, h2⟩ := h
    exact ⟨vs, h1, Reps.cut l h2⟩
theorem RepO.low {K : PySem.W.Frag} {ρ : List Addr} {H : Hp} {a : Addr} {q : O} (h : RepO K ρ H a q) : O.low ρ.length q := by
  cases q with
  | lst ds =>
    obtain ⟨u, h1, h2⟩ := h
    cases u with
    | lst vs => exact Reps.low h2
    | _ => exact h2.elim
  | frz ds =>
    obtain ⟨vs, h1, h2⟩ := h
    exact Reps.low h2
/-- m' is what m gives, but for new objects that nothing holds -/
def Plain (m' m : List D → Sto → Option (D × Sto)) : Prop := ∀ ds S d S', m' ds S = some (d, S') → ∃ T, m ds S = some (d, S' ++ T) ∧ S.length ≤ S'.length ∧ (D.low S.length d ∨ D.low S'.length d) ∧ ∀ (i : Nat) (o : O), S'[i]? = some o → S[i]? = some o ∨ O.low S'.length o
theorem D.lows_of {k : Nat} : ∀ {ds : List D}, (∀ d ∈ ds, D.low k d) → D.lows k ds
  | [], _ => trivial
  | _ :: _, h => ⟨h _ (List.mem_cons_self ..), D.lows_of fun d q => h d (List.mem_cons_of_mem _ q)⟩
mutual
theorem D.low_mono {j k : Nat} (h : j ≤ k) : ∀ {d : D}, D.low j d → D.low k d
  | .non, _ => trivial
  | .bl _, _ => trivial
  | .int _, _ => trivial
  | .str _, _ => trivial
  | .tup _, l => D.lows_mono h l
  | .loc _, l => Nat.lt_of_lt_of_le l h
theorem D.lows_mono {j k : Nat} (h : j ≤ k) : ∀ {ds : List D}, D.lows j ds → D.lows k ds
  | [], _ => trivial
  | _ :: _, l => ⟨D.low_mono h l.1, D.lows_mono h l.2⟩
end
theorem O.low_mono {j k : Nat} (h : j ≤ k) : ∀ {o : O}, O.low j o → O.low k o
  | .lst _, l => D.lows_mono h l
  | .frz _, l => D.lows_mono h l
theorem G.cut {K : PySem.W.Frag} {ρ : List Addr} {H : Hp} {S T : Sto} (g : G K ρ H (S ++ T)) (h : ∀ (i : Nat) (o : O), S[i]? = some o → O.low S.length o) : G K (ρ.take S.length) H S := by
  have hl := g.len
  rw [List.length_append] at hl
  have look : ∀ (i : Nat) (a : Addr), (ρ.take S.length)[i]? = some a → ρ[i]? = some a := fun i a q => by
    have hi : i < S.length := by
      have := (List.getElem?_eq_some_iff.mp q).1
      rw [List.length_take] at this
      omega
    rw [List.getElem?_take_of_lt hi] at q
    exact q
  have put : ∀ (i : Nat) (o : O), S[i]? = some o → (S ++ T)[i]? = some o := fun i o q => pre_get (List.prefix_append S T) q
  refine ⟨by rw [List.length_take]; omega, fun i j a o q h1 h2 h3 h4 m1 m2 => g.nd i j a o q (look i a h1) (look j a h2) (put i o h3) (put j q h4) m1 m2, fun i a o h1 h2 => ?_⟩
  exact (g.ob i a o (look i a h1) (put i o h2)).cut (h i o h2)
theorem FnAt.plain {P : Program} {w : World} {K : PySem.W.Frag} {mg : Str → Option Value} {base : Heap} {c n : Nat} {f : Addr} {fd : FuncData} {ps : List Str} {m m' : List D → Sto → Option (D × Sto)} (F : FnAt P w K mg base c n f fd ps m) (h : Plain m' m) : FnAt P w K mg base c n f fd ps m' := by
  refine ⟨fun A outer s H args us vs ds ρ S S' d Q hr e0 hb r rd g hl hm k => ?_⟩
  obtain ⟨T, h1, h2, h3, h4⟩ := h ds S d S' hm
  refine F.run A outer s H args us vs ds ρ S (S' ++ T) d Q hr e0 hb r rd g hl h1 fun ρ' H' v x g' hv => ?_
  have gl := g.len
  have low : ∀ (i : Nat) (o : O), S'[i]? = some o → O.low S'.length o := fun i o q => by
    rcases h4 i o q with z | z
    · have hi := (List.getElem?_eq_some_iff.mp z).1
      have := (g.ob i _ o (List.getElem?_eq_getElem (by omega : i < ρ.length)) z).low
      exact O.low_mono (by omega) this
    · exact z
  have dl : D.low S'.length d := by
    rcases h3 with z | z
    · exact D.low_mono h2 z
    · exact z
  refine k (ρ'.take S'.length) H' v ⟨?_, x.tup⟩ (g'.cut low) (hv.cut dl)
  obtain ⟨t, e⟩ := x.pre
  refine ⟨t.take (S'.length - ρ.length), ?_⟩
  have e2 : S'.length = ρ.length + (S'.length - ρ.length) := by rw [gl]; exact (Nat.add_sub_cancel' h2).symm
  rw [← e]
  conv => rhs; rw [e2]
  exact (List.take_length_add_append _).symm

/-! ### the end: law(script) -/
/-- the promise of the law in the layer's own form -/
def spLaw (K : PySem.W.Frag) (n : Nat) : Sp := fun vs H Q _ => ∃ (a : Addr) (ns : List Int), vs = [.ref a] ∧ SqL K H a (ns.map V.int) ∧ (∀ xs, H a ≠ some (.lst xs)) ∧ ns.length ≤ n ∧ ∀ H', Q (.bl true) H'
theorem reps_ints {K : PySem.W.Frag} {ρ : List Addr} {H : Hp} : ∀ ns : List Int, Reps K ρ H (ns.map D.int) (ns.map V.int)
  | [] => .nil
  | i :: r => .cons (.int i) (reps_ints r)
theorem law_ok {P : Program} {w : World} {K : PySem.W.Frag} {mg : Str → Option Value} {base : Heap} {c n k N : Nat} {f : Addr} {fd : FuncData} {x : Str} {m : List D → Sto → Option (D × Sto)} (F : FnAt P w K mg base c n f fd [x] m) (h1 : c * n ≤ 3 * k) (h3 : 4 * (c * n) + 100 ≤ 16 * k)
    (hm : ∀ ns : List Int, ns.length ≤ N → ∃ S', m [.loc 0] [.frz (ns.map D.int)] = some (.bl true, S')) : FnOk P w K mg base CX0 (k + 1) f fd [x] (spLaw K N) := by
  refine ⟨fun vs H Q E h => ?_, fun A outer s H args us vs Q E hr e0 hb r h => ?_⟩
  · obtain ⟨a, ns, rfl, _⟩ := h
    rfl
  obtain ⟨a, ns, rfl, hs, hns, hl, q⟩ := h
  obtain ⟨S', hS⟩ := hm ns hl
  have rm : Rm c n A := ⟨hr.hd, by have := hr.dp; omega, by have := hr.un; omega⟩
  have g : G K [a] H [.frz (ns.map D.int)] := by
    refine ⟨rfl, fun i j b o q h1 h2 h3 h4 m1 m2 => ?_, fun i b o h1 h2 => ?_⟩
    · have e3 := List.mem_of_getElem? h3
      rw [List.mem_singleton] at e3
      subst e3
      cases m1
    · have e1 := List.mem_of_getElem? h1
      have e2 := List.mem_of_getElem? h2
      rw [List.mem_singleton] at e1 e2
      subst e1 e2
      refine ⟨ns.map V.int, ?_, reps_ints ns⟩
      rcases hs with (z | ⟨u, z⟩) | z
      · exact absurd z (hns _)
      · exact .inl ⟨u, z⟩
      · exact .inr (.inr z)
  refine codeAny_mono (F.run A outer s H args us [.ref a] [.loc 0] [a] _ S' (.bl true) Q rm e0 hb r (.cons (.loc rfl) .nil) g rfl hS fun ρ' H' v _ _ hv => by cases hv; exact q H') fun res s2 hq => ?_
  cases res with
  | error _ => exact hq.elim
  | ok fl => exact hq
end Mini

/-! MiniF: operators, built-ins and methods by plain functions. -/
namespace Mini
open PySem PySem.Spec PyProof.Rows L2

/-! ### numbers -/
def fI (g : Int → Int → Option D) (x y : D) (S : Sto) : Option (D × Sto) := match x, y with
  | .int i, .int j => match g i j with
    | some d => some (d, S)
    | none => none
  | _, _ => none
theorem opm_I {K : PySem.W.Frag} {g : Int → Int → Option D} {C : Int → Int → Prop} {k : Int → Int → V} (h : ∀ i j d, g i j = some d → C i j ∧ ∀ ρ H, Rep K ρ H d (k i j)) : OpM K (fI g) (rI C k) := by
  refine OpM.pure fun ρ H S x y d S' vx vy Q gg hx hy e => ?_
  unfold fI at e
  split at e
  · rename_i i j
    split at e
    · rename_i d' eg
      cases e
      cases hx
      cases hy
      obtain ⟨h1, h2⟩ := h i j _ eg
      exact ⟨rfl, fun q => ⟨i, j, rfl, rfl, h1, q _ (h2 ρ H)⟩⟩
    · cases e
  · cases e
theorem opm_I0 {K : PySem.W.Frag} {g : Int → Int → Option D} {k : Int → Int → V} (h : ∀ i j d, g i j = some d → ∀ ρ H, Rep K ρ H d (k i j)) : OpM K (fI g) (rI0 k) := by
  refine OpM.pure fun ρ H S x y d S' vx vy Q gg hx hy e => ?_
  unfold fI at e
  split at e
  · rename_i i j
    split at e
    · rename_i d' eg
      cases e
      cases hx
      cases hy
      exact ⟨rfl, fun q => ⟨i, j, rfl, rfl, q _ (h i j _ eg ρ H)⟩⟩
    · cases e
  · cases e
def small64 (i : Int) : Bool := decide (-(2 ^ 64) < i) && decide (i < 2 ^ 64)
def fSub : D → D → Sto → Option (D × Sto) := fI fun i j => some (.int (i - j))
def fMul : D → D → Sto → Option (D × Sto) := fI fun i j => if (small64 i || small64 j) = true then some (.int (i * j)) else none
def fDiv : D → D → Sto → Option (D × Sto) := fI fun i j => if (decide (0 < j) && decide (j < 1073741824)) = true then some (.int (i / j)) else none
def fMod : D → D → Sto → Option (D × Sto) := fI fun i j => if decide (0 < j) = true then some (.int (i % j)) else none
def fPow : D → D → Sto → Option (D × Sto) := fI fun i j => if (decide (0 ≤ j) && decide (j ≤ 1000000) && decide (i.natAbs < 2 ^ 64)) = true then some (.int (i ^ j.toNat)) else none
theorem small64_iff {i : Int} : small64 i = true ↔ -(2 ^ 64) < i ∧ i < 2 ^ 64 := by
  unfold small64
  simp only [Bool.and_eq_true, decide_eq_true_eq]
section
variable {K : PySem.W.Frag}
theorem om_sub : OpM K fSub (rI0 fun i j => .int (i - j)) := opm_I0 fun i j d h ρ H => by cases h; exact .int _
theorem om_mul : OpM K fMul (rI CMul fun i j => .int (i * j)) := opm_I fun i j d h => by
  split at h
  · rename_i c
    cases h
    rw [Bool.or_eq_true, small64_iff, small64_iff] at c
    exact ⟨c, fun _ _ => .int _⟩
  · cases h
theorem om_div : OpM K fDiv (rI CDiv fun i j => .int (i / j)) := opm_I fun i j d h => by
  split at h
  · rename_i c
    cases h
    simp only [Bool.and_eq_true, decide_eq_true_eq] at c
    exact ⟨c, fun _ _ => .int _⟩
  · cases h
theorem om_mod : OpM K fMod (rI (fun _ j => 0 < j) fun i j => .int (i % j)) := opm_I fun i j d h => by
  split at h
  · rename_i c
    cases h
    exact ⟨of_decide_eq_true c, fun _ _ => .int _⟩
  · cases h
theorem om_pow : OpM K fPow (rI CPow fun i j => .int (i ^ j.toNat)) := opm_I fun i j d h => by
  split at h
  · rename_i c
    cases h
    simp only [Bool.and_eq_true, decide_eq_true_eq] at c
    exact ⟨⟨c.1.1, c.1.2, c.2⟩, fun _ _ => .int _⟩
  · cases h
def fNeg : D → Sto → Option (D × Sto) := fun x S => match x with
  | .int i => some (.int (-i), S)
  | _ => none
theorem um_neg : UnM K fNeg (rU fun i => .int (-i)) := by
  intro ρ H S x d S' vx Q g hx e k
  unfold fNeg at e
  split at e
  · cases e; cases hx
    exact ⟨_, rfl, k ρ H _ .refl g (.int _)⟩
  · cases e

/-! ### + of numbers, texts, tuples, lists -/
def fAdd : D → D → Sto → Option (D × Sto) := fun x y S => match x, y with
  | .int i, .int j => some (.int (i + j), S)
  | .str a, .str b => if a.length + b.length ≤ 100000 then some (.str (a ++ b), S) else none
  | .tup a, .tup b => if a.length + b.length ≤ 100000 then some (.tup (a ++ b), S) else none
  | .loc m, .loc n => match S[m]?, S[n]? with
    | some (.lst a), some (.lst b) => if a.length + b.length ≤ 100000 then some (.loc S.length, S ++ [.lst (a ++ b)]) else none
    | _, _ => none
  | _, _ => none
def rAddA (K : PySem.W.Frag) : R2 := fun x y H Q => (rI0 (fun i j => .int (i + j)) x y H Q) ∨ (∃ i j, x = .str i ∧ y = .str j ∧ i.length + j.length ≤ sizeLine ∧ Q (.str (i ++ j)) H) ∨ rCatA K x y H Q ∨ rCat x y H Q
theorem orp_add {X : Cx} : OpR X (binaryOp .Add) (rAddA X.K) := OpR.or op_add (OpR.or op_add_str (OpR.or op_catA op_cat))
theorem lst_at {ρ : List Addr} {H : Hp} {S : Sto} {n : Nat} {a : Addr} {ds : List D} (g : G K ρ H S) (hn : ρ[n]? = some a) (h : S[n]? = some (.lst ds)) : ∃ vs, H a = some (.lst vs) ∧ Reps K ρ H ds vs := by
  obtain ⟨u, h1, h2⟩ := g.ob n a _ hn h
  cases u with
  | lst vs => exact ⟨vs, h1, h2⟩
  | _ => exact h2.elim
theorem om_add : OpM K fAdd (rAddA K) := by
  intro ρ H S x y d S' vx vy Q g hx hy e k
  unfold fAdd at e
  split at e
  · cases e; cases hx; cases hy
    exact .inl ⟨_, _, rfl, rfl, k ρ H _ .refl g (.int _)⟩
  · split at e
    · rename_i hl
      cases e; cases hx; cases hy
      exact .inr (.inl ⟨_, _, rfl, rfl, line5 hl, k ρ H _ .refl g (.str _)⟩)
    · cases e
  · split at e
    · rename_i a b hl
      cases e
      cases hx with
      | tup sa ra =>
        cases hy with
        | tup sb rb =>
          refine .inr (.inr (.inl ⟨_, _, _, _, rfl, rfl, sa, sb, by rw [← ra.length, ← rb.length]; exact line5 hl, fun e1 => ?_, fun _ e2 => ?_, fun _ _ p hp => ?_⟩))
          · subst e1
            cases ra
            exact k ρ H _ .refl g (.tup sb rb)
          · subst e2
            cases rb
            rw [List.append_nil] at k
            exact k ρ H _ .refl g (.tup sa ra)
          · obtain ⟨x1, g1, r1⟩ := tup_new g (ra.append rb) hp
            exact k _ _ _ x1 g1 r1
    · cases e
  · rename_i m n
    split at e
    · rename_i a b h1 h2
      split at e
      · rename_i hl
        cases e
        cases hx with
        | loc hm =>
          cases hy with
          | loc hn =>
            obtain ⟨va, ea, ra⟩ := lst_at g hm h1
            obtain ⟨vb, eb, rb⟩ := lst_at g hn h2
            refine .inr (.inr (.inr ⟨_, _, _, _, rfl, rfl, ea, eb, by rw [← ra.length, ← rb.length]; exact line5 hl, fun p hp => ?_⟩))
            obtain ⟨x1, g1, r1⟩ := lst_new g (ra.append rb) hp
            exact k _ _ _ x1 g1 r1
      · cases e
    · cases e
  · cases e

/-! ### comparisons -/
def fLt : D → D → Sto → Option (D × Sto) := fI fun i j => some (.bl (decide (i < j)))
def fLe : D → D → Sto → Option (D × Sto) := fI fun i j => some (.bl (decide (i ≤ j)))
def fGt : D → D → Sto → Option (D × Sto) := fI fun i j => some (.bl (decide (j < i)))
def fGe : D → D → Sto → Option (D × Sto) := fI fun i j => some (.bl (decide (j ≤ i)))
theorem om_lt : OpM K fLt (rI0 fun i j => .bl (decide (i < j))) := opm_I0 fun i j d h ρ H => by cases h; exact .bl _
theorem om_le : OpM K fLe (rI0 fun i j => .bl (decide (i ≤ j))) := opm_I0 fun i j d h ρ H => by cases h; exact .bl _
theorem om_gt : OpM K fGt (rI0 fun i j => .bl (decide (j < i))) := opm_I0 fun i j d h ρ H => by cases h; exact .bl _
theorem om_ge : OpM K fGe (rI0 fun i j => .bl (decide (j ≤ i))) := opm_I0 fun i j d h ρ H => by cases h; exact .bl _
/-! == of data at any depth -/
mutual
/-- no places, at most so deep -/
def D.pub : Nat → D → Bool
  | 0, .tup _ => false
  | n + 1, .tup ds => D.pubs n ds
  | _, .loc _ => false
  | _, .str x => PyData.strOk x
  | _, _ => true
def D.pubs : Nat → List D → Bool
  | _, [] => true
  | n, d :: ds => D.pub n d && D.pubs n ds
end
mutual
def D.py : D → PyData
  | .non => .none
  | .bl b => .bool b
  | .int i => .int i
  | .str x => .str x
  | .tup ds => .tuple (D.pys ds)
  | .loc _ => .none
def D.pys : List D → List PyData
  | [] => []
  | d :: ds => D.py d :: D.pys ds
end
mutual
def eqB : D → D → Bool
  | .non, .non => true
  | .bl a, .bl b => decide (a = b)
  | .bl a, .int j => decide ((if a then 1 else 0) = j)
  | .int i, .bl b => decide (i = (if b then 1 else 0))
  | .int i, .int j => decide (i = j)
  | .str x, .str y => decide (x = y)
  | .tup a, .tup b => eqBs a b
  | _, _ => false
def eqBs : List D → List D → Bool
  | [], [] => true
  | x :: xs, y :: ys => eqB x y && eqBs xs ys
  | _, _ => false
end
mutual
theorem eqB_py : ∀ {x y : D} {m n : Nat}, D.pub m x = true → D.pub n y = true → PyData.eqv x.py y.py = eqB x y
  | .loc _, _, m, _, h, _ => by cases m <;> cases h
  | .non, .loc _, _, n, _, h => by cases n <;> cases h
  | .bl _, .loc _, _, n, _, h => by cases n <;> cases h
  | .int _, .loc _, _, n, _, h => by cases n <;> cases h
  | .str _, .loc _, _, n, _, h => by cases n <;> cases h
  | .tup _, .loc _, _, n, _, h => by cases n <;> cases h
  | .non, .non, _, _, _, _ => rfl
  | .non, .bl _, _, _, _, _ => rfl
  | .non, .int _, _, _, _, _ => rfl
  | .non, .str _, _, _, _, _ => rfl
  | .non, .tup _, _, _, _, _ => rfl
  | .bl a, .non, _, _, _, _ => rfl
  | .bl a, .bl b, _, _, _, _ => by cases a <;> cases b <;> rfl
  | .bl a, .int j, _, _, _, _ => by
    show ((if a then 1 else 0) == j) = decide ((if a then 1 else 0) = j)
    cases a <;> rfl
  | .bl _, .str _, _, _, _, _ => rfl
  | .bl _, .tup _, _, _, _, _ => rfl
  | .int _, .non, _, _, _, _ => rfl
  | .int i, .bl b, _, _, _, _ => by
    show (i == (if b then 1 else 0)) = decide (i = (if b then 1 else 0))
    cases b <;> rfl
  | .int i, .int j, _, _, _, _ => rfl
  | .int _, .str _, _, _, _, _ => rfl
  | .int _, .tup _, _, _, _, _ => rfl
  | .str _, .non, _, _, _, _ => rfl
  | .str _, .bl _, _, _, _, _ => rfl
  | .str _, .int _, _, _, _, _ => rfl
  | .str x, .str y, _, _, _, _ => by
    show (x == y) = decide (x = y)
    by_cases h : x = y
    · subst h; simp
    · rw [decide_eq_false h]; exact beq_eq_false_iff_ne.mpr h
  | .str _, .tup _, _, _, _, _ => rfl
  | .tup _, .non, _, _, _, _ => rfl
  | .tup _, .bl _, _, _, _, _ => rfl
  | .tup _, .int _, _, _, _, _ => rfl
  | .tup _, .str _, _, _, _, _ => rfl
  | .tup a, .tup b, 0, _, h, _ => by cases h
  | .tup a, .tup b, _, 0, _, h => by cases h
  | .tup a, .tup b, m + 1, n + 1, h1, h2 => eqBs_py (m := m) (n := n) h1 h2
theorem eqBs_py : ∀ {xs ys : List D} {m n : Nat}, D.pubs m xs = true → D.pubs n ys = true → PyData.eqvAll (D.pys xs) (D.pys ys) = eqBs xs ys
  | [], [], _, _, _, _ => rfl
  | [], _ :: _, _, _, _, _ => rfl
  | _ :: _, [], _, _, _, _ => rfl
  | x :: xs, y :: ys, m, n, h1, h2 => by
    have a1 : (D.pub m x && D.pubs m xs) = true := h1
    have a2 : (D.pub n y && D.pubs n ys) = true := h2
    rw [Bool.and_eq_true] at a1 a2
    show (PyData.eqv x.py y.py && PyData.eqvAll (D.pys xs) (D.pys ys)) = (eqB x y && eqBs xs ys)
    rw [eqB_py a1.1 a2.1, eqBs_py a1.2 a2.2]
end
mutual
theorem py_dp {ρ : List Addr} {H : Hp} : ∀ {d : D} {v : V} {n : Nat}, Rep K ρ H d v → D.pub n d = true → Dp K H v d.py ∧ d.py.canLay0 = true ∧ d.py.depth ≤ n
  | _, _, n, .non, _ => ⟨.non, rfl, Nat.zero_le _⟩
  | _, _, n, .bl b, _ => ⟨.bl b, rfl, Nat.zero_le _⟩
  | _, _, n, .int i, _ => ⟨.int i, rfl, Nat.zero_le _⟩
  | _, _, 0, .str x, h => ⟨.str x, h, Nat.zero_le _⟩
  | _, _, n + 1, .str x, h => ⟨.str x, h, Nat.zero_le _⟩
  | _, _, 0, .tup _ _, h => by cases h
  | _, _, n + 1, .tup hs hr, h => by
    obtain ⟨h1, h2, h3⟩ := pys_dp (n := n) hr h
    exact ⟨.tup hs h1, by show PyData.canLayAll0 _ = true; exact h2, Nat.succ_le_succ h3⟩
  | _, _, n, .loc _, h => by cases n <;> cases h
theorem pys_dp {ρ : List Addr} {H : Hp} : ∀ {ds : List D} {vs : List V} {n : Nat}, Reps K ρ H ds vs → D.pubs n ds = true → DpAll K H vs (D.pys ds) ∧ PyData.canLayAll0 (D.pys ds) = true ∧ PyData.depthAll (D.pys ds) ≤ n
  | _, _, n, .nil, _ => ⟨.nil, rfl, Nat.zero_le _⟩
  | _, _, n, .cons (d := d) (ds := ds) hd hr, h => by
    have a1 : (D.pub n d && D.pubs n ds) = true := h
    rw [Bool.and_eq_true] at a1
    obtain ⟨h1, h2, h3⟩ := py_dp hd a1.1
    obtain ⟨k1, k2, k3⟩ := pys_dp hr a1.2
    exact ⟨.cons h1 k1, by show (_ && _) = true; rw [h2, k2]; rfl, Nat.max_le.mpr ⟨h3, k3⟩⟩
end
/-- == of what has no parts -/
def eqS : D → D → Option Bool
  | .non, .non => some true
  | .non, .int _ => some false
  | .int _, .non => some false
  | .non, .bl _ => some false
  | .bl _, .non => some false
  | .non, .str _ => some false
  | .str _, .non => some false
  | .int i, .int j => some (decide (i = j))
  | .bl i, .bl j => some (decide (i = j))
  | .str i, .str j => some (decide (i = j))
  | .int _, .str _ => some false
  | .str _, .int _ => some false
  | .bl _, .str _ => some false
  | .str _, .bl _ => some false
  | _, _ => none
def eqF (x y : D) : Option Bool := match eqS x y with
  | some b => some b
  | none => if (D.pub 200 x && D.pub 200 y) = true then some (eqB x y) else none
def fEq (x y : D) (S : Sto) : Option (D × Sto) := match eqF x y with
  | some b => some (.bl b, S)
  | none => none
def fNe (x y : D) (S : Sto) : Option (D × Sto) := match eqF x y with
  | some b => some (.bl (!b), S)
  | none => none
def rEqV (K : PySem.W.Frag) : R2 := fun x y H Q => rEq x y H Q ∨ ∃ d e, Dp K H x d ∧ Dp K H y e ∧ d.canLay0 = true ∧ e.canLay0 = true ∧ d.depth ≤ 200 ∧ Q (.bl (PyData.eqv d e)) H
def rNeV (K : PySem.W.Frag) : R2 := fun x y H Q => rNe x y H Q ∨ ∃ d e, Dp K H x d ∧ Dp K H y e ∧ d.canLay0 = true ∧ e.canLay0 = true ∧ d.depth ≤ 200 ∧ Q (.bl (!PyData.eqv d e)) H
theorem orp_eq {X : Cx} (hu : X.A.units + 250 < cLine) : OpR X (compareOp .Eq) (rEqV X.K) := OpR.or op_eq (by
  intro pins s σ H x y v u Q I rx ry ⟨d, e, h1, h2, h3, h4, h5, q⟩
  obtain ⟨as, ra⟩ := Dp.reads I d x v h1 rx
  obtain ⟨bs, rb⟩ := Dp.reads I e y u h2 ry
  exact SeqAt.compareEq_reads ra rb h3 h4 (by omega) ⟨.bl _, H, I, rfl, q⟩)
theorem orp_ne {X : Cx} (hu : X.A.units + 250 < cLine) : OpR X (compareOp .NotEq) (rNeV X.K) := OpR.or op_ne (by
  intro pins s σ H x y v u Q I rx ry ⟨d, e, h1, h2, h3, h4, h5, q⟩
  obtain ⟨as, ra⟩ := Dp.reads I d x v h1 rx
  obtain ⟨bs, rb⟩ := Dp.reads I e y u h2 ry
  exact SeqAt.compareNe_reads ra rb h3 h4 (by omega) ⟨.bl _, H, I, rfl, q⟩)
theorem eqS_of {ρ : List Addr} {H : Hp} {x y : D} {vx vy : V} {b : Bool} (hx : Rep K ρ H x vx) (hy : Rep K ρ H y vy) (h : eqS x y = some b) : scal vx vy = true ∧ b = decide (vx = vy) := by
  cases hx <;> cases hy <;> first
    | (cases h; exact ⟨rfl, rfl⟩)
    | (cases h; exact ⟨rfl, by simp⟩)
    | cases h
theorem eqF_of {ρ : List Addr} {H : Hp} {x y : D} {vx vy : V} {b : Bool} (hx : Rep K ρ H x vx) (hy : Rep K ρ H y vy) (h : eqF x y = some b) : (scal vx vy = true ∧ b = decide (vx = vy)) ∨ ∃ d e, Dp K H vx d ∧ Dp K H vy e ∧ d.canLay0 = true ∧ e.canLay0 = true ∧ d.depth ≤ 200 ∧ b = PyData.eqv d e := by
  unfold eqF at h
  split at h
  · rename_i b' e1
    cases h
    exact .inl (eqS_of hx hy e1)
  · split at h
    · rename_i c
      rw [Bool.and_eq_true] at c
      cases h
      obtain ⟨a1, a2, a3⟩ := py_dp hx c.1
      obtain ⟨b1, b2, b3⟩ := py_dp hy c.2
      exact .inr ⟨_, _, a1, b1, a2, b2, a3, (eqB_py c.1 c.2).symm⟩
    · cases h
theorem om_eq : OpM K fEq (rEqV K) := OpM.pure fun ρ H S x y d S' vx vy Q g hx hy e => by
  unfold fEq at e
  split at e
  · rename_i b eb
    cases e
    refine ⟨rfl, fun q => ?_⟩
    rcases eqF_of hx hy eb with ⟨h1, rfl⟩ | ⟨d1, d2, h1, h2, h3, h4, h5, rfl⟩
    · exact .inl ⟨h1, q _ (.bl _)⟩
    · exact .inr ⟨d1, d2, h1, h2, h3, h4, h5, q _ (.bl _)⟩
  · cases e
theorem om_ne : OpM K fNe (rNeV K) := OpM.pure fun ρ H S x y d S' vx vy Q g hx hy e => by
  unfold fNe at e
  split at e
  · rename_i b eb
    cases e
    refine ⟨rfl, fun q => ?_⟩
    rcases eqF_of hx hy eb with ⟨h1, rfl⟩ | ⟨d1, d2, h1, h2, h3, h4, h5, rfl⟩
    · exact .inl ⟨h1, q _ (.bl _)⟩
    · exact .inr ⟨d1, d2, h1, h2, h3, h4, h5, q _ (.bl _)⟩
  · cases e
def isNon : D → Bool
  | .non => true
  | _ => false
def isF (x y : D) : Option Bool := match y with
  | .non => some (isNon x)
  | .bl b => match x with
    | .bl a => some (decide (a = b))
    | _ => none
  | _ => none
def fIs (x y : D) (S : Sto) : Option (D × Sto) := match isF x y with
  | some b => some (.bl b, S)
  | none => none
def fIsNot (x y : D) (S : Sto) : Option (D × Sto) := match isF x y with
  | some b => some (.bl (!b), S)
  | none => none
def rIsA : R2 := fun x y H Q => (y = .non ∧ Q (.bl (decide (x = .non))) H) ∨ rIsB x y H Q
def rNotA : R2 := fun x y H Q => (y = .non ∧ Q (.bl (!decide (x = .non))) H) ∨ rNotB x y H Q
theorem orp_is {X : Cx} : OpR X (compareOp .Is) rIsA := OpR.or op_isN op_isBl
theorem orp_not {X : Cx} : OpR X (compareOp .IsNot) rNotA := OpR.or op_notN op_notBl
theorem isF_of {ρ : List Addr} {H : Hp} {x y : D} {vx vy : V} {b : Bool} (hx : Rep K ρ H x vx) (hy : Rep K ρ H y vy) (h : isF x y = some b) : (vy = .non ∧ b = decide (vx = .non)) ∨ ∃ i j : Bool, vx = .bl i ∧ vy = .bl j ∧ b = decide (i = j) := by
  cases hy <;> first | cases h | skip
  · refine .inl ⟨rfl, ?_⟩
    cases hx <;> simp [isF, isNon]
  · cases hx <;> first
      | (cases h; exact .inr ⟨_, _, rfl, rfl, rfl⟩)
      | cases h
theorem om_is : OpM K fIs rIsA := OpM.pure fun ρ H S x y d S' vx vy Q g hx hy e => by
  unfold fIs at e
  split at e
  · rename_i b eb
    cases e
    refine ⟨rfl, fun q => ?_⟩
    rcases isF_of hx hy eb with ⟨rfl, rfl⟩ | ⟨i, j, rfl, rfl, rfl⟩
    · exact .inl ⟨rfl, q _ (.bl _)⟩
    · exact .inr ⟨i, j, rfl, rfl, q _ (.bl _)⟩
  · cases e
theorem om_isNot : OpM K fIsNot rNotA := OpM.pure fun ρ H S x y d S' vx vy Q g hx hy e => by
  unfold fIsNot at e
  split at e
  · rename_i b eb
    cases e
    refine ⟨rfl, fun q => ?_⟩
    rcases isF_of hx hy eb with ⟨rfl, rfl⟩ | ⟨i, j, rfl, rfl, rfl⟩
    · exact .inl ⟨rfl, q _ (.bl _)⟩
    · exact .inr ⟨i, j, rfl, rfl, q _ (.bl _)⟩
  · cases e

/-! ### a place of a tuple, a list, a text -/
def fIx : D → D → Sto → Option (D × Sto) := fun x y S => match x, y with
  | .tup ds, .int i => match atI ds i with
    | some d => some (d, S)
    | none => none
  | .loc n, .int i => match lstAt S n with
    | some ds => match atI ds i with
      | some d => some (d, S)
      | none => none
    | none => none
  | .str z, .int i => if z.length ≤ 100000 then match atI z.cps.toList i with
      | some c => some (.str ⟨#[c]⟩, S)
      | none => none
    else none
  | _, _ => none
theorem atI_rep {ρ : List Addr} {H : Hp} {ds : List D} {vs : List V} {i : Int} {d : D} (r : Reps K ρ H ds vs) (h : atI ds i = some d) : ∃ v, atI vs i = some v ∧ Rep K ρ H d v := by
  unfold atI at h ⊢
  rw [← r.length]
  cases q : ixN ds.length i with
  | none => rw [q] at h; cases h
  | some j =>
    rw [q] at h
    exact r.get h
theorem om_ix : OpM K fIx (rIx K) := OpM.pure fun ρ H S x y d S' vx vy Q g hx hy e => by
  unfold fIx at e
  split at e
  · split at e
    · rename_i d' ed
      cases e
      cases hx with
      | tup hs hr =>
        cases hy
        obtain ⟨v, hv, rv⟩ := atI_rep hr ed
        exact ⟨rfl, fun q => .inr (.inl ⟨_, _, _, v, rfl, rfl, hs, hv, q v rv⟩)⟩
    · cases e
  · split at e
    · rename_i ds el
      split at e
      · rename_i d' ed
        cases e
        cases hx with
        | loc hn =>
          cases hy
          obtain ⟨vs, hs, hr⟩ := g.lst hn el
          obtain ⟨v, hv, rv⟩ := atI_rep hr ed
          exact ⟨rfl, fun q => .inl ⟨_, vs, _, v, rfl, rfl, hs, hv, q v rv⟩⟩
      · cases e
    · cases e
  · split at e
    · rename_i hl
      split at e
      · rename_i c' ec
        cases e; cases hx; cases hy
        exact ⟨rfl, fun q => .inr (.inr ⟨_, _, _, rfl, rfl, line5 hl, ec, q _ (.str _)⟩)⟩
      · cases e
    · cases e
  · cases e
/-- xs[i] = v -/
def fPut : D → D → D → Sto → Option Sto := fun x i y S => match x, i with
  | .loc n, .int k => match S[n]? with
    | some (.lst ds) => match ixN ds.length k with
      | some j => some (S.set n (.lst (ds.set j y)))
      | none => none
    | _ => none
  | _, _ => none
theorem pm_put : PutM K fPut rSetL := by
  intro ρ H S x i y S' vx vi vy Q g hx hi hy e k
  unfold fPut at e
  split at e
  · split at e
    · rename_i n kk ds h1
      split at e
      · rename_i j ej
        cases e
        cases hx with
        | loc hn =>
          cases hi
          obtain ⟨vs, ev, rv⟩ := lst_at g hn h1
          obtain ⟨g1, x1⟩ := g.set (q := .lst (ds.set j y)) (o := .lst (vs.set j vy)) hn h1 rfl rfl (rv.set hy j)
          exact ⟨_, _, _, j, rfl, rfl, ev, by rw [← rv.length]; exact ej, k ρ _ x1 g1⟩
      · cases e
    · cases e
  · cases e

/-! ### built-ins -/
def lenF (S : Sto) : D → Option Int
  | .str z => if z.length ≤ 100000 then some z.length else none
  | .tup ds => some ds.length
  | .loc n => match lstAt S n with
    | some ds => some ds.length
    | none => none
  | _ => none
def fLen (xs : List D) (S : Sto) : Option (D × Sto) := match xs with
  | [x] => match lenF S x with
    | some n => some (.int n, S)
    | none => none
  | _ => none
theorem am_len : AllM K fLen (fun xs H Q => ∃ x n, xs = [x] ∧ LenV K x H n ∧ Q (.int n) H) := by
  intro ρ H S xs d S' vs Q g hx e k
  unfold fLen at e
  split at e
  rotate_left
  · cases e
  rename_i x
  split at e
  rotate_left
  · cases e
  rename_i n en
  cases e
  cases hx with
  | cons hr hn =>
    cases hn
    have fin : ∀ m : Nat, n = (m : Int) → Q (.int m) H := fun m em => k ρ H _ .refl g (em ▸ .int _)
    cases hr with
    | str z =>
      have en' : (if z.length ≤ 100000 then some (z.length : Int) else none) = some n := en
      split at en'
      · rename_i hl
        cases en'
        exact ⟨_, z.length, rfl, ⟨line5 hl, rfl⟩, fin _ rfl⟩
      · cases en'
    | tup hs hq =>
      cases en
      exact ⟨_, _, rfl, .inr ⟨_, hs, rfl⟩, fin _ (by rw [hq.length])⟩
    | @loc j a hj =>
      have en' : (match lstAt S j with | some ds => some (ds.length : Int) | none => none) = some n := en
      split at en'
      · rename_i ds el
        cases en'
        obtain ⟨vs, hs, hq⟩ := g.lst hj el
        exact ⟨_, _, rfl, .inl ⟨vs, hs, rfl⟩, fin _ (by rw [hq.length])⟩
      · cases en'
    | _ => cases en
def fInt (xs : List D) (S : Sto) : Option (D × Sto) := match xs with
  | [.int i] => some (.int i, S)
  | [.bl k] => some (.int (if k then 1 else 0), S)
  | _ => none
theorem am_int : AllM K fInt (fun xs H Q => (∃ i, xs = [.int i] ∧ Q (.int i) H) ∨ ∃ k, xs = [.bl k] ∧ Q (.int (if k then 1 else 0)) H) := by
  intro ρ H S xs d S' vs Q g hx e k
  unfold fInt at e
  split at e
  · cases e
    cases hx with
    | cons h hn =>
      cases h; cases hn
      exact .inl ⟨_, rfl, k ρ H _ .refl g (.int _)⟩
  · cases e
    cases hx with
    | cons h hn =>
      cases h; cases hn
      exact .inr ⟨_, rfl, k ρ H _ .refl g (.int _)⟩
  · cases e
def fMax2 (xs : List D) (S : Sto) : Option (D × Sto) := match xs with
  | [.int i, .int j] => some (.int (if j > i then j else i), S)
  | _ => none
theorem am_max2 : AllM K fMax2 (fun xs H Q => ∃ i j, xs = [.int i, .int j] ∧ Q (.int (if j > i then j else i)) H) := by
  intro ρ H S xs d S' vs Q g hx e k
  unfold fMax2 at e
  split at e
  · cases e
    cases hx with
    | cons h hn =>
      cases hn with
      | cons h2 hn2 =>
        cases h; cases h2; cases hn2
        exact ⟨_, _, rfl, k ρ H _ .refl g (.int _)⟩
  · cases e

/-! isinstance -/
inductive Ty where
  | non | bool | int | str | tuple | list | dict | set
  deriving DecidableEq
def Ty.nm : Ty → String
  | .non => "NoneType"
  | .bool => "bool"
  | .int => "int"
  | .str => "str"
  | .tuple => "tuple"
  | .list => "list"
  | .dict => "dict"
  | .set => "set"
def isTy : Ty → Ty → Bool
  | .bool, .int => true
  | t, u => decide (t = u)
theorem isTy_kit (t u : Ty) : kitB t.nm u.nm = some (isTy t u) := by
  cases t <;> cases u <;> decide +kernel
def tyD (S : Sto) : D → Option Ty
  | .non => some .non
  | .bl _ => some .bool
  | .int _ => some .int
  | .str _ => some .str
  | .tup _ => some .tuple
  | .loc n => match lstAt S n with
    | some _ => some .list
    | none => none
def xIsi (T : Ty) (a : XE) : XE := fun e S => match a e S with
  | none => none
  | some (x, S1) => match tyD S1 x with
    | none => none
    | some t => some (.bl (isTy t T), S1)
theorem ty_rep {ρ : List Addr} {H : Hp} {S : Sto} {x : D} {v : V} {t : Ty} (g : G K ρ H S) (r : Rep K ρ H x v) (h : tyD S x = some t) : TyX K H v (.type t.nm) := by
  cases r with
  | non => cases h; exact .base .non
  | bl b => cases h; exact .base (.bl b)
  | int i => cases h; exact .base (.int i)
  | str z => cases h; exact .base (.str z)
  | tup hs hr =>
    cases h
    rcases hs with (hs | ⟨u, hs⟩) | ⟨o, its, n, h1, h2, _⟩
    · exact .base (.tup hs)
    · exact .fTuple hs
    · exact .kTuple h1 h2
  | @loc n a hn =>
    have h' : (match lstAt S n with | some _ => some Ty.list | none => none) = some t := h
    split at h'
    · rename_i ds el
      cases h'
      obtain ⟨vs, hs, _⟩ := g.lst hn el
      rcases hs with (hs | ⟨u, hs⟩) | ⟨o, its, n, h1, h2, _⟩
      · exact .base (.lst hs)
      · exact .base (.frz hs)
      · exact .kList h1 h2
    · cases h'
section
variable {X : Cx} {a : Expr} {p p2 pos : Pos} {ma : XE}
theorem r_isi (T : Ty) {nm : Str} (hg : Gl X "isinstance") (hm : X.mg "isinstance" = none) (hv : bootBuiltins "isinstance" = some (.builtin "isinstance")) (hg2 : Gl X nm) (hm2 : X.mg nm = none) (hv2 : bootBuiltins nm = some (.type T.nm)) (ha : PE X a (rE X.K ma))
    (hn2 : nm ≠ "__name__" := by decide) (hd2 : (nm == ("__debug__" : Str)) = false := by decide)
    (he : starEach [a, .Name nm p2] X.env = (false, eval a X.env) :: starEach [.Name nm p2] X.env := by rfl) (he2 : starEach [.Name nm p2] X.env = (false, eval (.Name nm p2) X.env) :: starEach [] X.env := by rfl)
    (hpl : (backTo pos (starEach [.Name nm p2] X.env)).any (·.1) = false := by rfl) :
    PE X (.Call (.Name "isinstance" p) [a, .Name nm p2] [] pos) (rE X.K (xIsi T ma)) := by
  have hb : PE X (.Name nm p2) (tC (.ty T.nm)) := pe_bltn hg2 hm2 hv2 rfl hn2 hd2
  refine PE.imp (pe_callB call_isi hg hm hv (pa_cons ha (pa_cons hb pa_nil he2) he) (by decide) (by decide) he hpl) fun σ H Q ⟨ρ, e, S, d, S', re, g, h, k⟩ => ?_
  unfold xIsi at h
  split at h
  · cases h
  rename_i x S1 ea
  split at h
  · cases h
  rename_i t et
  cases h
  exact ⟨ρ, e, S, x, _, re, g, ea, fun ρ1 H1 v x1 g1 hv => ⟨v, .ty T.nm, .type t.nm, .type T.nm, isTy t T, rfl, .ty _, ty_rep g1 hv et, kit_ty (isTy_kit t T), k ρ1 H1 _ x1 g1 (.bl _)⟩⟩
/-- a built-in function by its name -/
theorem r_blt {x : Str} {id : String} {r : List V → Hp → VK → Prop} {f : List D → Sto → Option (D × Sto)} {e : Expr} {es : List Expr} {l : XL} (hc : CallR X (.builtin id) r) (o : AllM X.K f r) (hg : Gl X x) (hm : X.mg x = none) (hv : bootBuiltins x = some (.builtin id)) (ha : PA X (e :: es) (rL X.K l))
    (hn : x ≠ "__name__" := by decide) (hdb : (x == ("__debug__" : Str)) = false := by decide) (he : starEach (e :: es) X.env = (false, eval e X.env) :: starEach es X.env := by rfl) (hpl : (backTo pos (starEach es X.env)).any (·.1) = false := by rfl) :
    PE X (.Call (.Name x p) (e :: es) [] pos) (rE X.K (xAll f l)) := PE.imp (pe_callB hc hg hm hv ha hn hdb he hpl) (all_of o)
/-- a built-in type by its name -/
theorem r_typ {x : Str} {T : String} {r : List V → Hp → VK → Prop} {f : List D → Sto → Option (D × Sto)} {e : Expr} {es : List Expr} {l : XL} (hc : CallR X (.type T) r) (o : AllM X.K f r) (hg : Gl X x) (hm : X.mg x = none) (hv : bootBuiltins x = some (.type T)) (ha : PA X (e :: es) (rL X.K l))
    (hn : x ≠ "__name__" := by decide) (hdb : (x == ("__debug__" : Str)) = false := by decide) (he : starEach (e :: es) X.env = (false, eval e X.env) :: starEach es X.env := by rfl) (hpl : (backTo pos (starEach es X.env)).any (·.1) = false := by rfl) :
    PE X (.Call (.Name x p) (e :: es) [] pos) (rE X.K (xAll f l)) := PE.imp (pe_callTy hc hg hm hv ha hn hdb he hpl) (all_of o)
end

def xNot (a : XE) : XE := fun e S => match a e S with
  | none => none
  | some (x, S1) => match truth S1 x with
    | none => none
    | some b => some (.bl (!b), S1)
theorem r_notV {X : Cx} {a : Expr} {pos : Pos} {ma : XE} (ha : PE X a (rE X.K ma)) : PE X (.UnaryOp .Not a pos) (rE X.K (xNot ma)) := by
  refine PE.imp (pe_notT ha) fun σ H Q ⟨ρ, e, S, d, S', re, g, h, k⟩ => ?_
  unfold xNot at h
  split at h
  · cases h
  rename_i x S1 ea
  split at h
  · cases h
  rename_i t et
  cases h
  exact ⟨ρ, e, S, x, _, re, g, ea, fun ρ1 H1 v x1 g1 hv => ⟨_, tru_rep g1 hv et, k ρ1 H1 _ x1 g1 (.bl _)⟩⟩

theorem as_body {X : Cx} {K : PySem.W.Frag} {sts : List Stmt} {b b' : XS} (h : PSs X sts (rS X.K b)) (e : b = b') (eK : X.K = K) : PSs X sts (rS K b') := by
  subst e eK
  exact h

/-! ### methods -/
/-- o.m(..): the receiver, the arguments, then f; ok says of which type the receiver is -/
def xMet (ok : D → Sto → Bool) (f : D → List D → Sto → Option (D × Sto)) (o : XE) (l : XL) : XE := fun e S => match o e S with
  | none => none
  | some (x, S1) => if ok x S1 = true then match l e S1 with
      | none => none
      | some (xs, S2) => f x xs S2
    else none
def MetM (K : PySem.W.Frag) (f : D → List D → Sto → Option (D × Sto)) (r : V → List V → Hp → VK → Prop) : Prop := ∀ ρ H S x xs d S' vx vs (Q : VK), G K ρ H S → Rep K ρ H x vx → Reps K ρ H xs vs → f x xs S = some (d, S') →
  (∀ ρ' H' v, Ext K ρ H ρ' H' → G K ρ' H' S' → Rep K ρ' H' d v → Q v H') → r vx vs H Q
def okList (x : D) (S : Sto) : Bool := match x with
  | .loc n => match lstAt S n with
    | some _ => true
    | none => false
  | _ => false
def okStr (x : D) (_ : Sto) : Bool := match x with
  | .str _ => true
  | _ => false
theorem okList_ty {ρ : List Addr} {H : Hp} {S : Sto} {x : D} {v : V} (g : G K ρ H S) (r : Rep K ρ H x v) (h : okList x S = true) : tyV K "list" v H := by
  unfold okList at h
  split at h
  · split at h
    · rename_i el
      cases r with
      | loc hn =>
        obtain ⟨vs, hs, _⟩ := g.lst hn el
        exact .inl ⟨rfl, vs, hs⟩
    · cases h
  · cases h
theorem okStr_ty {ρ : List Addr} {H : Hp} {S : Sto} {x : D} {v : V} (g : G K ρ H S) (r : Rep K ρ H x v) (h : okStr x S = true) : tyV K "str" v H := by
  unfold okStr at h
  split at h
  · cases r; rfl
  · cases h
section
variable {X : Cx} {o e : Expr} {es : List Expr} {name : Str} {apos cpos : Pos} {T id : String} {r : V → List V → Hp → VK → Prop} {f : D → List D → Sto → Option (D × Sto)} {ok : D → Sto → Bool} {mo : XE} {l : XL}
theorem r_met (pa : PlainAttrs T) (slot : Slot T name id) (hty : typeOf (.builtin id) = pure (.type "method_descriptor")) (hm : MtR X id r) (mm : MetM X.K f r) (hok : ∀ {ρ : List Addr} {H : Hp} {S : Sto} {x : D} {v : V}, G X.K ρ H S → Rep X.K ρ H x v → ok x S = true → tyV X.K T v H)
    (ho : PE X o (rE X.K mo)) (ha : PA X (e :: es) (rL X.K l)) (hbase : attributeBase o name X.env (eval o X.env) = eval o X.env := by rfl)
    (hfew : ((backTo cpos (starEach (e :: es) X.env)).all (fun x => !x.1) && (backToKw cpos (keywordEach [] X.env)).all (fun x => x.1.isSome) && decide ((e :: es).length + ([] : List Keyword).length + (if ([] : List Keyword).isEmpty then 0 else 1) < 30)) = true := by rfl)
    (hline : (apos.endLine == cpos.line) = true := by rfl) (hs : starEach (e :: es) X.env = (false, eval e X.env) :: starEach es X.env := by rfl) (hplain : (backTo cpos (starEach es X.env)).any (·.1) = false := by rfl) :
    PE X (.Call (.Attribute o name apos) (e :: es) [] cpos) (rE X.K (xMet ok f mo l)) := by
  refine PE.imp (pe_bm pa slot hty hm ho ha hbase hfew hline hs hplain) fun σ H Q ⟨ρ, en, S, d, S', re, g, h, k⟩ => ?_
  unfold xMet at h
  split at h
  · cases h
  rename_i x S1 ex
  split at h
  rotate_left
  · cases h
  rename_i hk
  split at h
  · cases h
  rename_i xs S2 el
  exact ⟨ρ, en, S, x, S1, re, g, ex, fun ρ1 H1 v x1 g1 hv => ⟨hok g1 hv hk, ρ1, en, S1, xs, S2, re.mono x1, g1, el, fun ρ2 H2 vs x2 g2 hvs => mm ρ2 H2 S2 x xs d S' v vs Q g2 (hv.mono x2) hvs h fun ρ3 H3 v3 x3 g3 hv3 => k ρ3 H3 v3 ((x1.trans x2).trans x3) g3 hv3⟩⟩
theorem r_met0 (pa : PlainAttrs T) (slot : Slot T name id) (hty : typeOf (.builtin id) = pure (.type "method_descriptor")) (hm : MtR X id r) (mm : MetM X.K f r) (hok : ∀ {ρ : List Addr} {H : Hp} {S : Sto} {x : D} {v : V}, G X.K ρ H S → Rep X.K ρ H x v → ok x S = true → tyV X.K T v H)
    (ho : PE X o (rE X.K mo)) (hbase : attributeBase o name X.env (eval o X.env) = eval o X.env := by rfl) (hline : (apos.endLine == cpos.line) = true := by rfl) :
    PE X (.Call (.Attribute o name apos) [] [] cpos) (rE X.K (xMet ok f mo xNil)) := by
  refine PE.imp (pe_bm0 pa slot hty hm ho hbase hline) fun σ H Q ⟨ρ, en, S, d, S', re, g, h, k⟩ => ?_
  unfold xMet at h
  split at h
  · cases h
  rename_i x S1 ex
  split at h
  rotate_left
  · cases h
  rename_i hk
  have h' : f x [] S1 = some (d, S') := h
  exact ⟨ρ, en, S, x, S1, re, g, ex, fun ρ1 H1 v x1 g1 hv => ⟨hok g1 hv hk, mm ρ1 H1 S1 x [] d S' v [] Q g1 hv .nil h' fun ρ3 H3 v3 x3 g3 hv3 => k ρ3 H3 v3 (x1.trans x3) g3 hv3⟩⟩
end
def fApp (x : D) (xs : List D) (S : Sto) : Option (D × Sto) := match x, xs with
  | .loc n, [y] => match S[n]? with
    | some (.lst ds) => if ds.length < 1000000 then some (.non, S.set n (.lst (ds ++ [y]))) else none
    | _ => none
  | _, _ => none
theorem mm_app : MetM K fApp rAppend := by
  intro ρ H S x xs d S' vx vs Q g hx hxs e k
  unfold fApp at e
  split at e
  rotate_left
  · cases e
  rename_i n y
  split at e
  rotate_left
  · cases e
  rename_i ds h1
  split at e
  rotate_left
  · cases e
  rename_i hl
  cases e
  cases hx with
  | loc hn =>
    cases hxs with
    | cons hy hnil =>
      cases hnil
      obtain ⟨vl, ev, rv⟩ := lst_at g hn h1
      obtain ⟨g1, x1⟩ := g.set (q := .lst (ds ++ [y])) (o := .lst (vl ++ [_])) hn h1 rfl rfl (rv.append (.cons hy .nil))
      exact ⟨_, vl, _, rfl, rfl, ev, by rw [← rv.length]; exact Nat.lt_of_lt_of_le hl (by decide), k ρ _ _ x1 g1 .non⟩
end
end Mini

/-! MiniG: how the mirrors are reckoned, step by step. -/
namespace Mini
open PySem L2
section
variable {e e1 : EnvD} {S S1 S2 S3 S4 : Sto} {a b c : XE} {p q : XB} {s t : XS} {l : XL} {x y z d : D} {k : Bool} {g : XG} {xs : List D} {n : Nat} {r : Option (D × Sto)} {rb : Option (Bool × Sto)} {rs : Option Res}
theorem v_c : xC d e S = some (d, S) := rfl
theorem v_nil : xNil e S = some ([], S) := rfl
theorem v_cons (h1 : a e S = some (x, S1)) (h2 : l e S1 = some (xs, S2)) : xCons a l e S = some (x :: xs, S2) := by unfold xCons; rw [h1]; dsimp only; rw [h2]
theorem v_op {f} (h1 : a e S = some (x, S1)) (h2 : b e S1 = some (y, S2)) (h3 : f x y S2 = r) : xOp f a b e S = r := by unfold xOp; rw [h1]; dsimp only; rw [h2]; exact h3
theorem v_un {f} (h1 : a e S = some (x, S1)) (h3 : f x S1 = r) : xUn f a e S = r := by unfold xUn; rw [h1]; exact h3
theorem v_all {f} (h1 : l e S = some (xs, S1)) (h3 : f xs S1 = r) : xAll f l e S = r := by unfold xAll; rw [h1]; exact h3
theorem v_call {n m} (h1 : l e S = some (xs, S1)) (h2 : xs.length = n) (h3 : m xs S1 = r) : xCall n m l e S = r := by unfold xCall; rw [h1]; dsimp only; rw [if_pos h2]; exact h3
theorem v_if (h : p e S = some (k, S1)) (h2 : (if k = true then a e S1 else b e S1) = r) : xIf p a b e S = r := by unfold xIf; rw [h]; cases k <;> exact h2
theorem v_and (h : a e S = some (.bl k, S1)) (h2 : (if k = true then b e S1 else some (.bl false, S1)) = r) : xAnd a b e S = r := by unfold xAnd; rw [h]; cases k <;> exact h2
theorem v_or (h : a e S = some (.bl k, S1)) (h2 : (if k = true then some (.bl true, S1) else b e S1) = r) : xOr a b e S = r := by unfold xOr; rw [h]; cases k <;> exact h2
theorem v_not (h : a e S = some (x, S1)) (h2 : truth S1 x = some k) : xNot a e S = some (.bl (!k), S1) := by unfold xNot; rw [h]; dsimp only; rw [h2]
theorem v_isi {T ty} (h : a e S = some (x, S1)) (h2 : tyD S1 x = some ty) : xIsi T a e S = some (.bl (isTy ty T), S1) := by unfold xIsi; rw [h]; dsimp only; rw [h2]
theorem v_met {ok f} (h : a e S = some (x, S1)) (ho : ok x S1 = true) (h2 : l e S1 = some (xs, S2)) (h3 : f x xs S2 = r) : xMet ok f a l e S = r := by unfold xMet; rw [h]; dsimp only; rw [if_pos ho, h2]; exact h3
theorem t_tru (h : a e S = some (x, S1)) (h2 : truth S1 x = some k) : bTru a e S = some (k, S1) := by unfold bTru; rw [h]; dsimp only; rw [h2]
theorem t_val (h : a e S = some (.bl k, S1)) : bVal a e S = some (k, S1) := by unfold bVal; rw [h]
theorem t_and (h : p e S = some (k, S1)) (h2 : (if k = true then q e S1 else some (false, S1)) = rb) : bAnd p q e S = rb := by unfold bAnd; rw [h]; cases k <;> exact h2
theorem t_or (h : p e S = some (k, S1)) (h2 : (if k = true then some (true, S1) else q e S1) = rb) : bOr p q e S = rb := by unfold bOr; rw [h]; cases k <;> exact h2
theorem t_not (h : p e S = some (k, S1)) : bNot p e S = some (!k, S1) := by unfold bNot; rw [h]
theorem s_nil : sNil e S = some (.nx e S) := rfl
theorem s_retN : sRetN e S = some (.rt .non S) := rfl
theorem s_seq (h : s e S = some (.nx e1 S1)) (h2 : t e1 S1 = rs) : sSeq s t e S = rs := by unfold sSeq; rw [h]; exact h2
theorem s_seqr (h : s e S = some (.rt d S1)) : sSeq s t e S = some (.rt d S1) := by unfold sSeq; rw [h]
theorem s_ret (h : a e S = some (d, S1)) : sRet a e S = some (.rt d S1) := by unfold sRet; rw [h]
theorem s_expr (h : a e S = some (d, S1)) : sExpr a e S = some (.nx e S1) := by unfold sExpr; rw [h]
theorem s_if (h : p e S = some (k, S1)) (h2 : (if k = true then s e S1 else t e S1) = rs) : sIf p s t e S = rs := by unfold sIf; rw [h]; cases k <;> exact h2
/-- an if ahead of a block: the way that is taken, then the rest -/
theorem s_ifs {u : XS} (h : p e S = some (k, S1)) (h2 : (if k = true then sSeq s u e S1 else sSeq t u e S1) = rs) : sSeq (sIf p s t) u e S = rs := by
  have hh : sIf p s t e S = if k = true then s e S1 else t e S1 := s_if h rfl
  cases k
  · have h2' : sSeq t u e S1 = rs := h2
    unfold sSeq at h2' ⊢
    rw [hh]; exact h2'
  · have h2' : sSeq s u e S1 = rs := h2
    unfold sSeq at h2' ⊢
    rw [hh]; exact h2'
theorem s_nils {u : XS} (h : u e S = rs) : sSeq sNil u e S = rs := h
theorem s_rets {u : XS} (h : a e S = some (d, S1)) : sSeq (sRet a) u e S = some (.rt d S1) := s_seqr (s_ret h)
theorem s_seqs {u v : XS} (h : sSeq s (sSeq u v) e S = rs) : sSeq (sSeq s u) v e S = rs := by
  unfold sSeq at h ⊢
  cases q : s e S with
  | none => rw [q] at h; exact h
  | some r => cases r <;> (rw [q] at h; exact h)
theorem s_asg (h : a e S = some (d, S1)) (h2 : g d e = some e1) : sAsg a g e S = some (.nx e1 S1) := by unfold sAsg; rw [h]; dsimp only; rw [h2]
theorem s_put {f} (h : a e S = some (y, S1)) (h1 : b e S1 = some (x, S2)) (h2 : c e S2 = some (z, S3)) (h3 : f x z y S3 = some S4) : sPut f a b c e S = some (.nx e S4) := by
  unfold sPut; rw [h]; dsimp only; rw [h1]; dsimp only; rw [h2]; dsimp only; rw [h3]
theorem s_for_fix {w : XW} {ds} (h : w e S = some (.fix ds, S1)) (h2 : forL g s ds e S1 = rs) : sFor w g s e S = rs := by unfold sFor; rw [h]; exact h2
theorem s_for_live {w : XW} {n} (h : w e S = some (.live n, S1)) (h2 : forV n g s turns 0 e S1 = rs) : sFor w g s e S = rs := by unfold sFor; rw [h]; exact h2
theorem f_nil : forL g s [] e S = some (.nx e S) := rfl
theorem f_cons {ds} {e2 : EnvD} (h : g d e = some e1) (h2 : s e1 S = some (.nx e2 S1)) (h3 : forL g s ds e2 S1 = rs) : forL g s (d :: ds) e S = rs := by
  unfold forL
  rw [h]; dsimp only; rw [h2]; exact h3
theorem f_consr {ds} (h : g d e = some e1) (h2 : s e1 S = some (.rt y S1)) : forL g s (d :: ds) e S = some (.rt y S1) := by
  unfold forL
  rw [h]; dsimp only; rw [h2]
theorem s_asgs {u : XS} {g : XG} (h : a e S = some (d, S1)) (h2 : g d e = some e1) (h3 : u e1 S1 = rs) : sSeq (sAsg a g) u e S = rs := s_seq (s_asg h h2) h3
theorem s_exprs {u : XS} (h : a e S = some (d, S1)) (h3 : u e S1 = rs) : sSeq (sExpr a) u e S = rs := s_seq (s_expr h) h3
theorem s_puts {u : XS} {f} (h : a e S = some (y, S1)) (h1 : b e S1 = some (x, S2)) (h2 : c e S2 = some (z, S3)) (h3 : f x z y S3 = some S4) (h4 : u e S4 = rs) : sSeq (sPut f a b c) u e S = rs := s_seq (s_put h h1 h2 h3) h4
theorem ix_nat {ds : List D} {i : Nat} (h : ds[i]? = some d) : fIx (.tup ds) (.int (i : Int)) S = some (d, S) := by
  show (match atI ds (i : Int) with | some d => some (d, S) | none => none) = some (d, S)
  rw [atI_nat h]
theorem ix_lst {ds : List D} {n i : Nat} (h0 : lstAt S n = some ds) (h : ds[i]? = some d) : fIx (.loc n) (.int (i : Int)) S = some (d, S) := by
  show (match lstAt S n with | some ds => (match atI ds (i : Int) with | some d => some (d, S) | none => none) | none => none) = some (d, S)
  rw [h0]
  dsimp only
  rw [atI_nat h]
theorem len_lst {ds : List D} {n : Nat} (h0 : lstAt S n = some ds) : fLen [.loc n] S = some (.int (ds.length : Int), S) := by
  show (match (match lstAt S n with | some ds => some ((ds.length : Nat) : Int) | none => none) with | some n => some (D.int n, S) | none => none) = _
  rw [h0]
theorem lst_len (e : S[n]? = some (.lst xs)) : lstAt S n = some xs := by unfold lstAt; rw [e]
theorem frz_len (e : S[n]? = some (.frz xs)) : lstAt S n = some xs := by unfold lstAt; rw [e]
theorem app_run {n : Nat} (e : S[n]? = some (.lst xs)) (h : xs.length < 1000000) : fApp (.loc n) [x] S = some (.non, S.set n (.lst (xs ++ [x]))) := by
  show (match S[n]? with | some (.lst ds) => (if ds.length < 1000000 then some (D.non, S.set n (.lst (ds ++ [x]))) else none) | _ => none) = _
  rw [e]
  dsimp only
  rw [if_pos h]
theorem put_run {n j : Nat} (e : S[n]? = some (.lst xs)) (h : j < xs.length) : fPut (.loc n) (.int (j : Int)) x S = some (S.set n (.lst (xs.set j x))) := by
  show (match S[n]? with | some (.lst ds) => (match ixN ds.length (j : Int) with | some j => some (S.set n (.lst (ds.set j x))) | none => none) | _ => none) = _
  rw [e]
  dsimp only
  have q : ixN xs.length (j : Int) = some j := by
    unfold ixN
    rw [if_pos (by omega), if_pos (by omega)]
    simp
  rw [q]
theorem okl_run {n : Nat} (e : S[n]? = some (.lst xs)) : okList (.loc n) S = true := by
  show (match lstAt S n with | some _ => true | none => false) = true
  rw [lst_len e]
theorem ix_head {ds : List D} : fIx (.tup (d :: ds)) (.int 0) S = some (d, S) := ix_nat (i := 0) rfl
/-- a loop over a list of the store, turn by turn -/
theorem fv_cons {n k i : Nat} {ds : List D} {e2 : EnvD} (h0 : lstAt S n = some ds) (h1 : ds[i]? = some d) (h : g d e = some e1) (h2 : s e1 S = some (.nx e2 S1)) (h3 : forV n g s k (i + 1) e2 S1 = rs) : forV n g s (k + 1) i e S = rs := by
  unfold forV
  rw [h0]; dsimp only; rw [h1]; dsimp only; rw [h]; dsimp only; rw [h2]; exact h3
theorem fv_nil {n k i : Nat} {ds : List D} (h0 : lstAt S n = some ds) (h1 : ds[i]? = none) : forV n g s (k + 1) i e S = some (.nx e S) := by
  unfold forV
  rw [h0]; dsimp only; rw [h1]
theorem forV_inv {n : Nat} {ds : List D} {P : Nat → EnvD → Sto → Prop} (hl : ∀ i e S, P i e S → lstAt S n = some ds)
    (hb : ∀ i d, ds[i]? = some d → ∀ e S, P i e S → ∃ e1 e2 S2, g d e = some e1 ∧ (s e1 S = some (.nx e2 S2) ∨ s e1 S = some (.ct e2 S2)) ∧ P (i + 1) e2 S2) :
    ∀ k i e S, P i e S → i ≤ ds.length → ds.length < i + k → ∃ e' S', forV n g s k i e S = some (.nx e' S') ∧ P ds.length e' S' := by
  intro k
  induction k with
  | zero => intro i e S p h1 h2; omega
  | succ k ih =>
    intro i e S p h1 h2
    by_cases hi : i < ds.length
    · obtain ⟨e1, e2, S2, hg, hs, hp⟩ := hb i _ (List.getElem?_eq_getElem hi) e S p
      obtain ⟨e', S', r1, r2⟩ := ih (i + 1) e2 S2 hp hi (by omega)
      refine ⟨e', S', ?_, r2⟩
      unfold forV
      rw [hl i e S p]; dsimp only; rw [List.getElem?_eq_getElem hi]; dsimp only; rw [hg]; dsimp only
      rcases hs with hs | hs <;> (rw [hs]; exact r1)
    · have hi' : i = ds.length := by omega
      subst hi'
      exact ⟨e, S, fv_nil (hl _ e S p) (List.getElem?_eq_none_iff.mpr (Nat.le_refl _)), p⟩
theorem forL_inv {ds : List D} {P : Nat → EnvD → Sto → Prop}
    (hb : ∀ i d, ds[i]? = some d → ∀ e S, P i e S → ∃ e1 e2 S2, g d e = some e1 ∧ (s e1 S = some (.nx e2 S2) ∨ s e1 S = some (.ct e2 S2)) ∧ P (i + 1) e2 S2) :
    ∀ (k : Nat) (e : EnvD) (S : Sto), k ≤ ds.length → P (ds.length - k) e S → ∃ e' S', forL g s (ds.drop (ds.length - k)) e S = some (.nx e' S') ∧ P ds.length e' S' := by
  intro k
  induction k with
  | zero =>
    intro e S hk p
    refine ⟨e, S, ?_, p⟩
    rw [Nat.sub_zero, List.drop_length]
    rfl
  | succ k ih =>
    intro e S hk p
    have hi : ds.length - (k + 1) < ds.length := by omega
    obtain ⟨e1, e2, S2, hg, hs, hp⟩ := hb _ _ (List.getElem?_eq_getElem hi) e S p
    have e3 : ds.length - (k + 1) + 1 = ds.length - k := by omega
    rw [e3] at hp
    obtain ⟨e', S', r1, r2⟩ := ih e2 S2 (by omega) hp
    refine ⟨e', S', ?_, r2⟩
    rw [List.drop_eq_getElem_cons hi, e3]
    unfold forL
    rw [hg]; dsimp only
    rcases hs with hs | hs <;> (rw [hs]; exact r1)
theorem forL_all {ds : List D} {P : Nat → EnvD → Sto → Prop} (h0 : P 0 e S)
    (hb : ∀ i d, ds[i]? = some d → ∀ e S, P i e S → ∃ e1 e2 S2, g d e = some e1 ∧ (s e1 S = some (.nx e2 S2) ∨ s e1 S = some (.ct e2 S2)) ∧ P (i + 1) e2 S2) :
    ∃ e' S', forL g s ds e S = some (.nx e' S') ∧ P ds.length e' S' := by
  have q := forL_inv (P := P) hb ds.length e S (Nat.le_refl _) (by rw [Nat.sub_self]; exact h0)
  rw [Nat.sub_self, List.drop_zero] at q
  exact q
theorem e_rt (h : s e S = some (.rt d S1)) : ends (s e S) = some (d, S1) := by rw [h]; rfl
theorem fin_eq {m : Option (D × Sto)} (h : m = some (d, S1)) (h2 : some (d, S1) = r) : m = r := h.trans h2
theorem e_nx (h : s e S = some (.nx e1 S1)) : ends (s e S) = some (.non, S1) := by rw [h]; rfl
end
end Mini

open PySem L2 Mini
/-! the reckoning, as a step of the tactic language -/
local macro_rules | `(tactic| walk_at "fact") => `(tactic| with_reducible assumption)
local macro_rules | `(tactic| walk_at "yes") => `(tactic| first | with_reducible assumption | (refine decide_eq_true ?_; first | with_reducible assumption | with_reducible rfl | omega))
local macro_rules | `(tactic| walk_at "no") => `(tactic| first | with_reducible exact Bool.false_ne_true | (refine Bool.eq_false_iff.mp ?_; first | with_reducible assumption | (refine decide_eq_false ?_; first | with_reducible assumption | omega)))
local macro_rules | `(tactic| walk_at "bool") => `(tactic| first | rfl | decide | (simp; done) | (simp; omega) | (simp at *; done) | (simp at *; omega))
local macro_rules | `(tactic| walk_at "bool not") => `(tactic| first | exact Bool.eq_false_iff.mp (by first | rfl | decide) | (simp; done) | (simp; omega) | (simp at *; done) | (simp at *; omega))
local macro_rules | `(tactic| walk_at "pick") => `(tactic| first | rw [if_pos (by walk_at "yes")] | rw [if_neg (by walk_at "no")] | rw [if_pos (by walk_at "bool")] | rw [if_neg (by walk_at "bool not")])
local macro_rules | `(tactic| walk_at "target") => `(tactic| first | ((simp only [gN, List.set_cons_zero, List.set_cons_succ]); rfl) | rfl)
local macro_rules | `(tactic| walk_at "prim") => `(tactic| first | walk_at "fact" | rfl)
local macro_rules | `(tactic| walk_at "ev") => `(tactic| (first
  | with_reducible exact v_c
  | with_reducible exact v_nil
  | ((with_reducible show xVar _ _ _ = _); rfl)
  | ((with_reducible apply v_op); (· walk_at "ev"); (· walk_at "ev"); (· walk_at "prim"))
  | ((with_reducible apply v_cons); (· walk_at "ev"); (· walk_at "ev"))
  | ((with_reducible apply v_call); (· walk_at "ev"); (· rfl); (· walk_at "fact"))
  | ((with_reducible apply v_all); (· walk_at "ev"); (· walk_at "prim"))
  | ((with_reducible apply v_un); (· walk_at "ev"); (· walk_at "prim"))
  | ((with_reducible apply v_if); (· walk_at "ev"); (· (walk_at "pick" <;> walk_at "ev")))
  | ((with_reducible apply v_and); (· walk_at "ev"); (· (walk_at "pick" <;> first | rfl | walk_at "ev")))
  | ((with_reducible apply v_or); (· walk_at "ev"); (· (walk_at "pick" <;> first | rfl | walk_at "ev")))
  | ((with_reducible apply v_not); (· walk_at "ev"); (· rfl))
  | ((with_reducible apply v_isi); (· walk_at "ev"); (· walk_at "prim"))
  | ((with_reducible apply v_met); (· walk_at "ev"); (· walk_at "prim"); (· walk_at "ev"); (· walk_at "prim"))
  | ((with_reducible apply t_tru); (· walk_at "ev"); (· walk_at "prim"))
  | ((with_reducible apply t_val); walk_at "ev")
  | ((with_reducible apply t_not); walk_at "ev")
  | ((with_reducible apply t_and); (· walk_at "ev"); (· (walk_at "pick" <;> first | rfl | walk_at "ev")))
  | ((with_reducible apply t_or); (· walk_at "ev"); (· (walk_at "pick" <;> first | rfl | walk_at "ev")))))
/-! statements: one after another, until a test is open -/
local macro_rules | `(tactic| walk_at "st") => `(tactic| (first
  | with_reducible exact s_nil
  | ((with_reducible apply s_ifs); (· walk_at "ev"); (walk_at "pick"))
  | ((with_reducible apply s_rets); walk_at "ev")
  | with_reducible apply s_seqs
  | with_reducible apply s_nils
  | ((with_reducible apply s_asgs); (· walk_at "ev"); (· walk_at "target"))
  | ((with_reducible apply s_exprs); (· walk_at "ev"))
  | ((with_reducible apply s_puts); (· walk_at "ev"); (· walk_at "ev"); (· walk_at "ev"); (· walk_at "prim"))))
local macro_rules | `(tactic| walk_at "sts") => `(tactic| (repeat walk_at "st"))

namespace Mini
open PySem L2
/-! ### == of plain data, as the laws ask it -/
mutual
/-- no places; how deep -/
def D.pu : D → Prop
  | .tup ds => ds.length ≤ 100000 ∧ D.pus ds
  | .loc _ => False
  | _ => True
def D.pus : List D → Prop
  | [] => True
  | d :: ds => D.pu d ∧ D.pus ds
end
mutual
def D.dp : D → Nat
  | .tup ds => D.dps ds + 1
  | _ => 0
def D.dps : List D → Nat
  | [] => 0
  | d :: ds => max (D.dp d) (D.dps ds)
end
theorem D.pus_get : ∀ {ds : List D} {i : Nat} {d : D}, D.pus ds → ds[i]? = some d → D.pu d ∧ D.dp d ≤ D.dps ds
  | [], _, _, _, e => by simp at e
  | d :: ds, 0, d', h, e => by
    simp at e; subst e
    exact ⟨h.1, by simp [D.dps]; omega⟩
  | d :: ds, i + 1, d', h, e => by
    obtain ⟨h1, h2⟩ := D.pus_get (i := i) (d := d') h.2 (by simpa using e)
    exact ⟨h1, by simp [D.dps]; omega⟩
def sSame (f : List D → Sto → Option (D × Sto)) : XS := (sSeq (sIf (bTru (xIsi .tuple (xVar 1))) (sSeq (sIf (bOr (bNot (bTru (xIsi .tuple (xVar 0)))) (bVal (xOp fNe (xAll fLen (xCons (xVar 0) xNil)) (xAll fLen (xCons (xVar 1) xNil))))) (sSeq (sRet (xC (.bl false))) sNil) sNil) (sSeq (sFor (wRng1 (xAll fLen (xCons (xVar 1) xNil))) (gN 2) (sSeq (sIf (bNot (bTru (xCall 2 f (xCons (xOp fIx (xVar 0) (xVar 2)) (xCons (xOp fIx (xVar 1) (xVar 2)) xNil))))) (sSeq (sRet (xC (.bl false))) sNil) sNil) sNil)) (sSeq (sRet (xC (.bl true))) sNil))) sNil) (sSeq (sIf (bVal (xOp fIs (xVar 1) (xC .non))) (sSeq (sRet (xOp fIs (xVar 0) (xC .non))) sNil) sNil) (sSeq (sIf (bTru (xIsi .bool (xVar 1))) (sSeq (sRet (xAnd (xIsi .bool (xVar 0)) (xOp fEq (xVar 0) (xVar 1)))) sNil) sNil) (sSeq (sIf (bTru (xIsi .int (xVar 1))) (sSeq (sRet (xAnd (xIsi .int (xVar 0)) (xAnd (xNot (xIsi .bool (xVar 0))) (xOp fEq (xVar 0) (xVar 1))))) sNil) sNil) (sSeq (sRet (xAnd (xIsi .str (xVar 0)) (xOp fEq (xVar 0) (xVar 1)))) sNil)))))
theorem wRng1_run {e : EnvD} {S S1 : Sto} {m : XE} {j : Int} (h : m e S = some (.int j, S1)) (hs : smallI j = true) : wRng1 m e S = some (.fix (rngD 0 j), S1) := by
  unfold wRng1
  rw [h]
  dsimp only
  rw [if_pos hs]
theorem wRng2_run {e : EnvD} {S S1 S2 : Sto} {m n : XE} {i j : Int} (h : m e S = some (.int i, S1)) (h2 : n e S1 = some (.int j, S2)) (hs : (smallI i && smallI j) = true) : wRng2 m n e S = some (.fix (rngD i j), S2) := by
  unfold wRng2
  rw [h]
  dsimp only
  rw [h2]
  dsimp only
  rw [if_pos hs]
theorem rng_get {i j : Int} {k : Nat} {d : D} (h : (rngD i j)[k]? = some d) : d = .int (i + k) ∧ k < (j - i).toNat := by
  unfold rngD at h
  rw [List.getElem?_map] at h
  by_cases c : k < (j - i).toNat
  · rw [List.getElem?_range c] at h
    cases h
    exact ⟨rfl, c⟩
  · rw [List.getElem?_eq_none_iff.mpr (by simpa using c)] at h
    cases h
theorem rng_len {i j : Int} : (rngD i j).length = (j - i).toNat := by simp [rngD]
theorem small_i {i : Int} (h0 : -1000000 ≤ i) (h1 : i ≤ 1000000) : smallI i = true := by
  unfold smallI
  simp [h0, h1]
theorem same_run (F : Nat → List D → Sto → Option (D × Sto)) (hF : ∀ n ds S, F (n + 1) ds S = ends (sSame (F n) (entry 3 ds) S)) : ∀ (n : Nat) (x : D) (S : Sto), x.pu → x.dp < n → F n [x, x] S = some (.bl true, S) := by
  intro n
  induction n with
  | zero => intro x S _ h; omega
  | succ n ih =>
    intro x S hp hd
    rw [hF]
    have en : entry 3 [x, x] = [some x, some x, none] := rfl
    rw [en]
    cases x with
    | loc k => exact hp.elim
    | non =>
      apply fin_eq
      · apply e_rt
        unfold sSame
        walk_at "sts"
      · rfl
    | bl k =>
      apply fin_eq
      · apply e_rt
        unfold sSame
        walk_at "sts"
      · simp
    | int k =>
      apply fin_eq
      · apply e_rt
        unfold sSame
        walk_at "sts"
      · simp
    | str k =>
      apply fin_eq
      · apply e_rt
        unfold sSame
        walk_at "sts"
      · simp
    | tup ds =>
      have hl : ds.length ≤ 100000 := hp.1
      have loop := forL_all (g := gN 2) (s := (sSeq (sIf (bNot (bTru (xCall 2 (F n) (xCons (xOp fIx (xVar 0) (xVar 2)) (xCons (xOp fIx (xVar 1) (xVar 2)) xNil))))) (sSeq (sRet (xC (.bl false))) sNil) sNil) sNil))
        (ds := rngD 0 (ds.length : Int)) (e := [some (.tup ds), some (.tup ds), none]) (S := S) (P := fun _ e' S' => S' = S ∧ ∃ o, e' = [some (.tup ds), some (.tup ds), o]) ⟨rfl, _, rfl⟩ (fun i d hd' e' S' ⟨e1, o, e2⟩ => by
          subst e1 e2
          obtain ⟨rfl, hi⟩ := rng_get hd'
          have hi' : i < ds.length := by omega
          rw [Int.zero_add]
          obtain ⟨h1, h2⟩ := D.pus_get hp.2 (List.getElem?_eq_getElem hi')
          have q := ih ds[i] S' h1 (by simp [D.dp] at hd; omega)
          have q1 : fIx (.tup ds) (.int (i : Int)) S' = some (ds[i], S') := ix_nat (List.getElem?_eq_getElem hi')
          refine ⟨_, [some (.tup ds), some (.tup ds), some (.int (i : Int))], S', rfl, .inl ?_, rfl, _, rfl⟩
          simp only [List.set_cons_zero, List.set_cons_succ]
          walk_at "sts")
      obtain ⟨e', S', h1, rfl, o, rfl⟩ := loop
      have hw : wRng1 (xAll fLen (xCons (xVar 1) xNil)) [some (.tup ds), some (.tup ds), none] S' = some (.fix (rngD 0 (ds.length : Int)), S') := by
        refine wRng1_run (m := xAll fLen (xCons (xVar 1) xNil)) ?_ (small_i (by omega) (by omega))
        walk_at "ev"
      have q9 := s_for_fix (w := wRng1 (xAll fLen (xCons (xVar 1) xNil))) hw h1
      apply fin_eq
      · apply e_rt
        unfold sSame
        walk_at "sts"
        apply s_seq
        · exact q9
        · walk_at "sts"
      · rfl

/-! ### the laws' box of digits -/
def sCell : XS := (sSeq (sIf (bVal (xOp fLt (xVar 1) (xAll fLen (xCons (xVar 0) xNil)))) (sSeq (sRet (xOp fIx (xVar 0) (xVar 1))) sNil) sNil) (sSeq (sRet (xC (.int 0))) sNil))
def sDigits (f : List D → Sto → Option (D × Sto)) : XS := (sSeq (sAsg (xAll mkLst xNil) (gN 3)) (sSeq (sFor (wRng2 (xVar 1) (xVar 2)) (gN 4) (sSeq (sAsg (xCall 2 f (xCons (xVar 0) (xCons (xVar 4) xNil))) (gN 5)) (sSeq (sIf (bVal (xOp fLt (xVar 5) (xC (.int 0)))) (sSeq (sAsg (xOp fSub (xC (.int 1)) (xOp fMul (xC (.int 2)) (xVar 5))) (gN 5)) sNil) sNil) (sSeq (sIf (bVal (xOp fGe (xVar 5) (xOp fPow (xC (.int 10)) (xC (.int 18))))) (sSeq (sFor (wRng1 (xC (.int 60))) (gN 6) (sSeq (sIf (bVal (xOp fGt (xVar 5) (xC (.int 0)))) (sSeq (sExpr (xMet okList fApp (xVar 3) (xCons (xOp fMod (xAll fInt (xCons (xVar 5) xNil)) (xC (.int 1000))) xNil))) (sSeq (sAsg (xOp fDiv (xVar 5) (xC (.int 1000))) (gN 5)) sNil)) sNil) sNil)) sNil) (sSeq (sAsg (xOp fMod (xAll fInt (xCons (xOp fAdd (xOp fAdd (xOp fMul (xVar 5) (xC (.int 48271))) (xOp fMul (xVar 4) (xC (.int 69621)))) (xC (.int 11))) xNil)) (xC (.int 2147483647))) (gN 7)) (sSeq (sFor (wRng1 (xC (.int 12))) (gN 6) (sSeq (sAsg (xOp fMod (xAll fInt (xCons (xOp fAdd (xOp fAdd (xOp fMul (xVar 7) (xC (.int 16807))) (xOp fMul (xC (.int 7)) (xVar 6))) (xC (.int 1))) xNil)) (xC (.int 2147483647))) (gN 7)) (sSeq (sExpr (xMet okList fApp (xVar 3) (xCons (xOp fMod (xAll fInt (xCons (xOp fDiv (xVar 7) (xC (.int 997))) xNil)) (xC (.int 1000))) xNil))) sNil))) sNil))) sNil)))) (sSeq (sRet (xVar 3)) sNil)))
def sBox (f : List D → Sto → Option (D × Sto)) : XS := (sSeq (sRet (xAll mkLst (xCons (xCall 3 f (xCons (xVar 0) (xCons (xVar 1) (xCons (xVar 2) xNil)))) (xCons (xC (.int 0)) xNil)))) sNil)
def sDraw : XS := (sSeq (sAsg (xOp fIx (xVar 0) (xC (.int 1))) (gN 2)) (sSeq (sPut fPut (xOp fAdd (xVar 2) (xC (.int 1))) (xVar 0) (xC (.int 1))) (sSeq (sIf (bVal (xOp fLt (xVar 2) (xAll fLen (xCons (xOp fIx (xVar 0) (xC (.int 0))) xNil)))) (sSeq (sRet (xOp fMod (xAll fInt (xCons (xOp fIx (xOp fIx (xVar 0) (xC (.int 0))) (xVar 2)) xNil)) (xVar 1))) sNil) sNil) (sSeq (sRet (xC (.int 0))) sNil))))
theorem cell_run {S : Sto} {s : Nat} {ns : List Int} (h : lstAt S s = some (ns.map D.int)) (hl : ns.length ≤ 1000) (k : Nat) : ∃ i : Int, ends (sCell [some (.loc s), some (.int (k : Int))] S) = some (.int i, S) := by
  have q1 : fLen [.loc s] S = some (.int (ns.length : Int), S) := by
    have q := len_lst h
    rw [List.length_map] at q
    exact q
  by_cases c : (k : Int) < ns.length
  · have hk : k < ns.length := by omega
    have q2 : fIx (.loc s) (.int (k : Int)) S = some (.int ns[k], S) := ix_lst h (by rw [List.getElem?_map, List.getElem?_eq_getElem hk]; rfl)
    refine ⟨ns[k], ?_⟩
    apply e_rt
    unfold sCell
    walk_at "sts"
  · refine ⟨0, ?_⟩
    apply e_rt
    unfold sCell
    walk_at "sts"
theorem mul_l (i j : Int) (S : Sto) (h : small64 i = true) : fMul (.int i) (.int j) S = some (.int (i * j), S) := by
  show (match (if (small64 i || small64 j) = true then some (D.int (i * j)) else none) with | some d => some (d, S) | none => none) = _
  rw [h, Bool.true_or, if_pos rfl]
theorem mul_r (i j : Int) (S : Sto) (h : small64 j = true) : fMul (.int i) (.int j) S = some (.int (i * j), S) := by
  show (match (if (small64 i || small64 j) = true then some (D.int (i * j)) else none) with | some d => some (d, S) | none => none) = _
  rw [h, Bool.or_true, if_pos rfl]
theorem pow_18 (S : Sto) : fPow (.int 10) (.int 18) S = some (.int 1000000000000000000, S) := by
  unfold fPow fI
  simp
theorem wRng1_c {e : EnvD} {S : Sto} {j : Int} (hs : smallI j = true) : wRng1 (xC (.int j)) e S = some (.fix (rngD 0 j), S) := wRng1_run rfl hs
/-- a list of ints at a place -/
def IntsAt (S : Sto) (n : Nat) (b : Nat) : Prop := ∃ ms : List Int, S[n]? = some (.lst (ms.map D.int)) ∧ ms.length ≤ b
/-- but for n the store is as it was -/
def Keeps (n : Nat) (S S' : Sto) : Prop := S'.length = S.length ∧ ∀ i, i ≠ n → S'[i]? = S[i]?
theorem Keeps.refl {n : Nat} {S : Sto} : Keeps n S S := ⟨rfl, fun _ _ => rfl⟩
theorem Keeps.trans {n : Nat} {S S1 S2 : Sto} (a : Keeps n S S1) (b : Keeps n S1 S2) : Keeps n S S2 := ⟨b.1.trans a.1, fun i h => (b.2 i h).trans (a.2 i h)⟩
theorem Keeps.set {n : Nat} {S : Sto} {o : O} : Keeps n S (S.set n o) := ⟨List.length_set, fun i h => List.getElem?_set_ne (Ne.symm h)⟩
theorem Keeps.lst {n m : Nat} {S S' : Sto} {ds : List D} (k : Keeps n S S') (h : m ≠ n) (e : lstAt S m = some ds) : lstAt S' m = some ds := by
  unfold lstAt at e ⊢
  rw [k.2 m h]
  exact e
theorem IntsAt.app {S : Sto} {n b : Nat} (h : IntsAt S n b) (hb : b < 1000000) (i : Int) : ∃ S', fApp (.loc n) [.int i] S = some (.non, S') ∧ IntsAt S' n (b + 1) ∧ Keeps n S S' ∧ okList (.loc n) S = true := by
  obtain ⟨ms, h1, h2⟩ := h
  refine ⟨_, app_run h1 (by rw [List.length_map]; omega), ⟨ms ++ [i], ?_, by simp; omega⟩, .set, okl_run h1⟩
  rw [List.getElem?_set_self (List.getElem?_eq_some_iff.mp h1).1]
  simp
theorem IntsAt.mono {S : Sto} {n b c : Nat} (h : IntsAt S n b) (hb : b ≤ c) : IntsAt S n c := let ⟨ms, h1, h2⟩ := h; ⟨ms, h1, Nat.le_trans h2 hb⟩
theorem dig1 {S : Sto} {L b : Nat} {w : Int} {x0 x1 x2 x4 x6 x7 : Option D} (h : IntsAt S L b) (hb : b + 60 < 1000000) :
    ∃ e' S', sFor (wRng1 (xC (.int 60))) (gN 6) (sSeq (sIf (bVal (xOp fGt (xVar 5) (xC (.int 0)))) (sSeq (sExpr (xMet okList fApp (xVar 3) (xCons (xOp fMod (xAll fInt (xCons (xVar 5) xNil)) (xC (.int 1000))) xNil))) (sSeq (sAsg (xOp fDiv (xVar 5) (xC (.int 1000))) (gN 5)) sNil)) sNil) sNil) [x0, x1, x2, some (.loc L), x4, some (.int w), x6, x7] S = some (.nx e' S') ∧ IntsAt S' L (b + 60) ∧ Keeps L S S' ∧ ∃ w' x6', e' = [x0, x1, x2, some (.loc L), x4, some (.int w'), x6', x7] := by
  have loop := forL_all (g := gN 6) (s := (sSeq (sIf (bVal (xOp fGt (xVar 5) (xC (.int 0)))) (sSeq (sExpr (xMet okList fApp (xVar 3) (xCons (xOp fMod (xAll fInt (xCons (xVar 5) xNil)) (xC (.int 1000))) xNil))) (sSeq (sAsg (xOp fDiv (xVar 5) (xC (.int 1000))) (gN 5)) sNil)) sNil) sNil)) (ds := rngD 0 60) (e := [x0, x1, x2, some (.loc L), x4, some (.int w), x6, x7]) (S := S)
    (P := fun j e' S' => IntsAt S' L (b + j) ∧ Keeps L S S' ∧ ∃ w' x6', e' = [x0, x1, x2, some (.loc L), x4, some (.int w'), x6', x7]) ⟨h, .refl, _, _, rfl⟩ (fun i d hd e' S' ⟨p1, p2, w', x6', p3⟩ => by
      obtain ⟨rfl, hi⟩ := rng_get hd
      subst p3
      have hi : i < 60 := hi
      by_cases c : 0 < w'
      · obtain ⟨S2, q1, q2, q3, q4⟩ := p1.app (by omega) (w' % 1000)
        refine ⟨_, [x0, x1, x2, some (.loc L), x4, some (.int (w' / 1000)), some (.int (0 + (i : Int))), x7], S2, rfl, .inl ?_, q2, p2.trans q3, _, _, rfl⟩
        simp only [List.set_cons_zero, List.set_cons_succ]
        walk_at "sts"
      · refine ⟨_, [x0, x1, x2, some (.loc L), x4, some (.int w'), some (.int (0 + (i : Int))), x7], S', rfl, .inl ?_, p1.mono (by omega), p2, _, _, rfl⟩
        simp only [List.set_cons_zero, List.set_cons_succ]
        walk_at "sts")
  obtain ⟨e', S', h1, h2, h3, h4⟩ := loop
  exact ⟨e', S', s_for_fix (wRng1_c rfl) h1, h2, h3, h4⟩
theorem dig2 {S : Sto} {L b : Nat} {w : Int} {x0 x1 x2 x4 x5 x6 : Option D} (h : IntsAt S L b) (hb : b + 12 < 1000000) :
    ∃ e' S', sFor (wRng1 (xC (.int 12))) (gN 6) (sSeq (sAsg (xOp fMod (xAll fInt (xCons (xOp fAdd (xOp fAdd (xOp fMul (xVar 7) (xC (.int 16807))) (xOp fMul (xC (.int 7)) (xVar 6))) (xC (.int 1))) xNil)) (xC (.int 2147483647))) (gN 7)) (sSeq (sExpr (xMet okList fApp (xVar 3) (xCons (xOp fMod (xAll fInt (xCons (xOp fDiv (xVar 7) (xC (.int 997))) xNil)) (xC (.int 1000))) xNil))) sNil)) [x0, x1, x2, some (.loc L), x4, x5, x6, some (.int w)] S = some (.nx e' S') ∧ IntsAt S' L (b + 12) ∧ Keeps L S S' ∧ ∃ w' x6', e' = [x0, x1, x2, some (.loc L), x4, x5, x6', some (.int w')] := by
  have loop := forL_all (g := gN 6) (s := (sSeq (sAsg (xOp fMod (xAll fInt (xCons (xOp fAdd (xOp fAdd (xOp fMul (xVar 7) (xC (.int 16807))) (xOp fMul (xC (.int 7)) (xVar 6))) (xC (.int 1))) xNil)) (xC (.int 2147483647))) (gN 7)) (sSeq (sExpr (xMet okList fApp (xVar 3) (xCons (xOp fMod (xAll fInt (xCons (xOp fDiv (xVar 7) (xC (.int 997))) xNil)) (xC (.int 1000))) xNil))) sNil))) (ds := rngD 0 12) (e := [x0, x1, x2, some (.loc L), x4, x5, x6, some (.int w)]) (S := S)
    (P := fun j e' S' => IntsAt S' L (b + j) ∧ Keeps L S S' ∧ ∃ w' x6', e' = [x0, x1, x2, some (.loc L), x4, x5, x6', some (.int w')]) ⟨h, .refl, _, _, rfl⟩ (fun i d hd e' S' ⟨p1, p2, w', x6', p3⟩ => by
      obtain ⟨rfl, hi⟩ := rng_get hd
      subst p3
      have hi : i < 12 := hi
      have m1 := mul_r w' 16807 S' rfl
      have m2 := mul_l 7 (0 + (i : Int)) S' rfl
      obtain ⟨S2, q1, q2, q3, q4⟩ := p1.app (by omega) (((w' * 16807 + 7 * (0 + (i : Int)) + 1) % 2147483647) / 997 % 1000)
      refine ⟨_, [x0, x1, x2, some (.loc L), x4, x5, some (.int (0 + (i : Int))), some (.int ((w' * 16807 + 7 * (0 + (i : Int)) + 1) % 2147483647))], S2, rfl, .inl ?_, q2, p2.trans q3, _, _, rfl⟩
      simp only [List.set_cons_zero, List.set_cons_succ]
      walk_at "sts")
  obtain ⟨e', S', h1, h2, h3, h4⟩ := loop
  exact ⟨e', S', s_for_fix (wRng1_c rfl) h1, h2, h3, h4⟩
theorem digits_run (f : List D → Sto → Option (D × Sto)) {S : Sto} {s : Nat} {ns : List Int} (hf : ∀ (S' : Sto) (k : Nat), lstAt S' s = some (ns.map D.int) → ∃ i : Int, f [.loc s, .int (k : Int)] S' = some (.int i, S')) (h : lstAt S s = some (ns.map D.int)) (last : Nat) (hlast : last ≤ 100) :
    ∃ ms : List Int, ms.length ≤ 6000 ∧ ends (sDigits f [some (.loc s), some (.int 0), some (.int (last : Int)), none, none, none, none, none] S) = some (.loc S.length, S ++ [.lst (ms.map D.int)]) := by
  have hs : s < S.length := by
    unfold lstAt at h
    cases q : S[s]? with
    | none => rw [q] at h; cases h
    | some o => exact (List.getElem?_eq_some_iff.mp q).1
  have hne : s ≠ S.length := Nat.ne_of_lt hs
  have h0 : lstAt (S ++ [.lst []]) s = some (ns.map D.int) := by
    unfold lstAt at h ⊢
    rw [List.getElem?_append_left hs]
    exact h
  have loop := forL_all (g := gN 4) (s := (sSeq (sAsg (xCall 2 f (xCons (xVar 0) (xCons (xVar 4) xNil))) (gN 5)) (sSeq (sIf (bVal (xOp fLt (xVar 5) (xC (.int 0)))) (sSeq (sAsg (xOp fSub (xC (.int 1)) (xOp fMul (xC (.int 2)) (xVar 5))) (gN 5)) sNil) sNil) (sSeq (sIf (bVal (xOp fGe (xVar 5) (xOp fPow (xC (.int 10)) (xC (.int 18))))) (sSeq (sFor (wRng1 (xC (.int 60))) (gN 6) (sSeq (sIf (bVal (xOp fGt (xVar 5) (xC (.int 0)))) (sSeq (sExpr (xMet okList fApp (xVar 3) (xCons (xOp fMod (xAll fInt (xCons (xVar 5) xNil)) (xC (.int 1000))) xNil))) (sSeq (sAsg (xOp fDiv (xVar 5) (xC (.int 1000))) (gN 5)) sNil)) sNil) sNil)) sNil) (sSeq (sAsg (xOp fMod (xAll fInt (xCons (xOp fAdd (xOp fAdd (xOp fMul (xVar 5) (xC (.int 48271))) (xOp fMul (xVar 4) (xC (.int 69621)))) (xC (.int 11))) xNil)) (xC (.int 2147483647))) (gN 7)) (sSeq (sFor (wRng1 (xC (.int 12))) (gN 6) (sSeq (sAsg (xOp fMod (xAll fInt (xCons (xOp fAdd (xOp fAdd (xOp fMul (xVar 7) (xC (.int 16807))) (xOp fMul (xC (.int 7)) (xVar 6))) (xC (.int 1))) xNil)) (xC (.int 2147483647))) (gN 7)) (sSeq (sExpr (xMet okList fApp (xVar 3) (xCons (xOp fMod (xAll fInt (xCons (xOp fDiv (xVar 7) (xC (.int 997))) xNil)) (xC (.int 1000))) xNil))) sNil))) sNil))) sNil))))
    (ds := rngD 0 (last : Int)) (e := [some (.loc s), some (.int 0), some (.int (last : Int)), some (.loc S.length), none, none, none, none]) (S := S ++ [.lst []])
    (P := fun j e' S' => IntsAt S' S.length (60 * j) ∧ Keeps S.length (S ++ [.lst []]) S' ∧ ∃ a b c d, e' = [some (.loc s), some (.int 0), some (.int (last : Int)), some (.loc S.length), a, b, c, d]) ⟨⟨[], by simp⟩, .refl, _, _, _, _, rfl⟩ ?_
  · obtain ⟨e', S', h1, ⟨ms, h2, h3⟩, hk, a, b, c, d, rfl⟩ := loop
    rw [rng_len] at h3
    refine ⟨ms, by omega, ?_⟩
    have eS : S' = S ++ [.lst (ms.map D.int)] := by
      apply List.ext_getElem?
      intro i
      by_cases hi : i = S.length
      · subst hi
        rw [h2]
        simp
      · rw [hk.2 i hi]
        by_cases hi2 : i < S.length
        · rw [List.getElem?_append_left hi2, List.getElem?_append_left hi2]
        · rw [List.getElem?_eq_none_iff.mpr (by simp; omega), List.getElem?_eq_none_iff.mpr (by simp; omega)]
    subst eS
    have hw : wRng2 (xVar 1) (xVar 2) [some (.loc s), some (.int 0), some (.int (last : Int)), some (.loc S.length), none, none, none, none] (S ++ [.lst []]) = some (.fix (rngD 0 (last : Int)), S ++ [.lst []]) :=
      wRng2_run rfl rfl (by rw [small_i (by omega) (by omega), small_i (by omega) (by omega)]; rfl)
    have q9 := s_for_fix hw h1
    apply e_rt
    unfold sDigits
    walk_at "st"
    apply s_seq
    · exact q9
    · walk_at "sts"
  · intro i d hd e' S' ⟨p1, p2, a, b, c, dd, p3⟩
    obtain ⟨rfl, hi⟩ := rng_get hd
    subst p3
    rw [Int.zero_add]
    have hi : i < last := by omega
    obtain ⟨v, hv⟩ := hf S' i (p2.lst hne h0)
    -- the cell, made positive
    have rest : ∀ (w : Int), ∃ e2 S2, sSeq (sIf (bVal (xOp fGe (xVar 5) (xOp fPow (xC (.int 10)) (xC (.int 18))))) (sSeq (sFor (wRng1 (xC (.int 60))) (gN 6) (sSeq (sIf (bVal (xOp fGt (xVar 5) (xC (.int 0)))) (sSeq (sExpr (xMet okList fApp (xVar 3) (xCons (xOp fMod (xAll fInt (xCons (xVar 5) xNil)) (xC (.int 1000))) xNil))) (sSeq (sAsg (xOp fDiv (xVar 5) (xC (.int 1000))) (gN 5)) sNil)) sNil) sNil)) sNil) (sSeq (sAsg (xOp fMod (xAll fInt (xCons (xOp fAdd (xOp fAdd (xOp fMul (xVar 5) (xC (.int 48271))) (xOp fMul (xVar 4) (xC (.int 69621)))) (xC (.int 11))) xNil)) (xC (.int 2147483647))) (gN 7)) (sSeq (sFor (wRng1 (xC (.int 12))) (gN 6) (sSeq (sAsg (xOp fMod (xAll fInt (xCons (xOp fAdd (xOp fAdd (xOp fMul (xVar 7) (xC (.int 16807))) (xOp fMul (xC (.int 7)) (xVar 6))) (xC (.int 1))) xNil)) (xC (.int 2147483647))) (gN 7)) (sSeq (sExpr (xMet okList fApp (xVar 3) (xCons (xOp fMod (xAll fInt (xCons (xOp fDiv (xVar 7) (xC (.int 997))) xNil)) (xC (.int 1000))) xNil))) sNil))) sNil))) sNil
        [some (.loc s), some (.int 0), some (.int (last : Int)), some (.loc S.length), some (.int (i : Int)), some (.int w), c, dd] S' = some (.nx e2 S2) ∧ IntsAt S2 S.length (60 * (i + 1)) ∧ Keeps S.length (S ++ [.lst []]) S2 ∧ ∃ a b c d, e2 = [some (.loc s), some (.int 0), some (.int (last : Int)), some (.loc S.length), a, b, c, d] := by
      intro w
      have hp : fPow (.int 10) (.int 18) S' = some (.int 1000000000000000000, S') := pow_18 S'
      by_cases hc : (1000000000000000000 : Int) ≤ w
      · obtain ⟨e2, S2, r1, r2, r3, w', x6', rfl⟩ := dig1 (x0 := some (.loc s)) (x1 := some (.int 0)) (x2 := some (.int (last : Int))) (x4 := some (.int (i : Int))) (x6 := c) (x7 := dd) (w := w) p1 (by omega)
        refine ⟨[some (.loc s), some (.int 0), some (.int (last : Int)), some (.loc S.length), some (.int (i : Int)), some (.int w'), x6', dd], S2, ?_, r2.mono (by omega), p2.trans r3, _, _, _, _, rfl⟩
        walk_at "st"
        apply s_seqs
        apply s_seq
        · exact r1
        · walk_at "sts"
      · have m1 := mul_r w 48271 S' rfl
        have m2 := mul_r (i : Int) 69621 S' rfl
        obtain ⟨e2, S2, r1, r2, r3, w', x6', rfl⟩ := dig2 (x0 := some (.loc s)) (x1 := some (.int 0)) (x2 := some (.int (last : Int))) (x4 := some (.int (i : Int))) (x5 := some (.int w)) (x6 := c) (w := (w * 48271 + (i : Int) * 69621 + 11) % 2147483647) p1 (by omega)
        refine ⟨[some (.loc s), some (.int 0), some (.int (last : Int)), some (.loc S.length), some (.int (i : Int)), some (.int w), x6', some (.int w')], S2, ?_, r2.mono (by omega), p2.trans r3, _, _, _, _, rfl⟩
        walk_at "st"
        walk_at "st"
        walk_at "st"
        walk_at "st"
        apply s_seq
        · exact r1
        · walk_at "sts"
    by_cases hc : v < 0
    · have m1 := mul_l 2 v S' rfl
      obtain ⟨e2, S2, r1, r2, r3, r4⟩ := rest (1 - 2 * v)
      refine ⟨_, e2, S2, rfl, .inl ?_, r2, r3, r4⟩
      simp only [List.set_cons_zero, List.set_cons_succ]
      walk_at "st"
      walk_at "st"
      walk_at "st"
      walk_at "st"
      walk_at "st"
      exact r1
    · obtain ⟨e2, S2, r1, r2, r3, r4⟩ := rest v
      refine ⟨_, e2, S2, rfl, .inl ?_, r2, r3, r4⟩
      simp only [List.set_cons_zero, List.set_cons_succ]
      walk_at "st"
      walk_at "st"
      walk_at "st"
      exact r1
/-- a box of digits at b -/
def Box (S : Sto) (b : Nat) : Prop := ∃ (l : Nat) (ms : List Int) (i : Int), S[b]? = some (.lst [.loc l, .int i]) ∧ l ≠ b ∧ S[l]? = some (.lst (ms.map D.int)) ∧ 0 ≤ i ∧ ms.length ≤ 100000
theorem Box.keeps {S S' : Sto} {b n : Nat} (k : Keeps n S S') (h : Box S b) (h1 : b ≠ n) (h2 : ∀ (l : Nat) (ms : List Int) (i : Int), S[b]? = some (.lst [.loc l, .int i]) → S[l]? = some (.lst (ms.map D.int)) → l ≠ n) : Box S' b := by
  obtain ⟨l, ms, i, a1, a2, a3, a4⟩ := h
  exact ⟨l, ms, i, by rw [k.2 b h1]; exact a1, a2, by rw [k.2 l (h2 l ms i a1 a3)]; exact a3, a4⟩
theorem Box.more {S : Sto} {b : Nat} (h : Box S b) (T : Sto) : Box (S ++ T) b := by
  obtain ⟨l, ms, i, a1, a2, a3, a4⟩ := h
  refine ⟨l, ms, i, ?_, a2, ?_, a4⟩
  · rw [List.getElem?_append_left (List.getElem?_eq_some_iff.mp a1).1]; exact a1
  · rw [List.getElem?_append_left (List.getElem?_eq_some_iff.mp a3).1]; exact a3
theorem Box.lt {S : Sto} {b : Nat} (h : Box S b) : b < S.length := by
  obtain ⟨l, ms, i, a1, _⟩ := h
  exact (List.getElem?_eq_some_iff.mp a1).1
theorem box_run (f : List D → Sto → Option (D × Sto)) {S : Sto} {s : Nat} {last : Nat} (hf : ∃ ms : List Int, ms.length ≤ 6000 ∧ f [.loc s, .int 0, .int (last : Int)] S = some (.loc S.length, S ++ [.lst (ms.map D.int)])) :
    ∃ S', ends (sBox f [some (.loc s), some (.int 0), some (.int (last : Int))] S) = some (.loc (S.length + 1), S') ∧ Box S' (S.length + 1) ∧ S'.length = S.length + 2 ∧ S <+: S' := by
  obtain ⟨ms, h1, h2⟩ := hf
  refine ⟨S ++ [.lst (ms.map D.int)] ++ [.lst [.loc S.length, .int 0]], ?_, ⟨S.length, ms, 0, ?_, by omega, ?_, by omega, by omega⟩, by simp, ?_⟩
  · apply fin_eq
    · apply e_rt
      unfold sBox
      walk_at "sts"
    · simp
  · rw [List.getElem?_append_right (by simp)]
    simp
  · rw [List.append_assoc, List.getElem?_append_right (Nat.le_refl _)]
    simp
  · rw [List.append_assoc]
    exact List.prefix_append _ _
theorem draw_run {S : Sto} {b : Nat} {many : Int} (h : Box S b) (hm : 0 < many) : ∃ (r : Int) (S' : Sto), ends (sDraw [some (.loc b), some (.int many), none] S) = some (.int r, S') ∧ 0 ≤ r ∧ r < many ∧ Box S' b ∧ Keeps b S S' := by
  obtain ⟨l, ms, i, a1, a2, a3, a4, a5⟩ := h
  have lb : lstAt S b = some [.loc l, .int i] := lst_len a1
  have q1 : fIx (.loc b) (.int 1) S = some (.int i, S) := ix_lst (i := 1) lb rfl
  have q2 : fPut (.loc b) (.int 1) (.int (i + 1)) S = some (S.set b (.lst [.loc l, .int (i + 1)])) := put_run (j := 1) a1 (by simp)
  have hb := (List.getElem?_eq_some_iff.mp a1).1
  have b1 : (S.set b (.lst [.loc l, .int (i + 1)]))[b]? = some (.lst [.loc l, .int (i + 1)]) := List.getElem?_set_self hb
  have b2 : (S.set b (.lst [.loc l, .int (i + 1)]))[l]? = some (.lst (ms.map D.int)) := by rw [List.getElem?_set_ne (Ne.symm a2)]; exact a3
  have bx : Box (S.set b (.lst [.loc l, .int (i + 1)])) b := ⟨l, ms, i + 1, b1, a2, b2, by omega, a5⟩
  have q3 : fIx (.loc b) (.int 0) (S.set b (.lst [.loc l, .int (i + 1)])) = some (.loc l, S.set b (.lst [.loc l, .int (i + 1)])) := ix_lst (i := 0) (lst_len b1) rfl
  have q4 : fLen [.loc l] (S.set b (.lst [.loc l, .int (i + 1)])) = some (.int (ms.length : Int), S.set b (.lst [.loc l, .int (i + 1)])) := by
    have q := len_lst (lst_len b2)
    rw [List.length_map] at q
    exact q
  by_cases c : i < (ms.length : Int)
  · have hi : i.toNat < ms.length := by omega
    have ei : i = ((i.toNat : Nat) : Int) := by omega
    have q5 : fIx (.loc l) (.int i) (S.set b (.lst [.loc l, .int (i + 1)])) = some (.int ms[i.toNat], S.set b (.lst [.loc l, .int (i + 1)])) := by
      have q := ix_lst (i := i.toNat) (lst_len b2) (by rw [List.getElem?_map, List.getElem?_eq_getElem hi]; rfl)
      rw [← ei] at q
      exact q
    have q6 : fMod (.int ms[i.toNat]) (.int many) (S.set b (.lst [.loc l, .int (i + 1)])) = some (.int (ms[i.toNat] % many), S.set b (.lst [.loc l, .int (i + 1)])) := by
      show (match (if decide (0 < many) = true then some (D.int (ms[i.toNat] % many)) else none) with | some d => some (d, S.set b (.lst [.loc l, .int (i + 1)])) | none => none) = _
      rw [if_pos (decide_eq_true hm)]
    refine ⟨ms[i.toNat] % many, S.set b (.lst [.loc l, .int (i + 1)]), ?_, Int.emod_nonneg _ (by omega), Int.emod_lt_of_pos _ hm, bx, .set⟩
    apply e_rt
    unfold sDraw
    walk_at "sts"
  · refine ⟨0, S.set b (.lst [.loc l, .int (i + 1)]), ?_, by omega, hm, bx, .set⟩
    apply e_rt
    unfold sDraw
    walk_at "sts"
end Mini

namespace K49
open PySem L2 Mini
def top (i : Nat) : Stmt := PySem.Challenge.pw_proofabode_k49_words_of_two_terms.main.body.getD i (.Pass ⟨0, 0, 0, 0⟩)
abbrev s0 : Stmt := top 1
abbrev s1 : Stmt := top 3
abbrev s2 : Stmt := top 4
abbrev s3 : Stmt := top 5
abbrev s4 : Stmt := top 6
abbrev s5 : Stmt := top 7
abbrev s6 : Stmt := top 8
abbrev s7 : Stmt := top 9
abbrev s8 : Stmt := top 10
abbrev s9 : Stmt := top 12
abbrev s10 : Stmt := top 13
abbrev s11 : Stmt := top 14
abbrev s12 : Stmt := top 15
abbrev s13 : Stmt := top 16
abbrev s14 : Stmt := top 17
abbrev s15 : Stmt := top 18
abbrev s16 : Stmt := top 19
abbrev s17 : Stmt := top 20
abbrev s18 : Stmt := top 21
abbrev s19 : Stmt := top 22
abbrev s20 : Stmt := top 23
abbrev s21 : Stmt := top 24
/-- is_number -/
def m0 (T : Nat → List D → Sto → Option (D × Sto)) : XS := (sSeq (sRet (xAnd (xIsi .int (xVar 0)) (xAnd (xNot (xIsi .bool (xVar 0))) (xOp fGe (xVar 0) (xC (.int 0)))))) sNil)
theorem sc0 : FnScope ["value"] ["value"] (defScope s0) := ⟨rfl, rfl, rfl, by decide +kernel, rfl, by decide +kernel, by decide +kernel⟩
/-- is_term -/
def m1 (T : Nat → List D → Sto → Option (D × Sto)) : XS := (sSeq (sIf (bOr (bNot (bTru (xIsi .tuple (xVar 0)))) (bOr (bVal (xOp fLt (xAll fLen (xCons (xVar 0) xNil)) (xC (.int 2)))) (bNot (bTru (xIsi .str (xOp fIx (xVar 0) (xC (.int 0)))))))) (sSeq (sRet (xC (.bl false))) sNil) sNil) (sSeq (sIf (bVal (xOp fEq (xOp fIx (xVar 0) (xC (.int 0))) (xC (.str "at")))) (sSeq (sRet (xAnd (xOp fEq (xAll fLen (xCons (xVar 0) xNil)) (xC (.int 2))) (xAnd (xCall 1 (T 0) (xCons (xOp fIx (xVar 0) (xC (.int 1))) xNil)) (xOp fLt (xOp fIx (xVar 0) (xC (.int 1))) (xVar 1))))) sNil) sNil) (sSeq (sIf (bVal (xOp fEq (xOp fIx (xVar 0) (xC (.int 0))) (xC (.str "make")))) (sSeq (sRet (xAnd (xOp fEq (xAll fLen (xCons (xVar 0) xNil)) (xC (.int 2))) (xCall 2 (T 1) (xCons (xOp fIx (xVar 0) (xC (.int 1))) (xCons (xOp fAdd (xVar 1) (xC (.int 1))) xNil))))) sNil) sNil) (sSeq (sRet (xAnd (xOp fEq (xOp fIx (xVar 0) (xC (.int 0))) (xC (.str "call"))) (xAnd (xOp fEq (xAll fLen (xCons (xVar 0) xNil)) (xC (.int 3))) (xAnd (xCall 2 (T 1) (xCons (xOp fIx (xVar 0) (xC (.int 1))) (xCons (xVar 1) xNil))) (xCall 2 (T 1) (xCons (xOp fIx (xVar 0) (xC (.int 2))) (xCons (xVar 1) xNil))))))) sNil))))
theorem sc1 : FnScope ["value", "depth"] ["value", "depth"] (defScope s1) := ⟨rfl, rfl, rfl, by decide +kernel, rfl, by decide +kernel, by decide +kernel⟩
/-- raised -/
def m2 (T : Nat → List D → Sto → Option (D × Sto)) : XS := (sSeq (sIf (bVal (xOp fEq (xOp fIx (xVar 0) (xC (.int 0))) (xC (.str "at")))) (sSeq (sRet (xIf (bVal (xOp fGe (xOp fIx (xVar 0) (xC (.int 1))) (xVar 2))) (xAll mkTup (xCons (xC (.str "at")) (xCons (xOp fAdd (xOp fIx (xVar 0) (xC (.int 1))) (xVar 1)) xNil))) (xVar 0))) sNil) sNil) (sSeq (sIf (bVal (xOp fEq (xOp fIx (xVar 0) (xC (.int 0))) (xC (.str "make")))) (sSeq (sRet (xAll mkTup (xCons (xC (.str "make")) (xCons (xCall 3 (T 2) (xCons (xOp fIx (xVar 0) (xC (.int 1))) (xCons (xVar 1) (xCons (xOp fAdd (xVar 2) (xC (.int 1))) xNil)))) xNil)))) sNil) sNil) (sSeq (sRet (xAll mkTup (xCons (xC (.str "call")) (xCons (xCall 3 (T 2) (xCons (xOp fIx (xVar 0) (xC (.int 1))) (xCons (xVar 1) (xCons (xVar 2) xNil)))) (xCons (xCall 3 (T 2) (xCons (xOp fIx (xVar 0) (xC (.int 2))) (xCons (xVar 1) (xCons (xVar 2) xNil)))) xNil))))) sNil)))
theorem sc2 : FnScope ["term", "by", "least"] ["term", "by", "least"] (defScope s2) := ⟨rfl, rfl, rfl, by decide +kernel, rfl, by decide +kernel, by decide +kernel⟩
/-- put_at -/
def m3 (T : Nat → List D → Sto → Option (D × Sto)) : XS := (sSeq (sIf (bVal (xOp fEq (xOp fIx (xVar 0) (xC (.int 0))) (xC (.str "at")))) (sSeq (sIf (bVal (xOp fEq (xOp fIx (xVar 0) (xC (.int 1))) (xVar 1))) (sSeq (sRet (xCall 3 (T 2) (xCons (xVar 2) (xCons (xVar 1) (xCons (xC (.int 0)) xNil))))) sNil) sNil) (sSeq (sRet (xIf (bVal (xOp fGt (xOp fIx (xVar 0) (xC (.int 1))) (xVar 1))) (xAll mkTup (xCons (xC (.str "at")) (xCons (xOp fSub (xOp fIx (xVar 0) (xC (.int 1))) (xC (.int 1))) xNil))) (xVar 0))) sNil)) sNil) (sSeq (sIf (bVal (xOp fEq (xOp fIx (xVar 0) (xC (.int 0))) (xC (.str "make")))) (sSeq (sRet (xAll mkTup (xCons (xC (.str "make")) (xCons (xCall 3 (T 3) (xCons (xOp fIx (xVar 0) (xC (.int 1))) (xCons (xOp fAdd (xVar 1) (xC (.int 1))) (xCons (xVar 2) xNil)))) xNil)))) sNil) sNil) (sSeq (sRet (xAll mkTup (xCons (xC (.str "call")) (xCons (xCall 3 (T 3) (xCons (xOp fIx (xVar 0) (xC (.int 1))) (xCons (xVar 1) (xCons (xVar 2) xNil)))) (xCons (xCall 3 (T 3) (xCons (xOp fIx (xVar 0) (xC (.int 2))) (xCons (xVar 1) (xCons (xVar 2) xNil)))) xNil))))) sNil)))
theorem sc3 : FnScope ["term", "place", "other"] ["term", "place", "other"] (defScope s3) := ⟨rfl, rfl, rfl, by decide +kernel, rfl, by decide +kernel, by decide +kernel⟩
/-- step -/
def m4 (T : Nat → List D → Sto → Option (D × Sto)) : XS := (sSeq (sIf (bVal (xOp fEq (xOp fIx (xVar 0) (xC (.int 0))) (xC (.str "at")))) (sSeq (sRet (xC .non)) sNil) sNil) (sSeq (sIf (bVal (xOp fEq (xOp fIx (xVar 0) (xC (.int 0))) (xC (.str "make")))) (sSeq (sAsg (xCall 1 (T 4) (xCons (xOp fIx (xVar 0) (xC (.int 1))) xNil)) (gN 1)) (sSeq (sRet (xIf (bVal (xOp fIs (xVar 1) (xC .non))) (xC .non) (xAll mkTup (xCons (xC (.str "make")) (xCons (xVar 1) xNil))))) sNil)) sNil) (sSeq (sIf (bVal (xOp fEq (xOp fIx (xOp fIx (xVar 0) (xC (.int 1))) (xC (.int 0))) (xC (.str "make")))) (sSeq (sRet (xCall 3 (T 3) (xCons (xOp fIx (xOp fIx (xVar 0) (xC (.int 1))) (xC (.int 1))) (xCons (xC (.int 0)) (xCons (xOp fIx (xVar 0) (xC (.int 2))) xNil))))) sNil) sNil) (sSeq (sAsg (xCall 1 (T 4) (xCons (xOp fIx (xVar 0) (xC (.int 1))) xNil)) (gN 2)) (sSeq (sIf (bVal (xOp fIsNot (xVar 2) (xC .non))) (sSeq (sRet (xAll mkTup (xCons (xC (.str "call")) (xCons (xVar 2) (xCons (xOp fIx (xVar 0) (xC (.int 2))) xNil))))) sNil) sNil) (sSeq (sAsg (xCall 1 (T 4) (xCons (xOp fIx (xVar 0) (xC (.int 2))) xNil)) (gN 3)) (sSeq (sRet (xIf (bVal (xOp fIs (xVar 3) (xC .non))) (xC .non) (xAll mkTup (xCons (xC (.str "call")) (xCons (xOp fIx (xVar 0) (xC (.int 1))) (xCons (xVar 3) xNil)))))) sNil)))))))
theorem sc4 : FnScope ["term", "inner", "first", "second"] ["term"] (defScope s4) := ⟨rfl, rfl, rfl, by decide +kernel, rfl, by decide +kernel, by decide +kernel⟩
/-- done -/
def m5 (T : Nat → List D → Sto → Option (D × Sto)) : XS := (sSeq (sFor (wRng1 (xOp fAdd (xVar 1) (xC (.int 1)))) (gN 2) (sSeq (sAsg (xCall 1 (T 4) (xCons (xVar 0) xNil)) (gN 3)) (sSeq (sIf (bVal (xOp fIs (xVar 3) (xC .non))) (sSeq (sRet (xVar 0)) sNil) sNil) (sSeq (sAsg (xVar 3) (gN 0)) sNil)))) (sSeq (sRet (xC .non)) sNil))
theorem sc5 : FnScope ["term", "most", "_", "following"] ["term", "most"] (defScope s5) := ⟨rfl, rfl, rfl, by decide +kernel, rfl, by decide +kernel, by decide +kernel⟩
/-- combined -/
def m6 (T : Nat → List D → Sto → Option (D × Sto)) : XS := (sSeq (sIf (bVal (xOp fEq (xVar 0) (xC (.str "k")))) (sSeq (sRet (xAll mkTup (xCons (xC (.str "make")) (xCons (xAll mkTup (xCons (xC (.str "make")) (xCons (xAll mkTup (xCons (xC (.str "at")) (xCons (xC (.int 1)) xNil))) xNil))) xNil)))) sNil) sNil) (sSeq (sIf (bVal (xOp fEq (xVar 0) (xC (.str "s")))) (sSeq (sAsg (xAll mkTup (xCons (xC (.str "call")) (xCons (xAll mkTup (xCons (xC (.str "call")) (xCons (xAll mkTup (xCons (xC (.str "at")) (xCons (xC (.int 2)) xNil))) (xCons (xAll mkTup (xCons (xC (.str "at")) (xCons (xC (.int 0)) xNil))) xNil)))) (xCons (xAll mkTup (xCons (xC (.str "call")) (xCons (xAll mkTup (xCons (xC (.str "at")) (xCons (xC (.int 1)) xNil))) (xCons (xAll mkTup (xCons (xC (.str "at")) (xCons (xC (.int 0)) xNil))) xNil)))) xNil)))) (gN 1)) (sSeq (sRet (xAll mkTup (xCons (xC (.str "make")) (xCons (xAll mkTup (xCons (xC (.str "make")) (xCons (xAll mkTup (xCons (xC (.str "make")) (xCons (xVar 1) xNil))) xNil))) xNil)))) sNil)) sNil) (sSeq (sRet (xAll mkTup (xCons (xC (.str "call")) (xCons (xCall 1 (T 6) (xCons (xOp fIx (xVar 0) (xC (.int 0))) xNil)) (xCons (xCall 1 (T 6) (xCons (xOp fIx (xVar 0) (xC (.int 1))) xNil)) xNil))))) sNil)))
theorem sc6 : FnScope ["word", "inner"] ["word"] (defScope s6) := ⟨rfl, rfl, rfl, by decide +kernel, rfl, by decide +kernel, by decide +kernel⟩
/-- without_last -/
def m7 (T : Nat → List D → Sto → Option (D × Sto)) : XS := (sSeq (sIf (bVal (xOp fEq (xVar 0) (xC (.int 0)))) (sSeq (sRet (xAll mkTup (xCons (xAll mkTup (xCons (xC (.str "s")) (xCons (xC (.str "k")) xNil))) (xCons (xC (.str "k")) xNil)))) sNil) sNil) (sSeq (sIf (bNot (bTru (xIsi .tuple (xVar 0)))) (sSeq (sRet (xAll mkTup (xCons (xC (.str "k")) (xCons (xIf (bTru (xIsi .int (xVar 0))) (xOp fSub (xVar 0) (xC (.int 1))) (xVar 0)) xNil)))) sNil) sNil) (sSeq (sRet (xAll mkTup (xCons (xAll mkTup (xCons (xC (.str "s")) (xCons (xCall 1 (T 7) (xCons (xOp fIx (xVar 0) (xC (.int 0))) xNil)) xNil))) (xCons (xCall 1 (T 7) (xCons (xOp fIx (xVar 0) (xC (.int 1))) xNil)) xNil)))) sNil)))
theorem sc7 : FnScope ["word"] ["word"] (defScope s7) := ⟨rfl, rfl, rfl, by decide +kernel, rfl, by decide +kernel, by decide +kernel⟩
/-- word_of -/
def m8 (T : Nat → List D → Sto → Option (D × Sto)) : XS := (sSeq (sIf (bVal (xOp fEq (xOp fIx (xVar 0) (xC (.int 0))) (xC (.str "at")))) (sSeq (sRet (xOp fIx (xVar 0) (xC (.int 1)))) sNil) sNil) (sSeq (sIf (bVal (xOp fEq (xOp fIx (xVar 0) (xC (.int 0))) (xC (.str "call")))) (sSeq (sRet (xAll mkTup (xCons (xCall 1 (T 8) (xCons (xOp fIx (xVar 0) (xC (.int 1))) xNil)) (xCons (xCall 1 (T 8) (xCons (xOp fIx (xVar 0) (xC (.int 2))) xNil)) xNil)))) sNil) sNil) (sSeq (sRet (xCall 1 (T 7) (xCons (xCall 1 (T 8) (xCons (xOp fIx (xVar 0) (xC (.int 1))) xNil)) xNil))) sNil)))
theorem sc8 : FnScope ["term"] ["term"] (defScope s8) := ⟨rfl, rfl, rfl, by decide +kernel, rfl, by decide +kernel, by decide +kernel⟩
/-- _law_box -/
def m9 (T : Nat → List D → Sto → Option (D × Sto)) : XS := (sSeq (sRet (xAll mkLst (xCons (xCall 3 (T 10) (xCons (xVar 0) (xCons (xVar 1) (xCons (xVar 2) xNil)))) (xCons (xC (.int 0)) xNil)))) sNil)
theorem sc9 : FnScope ["script", "first", "last"] ["script", "first", "last"] (defScope s9) := ⟨rfl, rfl, rfl, by decide +kernel, rfl, by decide +kernel, by decide +kernel⟩
/-- _law_digits -/
def m10 (T : Nat → List D → Sto → Option (D × Sto)) : XS := (sSeq (sAsg (xAll mkLst xNil) (gN 3)) (sSeq (sFor (wRng2 (xVar 1) (xVar 2)) (gN 4) (sSeq (sAsg (xCall 2 (T 11) (xCons (xVar 0) (xCons (xVar 4) xNil))) (gN 5)) (sSeq (sIf (bVal (xOp fLt (xVar 5) (xC (.int 0)))) (sSeq (sAsg (xOp fSub (xC (.int 1)) (xOp fMul (xC (.int 2)) (xVar 5))) (gN 5)) sNil) sNil) (sSeq (sIf (bVal (xOp fGe (xVar 5) (xOp fPow (xC (.int 10)) (xC (.int 18))))) (sSeq (sFor (wRng1 (xC (.int 60))) (gN 6) (sSeq (sIf (bVal (xOp fGt (xVar 5) (xC (.int 0)))) (sSeq (sExpr (xMet okList fApp (xVar 3) (xCons (xOp fMod (xAll fInt (xCons (xVar 5) xNil)) (xC (.int 1000))) xNil))) (sSeq (sAsg (xOp fDiv (xVar 5) (xC (.int 1000))) (gN 5)) sNil)) sNil) sNil)) sNil) (sSeq (sAsg (xOp fMod (xAll fInt (xCons (xOp fAdd (xOp fAdd (xOp fMul (xVar 5) (xC (.int 48271))) (xOp fMul (xVar 4) (xC (.int 69621)))) (xC (.int 11))) xNil)) (xC (.int 2147483647))) (gN 7)) (sSeq (sFor (wRng1 (xC (.int 12))) (gN 6) (sSeq (sAsg (xOp fMod (xAll fInt (xCons (xOp fAdd (xOp fAdd (xOp fMul (xVar 7) (xC (.int 16807))) (xOp fMul (xC (.int 7)) (xVar 6))) (xC (.int 1))) xNil)) (xC (.int 2147483647))) (gN 7)) (sSeq (sExpr (xMet okList fApp (xVar 3) (xCons (xOp fMod (xAll fInt (xCons (xOp fDiv (xVar 7) (xC (.int 997))) xNil)) (xC (.int 1000))) xNil))) sNil))) sNil))) sNil)))) (sSeq (sRet (xVar 3)) sNil)))
theorem sc10 : FnScope ["script", "first", "last", "digits", "k", "cell", "turn", "seed"] ["script", "first", "last"] (defScope s10) := ⟨rfl, rfl, rfl, by decide +kernel, rfl, by decide +kernel, by decide +kernel⟩
/-- _law_cell -/
def m11 (T : Nat → List D → Sto → Option (D × Sto)) : XS := (sSeq (sIf (bVal (xOp fLt (xVar 1) (xAll fLen (xCons (xVar 0) xNil)))) (sSeq (sRet (xOp fIx (xVar 0) (xVar 1))) sNil) sNil) (sSeq (sRet (xC (.int 0))) sNil))
theorem sc11 : FnScope ["script", "k"] ["script", "k"] (defScope s11) := ⟨rfl, rfl, rfl, by decide +kernel, rfl, by decide +kernel, by decide +kernel⟩
/-- _law_draw -/
def m12 (T : Nat → List D → Sto → Option (D × Sto)) : XS := (sSeq (sAsg (xOp fIx (xVar 0) (xC (.int 1))) (gN 2)) (sSeq (sPut fPut (xOp fAdd (xVar 2) (xC (.int 1))) (xVar 0) (xC (.int 1))) (sSeq (sIf (bVal (xOp fLt (xVar 2) (xAll fLen (xCons (xOp fIx (xVar 0) (xC (.int 0))) xNil)))) (sSeq (sRet (xOp fMod (xAll fInt (xCons (xOp fIx (xOp fIx (xVar 0) (xC (.int 0))) (xVar 2)) xNil)) (xVar 1))) sNil) sNil) (sSeq (sRet (xC (.int 0))) sNil))))
theorem sc12 : FnScope ["box", "many", "at"] ["box", "many"] (defScope s12) := ⟨rfl, rfl, rfl, by decide +kernel, rfl, by decide +kernel, by decide +kernel⟩
/-- _law_same -/
def m13 (T : Nat → List D → Sto → Option (D × Sto)) : XS := (sSeq (sIf (bTru (xIsi .tuple (xVar 1))) (sSeq (sIf (bOr (bNot (bTru (xIsi .tuple (xVar 0)))) (bVal (xOp fNe (xAll fLen (xCons (xVar 0) xNil)) (xAll fLen (xCons (xVar 1) xNil))))) (sSeq (sRet (xC (.bl false))) sNil) sNil) (sSeq (sFor (wRng1 (xAll fLen (xCons (xVar 1) xNil))) (gN 2) (sSeq (sIf (bNot (bTru (xCall 2 (T 13) (xCons (xOp fIx (xVar 0) (xVar 2)) (xCons (xOp fIx (xVar 1) (xVar 2)) xNil))))) (sSeq (sRet (xC (.bl false))) sNil) sNil) sNil)) (sSeq (sRet (xC (.bl true))) sNil))) sNil) (sSeq (sIf (bVal (xOp fIs (xVar 1) (xC .non))) (sSeq (sRet (xOp fIs (xVar 0) (xC .non))) sNil) sNil) (sSeq (sIf (bTru (xIsi .bool (xVar 1))) (sSeq (sRet (xAnd (xIsi .bool (xVar 0)) (xOp fEq (xVar 0) (xVar 1)))) sNil) sNil) (sSeq (sIf (bTru (xIsi .int (xVar 1))) (sSeq (sRet (xAnd (xIsi .int (xVar 0)) (xAnd (xNot (xIsi .bool (xVar 0))) (xOp fEq (xVar 0) (xVar 1))))) sNil) sNil) (sSeq (sRet (xAnd (xIsi .str (xVar 0)) (xOp fEq (xVar 0) (xVar 1)))) sNil)))))
theorem sc13 : FnScope ["actual", "expected", "k"] ["actual", "expected"] (defScope s13) := ⟨rfl, rfl, rfl, by decide +kernel, rfl, by decide +kernel, by decide +kernel⟩
/-- _law_term -/
def m14 (T : Nat → List D → Sto → Option (D × Sto)) : XS := (sSeq (sIf (bAnd (bVal (xOp fGt (xVar 1) (xC (.int 0)))) (bOr (bVal (xOp fLt (xVar 2) (xC (.int 2)))) (bVal (xOp fEq (xCall 2 (T 12) (xCons (xVar 0) (xCons (xC (.int 4)) xNil))) (xC (.int 0)))))) (sSeq (sRet (xAll mkTup (xCons (xC (.str "at")) (xCons (xCall 2 (T 12) (xCons (xVar 0) (xCons (xVar 1) xNil))) xNil)))) sNil) sNil) (sSeq (sIf (bOr (bVal (xOp fLt (xVar 2) (xC (.int 2)))) (bOr (bVal (xOp fEq (xVar 1) (xC (.int 0)))) (bVal (xOp fEq (xCall 2 (T 12) (xCons (xVar 0) (xCons (xC (.int 2)) xNil))) (xC (.int 0)))))) (sSeq (sRet (xAll mkTup (xCons (xC (.str "make")) (xCons (xCall 3 (T 14) (xCons (xVar 0) (xCons (xOp fAdd (xVar 1) (xC (.int 1))) (xCons (xOp fSub (xVar 2) (xC (.int 1))) xNil)))) xNil)))) sNil) sNil) (sSeq (sAsg (xOp fAdd (xC (.int 1)) (xCall 2 (T 12) (xCons (xVar 0) (xCons (xOp fSub (xVar 2) (xC (.int 1))) xNil)))) (gN 3)) (sSeq (sRet (xAll mkTup (xCons (xC (.str "call")) (xCons (xCall 3 (T 14) (xCons (xVar 0) (xCons (xVar 1) (xCons (xVar 3) xNil)))) (xCons (xCall 3 (T 14) (xCons (xVar 0) (xCons (xVar 1) (xCons (xAll fMax2 (xCons (xC (.int 1)) (xCons (xOp fSub (xOp fSub (xVar 2) (xC (.int 1))) (xVar 3)) xNil))) xNil)))) xNil))))) sNil))))
theorem sc14 : FnScope ["box", "depth", "room", "k"] ["box", "depth", "room"] (defScope s14) := ⟨rfl, rfl, rfl, by decide +kernel, rfl, by decide +kernel, by decide +kernel⟩
/-- _law_lift -/
def m15 (T : Nat → List D → Sto → Option (D × Sto)) : XS := (sSeq (sIf (bVal (xOp fEq (xOp fIx (xVar 0) (xC (.int 0))) (xC (.str "at")))) (sSeq (sRet (xAll mkTup (xCons (xC (.str "at")) (xCons (xOp fAdd (xOp fIx (xVar 0) (xC (.int 1))) (xOp fMul (xVar 1) (xAll fInt (xCons (xOp fGe (xOp fIx (xVar 0) (xC (.int 1))) (xVar 2)) xNil)))) xNil)))) sNil) sNil) (sSeq (sIf (bVal (xOp fEq (xOp fIx (xVar 0) (xC (.int 0))) (xC (.str "make")))) (sSeq (sRet (xAll mkTup (xCons (xC (.str "make")) (xCons (xCall 3 (T 15) (xCons (xOp fIx (xVar 0) (xC (.int 1))) (xCons (xVar 1) (xCons (xOp fAdd (xVar 2) (xC (.int 1))) xNil)))) xNil)))) sNil) sNil) (sSeq (sRet (xAll mkTup (xCons (xC (.str "call")) (xCons (xCall 3 (T 15) (xCons (xOp fIx (xVar 0) (xC (.int 1))) (xCons (xVar 1) (xCons (xVar 2) xNil)))) (xCons (xCall 3 (T 15) (xCons (xOp fIx (xVar 0) (xC (.int 2))) (xCons (xVar 1) (xCons (xVar 2) xNil)))) xNil))))) sNil)))
theorem sc15 : FnScope ["term", "by", "least"] ["term", "by", "least"] (defScope s15) := ⟨rfl, rfl, rfl, by decide +kernel, rfl, by decide +kernel, by decide +kernel⟩
/-- _law_done -/
def m16 (T : Nat → List D → Sto → Option (D × Sto)) : XS := (sSeq (sFor (wRng1 (xOp fAdd (xVar 1) (xC (.int 1)))) (gN 2) (sSeq (sAsg (xCall 1 (T 17) (xCons (xVar 0) xNil)) (gN 3)) (sSeq (sIf (bVal (xOp fIs (xVar 3) (xC .non))) (sSeq (sRet (xVar 0)) sNil) sNil) (sSeq (sAsg (xVar 3) (gN 0)) sNil)))) (sSeq (sRet (xC .non)) sNil))
theorem sc16 : FnScope ["term", "most", "turn", "more"] ["term", "most"] (defScope s16) := ⟨rfl, rfl, rfl, by decide +kernel, rfl, by decide +kernel, by decide +kernel⟩
/-- _law_step -/
def m17 (T : Nat → List D → Sto → Option (D × Sto)) : XS := (sSeq (sIf (bVal (xOp fEq (xOp fIx (xVar 0) (xC (.int 0))) (xC (.str "at")))) (sSeq (sRet (xC .non)) sNil) sNil) (sSeq (sIf (bVal (xOp fEq (xOp fIx (xVar 0) (xC (.int 0))) (xC (.str "make")))) (sSeq (sAsg (xCall 1 (T 17) (xCons (xOp fIx (xVar 0) (xC (.int 1))) xNil)) (gN 1)) (sSeq (sIf (bVal (xOp fIs (xVar 1) (xC .non))) (sSeq (sRet (xC .non)) sNil) sNil) (sSeq (sRet (xAll mkTup (xCons (xC (.str "make")) (xCons (xVar 1) xNil)))) sNil))) sNil) (sSeq (sIf (bVal (xOp fEq (xOp fIx (xOp fIx (xVar 0) (xC (.int 1))) (xC (.int 0))) (xC (.str "make")))) (sSeq (sRet (xCall 3 (T 18) (xCons (xOp fIx (xOp fIx (xVar 0) (xC (.int 1))) (xC (.int 1))) (xCons (xC (.int 0)) (xCons (xOp fIx (xVar 0) (xC (.int 2))) xNil))))) sNil) sNil) (sSeq (sAsg (xCall 1 (T 17) (xCons (xOp fIx (xVar 0) (xC (.int 1))) xNil)) (gN 1)) (sSeq (sIf (bVal (xOp fIsNot (xVar 1) (xC .non))) (sSeq (sRet (xAll mkTup (xCons (xC (.str "call")) (xCons (xVar 1) (xCons (xOp fIx (xVar 0) (xC (.int 2))) xNil))))) sNil) sNil) (sSeq (sAsg (xCall 1 (T 17) (xCons (xOp fIx (xVar 0) (xC (.int 2))) xNil)) (gN 1)) (sSeq (sIf (bVal (xOp fIsNot (xVar 1) (xC .non))) (sSeq (sRet (xAll mkTup (xCons (xC (.str "call")) (xCons (xOp fIx (xVar 0) (xC (.int 1))) (xCons (xVar 1) xNil))))) sNil) sNil) (sSeq (sRet (xC .non)) sNil))))))))
theorem sc17 : FnScope ["term", "inner"] ["term"] (defScope s17) := ⟨rfl, rfl, rfl, by decide +kernel, rfl, by decide +kernel, by decide +kernel⟩
/-- _law_put_term -/
def m18 (T : Nat → List D → Sto → Option (D × Sto)) : XS := (sSeq (sIf (bVal (xOp fEq (xOp fIx (xVar 0) (xC (.int 0))) (xC (.str "at")))) (sSeq (sIf (bVal (xOp fEq (xOp fIx (xVar 0) (xC (.int 1))) (xVar 1))) (sSeq (sRet (xCall 3 (T 15) (xCons (xVar 2) (xCons (xVar 1) (xCons (xC (.int 0)) xNil))))) sNil) sNil) (sSeq (sRet (xAll mkTup (xCons (xC (.str "at")) (xCons (xOp fSub (xOp fIx (xVar 0) (xC (.int 1))) (xAll fInt (xCons (xOp fGt (xOp fIx (xVar 0) (xC (.int 1))) (xVar 1)) xNil))) xNil)))) sNil)) sNil) (sSeq (sIf (bVal (xOp fEq (xOp fIx (xVar 0) (xC (.int 0))) (xC (.str "make")))) (sSeq (sRet (xAll mkTup (xCons (xC (.str "make")) (xCons (xCall 3 (T 18) (xCons (xOp fIx (xVar 0) (xC (.int 1))) (xCons (xOp fAdd (xVar 1) (xC (.int 1))) (xCons (xVar 2) xNil)))) xNil)))) sNil) sNil) (sSeq (sRet (xAll mkTup (xCons (xC (.str "call")) (xCons (xCall 3 (T 18) (xCons (xOp fIx (xVar 0) (xC (.int 1))) (xCons (xVar 1) (xCons (xVar 2) xNil)))) (xCons (xCall 3 (T 18) (xCons (xOp fIx (xVar 0) (xC (.int 2))) (xCons (xVar 1) (xCons (xVar 2) xNil)))) xNil))))) sNil)))
theorem sc18 : FnScope ["term", "place", "other"] ["term", "place", "other"] (defScope s18) := ⟨rfl, rfl, rfl, by decide +kernel, rfl, by decide +kernel, by decide +kernel⟩
/-- _law_word_term -/
def m19 (T : Nat → List D → Sto → Option (D × Sto)) : XS := (sSeq (sIf (bVal (xOp fEq (xVar 0) (xC (.str "k")))) (sSeq (sRet (xAll mkTup (xCons (xC (.str "make")) (xCons (xAll mkTup (xCons (xC (.str "make")) (xCons (xAll mkTup (xCons (xC (.str "at")) (xCons (xC (.int 1)) xNil))) xNil))) xNil)))) sNil) sNil) (sSeq (sIf (bVal (xOp fEq (xVar 0) (xC (.str "s")))) (sSeq (sRet (xAll mkTup (xCons (xC (.str "make")) (xCons (xAll mkTup (xCons (xC (.str "make")) (xCons (xAll mkTup (xCons (xC (.str "make")) (xCons (xAll mkTup (xCons (xC (.str "call")) (xCons (xAll mkTup (xCons (xC (.str "call")) (xCons (xAll mkTup (xCons (xC (.str "at")) (xCons (xC (.int 2)) xNil))) (xCons (xAll mkTup (xCons (xC (.str "at")) (xCons (xC (.int 0)) xNil))) xNil)))) (xCons (xAll mkTup (xCons (xC (.str "call")) (xCons (xAll mkTup (xCons (xC (.str "at")) (xCons (xC (.int 1)) xNil))) (xCons (xAll mkTup (xCons (xC (.str "at")) (xCons (xC (.int 0)) xNil))) xNil)))) xNil)))) xNil))) xNil))) xNil)))) sNil) sNil) (sSeq (sRet (xAll mkTup (xCons (xC (.str "call")) (xCons (xCall 1 (T 19) (xCons (xOp fIx (xVar 0) (xC (.int 0))) xNil)) (xCons (xCall 1 (T 19) (xCons (xOp fIx (xVar 0) (xC (.int 1))) xNil)) xNil))))) sNil)))
theorem sc19 : FnScope ["word"] ["word"] (defScope s19) := ⟨rfl, rfl, rfl, by decide +kernel, rfl, by decide +kernel, by decide +kernel⟩
/-- _law_is_word -/
def m20 (T : Nat → List D → Sto → Option (D × Sto)) : XS := (sSeq (sIf (bTru (xIsi .str (xVar 0))) (sSeq (sRet (xOr (xOp fEq (xVar 0) (xC (.str "k"))) (xOp fEq (xVar 0) (xC (.str "s"))))) sNil) sNil) (sSeq (sRet (xAnd (xIsi .tuple (xVar 0)) (xAnd (xOp fEq (xAll fLen (xCons (xVar 0) xNil)) (xC (.int 2))) (xAnd (xCall 1 (T 20) (xCons (xOp fIx (xVar 0) (xC (.int 0))) xNil)) (xCall 1 (T 20) (xCons (xOp fIx (xVar 0) (xC (.int 1))) xNil)))))) sNil))
theorem sc20 : FnScope ["word"] ["word"] (defScope s20) := ⟨rfl, rfl, rfl, by decide +kernel, rfl, by decide +kernel, by decide +kernel⟩
/-- law -/
def m21 (T : Nat → List D → Sto → Option (D × Sto)) : XS := (sSeq (sAsg (xCall 3 (T 9) (xCons (xVar 0) (xCons (xC (.int 0)) (xCons (xC (.int 62)) xNil)))) (gN 1)) (sSeq (sAsg (xC (.str "s")) (gN 2)) (sSeq (sFor (wRng1 (xCall 2 (T 12) (xCons (xVar 1) (xCons (xC (.int 4)) xNil)))) (gN 3) (sSeq (sAsg (xOp fIx (xAll mkLst (xCons (xAll mkTup (xCons (xVar 2) (xCons (xC (.str "k")) xNil))) (xCons (xAll mkTup (xCons (xC (.str "s")) (xCons (xVar 2) xNil))) (xCons (xAll mkTup (xCons (xVar 2) (xCons (xVar 2) xNil))) xNil)))) (xCall 2 (T 12) (xCons (xVar 1) (xCons (xC (.int 3)) xNil)))) (gN 2)) sNil)) (sSeq (sIf (bNot (bTru (xCall 2 (T 13) (xCons (xCall 1 (T 6) (xCons (xVar 2) xNil)) (xCons (xCall 1 (T 19) (xCons (xVar 2) xNil)) xNil))))) (sSeq (sRet (xC (.bl false))) sNil) sNil) (sSeq (sAsg (xCall 3 (T 14) (xCons (xVar 1) (xCons (xC (.int 0)) (xCons (xOp fAdd (xC (.int 2)) (xCall 2 (T 12) (xCons (xVar 1) (xCons (xC (.int 3)) xNil)))) xNil)))) (gN 4)) (sSeq (sAsg (xCall 1 (T 8) (xCons (xVar 4) xNil)) (gN 5)) (sSeq (sIf (bOr (bNot (bTru (xCall 1 (T 20) (xCons (xVar 5) xNil)))) (bVal (xOp fIsNot (xCall 2 (T 1) (xCons (xCall 1 (T 6) (xCons (xVar 5) xNil)) (xCons (xC (.int 0)) xNil))) (xC (.bl true))))) (sSeq (sRet (xC (.bl false))) sNil) sNil) (sSeq (sAsg (xCall 2 (T 16) (xCons (xVar 4) (xCons (xC (.int 12)) xNil))) (gN 6)) (sSeq (sAsg (xCall 2 (T 16) (xCons (xCall 1 (T 6) (xCons (xVar 5) xNil)) (xCons (xC (.int 150)) xNil))) (gN 7)) (sSeq (sIf (bAnd (bVal (xOp fIsNot (xVar 6) (xC .non))) (bVal (xOp fNe (xVar 6) (xVar 7)))) (sSeq (sRet (xC (.bl false))) sNil) sNil) (sSeq (sIf (bNot (bTru (xCall 2 (T 13) (xCons (xCall 2 (T 5) (xCons (xVar 4) (xCons (xC (.int 12)) xNil))) (xCons (xVar 6) xNil))))) (sSeq (sRet (xC (.bl false))) sNil) sNil) (sSeq (sAsg (xOp fIx (xAll mkLst (xCons (xC (.str "k")) (xCons (xC (.str "s")) (xCons (xAll mkTup (xCons (xAll mkTup (xCons (xC (.str "s")) (xCons (xC (.str "k")) xNil))) (xCons (xC (.str "k")) xNil))) (xCons (xAll mkTup (xCons (xAll mkTup (xCons (xC (.str "s")) (xCons (xC (.str "k")) xNil))) (xCons (xC (.str "s")) xNil))) xNil))))) (xCall 2 (T 12) (xCons (xVar 1) (xCons (xC (.int 4)) xNil)))) (gN 8)) (sSeq (sRet (xCall 2 (T 13) (xCons (xCall 2 (T 5) (xCons (xCall 1 (T 6) (xCons (xVar 8) xNil)) (xCons (xC (.int 20)) xNil))) (xCons (xCall 2 (T 16) (xCons (xCall 1 (T 19) (xCons (xVar 8) xNil)) (xCons (xC (.int 20)) xNil))) xNil)))) sNil)))))))))))))
theorem sc21 : FnScope ["script", "box", "word", "k", "term", "found", "first", "second", "basic"] ["script"] (defScope s21) := ⟨rfl, rfl, rfl, by decide +kernel, rfl, by decide +kernel, by decide +kernel⟩
/-- what the defs give, n calls deep -/
def run : Nat → Nat → List D → Sto → Option (D × Sto)
  | 0, _ => fun _ _ => none
  | n + 1, i => match i with
    | 0 => fun ds S => ends (m0 (run n) (entry 1 ds) S)
    | 1 => fun ds S => ends (m1 (run n) (entry 2 ds) S)
    | 2 => fun ds S => ends (m2 (run n) (entry 3 ds) S)
    | 3 => fun ds S => ends (m3 (run n) (entry 3 ds) S)
    | 4 => fun ds S => ends (m4 (run n) (entry 4 ds) S)
    | 5 => fun ds S => ends (m5 (run n) (entry 4 ds) S)
    | 6 => fun ds S => ends (m6 (run n) (entry 2 ds) S)
    | 7 => fun ds S => ends (m7 (run n) (entry 1 ds) S)
    | 8 => fun ds S => ends (m8 (run n) (entry 1 ds) S)
    | 9 => fun ds S => ends (m9 (run n) (entry 3 ds) S)
    | 10 => fun ds S => ends (m10 (run n) (entry 8 ds) S)
    | 11 => fun ds S => ends (m11 (run n) (entry 2 ds) S)
    | 12 => fun ds S => ends (m12 (run n) (entry 3 ds) S)
    | 13 => fun ds S => ends (m13 (run n) (entry 3 ds) S)
    | 14 => fun ds S => ends (m14 (run n) (entry 4 ds) S)
    | 15 => fun ds S => ends (m15 (run n) (entry 3 ds) S)
    | 16 => fun ds S => ends (m16 (run n) (entry 4 ds) S)
    | 17 => fun ds S => ends (m17 (run n) (entry 2 ds) S)
    | 18 => fun ds S => ends (m18 (run n) (entry 3 ds) S)
    | 19 => fun ds S => ends (m19 (run n) (entry 1 ds) S)
    | 20 => fun ds S => ends (m20 (run n) (entry 1 ds) S)
    | 21 => fun ds S => ends (m21 (run n) (entry 9 ds) S)
    | _ => fun _ _ => none
theorem run_0 {n : Nat} {x0 : D} {S : Sto} : run (n + 1) 0 [x0] S = ends (m0 (run n) [some x0] S) := rfl
theorem run_1 {n : Nat} {x0 x1 : D} {S : Sto} : run (n + 1) 1 [x0, x1] S = ends (m1 (run n) [some x0, some x1] S) := rfl
theorem run_2 {n : Nat} {x0 x1 x2 : D} {S : Sto} : run (n + 1) 2 [x0, x1, x2] S = ends (m2 (run n) [some x0, some x1, some x2] S) := rfl
theorem run_3 {n : Nat} {x0 x1 x2 : D} {S : Sto} : run (n + 1) 3 [x0, x1, x2] S = ends (m3 (run n) [some x0, some x1, some x2] S) := rfl
theorem run_4 {n : Nat} {x0 : D} {S : Sto} : run (n + 1) 4 [x0] S = ends (m4 (run n) [some x0, none, none, none] S) := rfl
theorem run_5 {n : Nat} {x0 x1 : D} {S : Sto} : run (n + 1) 5 [x0, x1] S = ends (m5 (run n) [some x0, some x1, none, none] S) := rfl
theorem run_6 {n : Nat} {x0 : D} {S : Sto} : run (n + 1) 6 [x0] S = ends (m6 (run n) [some x0, none] S) := rfl
theorem run_7 {n : Nat} {x0 : D} {S : Sto} : run (n + 1) 7 [x0] S = ends (m7 (run n) [some x0] S) := rfl
theorem run_8 {n : Nat} {x0 : D} {S : Sto} : run (n + 1) 8 [x0] S = ends (m8 (run n) [some x0] S) := rfl
theorem run_9 {n : Nat} {x0 x1 x2 : D} {S : Sto} : run (n + 1) 9 [x0, x1, x2] S = ends (m9 (run n) [some x0, some x1, some x2] S) := rfl
theorem run_10 {n : Nat} {x0 x1 x2 : D} {S : Sto} : run (n + 1) 10 [x0, x1, x2] S = ends (m10 (run n) [some x0, some x1, some x2, none, none, none, none, none] S) := rfl
theorem run_11 {n : Nat} {x0 x1 : D} {S : Sto} : run (n + 1) 11 [x0, x1] S = ends (m11 (run n) [some x0, some x1] S) := rfl
theorem run_12 {n : Nat} {x0 x1 : D} {S : Sto} : run (n + 1) 12 [x0, x1] S = ends (m12 (run n) [some x0, some x1, none] S) := rfl
theorem run_13 {n : Nat} {x0 x1 : D} {S : Sto} : run (n + 1) 13 [x0, x1] S = ends (m13 (run n) [some x0, some x1, none] S) := rfl
theorem run_14 {n : Nat} {x0 x1 x2 : D} {S : Sto} : run (n + 1) 14 [x0, x1, x2] S = ends (m14 (run n) [some x0, some x1, some x2, none] S) := rfl
theorem run_15 {n : Nat} {x0 x1 x2 : D} {S : Sto} : run (n + 1) 15 [x0, x1, x2] S = ends (m15 (run n) [some x0, some x1, some x2] S) := rfl
theorem run_16 {n : Nat} {x0 x1 : D} {S : Sto} : run (n + 1) 16 [x0, x1] S = ends (m16 (run n) [some x0, some x1, none, none] S) := rfl
theorem run_17 {n : Nat} {x0 : D} {S : Sto} : run (n + 1) 17 [x0] S = ends (m17 (run n) [some x0, none] S) := rfl
theorem run_18 {n : Nat} {x0 x1 x2 : D} {S : Sto} : run (n + 1) 18 [x0, x1, x2] S = ends (m18 (run n) [some x0, some x1, some x2] S) := rfl
theorem run_19 {n : Nat} {x0 : D} {S : Sto} : run (n + 1) 19 [x0] S = ends (m19 (run n) [some x0] S) := rfl
theorem run_20 {n : Nat} {x0 : D} {S : Sto} : run (n + 1) 20 [x0] S = ends (m20 (run n) [some x0] S) := rfl
theorem run_21 {n : Nat} {x0 : D} {S : Sto} : run (n + 1) 21 [x0] S = ends (m21 (run n) [some x0, none, none, none, none, none, none, none, none] S) := rfl
structure Defs (K : PySem.W.Frag) (mg : Str → Option Value) where
  f0 : Addr
  d0 : FuncData
  F0 : Fun K "is_number" "is_number" s0 f0 d0
  k0 : Known K mg "is_number" f0 d0 ["value"]
  f1 : Addr
  d1 : FuncData
  F1 : Fun K "is_term" "is_term" s1 f1 d1
  k1 : Known K mg "is_term" f1 d1 ["value", "depth"]
  f2 : Addr
  d2 : FuncData
  F2 : Fun K "raised" "raised" s2 f2 d2
  k2 : Known K mg "raised" f2 d2 ["term", "by", "least"]
  f3 : Addr
  d3 : FuncData
  F3 : Fun K "put_at" "put_at" s3 f3 d3
  k3 : Known K mg "put_at" f3 d3 ["term", "place", "other"]
  f4 : Addr
  d4 : FuncData
  F4 : Fun K "step" "step" s4 f4 d4
  k4 : Known K mg "step" f4 d4 ["term"]
  f5 : Addr
  d5 : FuncData
  F5 : Fun K "done" "done" s5 f5 d5
  k5 : Known K mg "done" f5 d5 ["term", "most"]
  f6 : Addr
  d6 : FuncData
  F6 : Fun K "combined" "combined" s6 f6 d6
  k6 : Known K mg "combined" f6 d6 ["word"]
  f7 : Addr
  d7 : FuncData
  F7 : Fun K "without_last" "without_last" s7 f7 d7
  k7 : Known K mg "without_last" f7 d7 ["word"]
  f8 : Addr
  d8 : FuncData
  F8 : Fun K "word_of" "word_of" s8 f8 d8
  k8 : Known K mg "word_of" f8 d8 ["term"]
  f9 : Addr
  d9 : FuncData
  F9 : Fun K "_law_box" "_law_box" s9 f9 d9
  k9 : Known K mg "_law_box" f9 d9 ["script", "first", "last"]
  f10 : Addr
  d10 : FuncData
  F10 : Fun K "_law_digits" "_law_digits" s10 f10 d10
  k10 : Known K mg "_law_digits" f10 d10 ["script", "first", "last"]
  f11 : Addr
  d11 : FuncData
  F11 : Fun K "_law_cell" "_law_cell" s11 f11 d11
  k11 : Known K mg "_law_cell" f11 d11 ["script", "k"]
  f12 : Addr
  d12 : FuncData
  F12 : Fun K "_law_draw" "_law_draw" s12 f12 d12
  k12 : Known K mg "_law_draw" f12 d12 ["box", "many"]
  f13 : Addr
  d13 : FuncData
  F13 : Fun K "_law_same" "_law_same" s13 f13 d13
  k13 : Known K mg "_law_same" f13 d13 ["actual", "expected"]
  f14 : Addr
  d14 : FuncData
  F14 : Fun K "_law_term" "_law_term" s14 f14 d14
  k14 : Known K mg "_law_term" f14 d14 ["box", "depth", "room"]
  f15 : Addr
  d15 : FuncData
  F15 : Fun K "_law_lift" "_law_lift" s15 f15 d15
  k15 : Known K mg "_law_lift" f15 d15 ["term", "by", "least"]
  f16 : Addr
  d16 : FuncData
  F16 : Fun K "_law_done" "_law_done" s16 f16 d16
  k16 : Known K mg "_law_done" f16 d16 ["term", "most"]
  f17 : Addr
  d17 : FuncData
  F17 : Fun K "_law_step" "_law_step" s17 f17 d17
  k17 : Known K mg "_law_step" f17 d17 ["term"]
  f18 : Addr
  d18 : FuncData
  F18 : Fun K "_law_put_term" "_law_put_term" s18 f18 d18
  k18 : Known K mg "_law_put_term" f18 d18 ["term", "place", "other"]
  f19 : Addr
  d19 : FuncData
  F19 : Fun K "_law_word_term" "_law_word_term" s19 f19 d19
  k19 : Known K mg "_law_word_term" f19 d19 ["word"]
  f20 : Addr
  d20 : FuncData
  F20 : Fun K "_law_is_word" "_law_is_word" s20 f20 d20
  k20 : Known K mg "_law_is_word" f20 d20 ["word"]
  f21 : Addr
  d21 : FuncData
  F21 : Fun K "law" "law" s21 f21 d21
  k21 : Known K mg "law" f21 d21 ["script"]
  z_bool : mg "bool" = none
  z_int : mg "int" = none
  z_isinstance : mg "isinstance" = none
  z_len : mg "len" = none
  z_max : mg "max" = none
  z_range : mg "range" = none
  z_str : mg "str" = none
  z_tuple : mg "tuple" = none
section
variable {P : Program} {w : World} {K : PySem.W.Frag} {mg : Str → Option Value} {base : Heap} {c n : Nat}
structure CallsOk (t : Defs K mg) (P : Program) (w : World) (base : Heap) (c n : Nat) (T : Nat → List D → Sto → Option (D × Sto)) : Prop where
  c0 : FnAt P w K mg base c n t.f0 t.d0 ["value"] (T 0)
  c1 : FnAt P w K mg base c n t.f1 t.d1 ["value", "depth"] (T 1)
  c2 : FnAt P w K mg base c n t.f2 t.d2 ["term", "by", "least"] (T 2)
  c3 : FnAt P w K mg base c n t.f3 t.d3 ["term", "place", "other"] (T 3)
  c4 : FnAt P w K mg base c n t.f4 t.d4 ["term"] (T 4)
  c5 : FnAt P w K mg base c n t.f5 t.d5 ["term", "most"] (T 5)
  c6 : FnAt P w K mg base c n t.f6 t.d6 ["word"] (T 6)
  c7 : FnAt P w K mg base c n t.f7 t.d7 ["word"] (T 7)
  c8 : FnAt P w K mg base c n t.f8 t.d8 ["term"] (T 8)
  c9 : FnAt P w K mg base c n t.f9 t.d9 ["script", "first", "last"] (T 9)
  c10 : FnAt P w K mg base c n t.f10 t.d10 ["script", "first", "last"] (T 10)
  c11 : FnAt P w K mg base c n t.f11 t.d11 ["script", "k"] (T 11)
  c12 : FnAt P w K mg base c n t.f12 t.d12 ["box", "many"] (T 12)
  c13 : FnAt P w K mg base c n t.f13 t.d13 ["actual", "expected"] (T 13)
  c14 : FnAt P w K mg base c n t.f14 t.d14 ["box", "depth", "room"] (T 14)
  c15 : FnAt P w K mg base c n t.f15 t.d15 ["term", "by", "least"] (T 15)
  c16 : FnAt P w K mg base c n t.f16 t.d16 ["term", "most"] (T 16)
  c17 : FnAt P w K mg base c n t.f17 t.d17 ["term"] (T 17)
  c18 : FnAt P w K mg base c n t.f18 t.d18 ["term", "place", "other"] (T 18)
  c19 : FnAt P w K mg base c n t.f19 t.d19 ["word"] (T 19)
  c20 : FnAt P w K mg base c n t.f20 t.d20 ["word"] (T 20)
  c21 : FnAt P w K mg base c n t.f21 t.d21 ["script"] (T 21)
theorem ok0 {T : Nat → List D → Sto → Option (D × Sto)} (hc : 1 ≤ c) (t : Defs K mg) (C : CallsOk t P w base c n T) : FnAt P w K mg base c (n + 1) t.f0 t.d0 ["value"] (fun ds S => ends (m0 T (entry 1 ds) S)) := by
  have S := sc0
  refine fnAt_of hc t.F0 S fun cdv A outer s H E hr => ?_
  exact as_body (rs_cons (rs_ret (r_and (r_isi .int (nm := "int") (by rfl) t.z_isinstance (by decide +kernel) (by rfl) t.z_int (by decide +kernel) (r_var 0 rfl (.inl rfl))) (r_and (r_notV (r_isi .bool (nm := "bool") (by rfl) t.z_isinstance (by decide +kernel) (by rfl) t.z_bool (by decide +kernel) (r_var 0 rfl (.inl rfl)))) (r_one (r_cmp op_ge om_ge (r_var 0 rfl (.inl rfl)) r_int (nomark _)))))) rs_nil) rfl rfl
theorem ok1 {T : Nat → List D → Sto → Option (D × Sto)} (hc : 1 ≤ c) (t : Defs K mg) (C : CallsOk t P w base c n T) : FnAt P w K mg base c (n + 1) t.f1 t.d1 ["value", "depth"] (fun ds S => ends (m1 T (entry 2 ds) S)) := by
  have S := sc1
  refine fnAt_of hc t.F1 S fun cdv A outer s H E hr => ?_
  exact as_body (rs_cons (rs_if (rw_or (r_not (r_tru (r_isi .tuple (nm := "tuple") (by rfl) t.z_isinstance (by decide +kernel) (by rfl) t.z_tuple (by decide +kernel) (r_var 0 rfl (.inl rfl))) (fun _ => rfl))) (rw_or (r_tcmp op_lt om_lt (r_blt call_len am_len (by rfl) t.z_len PySem.boot_len (ra_cons (r_var 0 rfl (.inl rfl)) ra_nil)) r_int (nomark _)) (rw_or1 (r_not (r_tru (r_isi .str (nm := "str") (by rfl) t.z_isinstance (by decide +kernel) (by rfl) t.z_str (by decide +kernel) (r_ix ix_seq om_ix (r_var 0 rfl (.inl rfl)) r_int (fun _ _ => rfl))) (fun _ => rfl)))))).pt (rs_cons (rs_ret r_bl) rs_nil) rs_nil) (rs_cons (rs_if (r_tcmp (orp_eq hr.un250) om_eq (r_ix ix_seq om_ix (r_var 0 rfl (.inl rfl)) r_int (fun _ _ => rfl)) r_str (nomark _)) (rs_cons (rs_ret (r_and (r_cmp (orp_eq hr.un250) om_eq (r_blt call_len am_len (by rfl) t.z_len PySem.boot_len (ra_cons (r_var 0 rfl (.inl rfl)) ra_nil)) r_int (nomark _)) (r_and (r_call C.c0 t.k0 hr (by rfl) 1 rfl (ra_cons (r_ix ix_seq om_ix (r_var 0 rfl (.inl rfl)) r_int (fun _ _ => rfl)) ra_nil)) (r_one (r_cmp op_lt om_lt (r_ix ix_seq om_ix (r_var 0 rfl (.inl rfl)) r_int (fun _ _ => rfl)) (r_var 1 rfl (.inl rfl)) (nomark _)))))) rs_nil) rs_nil) (rs_cons (rs_if (r_tcmp (orp_eq hr.un250) om_eq (r_ix ix_seq om_ix (r_var 0 rfl (.inl rfl)) r_int (fun _ _ => rfl)) r_str (nomark _)) (rs_cons (rs_ret (r_and (r_cmp (orp_eq hr.un250) om_eq (r_blt call_len am_len (by rfl) t.z_len PySem.boot_len (ra_cons (r_var 0 rfl (.inl rfl)) ra_nil)) r_int (nomark _)) (r_one (r_call C.c1 t.k1 hr (by rfl) 2 rfl (ra_cons (r_ix ix_seq om_ix (r_var 0 rfl (.inl rfl)) r_int (fun _ _ => rfl)) (ra_cons (r_op orp_add om_add (r_var 1 rfl (.inl rfl)) r_int) ra_nil)))))) rs_nil) rs_nil) (rs_cons (rs_ret (r_and (r_cmp (orp_eq hr.un250) om_eq (r_ix ix_seq om_ix (r_var 0 rfl (.inl rfl)) r_int (fun _ _ => rfl)) r_str (nomark _)) (r_and (r_cmp (orp_eq hr.un250) om_eq (r_blt call_len am_len (by rfl) t.z_len PySem.boot_len (ra_cons (r_var 0 rfl (.inl rfl)) ra_nil)) r_int (nomark _)) (r_and (r_call C.c1 t.k1 hr (by rfl) 2 rfl (ra_cons (r_ix ix_seq om_ix (r_var 0 rfl (.inl rfl)) r_int (fun _ _ => rfl)) (ra_cons (r_var 1 rfl (.inl rfl)) ra_nil))) (r_one (r_call C.c1 t.k1 hr (by rfl) 2 rfl (ra_cons (r_ix ix_seq om_ix (r_var 0 rfl (.inl rfl)) r_int (fun _ _ => rfl)) (ra_cons (r_var 1 rfl (.inl rfl)) ra_nil)))))))) rs_nil)))) rfl rfl
theorem ok2 {T : Nat → List D → Sto → Option (D × Sto)} (hc : 1 ≤ c) (t : Defs K mg) (C : CallsOk t P w base c n T) : FnAt P w K mg base c (n + 1) t.f2 t.d2 ["term", "by", "least"] (fun ds S => ends (m2 T (entry 3 ds) S)) := by
  have S := sc2
  refine fnAt_of hc t.F2 S fun cdv A outer s H E hr => ?_
  exact as_body (rs_cons (rs_if (r_tcmp (orp_eq hr.un250) om_eq (r_ix ix_seq om_ix (r_var 0 rfl (.inl rfl)) r_int (fun _ _ => rfl)) r_str (nomark _)) (rs_cons (rs_ret (r_ifx (r_tcmp op_ge om_ge (r_ix ix_seq om_ix (r_var 0 rfl (.inl rfl)) r_int (fun _ _ => rfl)) (r_var 2 rfl (.inl rfl)) (nomark _)) (r_tup (ra_cons r_str (ra_cons (r_op orp_add om_add (r_ix ix_seq om_ix (r_var 0 rfl (.inl rfl)) r_int (fun _ _ => rfl)) (r_var 1 rfl (.inl rfl))) ra_nil))) (r_var 0 rfl (.inl rfl)))) rs_nil) rs_nil) (rs_cons (rs_if (r_tcmp (orp_eq hr.un250) om_eq (r_ix ix_seq om_ix (r_var 0 rfl (.inl rfl)) r_int (fun _ _ => rfl)) r_str (nomark _)) (rs_cons (rs_ret (r_tup (ra_cons r_str (ra_cons (r_call C.c2 t.k2 hr (by rfl) 3 rfl (ra_cons (r_ix ix_seq om_ix (r_var 0 rfl (.inl rfl)) r_int (fun _ _ => rfl)) (ra_cons (r_var 1 rfl (.inl rfl)) (ra_cons (r_op orp_add om_add (r_var 2 rfl (.inl rfl)) r_int) ra_nil)))) ra_nil)))) rs_nil) rs_nil) (rs_cons (rs_ret (r_tup (ra_cons r_str (ra_cons (r_call C.c2 t.k2 hr (by rfl) 3 rfl (ra_cons (r_ix ix_seq om_ix (r_var 0 rfl (.inl rfl)) r_int (fun _ _ => rfl)) (ra_cons (r_var 1 rfl (.inl rfl)) (ra_cons (r_var 2 rfl (.inl rfl)) ra_nil)))) (ra_cons (r_call C.c2 t.k2 hr (by rfl) 3 rfl (ra_cons (r_ix ix_seq om_ix (r_var 0 rfl (.inl rfl)) r_int (fun _ _ => rfl)) (ra_cons (r_var 1 rfl (.inl rfl)) (ra_cons (r_var 2 rfl (.inl rfl)) ra_nil)))) ra_nil))))) rs_nil))) rfl rfl
theorem ok3 {T : Nat → List D → Sto → Option (D × Sto)} (hc : 1 ≤ c) (t : Defs K mg) (C : CallsOk t P w base c n T) : FnAt P w K mg base c (n + 1) t.f3 t.d3 ["term", "place", "other"] (fun ds S => ends (m3 T (entry 3 ds) S)) := by
  have S := sc3
  refine fnAt_of hc t.F3 S fun cdv A outer s H E hr => ?_
  exact as_body (rs_cons (rs_if (r_tcmp (orp_eq hr.un250) om_eq (r_ix ix_seq om_ix (r_var 0 rfl (.inl rfl)) r_int (fun _ _ => rfl)) r_str (nomark _)) (rs_cons (rs_if (r_tcmp (orp_eq hr.un250) om_eq (r_ix ix_seq om_ix (r_var 0 rfl (.inl rfl)) r_int (fun _ _ => rfl)) (r_var 1 rfl (.inl rfl)) (nomark _)) (rs_cons (rs_ret (r_call C.c2 t.k2 hr (by rfl) 3 rfl (ra_cons (r_var 2 rfl (.inl rfl)) (ra_cons (r_var 1 rfl (.inl rfl)) (ra_cons r_int ra_nil))))) rs_nil) rs_nil) (rs_cons (rs_ret (r_ifx (r_tcmp op_gt om_gt (r_ix ix_seq om_ix (r_var 0 rfl (.inl rfl)) r_int (fun _ _ => rfl)) (r_var 1 rfl (.inl rfl)) (nomark _)) (r_tup (ra_cons r_str (ra_cons (r_op op_sub om_sub (r_ix ix_seq om_ix (r_var 0 rfl (.inl rfl)) r_int (fun _ _ => rfl)) r_int) ra_nil))) (r_var 0 rfl (.inl rfl)))) rs_nil)) rs_nil) (rs_cons (rs_if (r_tcmp (orp_eq hr.un250) om_eq (r_ix ix_seq om_ix (r_var 0 rfl (.inl rfl)) r_int (fun _ _ => rfl)) r_str (nomark _)) (rs_cons (rs_ret (r_tup (ra_cons r_str (ra_cons (r_call C.c3 t.k3 hr (by rfl) 3 rfl (ra_cons (r_ix ix_seq om_ix (r_var 0 rfl (.inl rfl)) r_int (fun _ _ => rfl)) (ra_cons (r_op orp_add om_add (r_var 1 rfl (.inl rfl)) r_int) (ra_cons (r_var 2 rfl (.inl rfl)) ra_nil)))) ra_nil)))) rs_nil) rs_nil) (rs_cons (rs_ret (r_tup (ra_cons r_str (ra_cons (r_call C.c3 t.k3 hr (by rfl) 3 rfl (ra_cons (r_ix ix_seq om_ix (r_var 0 rfl (.inl rfl)) r_int (fun _ _ => rfl)) (ra_cons (r_var 1 rfl (.inl rfl)) (ra_cons (r_var 2 rfl (.inl rfl)) ra_nil)))) (ra_cons (r_call C.c3 t.k3 hr (by rfl) 3 rfl (ra_cons (r_ix ix_seq om_ix (r_var 0 rfl (.inl rfl)) r_int (fun _ _ => rfl)) (ra_cons (r_var 1 rfl (.inl rfl)) (ra_cons (r_var 2 rfl (.inl rfl)) ra_nil)))) ra_nil))))) rs_nil))) rfl rfl
theorem ok4 {T : Nat → List D → Sto → Option (D × Sto)} (hc : 1 ≤ c) (t : Defs K mg) (C : CallsOk t P w base c n T) : FnAt P w K mg base c (n + 1) t.f4 t.d4 ["term"] (fun ds S => ends (m4 T (entry 4 ds) S)) := by
  have S := sc4
  refine fnAt_of hc t.F4 S fun cdv A outer s H E hr => ?_
  exact as_body (rs_cons (rs_if (r_tcmp (orp_eq hr.un250) om_eq (r_ix ix_seq om_ix (r_var 0 rfl (.inl rfl)) r_int (fun _ _ => rfl)) r_str (nomark _)) (rs_cons (rs_ret r_non) rs_nil) rs_nil) (rs_cons (rs_if (r_tcmp (orp_eq hr.un250) om_eq (r_ix ix_seq om_ix (r_var 0 rfl (.inl rfl)) r_int (fun _ _ => rfl)) r_str (nomark _)) (rs_cons (rs_asg (r_call C.c4 t.k4 hr (by rfl) 1 rfl (ra_cons (r_ix ix_seq om_ix (r_var 0 rfl (.inl rfl)) r_int (fun _ _ => rfl)) ra_nil)) (rg_name 1 S.nd rfl (.inl rfl))) (rs_cons (rs_ret (r_ifx (r_tcmp orp_is om_is (r_var 1 rfl (.inl rfl)) r_non (nomark _)) r_non (r_tup (ra_cons r_str (ra_cons (r_var 1 rfl (.inl rfl)) ra_nil))))) rs_nil)) rs_nil) (rs_cons (rs_if (r_tcmp (orp_eq hr.un250) om_eq (r_ix ix_seq om_ix (r_ix ix_seq om_ix (r_var 0 rfl (.inl rfl)) r_int (fun _ _ => rfl)) r_int (fun _ _ => rfl)) r_str (nomark _)) (rs_cons (rs_ret (r_call C.c3 t.k3 hr (by rfl) 3 rfl (ra_cons (r_ix ix_seq om_ix (r_ix ix_seq om_ix (r_var 0 rfl (.inl rfl)) r_int (fun _ _ => rfl)) r_int (fun _ _ => rfl)) (ra_cons r_int (ra_cons (r_ix ix_seq om_ix (r_var 0 rfl (.inl rfl)) r_int (fun _ _ => rfl)) ra_nil))))) rs_nil) rs_nil) (rs_cons (rs_asg (r_call C.c4 t.k4 hr (by rfl) 1 rfl (ra_cons (r_ix ix_seq om_ix (r_var 0 rfl (.inl rfl)) r_int (fun _ _ => rfl)) ra_nil)) (rg_name 2 S.nd rfl (.inl rfl))) (rs_cons (rs_if (r_tcmp orp_not om_isNot (r_var 2 rfl (.inl rfl)) r_non (nomark _)) (rs_cons (rs_ret (r_tup (ra_cons r_str (ra_cons (r_var 2 rfl (.inl rfl)) (ra_cons (r_ix ix_seq om_ix (r_var 0 rfl (.inl rfl)) r_int (fun _ _ => rfl)) ra_nil))))) rs_nil) rs_nil) (rs_cons (rs_asg (r_call C.c4 t.k4 hr (by rfl) 1 rfl (ra_cons (r_ix ix_seq om_ix (r_var 0 rfl (.inl rfl)) r_int (fun _ _ => rfl)) ra_nil)) (rg_name 3 S.nd rfl (.inl rfl))) (rs_cons (rs_ret (r_ifx (r_tcmp orp_is om_is (r_var 3 rfl (.inl rfl)) r_non (nomark _)) r_non (r_tup (ra_cons r_str (ra_cons (r_ix ix_seq om_ix (r_var 0 rfl (.inl rfl)) r_int (fun _ _ => rfl)) (ra_cons (r_var 3 rfl (.inl rfl)) ra_nil)))))) rs_nil))))))) rfl rfl
theorem ok5 {T : Nat → List D → Sto → Option (D × Sto)} (hc : 1 ≤ c) (t : Defs K mg) (C : CallsOk t P w base c n T) : FnAt P w K mg base c (n + 1) t.f5 t.d5 ["term", "most"] (fun ds S => ends (m5 T (entry 4 ds) S)) := by
  have S := sc5
  refine fnAt_of hc t.F5 S fun cdv A outer s H E hr => ?_
  exact as_body (rs_cons (rs_for PassesOwn.never rfl (rw_rng1 (by rfl) t.z_range (r_op orp_add om_add (r_var 1 rfl (.inl rfl)) r_int)) (rg_name 2 S.nd rfl (.inl rfl)) (rs_cons (rs_asg (r_call C.c4 t.k4 hr (by rfl) 1 rfl (ra_cons (r_var 0 rfl (.inl rfl)) ra_nil)) (rg_name 3 S.nd rfl (.inl rfl))) (rs_cons (rs_if (r_tcmp orp_is om_is (r_var 3 rfl (.inl rfl)) r_non (nomark _)) (rs_cons (rs_ret (r_var 0 rfl (.inl rfl))) rs_nil) rs_nil) (rs_cons (rs_asg (r_var 3 rfl (.inl rfl)) (rg_name 0 S.nd rfl (.inl rfl))) rs_nil)))) (rs_cons (rs_ret r_non) rs_nil)) rfl rfl
theorem ok6 {T : Nat → List D → Sto → Option (D × Sto)} (hc : 1 ≤ c) (t : Defs K mg) (C : CallsOk t P w base c n T) : FnAt P w K mg base c (n + 1) t.f6 t.d6 ["word"] (fun ds S => ends (m6 T (entry 2 ds) S)) := by
  have S := sc6
  refine fnAt_of hc t.F6 S fun cdv A outer s H E hr => ?_
  exact as_body (rs_cons (rs_if (r_tcmp (orp_eq hr.un250) om_eq (r_var 0 rfl (.inl rfl)) r_str (nomark _)) (rs_cons (rs_ret (r_tup (ra_cons r_str (ra_cons (r_tup (ra_cons r_str (ra_cons (r_tup (ra_cons r_str (ra_cons r_int ra_nil))) ra_nil))) ra_nil)))) rs_nil) rs_nil) (rs_cons (rs_if (r_tcmp (orp_eq hr.un250) om_eq (r_var 0 rfl (.inl rfl)) r_str (nomark _)) (rs_cons (rs_asg (r_tup (ra_cons r_str (ra_cons (r_tup (ra_cons r_str (ra_cons (r_tup (ra_cons r_str (ra_cons r_int ra_nil))) (ra_cons (r_tup (ra_cons r_str (ra_cons r_int ra_nil))) ra_nil)))) (ra_cons (r_tup (ra_cons r_str (ra_cons (r_tup (ra_cons r_str (ra_cons r_int ra_nil))) (ra_cons (r_tup (ra_cons r_str (ra_cons r_int ra_nil))) ra_nil)))) ra_nil)))) (rg_name 1 S.nd rfl (.inl rfl))) (rs_cons (rs_ret (r_tup (ra_cons r_str (ra_cons (r_tup (ra_cons r_str (ra_cons (r_tup (ra_cons r_str (ra_cons (r_var 1 rfl (.inl rfl)) ra_nil))) ra_nil))) ra_nil)))) rs_nil)) rs_nil) (rs_cons (rs_ret (r_tup (ra_cons r_str (ra_cons (r_call C.c6 t.k6 hr (by rfl) 1 rfl (ra_cons (r_ix ix_seq om_ix (r_var 0 rfl (.inl rfl)) r_int (fun _ _ => rfl)) ra_nil)) (ra_cons (r_call C.c6 t.k6 hr (by rfl) 1 rfl (ra_cons (r_ix ix_seq om_ix (r_var 0 rfl (.inl rfl)) r_int (fun _ _ => rfl)) ra_nil)) ra_nil))))) rs_nil))) rfl rfl
theorem ok7 {T : Nat → List D → Sto → Option (D × Sto)} (hc : 1 ≤ c) (t : Defs K mg) (C : CallsOk t P w base c n T) : FnAt P w K mg base c (n + 1) t.f7 t.d7 ["word"] (fun ds S => ends (m7 T (entry 1 ds) S)) := by
  have S := sc7
  refine fnAt_of hc t.F7 S fun cdv A outer s H E hr => ?_
  exact as_body (rs_cons (rs_if (r_tcmp (orp_eq hr.un250) om_eq (r_var 0 rfl (.inl rfl)) r_int (nomark _)) (rs_cons (rs_ret (r_tup (ra_cons (r_tup (ra_cons r_str (ra_cons r_str ra_nil))) (ra_cons r_str ra_nil)))) rs_nil) rs_nil) (rs_cons (rs_if (r_not (r_tru (r_isi .tuple (nm := "tuple") (by rfl) t.z_isinstance (by decide +kernel) (by rfl) t.z_tuple (by decide +kernel) (r_var 0 rfl (.inl rfl))) (fun _ => rfl))) (rs_cons (rs_ret (r_tup (ra_cons r_str (ra_cons (r_ifx (r_tru (r_isi .int (nm := "int") (by rfl) t.z_isinstance (by decide +kernel) (by rfl) t.z_int (by decide +kernel) (r_var 0 rfl (.inl rfl))) (fun _ => rfl)) (r_op op_sub om_sub (r_var 0 rfl (.inl rfl)) r_int) (r_var 0 rfl (.inl rfl))) ra_nil)))) rs_nil) rs_nil) (rs_cons (rs_ret (r_tup (ra_cons (r_tup (ra_cons r_str (ra_cons (r_call C.c7 t.k7 hr (by rfl) 1 rfl (ra_cons (r_ix ix_seq om_ix (r_var 0 rfl (.inl rfl)) r_int (fun _ _ => rfl)) ra_nil)) ra_nil))) (ra_cons (r_call C.c7 t.k7 hr (by rfl) 1 rfl (ra_cons (r_ix ix_seq om_ix (r_var 0 rfl (.inl rfl)) r_int (fun _ _ => rfl)) ra_nil)) ra_nil)))) rs_nil))) rfl rfl
theorem ok8 {T : Nat → List D → Sto → Option (D × Sto)} (hc : 1 ≤ c) (t : Defs K mg) (C : CallsOk t P w base c n T) : FnAt P w K mg base c (n + 1) t.f8 t.d8 ["term"] (fun ds S => ends (m8 T (entry 1 ds) S)) := by
  have S := sc8
  refine fnAt_of hc t.F8 S fun cdv A outer s H E hr => ?_
  exact as_body (rs_cons (rs_if (r_tcmp (orp_eq hr.un250) om_eq (r_ix ix_seq om_ix (r_var 0 rfl (.inl rfl)) r_int (fun _ _ => rfl)) r_str (nomark _)) (rs_cons (rs_ret (r_ix ix_seq om_ix (r_var 0 rfl (.inl rfl)) r_int (fun _ _ => rfl))) rs_nil) rs_nil) (rs_cons (rs_if (r_tcmp (orp_eq hr.un250) om_eq (r_ix ix_seq om_ix (r_var 0 rfl (.inl rfl)) r_int (fun _ _ => rfl)) r_str (nomark _)) (rs_cons (rs_ret (r_tup (ra_cons (r_call C.c8 t.k8 hr (by rfl) 1 rfl (ra_cons (r_ix ix_seq om_ix (r_var 0 rfl (.inl rfl)) r_int (fun _ _ => rfl)) ra_nil)) (ra_cons (r_call C.c8 t.k8 hr (by rfl) 1 rfl (ra_cons (r_ix ix_seq om_ix (r_var 0 rfl (.inl rfl)) r_int (fun _ _ => rfl)) ra_nil)) ra_nil)))) rs_nil) rs_nil) (rs_cons (rs_ret (r_call C.c7 t.k7 hr (by rfl) 1 rfl (ra_cons (r_call C.c8 t.k8 hr (by rfl) 1 rfl (ra_cons (r_ix ix_seq om_ix (r_var 0 rfl (.inl rfl)) r_int (fun _ _ => rfl)) ra_nil)) ra_nil))) rs_nil))) rfl rfl
theorem ok9 {T : Nat → List D → Sto → Option (D × Sto)} (hc : 1 ≤ c) (t : Defs K mg) (C : CallsOk t P w base c n T) : FnAt P w K mg base c (n + 1) t.f9 t.d9 ["script", "first", "last"] (fun ds S => ends (m9 T (entry 3 ds) S)) := by
  have S := sc9
  refine fnAt_of hc t.F9 S fun cdv A outer s H E hr => ?_
  exact as_body (rs_cons (rs_ret (r_lst (ra_cons (r_call C.c10 t.k10 hr (by rfl) 3 rfl (ra_cons (r_var 0 rfl (.inl rfl)) (ra_cons (r_var 1 rfl (.inl rfl)) (ra_cons (r_var 2 rfl (.inl rfl)) ra_nil)))) (ra_cons r_int ra_nil)))) rs_nil) rfl rfl
theorem ok10 {T : Nat → List D → Sto → Option (D × Sto)} (hc : 1 ≤ c) (t : Defs K mg) (C : CallsOk t P w base c n T) : FnAt P w K mg base c (n + 1) t.f10 t.d10 ["script", "first", "last"] (fun ds S => ends (m10 T (entry 8 ds) S)) := by
  have S := sc10
  refine fnAt_of hc t.F10 S fun cdv A outer s H E hr => ?_
  exact as_body (rs_cons (rs_asg (r_lst ra_nil) (rg_name 3 S.nd rfl (.inl rfl))) (rs_cons (rs_for PassesOwn.never rfl (rw_rng2 (by rfl) t.z_range (r_var 1 rfl (.inl rfl)) (r_var 2 rfl (.inl rfl))) (rg_name 4 S.nd rfl (.inl rfl)) (rs_cons (rs_asg (r_call C.c11 t.k11 hr (by rfl) 2 rfl (ra_cons (r_var 0 rfl (.inl rfl)) (ra_cons (r_var 4 rfl (.inl rfl)) ra_nil))) (rg_name 5 S.nd rfl (.inl rfl))) (rs_cons (rs_if (r_tcmp op_lt om_lt (r_var 5 rfl (.inl rfl)) r_int (nomark _)) (rs_cons (rs_asg (r_op op_sub om_sub r_int (r_op op_mul om_mul r_int (r_var 5 rfl (.inl rfl)))) (rg_name 5 S.nd rfl (.inl rfl))) rs_nil) rs_nil) (rs_cons (rs_if (r_tcmp op_ge om_ge (r_var 5 rfl (.inl rfl)) (r_op op_pow om_pow r_int r_int) (nomark _)) (rs_cons (rs_for PassesOwn.never rfl (rw_rng1 (by rfl) t.z_range r_int) (rg_name 6 S.nd rfl (.inl rfl)) (rs_cons (rs_if (r_tcmp op_gt om_gt (r_var 5 rfl (.inl rfl)) r_int (nomark _)) (rs_cons (rs_expr (r_met PySem.F.plainAttrs_list PySem.F.slot_list_append PySem.F.type_list_append mt_append mm_app okList_ty (r_var 3 rfl (.inl rfl)) (ra_cons (r_op op_mod om_mod (r_typ call_int1 am_int (by rfl) t.z_int (by decide +kernel) (ra_cons (r_var 5 rfl (.inl rfl)) ra_nil)) r_int) ra_nil))) (rs_cons (rs_asg (r_op op_fdiv om_div (r_var 5 rfl (.inl rfl)) r_int) (rg_name 5 S.nd rfl (.inl rfl))) rs_nil)) rs_nil) rs_nil)) rs_nil) (rs_cons (rs_asg (r_op op_mod om_mod (r_typ call_int1 am_int (by rfl) t.z_int (by decide +kernel) (ra_cons (r_op orp_add om_add (r_op orp_add om_add (r_op op_mul om_mul (r_var 5 rfl (.inl rfl)) r_int) (r_op op_mul om_mul (r_var 4 rfl (.inl rfl)) r_int)) r_int) ra_nil)) r_int) (rg_name 7 S.nd rfl (.inl rfl))) (rs_cons (rs_for PassesOwn.never rfl (rw_rng1 (by rfl) t.z_range r_int) (rg_name 6 S.nd rfl (.inl rfl)) (rs_cons (rs_asg (r_op op_mod om_mod (r_typ call_int1 am_int (by rfl) t.z_int (by decide +kernel) (ra_cons (r_op orp_add om_add (r_op orp_add om_add (r_op op_mul om_mul (r_var 7 rfl (.inl rfl)) r_int) (r_op op_mul om_mul r_int (r_var 6 rfl (.inl rfl)))) r_int) ra_nil)) r_int) (rg_name 7 S.nd rfl (.inl rfl))) (rs_cons (rs_expr (r_met PySem.F.plainAttrs_list PySem.F.slot_list_append PySem.F.type_list_append mt_append mm_app okList_ty (r_var 3 rfl (.inl rfl)) (ra_cons (r_op op_mod om_mod (r_typ call_int1 am_int (by rfl) t.z_int (by decide +kernel) (ra_cons (r_op op_fdiv om_div (r_var 7 rfl (.inl rfl)) r_int) ra_nil)) r_int) ra_nil))) rs_nil))) rs_nil))) rs_nil)))) (rs_cons (rs_ret (r_var 3 rfl (.inl rfl))) rs_nil))) rfl rfl
theorem ok11 {T : Nat → List D → Sto → Option (D × Sto)} (hc : 1 ≤ c) (t : Defs K mg) (C : CallsOk t P w base c n T) : FnAt P w K mg base c (n + 1) t.f11 t.d11 ["script", "k"] (fun ds S => ends (m11 T (entry 2 ds) S)) := by
  have S := sc11
  refine fnAt_of hc t.F11 S fun cdv A outer s H E hr => ?_
  exact as_body (rs_cons (rs_if (r_tcmp op_lt om_lt (r_var 1 rfl (.inl rfl)) (r_blt call_len am_len (by rfl) t.z_len PySem.boot_len (ra_cons (r_var 0 rfl (.inl rfl)) ra_nil)) (nomark _)) (rs_cons (rs_ret (r_ix ix_seq om_ix (r_var 0 rfl (.inl rfl)) (r_var 1 rfl (.inl rfl)) (fun _ _ => rfl))) rs_nil) rs_nil) (rs_cons (rs_ret r_int) rs_nil)) rfl rfl
theorem ok12 {T : Nat → List D → Sto → Option (D × Sto)} (hc : 1 ≤ c) (t : Defs K mg) (C : CallsOk t P w base c n T) : FnAt P w K mg base c (n + 1) t.f12 t.d12 ["box", "many"] (fun ds S => ends (m12 T (entry 3 ds) S)) := by
  have S := sc12
  refine fnAt_of hc t.F12 S fun cdv A outer s H E hr => ?_
  exact as_body (rs_cons (rs_asg (r_ix ix_seq om_ix (r_var 0 rfl (.inl rfl)) r_int (fun _ _ => rfl)) (rg_name 2 S.nd rfl (.inl rfl))) (rs_cons (rs_put set_list pm_put (r_op orp_add om_add (r_var 2 rfl (.inl rfl)) r_int) (r_var 0 rfl (.inl rfl)) r_int) (rs_cons (rs_if (r_tcmp op_lt om_lt (r_var 2 rfl (.inl rfl)) (r_blt call_len am_len (by rfl) t.z_len PySem.boot_len (ra_cons (r_ix ix_seq om_ix (r_var 0 rfl (.inl rfl)) r_int (fun _ _ => rfl)) ra_nil)) (nomark _)) (rs_cons (rs_ret (r_op op_mod om_mod (r_typ call_int1 am_int (by rfl) t.z_int (by decide +kernel) (ra_cons (r_ix ix_seq om_ix (r_ix ix_seq om_ix (r_var 0 rfl (.inl rfl)) r_int (fun _ _ => rfl)) (r_var 2 rfl (.inl rfl)) (fun _ _ => rfl)) ra_nil)) (r_var 1 rfl (.inl rfl)))) rs_nil) rs_nil) (rs_cons (rs_ret r_int) rs_nil)))) rfl rfl
theorem ok13 {T : Nat → List D → Sto → Option (D × Sto)} (hc : 1 ≤ c) (t : Defs K mg) (C : CallsOk t P w base c n T) : FnAt P w K mg base c (n + 1) t.f13 t.d13 ["actual", "expected"] (fun ds S => ends (m13 T (entry 3 ds) S)) := by
  have S := sc13
  refine fnAt_of hc t.F13 S fun cdv A outer s H E hr => ?_
  exact as_body (rs_cons (rs_if (r_tru (r_isi .tuple (nm := "tuple") (by rfl) t.z_isinstance (by decide +kernel) (by rfl) t.z_tuple (by decide +kernel) (r_var 1 rfl (.inl rfl))) (fun _ => rfl)) (rs_cons (rs_if (rw_or (r_not (r_tru (r_isi .tuple (nm := "tuple") (by rfl) t.z_isinstance (by decide +kernel) (by rfl) t.z_tuple (by decide +kernel) (r_var 0 rfl (.inl rfl))) (fun _ => rfl))) (rw_or1 (r_tcmp (orp_ne hr.un250) om_ne (r_blt call_len am_len (by rfl) t.z_len PySem.boot_len (ra_cons (r_var 0 rfl (.inl rfl)) ra_nil)) (r_blt call_len am_len (by rfl) t.z_len PySem.boot_len (ra_cons (r_var 1 rfl (.inl rfl)) ra_nil)) (nomark _)))).pt (rs_cons (rs_ret r_bl) rs_nil) rs_nil) (rs_cons (rs_for PassesOwn.never rfl (rw_rng1 (by rfl) t.z_range (r_blt call_len am_len (by rfl) t.z_len PySem.boot_len (ra_cons (r_var 1 rfl (.inl rfl)) ra_nil))) (rg_name 2 S.nd rfl (.inl rfl)) (rs_cons (rs_if (r_not (r_tru (r_call C.c13 t.k13 hr (by rfl) 2 rfl (ra_cons (r_ix ix_seq om_ix (r_var 0 rfl (.inl rfl)) (r_var 2 rfl (.inl rfl)) (fun _ _ => rfl)) (ra_cons (r_ix ix_seq om_ix (r_var 1 rfl (.inl rfl)) (r_var 2 rfl (.inl rfl)) (fun _ _ => rfl)) ra_nil))) (fun _ => rfl))) (rs_cons (rs_ret r_bl) rs_nil) rs_nil) rs_nil)) (rs_cons (rs_ret r_bl) rs_nil))) rs_nil) (rs_cons (rs_if (r_tcmp orp_is om_is (r_var 1 rfl (.inl rfl)) r_non (nomark _)) (rs_cons (rs_ret (r_cmp orp_is om_is (r_var 0 rfl (.inl rfl)) r_non (nomark _))) rs_nil) rs_nil) (rs_cons (rs_if (r_tru (r_isi .bool (nm := "bool") (by rfl) t.z_isinstance (by decide +kernel) (by rfl) t.z_bool (by decide +kernel) (r_var 1 rfl (.inl rfl))) (fun _ => rfl)) (rs_cons (rs_ret (r_and (r_isi .bool (nm := "bool") (by rfl) t.z_isinstance (by decide +kernel) (by rfl) t.z_bool (by decide +kernel) (r_var 0 rfl (.inl rfl))) (r_one (r_cmp (orp_eq hr.un250) om_eq (r_var 0 rfl (.inl rfl)) (r_var 1 rfl (.inl rfl)) (nomark _))))) rs_nil) rs_nil) (rs_cons (rs_if (r_tru (r_isi .int (nm := "int") (by rfl) t.z_isinstance (by decide +kernel) (by rfl) t.z_int (by decide +kernel) (r_var 1 rfl (.inl rfl))) (fun _ => rfl)) (rs_cons (rs_ret (r_and (r_isi .int (nm := "int") (by rfl) t.z_isinstance (by decide +kernel) (by rfl) t.z_int (by decide +kernel) (r_var 0 rfl (.inl rfl))) (r_and (r_notV (r_isi .bool (nm := "bool") (by rfl) t.z_isinstance (by decide +kernel) (by rfl) t.z_bool (by decide +kernel) (r_var 0 rfl (.inl rfl)))) (r_one (r_cmp (orp_eq hr.un250) om_eq (r_var 0 rfl (.inl rfl)) (r_var 1 rfl (.inl rfl)) (nomark _)))))) rs_nil) rs_nil) (rs_cons (rs_ret (r_and (r_isi .str (nm := "str") (by rfl) t.z_isinstance (by decide +kernel) (by rfl) t.z_str (by decide +kernel) (r_var 0 rfl (.inl rfl))) (r_one (r_cmp (orp_eq hr.un250) om_eq (r_var 0 rfl (.inl rfl)) (r_var 1 rfl (.inl rfl)) (nomark _))))) rs_nil))))) rfl rfl
theorem ok14 {T : Nat → List D → Sto → Option (D × Sto)} (hc : 1 ≤ c) (t : Defs K mg) (C : CallsOk t P w base c n T) : FnAt P w K mg base c (n + 1) t.f14 t.d14 ["box", "depth", "room"] (fun ds S => ends (m14 T (entry 4 ds) S)) := by
  have S := sc14
  refine fnAt_of hc t.F14 S fun cdv A outer s H E hr => ?_
  exact as_body (rs_cons (rs_if (rw_and (r_tcmp op_gt om_gt (r_var 1 rfl (.inl rfl)) r_int (nomark _)) (rw_and1 (rw_or (r_tcmp op_lt om_lt (r_var 2 rfl (.inl rfl)) r_int (nomark _)) (rw_or1 (r_tcmp (orp_eq hr.un250) om_eq (r_call C.c12 t.k12 hr (by rfl) 2 rfl (ra_cons (r_var 0 rfl (.inl rfl)) (ra_cons r_int ra_nil))) r_int (nomark _)))).pt)).pt (rs_cons (rs_ret (r_tup (ra_cons r_str (ra_cons (r_call C.c12 t.k12 hr (by rfl) 2 rfl (ra_cons (r_var 0 rfl (.inl rfl)) (ra_cons (r_var 1 rfl (.inl rfl)) ra_nil))) ra_nil)))) rs_nil) rs_nil) (rs_cons (rs_if (rw_or (r_tcmp op_lt om_lt (r_var 2 rfl (.inl rfl)) r_int (nomark _)) (rw_or (r_tcmp (orp_eq hr.un250) om_eq (r_var 1 rfl (.inl rfl)) r_int (nomark _)) (rw_or1 (r_tcmp (orp_eq hr.un250) om_eq (r_call C.c12 t.k12 hr (by rfl) 2 rfl (ra_cons (r_var 0 rfl (.inl rfl)) (ra_cons r_int ra_nil))) r_int (nomark _))))).pt (rs_cons (rs_ret (r_tup (ra_cons r_str (ra_cons (r_call C.c14 t.k14 hr (by rfl) 3 rfl (ra_cons (r_var 0 rfl (.inl rfl)) (ra_cons (r_op orp_add om_add (r_var 1 rfl (.inl rfl)) r_int) (ra_cons (r_op op_sub om_sub (r_var 2 rfl (.inl rfl)) r_int) ra_nil)))) ra_nil)))) rs_nil) rs_nil) (rs_cons (rs_asg (r_op orp_add om_add r_int (r_call C.c12 t.k12 hr (by rfl) 2 rfl (ra_cons (r_var 0 rfl (.inl rfl)) (ra_cons (r_op op_sub om_sub (r_var 2 rfl (.inl rfl)) r_int) ra_nil)))) (rg_name 3 S.nd rfl (.inl rfl))) (rs_cons (rs_ret (r_tup (ra_cons r_str (ra_cons (r_call C.c14 t.k14 hr (by rfl) 3 rfl (ra_cons (r_var 0 rfl (.inl rfl)) (ra_cons (r_var 1 rfl (.inl rfl)) (ra_cons (r_var 3 rfl (.inl rfl)) ra_nil)))) (ra_cons (r_call C.c14 t.k14 hr (by rfl) 3 rfl (ra_cons (r_var 0 rfl (.inl rfl)) (ra_cons (r_var 1 rfl (.inl rfl)) (ra_cons (r_blt (call_max2 rfl) am_max2 (by rfl) t.z_max (by decide +kernel) (ra_cons r_int (ra_cons (r_op op_sub om_sub (r_op op_sub om_sub (r_var 2 rfl (.inl rfl)) r_int) (r_var 3 rfl (.inl rfl))) ra_nil))) ra_nil)))) ra_nil))))) rs_nil)))) rfl rfl
theorem ok15 {T : Nat → List D → Sto → Option (D × Sto)} (hc : 1 ≤ c) (t : Defs K mg) (C : CallsOk t P w base c n T) : FnAt P w K mg base c (n + 1) t.f15 t.d15 ["term", "by", "least"] (fun ds S => ends (m15 T (entry 3 ds) S)) := by
  have S := sc15
  refine fnAt_of hc t.F15 S fun cdv A outer s H E hr => ?_
  exact as_body (rs_cons (rs_if (r_tcmp (orp_eq hr.un250) om_eq (r_ix ix_seq om_ix (r_var 0 rfl (.inl rfl)) r_int (fun _ _ => rfl)) r_str (nomark _)) (rs_cons (rs_ret (r_tup (ra_cons r_str (ra_cons (r_op orp_add om_add (r_ix ix_seq om_ix (r_var 0 rfl (.inl rfl)) r_int (fun _ _ => rfl)) (r_op op_mul om_mul (r_var 1 rfl (.inl rfl)) (r_typ call_int1 am_int (by rfl) t.z_int (by decide +kernel) (ra_cons (r_cmp op_ge om_ge (r_ix ix_seq om_ix (r_var 0 rfl (.inl rfl)) r_int (fun _ _ => rfl)) (r_var 2 rfl (.inl rfl)) (nomark _)) ra_nil)))) ra_nil)))) rs_nil) rs_nil) (rs_cons (rs_if (r_tcmp (orp_eq hr.un250) om_eq (r_ix ix_seq om_ix (r_var 0 rfl (.inl rfl)) r_int (fun _ _ => rfl)) r_str (nomark _)) (rs_cons (rs_ret (r_tup (ra_cons r_str (ra_cons (r_call C.c15 t.k15 hr (by rfl) 3 rfl (ra_cons (r_ix ix_seq om_ix (r_var 0 rfl (.inl rfl)) r_int (fun _ _ => rfl)) (ra_cons (r_var 1 rfl (.inl rfl)) (ra_cons (r_op orp_add om_add (r_var 2 rfl (.inl rfl)) r_int) ra_nil)))) ra_nil)))) rs_nil) rs_nil) (rs_cons (rs_ret (r_tup (ra_cons r_str (ra_cons (r_call C.c15 t.k15 hr (by rfl) 3 rfl (ra_cons (r_ix ix_seq om_ix (r_var 0 rfl (.inl rfl)) r_int (fun _ _ => rfl)) (ra_cons (r_var 1 rfl (.inl rfl)) (ra_cons (r_var 2 rfl (.inl rfl)) ra_nil)))) (ra_cons (r_call C.c15 t.k15 hr (by rfl) 3 rfl (ra_cons (r_ix ix_seq om_ix (r_var 0 rfl (.inl rfl)) r_int (fun _ _ => rfl)) (ra_cons (r_var 1 rfl (.inl rfl)) (ra_cons (r_var 2 rfl (.inl rfl)) ra_nil)))) ra_nil))))) rs_nil))) rfl rfl
theorem ok16 {T : Nat → List D → Sto → Option (D × Sto)} (hc : 1 ≤ c) (t : Defs K mg) (C : CallsOk t P w base c n T) : FnAt P w K mg base c (n + 1) t.f16 t.d16 ["term", "most"] (fun ds S => ends (m16 T (entry 4 ds) S)) := by
  have S := sc16
  refine fnAt_of hc t.F16 S fun cdv A outer s H E hr => ?_
  exact as_body (rs_cons (rs_for PassesOwn.never rfl (rw_rng1 (by rfl) t.z_range (r_op orp_add om_add (r_var 1 rfl (.inl rfl)) r_int)) (rg_name 2 S.nd rfl (.inl rfl)) (rs_cons (rs_asg (r_call C.c17 t.k17 hr (by rfl) 1 rfl (ra_cons (r_var 0 rfl (.inl rfl)) ra_nil)) (rg_name 3 S.nd rfl (.inl rfl))) (rs_cons (rs_if (r_tcmp orp_is om_is (r_var 3 rfl (.inl rfl)) r_non (nomark _)) (rs_cons (rs_ret (r_var 0 rfl (.inl rfl))) rs_nil) rs_nil) (rs_cons (rs_asg (r_var 3 rfl (.inl rfl)) (rg_name 0 S.nd rfl (.inl rfl))) rs_nil)))) (rs_cons (rs_ret r_non) rs_nil)) rfl rfl
theorem ok17 {T : Nat → List D → Sto → Option (D × Sto)} (hc : 1 ≤ c) (t : Defs K mg) (C : CallsOk t P w base c n T) : FnAt P w K mg base c (n + 1) t.f17 t.d17 ["term"] (fun ds S => ends (m17 T (entry 2 ds) S)) := by
  have S := sc17
  refine fnAt_of hc t.F17 S fun cdv A outer s H E hr => ?_
  exact as_body (rs_cons (rs_if (r_tcmp (orp_eq hr.un250) om_eq (r_ix ix_seq om_ix (r_var 0 rfl (.inl rfl)) r_int (fun _ _ => rfl)) r_str (nomark _)) (rs_cons (rs_ret r_non) rs_nil) rs_nil) (rs_cons (rs_if (r_tcmp (orp_eq hr.un250) om_eq (r_ix ix_seq om_ix (r_var 0 rfl (.inl rfl)) r_int (fun _ _ => rfl)) r_str (nomark _)) (rs_cons (rs_asg (r_call C.c17 t.k17 hr (by rfl) 1 rfl (ra_cons (r_ix ix_seq om_ix (r_var 0 rfl (.inl rfl)) r_int (fun _ _ => rfl)) ra_nil)) (rg_name 1 S.nd rfl (.inl rfl))) (rs_cons (rs_if (r_tcmp orp_is om_is (r_var 1 rfl (.inl rfl)) r_non (nomark _)) (rs_cons (rs_ret r_non) rs_nil) rs_nil) (rs_cons (rs_ret (r_tup (ra_cons r_str (ra_cons (r_var 1 rfl (.inl rfl)) ra_nil)))) rs_nil))) rs_nil) (rs_cons (rs_if (r_tcmp (orp_eq hr.un250) om_eq (r_ix ix_seq om_ix (r_ix ix_seq om_ix (r_var 0 rfl (.inl rfl)) r_int (fun _ _ => rfl)) r_int (fun _ _ => rfl)) r_str (nomark _)) (rs_cons (rs_ret (r_call C.c18 t.k18 hr (by rfl) 3 rfl (ra_cons (r_ix ix_seq om_ix (r_ix ix_seq om_ix (r_var 0 rfl (.inl rfl)) r_int (fun _ _ => rfl)) r_int (fun _ _ => rfl)) (ra_cons r_int (ra_cons (r_ix ix_seq om_ix (r_var 0 rfl (.inl rfl)) r_int (fun _ _ => rfl)) ra_nil))))) rs_nil) rs_nil) (rs_cons (rs_asg (r_call C.c17 t.k17 hr (by rfl) 1 rfl (ra_cons (r_ix ix_seq om_ix (r_var 0 rfl (.inl rfl)) r_int (fun _ _ => rfl)) ra_nil)) (rg_name 1 S.nd rfl (.inl rfl))) (rs_cons (rs_if (r_tcmp orp_not om_isNot (r_var 1 rfl (.inl rfl)) r_non (nomark _)) (rs_cons (rs_ret (r_tup (ra_cons r_str (ra_cons (r_var 1 rfl (.inl rfl)) (ra_cons (r_ix ix_seq om_ix (r_var 0 rfl (.inl rfl)) r_int (fun _ _ => rfl)) ra_nil))))) rs_nil) rs_nil) (rs_cons (rs_asg (r_call C.c17 t.k17 hr (by rfl) 1 rfl (ra_cons (r_ix ix_seq om_ix (r_var 0 rfl (.inl rfl)) r_int (fun _ _ => rfl)) ra_nil)) (rg_name 1 S.nd rfl (.inl rfl))) (rs_cons (rs_if (r_tcmp orp_not om_isNot (r_var 1 rfl (.inl rfl)) r_non (nomark _)) (rs_cons (rs_ret (r_tup (ra_cons r_str (ra_cons (r_ix ix_seq om_ix (r_var 0 rfl (.inl rfl)) r_int (fun _ _ => rfl)) (ra_cons (r_var 1 rfl (.inl rfl)) ra_nil))))) rs_nil) rs_nil) (rs_cons (rs_ret r_non) rs_nil)))))))) rfl rfl
theorem ok18 {T : Nat → List D → Sto → Option (D × Sto)} (hc : 1 ≤ c) (t : Defs K mg) (C : CallsOk t P w base c n T) : FnAt P w K mg base c (n + 1) t.f18 t.d18 ["term", "place", "other"] (fun ds S => ends (m18 T (entry 3 ds) S)) := by
  have S := sc18
  refine fnAt_of hc t.F18 S fun cdv A outer s H E hr => ?_
  exact as_body (rs_cons (rs_if (r_tcmp (orp_eq hr.un250) om_eq (r_ix ix_seq om_ix (r_var 0 rfl (.inl rfl)) r_int (fun _ _ => rfl)) r_str (nomark _)) (rs_cons (rs_if (r_tcmp (orp_eq hr.un250) om_eq (r_ix ix_seq om_ix (r_var 0 rfl (.inl rfl)) r_int (fun _ _ => rfl)) (r_var 1 rfl (.inl rfl)) (nomark _)) (rs_cons (rs_ret (r_call C.c15 t.k15 hr (by rfl) 3 rfl (ra_cons (r_var 2 rfl (.inl rfl)) (ra_cons (r_var 1 rfl (.inl rfl)) (ra_cons r_int ra_nil))))) rs_nil) rs_nil) (rs_cons (rs_ret (r_tup (ra_cons r_str (ra_cons (r_op op_sub om_sub (r_ix ix_seq om_ix (r_var 0 rfl (.inl rfl)) r_int (fun _ _ => rfl)) (r_typ call_int1 am_int (by rfl) t.z_int (by decide +kernel) (ra_cons (r_cmp op_gt om_gt (r_ix ix_seq om_ix (r_var 0 rfl (.inl rfl)) r_int (fun _ _ => rfl)) (r_var 1 rfl (.inl rfl)) (nomark _)) ra_nil))) ra_nil)))) rs_nil)) rs_nil) (rs_cons (rs_if (r_tcmp (orp_eq hr.un250) om_eq (r_ix ix_seq om_ix (r_var 0 rfl (.inl rfl)) r_int (fun _ _ => rfl)) r_str (nomark _)) (rs_cons (rs_ret (r_tup (ra_cons r_str (ra_cons (r_call C.c18 t.k18 hr (by rfl) 3 rfl (ra_cons (r_ix ix_seq om_ix (r_var 0 rfl (.inl rfl)) r_int (fun _ _ => rfl)) (ra_cons (r_op orp_add om_add (r_var 1 rfl (.inl rfl)) r_int) (ra_cons (r_var 2 rfl (.inl rfl)) ra_nil)))) ra_nil)))) rs_nil) rs_nil) (rs_cons (rs_ret (r_tup (ra_cons r_str (ra_cons (r_call C.c18 t.k18 hr (by rfl) 3 rfl (ra_cons (r_ix ix_seq om_ix (r_var 0 rfl (.inl rfl)) r_int (fun _ _ => rfl)) (ra_cons (r_var 1 rfl (.inl rfl)) (ra_cons (r_var 2 rfl (.inl rfl)) ra_nil)))) (ra_cons (r_call C.c18 t.k18 hr (by rfl) 3 rfl (ra_cons (r_ix ix_seq om_ix (r_var 0 rfl (.inl rfl)) r_int (fun _ _ => rfl)) (ra_cons (r_var 1 rfl (.inl rfl)) (ra_cons (r_var 2 rfl (.inl rfl)) ra_nil)))) ra_nil))))) rs_nil))) rfl rfl
theorem ok19 {T : Nat → List D → Sto → Option (D × Sto)} (hc : 1 ≤ c) (t : Defs K mg) (C : CallsOk t P w base c n T) : FnAt P w K mg base c (n + 1) t.f19 t.d19 ["word"] (fun ds S => ends (m19 T (entry 1 ds) S)) := by
  have S := sc19
  refine fnAt_of hc t.F19 S fun cdv A outer s H E hr => ?_
  exact as_body (rs_cons (rs_if (r_tcmp (orp_eq hr.un250) om_eq (r_var 0 rfl (.inl rfl)) r_str (nomark _)) (rs_cons (rs_ret (r_tup (ra_cons r_str (ra_cons (r_tup (ra_cons r_str (ra_cons (r_tup (ra_cons r_str (ra_cons r_int ra_nil))) ra_nil))) ra_nil)))) rs_nil) rs_nil) (rs_cons (rs_if (r_tcmp (orp_eq hr.un250) om_eq (r_var 0 rfl (.inl rfl)) r_str (nomark _)) (rs_cons (rs_ret (r_tup (ra_cons r_str (ra_cons (r_tup (ra_cons r_str (ra_cons (r_tup (ra_cons r_str (ra_cons (r_tup (ra_cons r_str (ra_cons (r_tup (ra_cons r_str (ra_cons (r_tup (ra_cons r_str (ra_cons r_int ra_nil))) (ra_cons (r_tup (ra_cons r_str (ra_cons r_int ra_nil))) ra_nil)))) (ra_cons (r_tup (ra_cons r_str (ra_cons (r_tup (ra_cons r_str (ra_cons r_int ra_nil))) (ra_cons (r_tup (ra_cons r_str (ra_cons r_int ra_nil))) ra_nil)))) ra_nil)))) ra_nil))) ra_nil))) ra_nil)))) rs_nil) rs_nil) (rs_cons (rs_ret (r_tup (ra_cons r_str (ra_cons (r_call C.c19 t.k19 hr (by rfl) 1 rfl (ra_cons (r_ix ix_seq om_ix (r_var 0 rfl (.inl rfl)) r_int (fun _ _ => rfl)) ra_nil)) (ra_cons (r_call C.c19 t.k19 hr (by rfl) 1 rfl (ra_cons (r_ix ix_seq om_ix (r_var 0 rfl (.inl rfl)) r_int (fun _ _ => rfl)) ra_nil)) ra_nil))))) rs_nil))) rfl rfl
theorem ok20 {T : Nat → List D → Sto → Option (D × Sto)} (hc : 1 ≤ c) (t : Defs K mg) (C : CallsOk t P w base c n T) : FnAt P w K mg base c (n + 1) t.f20 t.d20 ["word"] (fun ds S => ends (m20 T (entry 1 ds) S)) := by
  have S := sc20
  refine fnAt_of hc t.F20 S fun cdv A outer s H E hr => ?_
  exact as_body (rs_cons (rs_if (r_tru (r_isi .str (nm := "str") (by rfl) t.z_isinstance (by decide +kernel) (by rfl) t.z_str (by decide +kernel) (r_var 0 rfl (.inl rfl))) (fun _ => rfl)) (rs_cons (rs_ret (r_or (r_cmp (orp_eq hr.un250) om_eq (r_var 0 rfl (.inl rfl)) r_str (nomark _)) (r_one (r_cmp (orp_eq hr.un250) om_eq (r_var 0 rfl (.inl rfl)) r_str (nomark _))))) rs_nil) rs_nil) (rs_cons (rs_ret (r_and (r_isi .tuple (nm := "tuple") (by rfl) t.z_isinstance (by decide +kernel) (by rfl) t.z_tuple (by decide +kernel) (r_var 0 rfl (.inl rfl))) (r_and (r_cmp (orp_eq hr.un250) om_eq (r_blt call_len am_len (by rfl) t.z_len PySem.boot_len (ra_cons (r_var 0 rfl (.inl rfl)) ra_nil)) r_int (nomark _)) (r_and (r_call C.c20 t.k20 hr (by rfl) 1 rfl (ra_cons (r_ix ix_seq om_ix (r_var 0 rfl (.inl rfl)) r_int (fun _ _ => rfl)) ra_nil)) (r_one (r_call C.c20 t.k20 hr (by rfl) 1 rfl (ra_cons (r_ix ix_seq om_ix (r_var 0 rfl (.inl rfl)) r_int (fun _ _ => rfl)) ra_nil))))))) rs_nil)) rfl rfl
theorem ok21 {T : Nat → List D → Sto → Option (D × Sto)} (hc : 1 ≤ c) (t : Defs K mg) (C : CallsOk t P w base c n T) : FnAt P w K mg base c (n + 1) t.f21 t.d21 ["script"] (fun ds S => ends (m21 T (entry 9 ds) S)) := by
  have S := sc21
  refine fnAt_of hc t.F21 S fun cdv A outer s H E hr => ?_
  exact as_body (rs_cons (rs_asg (r_call C.c9 t.k9 hr (by rfl) 3 rfl (ra_cons (r_var 0 rfl (.inl rfl)) (ra_cons r_int (ra_cons r_int ra_nil)))) (rg_name 1 S.nd rfl (.inl rfl))) (rs_cons (rs_asg r_str (rg_name 2 S.nd rfl (.inl rfl))) (rs_cons (rs_for PassesOwn.never rfl (rw_rng1 (by rfl) t.z_range (r_call C.c12 t.k12 hr (by rfl) 2 rfl (ra_cons (r_var 1 rfl (.inl rfl)) (ra_cons r_int ra_nil)))) (rg_name 3 S.nd rfl (.inl rfl)) (rs_cons (rs_asg (r_ix ix_seq om_ix (r_lst (ra_cons (r_tup (ra_cons (r_var 2 rfl (.inl rfl)) (ra_cons r_str ra_nil))) (ra_cons (r_tup (ra_cons r_str (ra_cons (r_var 2 rfl (.inl rfl)) ra_nil))) (ra_cons (r_tup (ra_cons (r_var 2 rfl (.inl rfl)) (ra_cons (r_var 2 rfl (.inl rfl)) ra_nil))) ra_nil)))) (r_call C.c12 t.k12 hr (by rfl) 2 rfl (ra_cons (r_var 1 rfl (.inl rfl)) (ra_cons r_int ra_nil))) (fun _ _ => rfl)) (rg_name 2 S.nd rfl (.inl rfl))) rs_nil)) (rs_cons (rs_if (r_not (r_tru (r_call C.c13 t.k13 hr (by rfl) 2 rfl (ra_cons (r_call C.c6 t.k6 hr (by rfl) 1 rfl (ra_cons (r_var 2 rfl (.inl rfl)) ra_nil)) (ra_cons (r_call C.c19 t.k19 hr (by rfl) 1 rfl (ra_cons (r_var 2 rfl (.inl rfl)) ra_nil)) ra_nil))) (fun _ => rfl))) (rs_cons (rs_ret r_bl) rs_nil) rs_nil) (rs_cons (rs_asg (r_call C.c14 t.k14 hr (by rfl) 3 rfl (ra_cons (r_var 1 rfl (.inl rfl)) (ra_cons r_int (ra_cons (r_op orp_add om_add r_int (r_call C.c12 t.k12 hr (by rfl) 2 rfl (ra_cons (r_var 1 rfl (.inl rfl)) (ra_cons r_int ra_nil)))) ra_nil)))) (rg_name 4 S.nd rfl (.inl rfl))) (rs_cons (rs_asg (r_call C.c8 t.k8 hr (by rfl) 1 rfl (ra_cons (r_var 4 rfl (.inl rfl)) ra_nil)) (rg_name 5 S.nd rfl (.inl rfl))) (rs_cons (rs_if (rw_or (r_not (r_tru (r_call C.c20 t.k20 hr (by rfl) 1 rfl (ra_cons (r_var 5 rfl (.inl rfl)) ra_nil)) (fun _ => rfl))) (rw_or1 (r_tcmp orp_not om_isNot (r_call C.c1 t.k1 hr (by rfl) 2 rfl (ra_cons (r_call C.c6 t.k6 hr (by rfl) 1 rfl (ra_cons (r_var 5 rfl (.inl rfl)) ra_nil)) (ra_cons r_int ra_nil))) r_bl (nomark _)))).pt (rs_cons (rs_ret r_bl) rs_nil) rs_nil) (rs_cons (rs_asg (r_call C.c16 t.k16 hr (by rfl) 2 rfl (ra_cons (r_var 4 rfl (.inl rfl)) (ra_cons r_int ra_nil))) (rg_name 6 S.nd rfl (.inl rfl))) (rs_cons (rs_asg (r_call C.c16 t.k16 hr (by rfl) 2 rfl (ra_cons (r_call C.c6 t.k6 hr (by rfl) 1 rfl (ra_cons (r_var 5 rfl (.inl rfl)) ra_nil)) (ra_cons r_int ra_nil))) (rg_name 7 S.nd rfl (.inl rfl))) (rs_cons (rs_if (rw_and (r_tcmp orp_not om_isNot (r_var 6 rfl (.inl rfl)) r_non (nomark _)) (rw_and1 (r_tcmp (orp_ne hr.un250) om_ne (r_var 6 rfl (.inl rfl)) (r_var 7 rfl (.inl rfl)) (nomark _)))).pt (rs_cons (rs_ret r_bl) rs_nil) rs_nil) (rs_cons (rs_if (r_not (r_tru (r_call C.c13 t.k13 hr (by rfl) 2 rfl (ra_cons (r_call C.c5 t.k5 hr (by rfl) 2 rfl (ra_cons (r_var 4 rfl (.inl rfl)) (ra_cons r_int ra_nil))) (ra_cons (r_var 6 rfl (.inl rfl)) ra_nil))) (fun _ => rfl))) (rs_cons (rs_ret r_bl) rs_nil) rs_nil) (rs_cons (rs_asg (r_ix ix_seq om_ix (r_lst (ra_cons r_str (ra_cons r_str (ra_cons (r_tup (ra_cons (r_tup (ra_cons r_str (ra_cons r_str ra_nil))) (ra_cons r_str ra_nil))) (ra_cons (r_tup (ra_cons (r_tup (ra_cons r_str (ra_cons r_str ra_nil))) (ra_cons r_str ra_nil))) ra_nil))))) (r_call C.c12 t.k12 hr (by rfl) 2 rfl (ra_cons (r_var 1 rfl (.inl rfl)) (ra_cons r_int ra_nil))) (fun _ _ => rfl)) (rg_name 8 S.nd rfl (.inl rfl))) (rs_cons (rs_ret (r_call C.c13 t.k13 hr (by rfl) 2 rfl (ra_cons (r_call C.c5 t.k5 hr (by rfl) 2 rfl (ra_cons (r_call C.c6 t.k6 hr (by rfl) 1 rfl (ra_cons (r_var 8 rfl (.inl rfl)) ra_nil)) (ra_cons r_int ra_nil))) (ra_cons (r_call C.c16 t.k16 hr (by rfl) 2 rfl (ra_cons (r_call C.c19 t.k19 hr (by rfl) 1 rfl (ra_cons (r_var 8 rfl (.inl rfl)) ra_nil)) (ra_cons r_int ra_nil))) ra_nil)))) rs_nil))))))))))))) rfl rfl
theorem all_ok (hc : 1 ≤ c) (t : Defs K mg) : ∀ n, CallsOk t P w base c n (run n)
  | 0 => ⟨.none, .none, .none, .none, .none, .none, .none, .none, .none, .none, .none, .none, .none, .none, .none, .none, .none, .none, .none, .none, .none, .none⟩
  | n + 1 => by
    have C := all_ok hc t n
    exact ⟨ok0 hc t C, ok1 hc t C, ok2 hc t C, ok3 hc t C, ok4 hc t C, ok5 hc t C, ok6 hc t C, ok7 hc t C, ok8 hc t C, ok9 hc t C, ok10 hc t C, ok11 hc t C, ok12 hc t C, ok13 hc t C, ok14 hc t C, ok15 hc t C, ok16 hc t C, ok17 hc t C, ok18 hc t C, ok19 hc t C, ok20 hc t C, ok21 hc t C⟩
end
theorem all_mk {K : PySem.W.Frag} {h : Heap} {mg : Str → Option Value} (X : K.In h) (G0 : h.Ns mainGlobals mg)
    {od0 an0 : Option Addr} {sl0 : Array (Option Value)} {oc0 kV0 dc0 pm0 cd0 ct0 : Value} {f0 : Addr} {od1 an1 : Option Addr} {sl1 : Array (Option Value)} {oc1 kV1 dc1 pm1 cd1 ct1 : Value} {f1 : Addr} {od2 an2 : Option Addr} {sl2 : Array (Option Value)} {oc2 kV2 dc2 pm2 cd2 ct2 : Value} {f2 : Addr} {od3 an3 : Option Addr} {sl3 : Array (Option Value)} {oc3 kV3 dc3 pm3 cd3 ct3 : Value} {f3 : Addr} {od4 an4 : Option Addr} {sl4 : Array (Option Value)} {oc4 kV4 dc4 pm4 cd4 ct4 : Value} {f4 : Addr} {od5 an5 : Option Addr} {sl5 : Array (Option Value)} {oc5 kV5 dc5 pm5 cd5 ct5 : Value} {f5 : Addr} {od6 an6 : Option Addr} {sl6 : Array (Option Value)} {oc6 kV6 dc6 pm6 cd6 ct6 : Value} {f6 : Addr} {od7 an7 : Option Addr} {sl7 : Array (Option Value)} {oc7 kV7 dc7 pm7 cd7 ct7 : Value} {f7 : Addr} {od8 an8 : Option Addr} {sl8 : Array (Option Value)} {oc8 kV8 dc8 pm8 cd8 ct8 : Value} {f8 : Addr} {od9 an9 : Option Addr} {sl9 : Array (Option Value)} {oc9 kV9 dc9 pm9 cd9 ct9 : Value} {f9 : Addr} {od10 an10 : Option Addr} {sl10 : Array (Option Value)} {oc10 kV10 dc10 pm10 cd10 ct10 : Value} {f10 : Addr} {od11 an11 : Option Addr} {sl11 : Array (Option Value)} {oc11 kV11 dc11 pm11 cd11 ct11 : Value} {f11 : Addr} {od12 an12 : Option Addr} {sl12 : Array (Option Value)} {oc12 kV12 dc12 pm12 cd12 ct12 : Value} {f12 : Addr} {od13 an13 : Option Addr} {sl13 : Array (Option Value)} {oc13 kV13 dc13 pm13 cd13 ct13 : Value} {f13 : Addr} {od14 an14 : Option Addr} {sl14 : Array (Option Value)} {oc14 kV14 dc14 pm14 cd14 ct14 : Value} {f14 : Addr} {od15 an15 : Option Addr} {sl15 : Array (Option Value)} {oc15 kV15 dc15 pm15 cd15 ct15 : Value} {f15 : Addr} {od16 an16 : Option Addr} {sl16 : Array (Option Value)} {oc16 kV16 dc16 pm16 cd16 ct16 : Value} {f16 : Addr} {od17 an17 : Option Addr} {sl17 : Array (Option Value)} {oc17 kV17 dc17 pm17 cd17 ct17 : Value} {f17 : Addr} {od18 an18 : Option Addr} {sl18 : Array (Option Value)} {oc18 kV18 dc18 pm18 cd18 ct18 : Value} {f18 : Addr} {od19 an19 : Option Addr} {sl19 : Array (Option Value)} {oc19 kV19 dc19 pm19 cd19 ct19 : Value} {f19 : Addr} {od20 an20 : Option Addr} {sl20 : Array (Option Value)} {oc20 kV20 dc20 pm20 cd20 ct20 : Value} {f20 : Addr} {od21 an21 : Option Addr} {sl21 : Array (Option Value)} {oc21 kV21 dc21 pm21 cd21 ct21 : Value} {f21 : Addr}
    (a0 : PySem.W.nsIn K mainGlobals "is_number" = some (some (.ref f0))) (l0 : K.lookup f0 = some ⟨oc0, od0, .func (PySem.W.fnOf "is_number" "is_number" (defArgs s0) (defBody s0) (defScope s0) .none kV0 dc0 pm0 an0 cd0 ct0), sl0⟩) (e0 : PySem.W.codeIn K cd0 "is_number" = true) (k0 : PySem.W.keepIn K (.ref f0) = true)
    (a1 : PySem.W.nsIn K mainGlobals "is_term" = some (some (.ref f1))) (l1 : K.lookup f1 = some ⟨oc1, od1, .func (PySem.W.fnOf "is_term" "is_term" (defArgs s1) (defBody s1) (defScope s1) .none kV1 dc1 pm1 an1 cd1 ct1), sl1⟩) (e1 : PySem.W.codeIn K cd1 "is_term" = true) (k1 : PySem.W.keepIn K (.ref f1) = true)
    (a2 : PySem.W.nsIn K mainGlobals "raised" = some (some (.ref f2))) (l2 : K.lookup f2 = some ⟨oc2, od2, .func (PySem.W.fnOf "raised" "raised" (defArgs s2) (defBody s2) (defScope s2) .none kV2 dc2 pm2 an2 cd2 ct2), sl2⟩) (e2 : PySem.W.codeIn K cd2 "raised" = true) (k2 : PySem.W.keepIn K (.ref f2) = true)
    (a3 : PySem.W.nsIn K mainGlobals "put_at" = some (some (.ref f3))) (l3 : K.lookup f3 = some ⟨oc3, od3, .func (PySem.W.fnOf "put_at" "put_at" (defArgs s3) (defBody s3) (defScope s3) .none kV3 dc3 pm3 an3 cd3 ct3), sl3⟩) (e3 : PySem.W.codeIn K cd3 "put_at" = true) (k3 : PySem.W.keepIn K (.ref f3) = true)
    (a4 : PySem.W.nsIn K mainGlobals "step" = some (some (.ref f4))) (l4 : K.lookup f4 = some ⟨oc4, od4, .func (PySem.W.fnOf "step" "step" (defArgs s4) (defBody s4) (defScope s4) .none kV4 dc4 pm4 an4 cd4 ct4), sl4⟩) (e4 : PySem.W.codeIn K cd4 "step" = true) (k4 : PySem.W.keepIn K (.ref f4) = true)
    (a5 : PySem.W.nsIn K mainGlobals "done" = some (some (.ref f5))) (l5 : K.lookup f5 = some ⟨oc5, od5, .func (PySem.W.fnOf "done" "done" (defArgs s5) (defBody s5) (defScope s5) .none kV5 dc5 pm5 an5 cd5 ct5), sl5⟩) (e5 : PySem.W.codeIn K cd5 "done" = true) (k5 : PySem.W.keepIn K (.ref f5) = true)
    (a6 : PySem.W.nsIn K mainGlobals "combined" = some (some (.ref f6))) (l6 : K.lookup f6 = some ⟨oc6, od6, .func (PySem.W.fnOf "combined" "combined" (defArgs s6) (defBody s6) (defScope s6) .none kV6 dc6 pm6 an6 cd6 ct6), sl6⟩) (e6 : PySem.W.codeIn K cd6 "combined" = true) (k6 : PySem.W.keepIn K (.ref f6) = true)
    (a7 : PySem.W.nsIn K mainGlobals "without_last" = some (some (.ref f7))) (l7 : K.lookup f7 = some ⟨oc7, od7, .func (PySem.W.fnOf "without_last" "without_last" (defArgs s7) (defBody s7) (defScope s7) .none kV7 dc7 pm7 an7 cd7 ct7), sl7⟩) (e7 : PySem.W.codeIn K cd7 "without_last" = true) (k7 : PySem.W.keepIn K (.ref f7) = true)
    (a8 : PySem.W.nsIn K mainGlobals "word_of" = some (some (.ref f8))) (l8 : K.lookup f8 = some ⟨oc8, od8, .func (PySem.W.fnOf "word_of" "word_of" (defArgs s8) (defBody s8) (defScope s8) .none kV8 dc8 pm8 an8 cd8 ct8), sl8⟩) (e8 : PySem.W.codeIn K cd8 "word_of" = true) (k8 : PySem.W.keepIn K (.ref f8) = true)
    (a9 : PySem.W.nsIn K mainGlobals "_law_box" = some (some (.ref f9))) (l9 : K.lookup f9 = some ⟨oc9, od9, .func (PySem.W.fnOf "_law_box" "_law_box" (defArgs s9) (defBody s9) (defScope s9) .none kV9 dc9 pm9 an9 cd9 ct9), sl9⟩) (e9 : PySem.W.codeIn K cd9 "_law_box" = true) (k9 : PySem.W.keepIn K (.ref f9) = true)
    (a10 : PySem.W.nsIn K mainGlobals "_law_digits" = some (some (.ref f10))) (l10 : K.lookup f10 = some ⟨oc10, od10, .func (PySem.W.fnOf "_law_digits" "_law_digits" (defArgs s10) (defBody s10) (defScope s10) .none kV10 dc10 pm10 an10 cd10 ct10), sl10⟩) (e10 : PySem.W.codeIn K cd10 "_law_digits" = true) (k10 : PySem.W.keepIn K (.ref f10) = true)
    (a11 : PySem.W.nsIn K mainGlobals "_law_cell" = some (some (.ref f11))) (l11 : K.lookup f11 = some ⟨oc11, od11, .func (PySem.W.fnOf "_law_cell" "_law_cell" (defArgs s11) (defBody s11) (defScope s11) .none kV11 dc11 pm11 an11 cd11 ct11), sl11⟩) (e11 : PySem.W.codeIn K cd11 "_law_cell" = true) (k11 : PySem.W.keepIn K (.ref f11) = true)
    (a12 : PySem.W.nsIn K mainGlobals "_law_draw" = some (some (.ref f12))) (l12 : K.lookup f12 = some ⟨oc12, od12, .func (PySem.W.fnOf "_law_draw" "_law_draw" (defArgs s12) (defBody s12) (defScope s12) .none kV12 dc12 pm12 an12 cd12 ct12), sl12⟩) (e12 : PySem.W.codeIn K cd12 "_law_draw" = true) (k12 : PySem.W.keepIn K (.ref f12) = true)
    (a13 : PySem.W.nsIn K mainGlobals "_law_same" = some (some (.ref f13))) (l13 : K.lookup f13 = some ⟨oc13, od13, .func (PySem.W.fnOf "_law_same" "_law_same" (defArgs s13) (defBody s13) (defScope s13) .none kV13 dc13 pm13 an13 cd13 ct13), sl13⟩) (e13 : PySem.W.codeIn K cd13 "_law_same" = true) (k13 : PySem.W.keepIn K (.ref f13) = true)
    (a14 : PySem.W.nsIn K mainGlobals "_law_term" = some (some (.ref f14))) (l14 : K.lookup f14 = some ⟨oc14, od14, .func (PySem.W.fnOf "_law_term" "_law_term" (defArgs s14) (defBody s14) (defScope s14) .none kV14 dc14 pm14 an14 cd14 ct14), sl14⟩) (e14 : PySem.W.codeIn K cd14 "_law_term" = true) (k14 : PySem.W.keepIn K (.ref f14) = true)
    (a15 : PySem.W.nsIn K mainGlobals "_law_lift" = some (some (.ref f15))) (l15 : K.lookup f15 = some ⟨oc15, od15, .func (PySem.W.fnOf "_law_lift" "_law_lift" (defArgs s15) (defBody s15) (defScope s15) .none kV15 dc15 pm15 an15 cd15 ct15), sl15⟩) (e15 : PySem.W.codeIn K cd15 "_law_lift" = true) (k15 : PySem.W.keepIn K (.ref f15) = true)
    (a16 : PySem.W.nsIn K mainGlobals "_law_done" = some (some (.ref f16))) (l16 : K.lookup f16 = some ⟨oc16, od16, .func (PySem.W.fnOf "_law_done" "_law_done" (defArgs s16) (defBody s16) (defScope s16) .none kV16 dc16 pm16 an16 cd16 ct16), sl16⟩) (e16 : PySem.W.codeIn K cd16 "_law_done" = true) (k16 : PySem.W.keepIn K (.ref f16) = true)
    (a17 : PySem.W.nsIn K mainGlobals "_law_step" = some (some (.ref f17))) (l17 : K.lookup f17 = some ⟨oc17, od17, .func (PySem.W.fnOf "_law_step" "_law_step" (defArgs s17) (defBody s17) (defScope s17) .none kV17 dc17 pm17 an17 cd17 ct17), sl17⟩) (e17 : PySem.W.codeIn K cd17 "_law_step" = true) (k17 : PySem.W.keepIn K (.ref f17) = true)
    (a18 : PySem.W.nsIn K mainGlobals "_law_put_term" = some (some (.ref f18))) (l18 : K.lookup f18 = some ⟨oc18, od18, .func (PySem.W.fnOf "_law_put_term" "_law_put_term" (defArgs s18) (defBody s18) (defScope s18) .none kV18 dc18 pm18 an18 cd18 ct18), sl18⟩) (e18 : PySem.W.codeIn K cd18 "_law_put_term" = true) (k18 : PySem.W.keepIn K (.ref f18) = true)
    (a19 : PySem.W.nsIn K mainGlobals "_law_word_term" = some (some (.ref f19))) (l19 : K.lookup f19 = some ⟨oc19, od19, .func (PySem.W.fnOf "_law_word_term" "_law_word_term" (defArgs s19) (defBody s19) (defScope s19) .none kV19 dc19 pm19 an19 cd19 ct19), sl19⟩) (e19 : PySem.W.codeIn K cd19 "_law_word_term" = true) (k19 : PySem.W.keepIn K (.ref f19) = true)
    (a20 : PySem.W.nsIn K mainGlobals "_law_is_word" = some (some (.ref f20))) (l20 : K.lookup f20 = some ⟨oc20, od20, .func (PySem.W.fnOf "_law_is_word" "_law_is_word" (defArgs s20) (defBody s20) (defScope s20) .none kV20 dc20 pm20 an20 cd20 ct20), sl20⟩) (e20 : PySem.W.codeIn K cd20 "_law_is_word" = true) (k20 : PySem.W.keepIn K (.ref f20) = true)
    (a21 : PySem.W.nsIn K mainGlobals "law" = some (some (.ref f21))) (l21 : K.lookup f21 = some ⟨oc21, od21, .func (PySem.W.fnOf "law" "law" (defArgs s21) (defBody s21) (defScope s21) .none kV21 dc21 pm21 an21 cd21 ct21), sl21⟩) (e21 : PySem.W.codeIn K cd21 "law" = true) (k21 : PySem.W.keepIn K (.ref f21) = true)
    (z_bool : PySem.W.nsIn K mainGlobals "bool" = some none)
    (z_int : PySem.W.nsIn K mainGlobals "int" = some none)
    (z_isinstance : PySem.W.nsIn K mainGlobals "isinstance" = some none)
    (z_len : PySem.W.nsIn K mainGlobals "len" = some none)
    (z_max : PySem.W.nsIn K mainGlobals "max" = some none)
    (z_range : PySem.W.nsIn K mainGlobals "range" = some none)
    (z_str : PySem.W.nsIn K mainGlobals "str" = some none)
    (z_tuple : PySem.W.nsIn K mainGlobals "tuple" = some none)
    : ∃ t : Defs K mg, t.f21 = f21 ∧ ∀ (s : Shared) (v : Value), BindsTo s t.d21 ⟨[v], []⟩ [("script", v)] := by
  have F0 := fun_mk (st := s0) l0 e0 k0
  have B0 := F0.binds (ps := ["value"]) fun _ _ _ _ _ _ us hl => match us, hl with | [_], _ => rfl
  have F1 := fun_mk (st := s1) l1 e1 k1
  have B1 := F1.binds (ps := ["value", "depth"]) fun _ _ _ _ _ _ us hl => match us, hl with | [_, _], _ => rfl
  have F2 := fun_mk (st := s2) l2 e2 k2
  have B2 := F2.binds (ps := ["term", "by", "least"]) fun _ _ _ _ _ _ us hl => match us, hl with | [_, _, _], _ => rfl
  have F3 := fun_mk (st := s3) l3 e3 k3
  have B3 := F3.binds (ps := ["term", "place", "other"]) fun _ _ _ _ _ _ us hl => match us, hl with | [_, _, _], _ => rfl
  have F4 := fun_mk (st := s4) l4 e4 k4
  have B4 := F4.binds (ps := ["term"]) fun _ _ _ _ _ _ us hl => match us, hl with | [_], _ => rfl
  have F5 := fun_mk (st := s5) l5 e5 k5
  have B5 := F5.binds (ps := ["term", "most"]) fun _ _ _ _ _ _ us hl => match us, hl with | [_, _], _ => rfl
  have F6 := fun_mk (st := s6) l6 e6 k6
  have B6 := F6.binds (ps := ["word"]) fun _ _ _ _ _ _ us hl => match us, hl with | [_], _ => rfl
  have F7 := fun_mk (st := s7) l7 e7 k7
  have B7 := F7.binds (ps := ["word"]) fun _ _ _ _ _ _ us hl => match us, hl with | [_], _ => rfl
  have F8 := fun_mk (st := s8) l8 e8 k8
  have B8 := F8.binds (ps := ["term"]) fun _ _ _ _ _ _ us hl => match us, hl with | [_], _ => rfl
  have F9 := fun_mk (st := s9) l9 e9 k9
  have B9 := F9.binds (ps := ["script", "first", "last"]) fun _ _ _ _ _ _ us hl => match us, hl with | [_, _, _], _ => rfl
  have F10 := fun_mk (st := s10) l10 e10 k10
  have B10 := F10.binds (ps := ["script", "first", "last"]) fun _ _ _ _ _ _ us hl => match us, hl with | [_, _, _], _ => rfl
  have F11 := fun_mk (st := s11) l11 e11 k11
  have B11 := F11.binds (ps := ["script", "k"]) fun _ _ _ _ _ _ us hl => match us, hl with | [_, _], _ => rfl
  have F12 := fun_mk (st := s12) l12 e12 k12
  have B12 := F12.binds (ps := ["box", "many"]) fun _ _ _ _ _ _ us hl => match us, hl with | [_, _], _ => rfl
  have F13 := fun_mk (st := s13) l13 e13 k13
  have B13 := F13.binds (ps := ["actual", "expected"]) fun _ _ _ _ _ _ us hl => match us, hl with | [_, _], _ => rfl
  have F14 := fun_mk (st := s14) l14 e14 k14
  have B14 := F14.binds (ps := ["box", "depth", "room"]) fun _ _ _ _ _ _ us hl => match us, hl with | [_, _, _], _ => rfl
  have F15 := fun_mk (st := s15) l15 e15 k15
  have B15 := F15.binds (ps := ["term", "by", "least"]) fun _ _ _ _ _ _ us hl => match us, hl with | [_, _, _], _ => rfl
  have F16 := fun_mk (st := s16) l16 e16 k16
  have B16 := F16.binds (ps := ["term", "most"]) fun _ _ _ _ _ _ us hl => match us, hl with | [_, _], _ => rfl
  have F17 := fun_mk (st := s17) l17 e17 k17
  have B17 := F17.binds (ps := ["term"]) fun _ _ _ _ _ _ us hl => match us, hl with | [_], _ => rfl
  have F18 := fun_mk (st := s18) l18 e18 k18
  have B18 := F18.binds (ps := ["term", "place", "other"]) fun _ _ _ _ _ _ us hl => match us, hl with | [_, _, _], _ => rfl
  have F19 := fun_mk (st := s19) l19 e19 k19
  have B19 := F19.binds (ps := ["word"]) fun _ _ _ _ _ _ us hl => match us, hl with | [_], _ => rfl
  have F20 := fun_mk (st := s20) l20 e20 k20
  have B20 := F20.binds (ps := ["word"]) fun _ _ _ _ _ _ us hl => match us, hl with | [_], _ => rfl
  have F21 := fun_mk (st := s21) l21 e21 k21
  have B21 := F21.binds (ps := ["script"]) fun _ _ _ _ _ _ us hl => match us, hl with | [_], _ => rfl
  exact ⟨⟨f0, _, F0, ⟨PySem.W.mg_of X G0 a0, k0, B0⟩, f1, _, F1, ⟨PySem.W.mg_of X G0 a1, k1, B1⟩, f2, _, F2, ⟨PySem.W.mg_of X G0 a2, k2, B2⟩, f3, _, F3, ⟨PySem.W.mg_of X G0 a3, k3, B3⟩, f4, _, F4, ⟨PySem.W.mg_of X G0 a4, k4, B4⟩, f5, _, F5, ⟨PySem.W.mg_of X G0 a5, k5, B5⟩, f6, _, F6, ⟨PySem.W.mg_of X G0 a6, k6, B6⟩, f7, _, F7, ⟨PySem.W.mg_of X G0 a7, k7, B7⟩, f8, _, F8, ⟨PySem.W.mg_of X G0 a8, k8, B8⟩, f9, _, F9, ⟨PySem.W.mg_of X G0 a9, k9, B9⟩, f10, _, F10, ⟨PySem.W.mg_of X G0 a10, k10, B10⟩, f11, _, F11, ⟨PySem.W.mg_of X G0 a11, k11, B11⟩, f12, _, F12, ⟨PySem.W.mg_of X G0 a12, k12, B12⟩, f13, _, F13, ⟨PySem.W.mg_of X G0 a13, k13, B13⟩, f14, _, F14, ⟨PySem.W.mg_of X G0 a14, k14, B14⟩, f15, _, F15, ⟨PySem.W.mg_of X G0 a15, k15, B15⟩, f16, _, F16, ⟨PySem.W.mg_of X G0 a16, k16, B16⟩, f17, _, F17, ⟨PySem.W.mg_of X G0 a17, k17, B17⟩, f18, _, F18, ⟨PySem.W.mg_of X G0 a18, k18, B18⟩, f19, _, F19, ⟨PySem.W.mg_of X G0 a19, k19, B19⟩, f20, _, F20, ⟨PySem.W.mg_of X G0 a20, k20, B20⟩, f21, _, F21, ⟨PySem.W.mg_of X G0 a21, k21, B21⟩, PySem.W.mg_none_of X G0 z_bool, PySem.W.mg_none_of X G0 z_int, PySem.W.mg_none_of X G0 z_isinstance, PySem.W.mg_none_of X G0 z_len, PySem.W.mg_none_of X G0 z_max, PySem.W.mg_none_of X G0 z_range, PySem.W.mg_none_of X G0 z_str, PySem.W.mg_none_of X G0 z_tuple⟩, rfl, fun s v => .of_eq rfl⟩
theorem walk {l : PySem.W.OpenLaw} {q : Program} {loose : List Str} {XP : (Str → Option Value) → Heap → Prop} {YP : World → Heap → Prop} {d : DefRec} {K : Params → PySem.W.Frag} (hn : l.most = some 63) (hdf : d.params.defaults = []) (hdn : d.name = "law")
    (hY : ∀ (w : World) (h : Heap), YP w h → (K w.params).In h) (hm : ∀ ns : List Int, ns.length ≤ 63 → ∃ S', run 690 21 [.loc 0] [.frz (ns.map D.int)] = some (.bl true, S'))
    (F : ∀ (w : World) (mg : Str → Option Value) (fa : Addr) (h : Heap), (K w.params).In h → h.Ns mainGlobals mg → mg d.name = some (.ref fa) → ∃ t : Defs (K w.params) mg, (∃ x, x = t.f21) ∧ ∀ (s : Shared) (v : Value), BindsTo s t.d21 ⟨[v], []⟩ [("script", v)]) :
    PySem.W.WalkO q loose XP YP l.row.toRowW d [] (fun f vs => PySem.call f vs) := by
  refine L2.walk_of (n := 63) (k := 231) (x := "script") (CX := fun _ => CX0) (sp := fun w => spLaw (K w.params) 63) hn (by decide) hdf ⟨rfl, by decide, by decide⟩ hY (fun w mg fa h KX G0 hmg => ?_) (fun _ H a ns hl hO hS => ⟨a, ns, rfl, hS, fun xs e => ?_, hl, fun _ => rfl⟩) fun _ _ _ _ _ z => z
  · obtain ⟨t, _, hb⟩ := F w mg fa h KX G0 hmg
    have e := t.k21.at_
    rw [hdn] at hmg
    have ef : fa = t.f21 := by have q := hmg.symm.trans e; cases q; rfl
    subst ef
    exact ⟨t.d21, hb, fun base hk hg => law_ok (c := 1) (n := 690) (k := 230) (N := 63) (all_ok (by decide) t 690).c21 (by decide) (by decide) hm⟩
  · rcases hO a with z | ⟨o, ys, z⟩
    · rw [z] at e; cases e
    · rw [z] at e; cases e

end K49
namespace K49
open PySem L2 Mini
/-- terms -/
inductive Tm where
  | at (i : Int) | mk (t : Tm) | cl (s t : Tm)
  deriving DecidableEq
def Tm.d : Tm → D
  | .at i => .tup [.str "at", .int i]
  | .mk t => .tup [.str "make", t.d]
  | .cl s t => .tup [.str "call", s.d, t.d]
theorem d_at (i : Int) : (Tm.at i).d = .tup [.str "at", .int i] := rfl
theorem d_mk (t : Tm) : (Tm.mk t).d = .tup [.str "make", t.d] := rfl
theorem d_cl (s t : Tm) : (Tm.cl s t).d = .tup [.str "call", s.d, t.d] := rfl
def Tm.dep : Tm → Nat
  | .at _ => 1
  | .mk t => t.dep + 1
  | .cl s t => max s.dep t.dep + 1
theorem Tm.dep_pos (t : Tm) : 1 ≤ t.dep := by cases t <;> simp [Tm.dep]
def Tm.isMk : Tm → Bool
  | .mk _ => true
  | _ => false
def up (by_ : Int) : Int → Tm → Tm
  | l, .at i => .at (if l ≤ i then i + by_ else i)
  | l, .mk t => .mk (up by_ (l + 1) t)
  | l, .cl s t => .cl (up by_ l s) (up by_ l t)
def sub (o : Tm) : Int → Tm → Tm
  | p, .at i => if i = p then up p 0 o else .at (if p < i then i - 1 else i)
  | p, .mk t => .mk (sub o (p + 1) t)
  | p, .cl s t => .cl (sub o p s) (sub o p t)
def stp : Tm → Option Tm
  | .at _ => none
  | .mk t => match stp t with
    | some t' => some (.mk t')
    | none => none
  | .cl s t => match s with
    | .mk b => some (sub t 0 b)
    | s => match stp s with
      | some s' => some (.cl s' t)
      | none => match stp t with
        | some t' => some (.cl s t')
        | none => none
def oD : Option Tm → D
  | some t => t.d
  | none => .non
/-- every place is there -/
def wf : Int → Tm → Bool
  | n, .at i => decide (0 ≤ i) && decide (i < n)
  | n, .mk t => wf (n + 1) t
  | n, .cl s t => wf n s && wf n t
def lt_ : Int → Tm → Bool
  | n, .at i => decide (i < n)
  | n, .mk t => lt_ (n + 1) t
  | n, .cl s t => lt_ n s && lt_ n t

theorem run_raised (by_ : Int) : ∀ (t : Tm) (n : Nat) (l : Int) (S : Sto), t.dep ≤ n → run n 2 [t.d, .int by_, .int l] S = some ((up by_ l t).d, S) := by
  intro t
  induction t with
  | «at» i =>
    intro n l S h
    cases n with
    | zero => simp [Tm.dep] at h
    | succ n =>
      unfold up
      by_cases c : l ≤ i
      · apply fin_eq
        · rw [run_2]
          apply e_rt
          unfold m2
          rw [d_at]
          walk_at "sts"
        · simp [Tm.d, c]
      · apply fin_eq
        · rw [run_2]
          apply e_rt
          unfold m2
          rw [d_at]
          walk_at "sts"
        · simp [Tm.d, c]
  | mk t ih =>
    intro n l S h
    cases n with
    | zero => simp [Tm.dep] at h
    | succ n =>
      have q := ih n (l + 1) S (by simp [Tm.dep] at h; omega)
      apply fin_eq
      · rw [run_2]
        apply e_rt
        unfold m2
        rw [d_mk]
        walk_at "sts"
      · simp [up, Tm.d]
  | cl s t i1 i2 =>
    intro n l S h
    cases n with
    | zero => simp [Tm.dep] at h
    | succ n =>
      have q1 := i1 n l S (by simp [Tm.dep] at h; omega)
      have q2 := i2 n l S (by simp [Tm.dep] at h; omega)
      apply fin_eq
      · rw [run_2]
        apply e_rt
        unfold m2
        rw [d_cl]
        walk_at "sts"
      · simp [up, Tm.d]
theorem run_lift (by_ : Int) (hb : small64 by_ = true) : ∀ (t : Tm) (n : Nat) (l : Int) (S : Sto), t.dep ≤ n → run n 15 [t.d, .int by_, .int l] S = some ((up by_ l t).d, S) := by
  intro t
  induction t with
  | «at» i =>
    intro n l S h
    cases n with
    | zero => simp [Tm.dep] at h
    | succ n =>
      unfold up
      have hm : fMul (.int by_) (.int (if decide (l ≤ i) = true then 1 else 0)) S = some (.int (by_ * (if decide (l ≤ i) = true then 1 else 0)), S) := by
        unfold fMul fI
        simp [hb]
      apply fin_eq
      · rw [run_15]
        apply e_rt
        unfold m15
        rw [d_at]
        walk_at "sts"
      · by_cases c : l ≤ i <;> simp [Tm.d, c]
  | mk t ih =>
    intro n l S h
    cases n with
    | zero => simp [Tm.dep] at h
    | succ n =>
      have q := ih n (l + 1) S (by simp [Tm.dep] at h; omega)
      apply fin_eq
      · rw [run_15]
        apply e_rt
        unfold m15
        rw [d_mk]
        walk_at "sts"
      · simp [up, Tm.d]
  | cl s t i1 i2 =>
    intro n l S h
    cases n with
    | zero => simp [Tm.dep] at h
    | succ n =>
      have q1 := i1 n l S (by simp [Tm.dep] at h; omega)
      have q2 := i2 n l S (by simp [Tm.dep] at h; omega)
      apply fin_eq
      · rw [run_15]
        apply e_rt
        unfold m15
        rw [d_cl]
        walk_at "sts"
      · simp [up, Tm.d]
theorem run_put (o : Tm) : ∀ (t : Tm) (n : Nat) (p : Int) (S : Sto), t.dep + o.dep ≤ n → run n 3 [t.d, .int p, o.d] S = some ((sub o p t).d, S) := by
  intro t
  induction t with
  | «at» i =>
    intro n p S h
    cases n with
    | zero => simp [Tm.dep] at h
    | succ n =>
      have q := run_raised p o n 0 S (by simp [Tm.dep] at h; omega)
      unfold sub
      by_cases c : i = p
      · apply fin_eq
        · rw [run_3]
          apply e_rt
          unfold m3
          rw [d_at]
          walk_at "sts"
        · simp [c]
      · by_cases c2 : p < i
        · apply fin_eq
          · rw [run_3]
            apply e_rt
            unfold m3
            rw [d_at]
            walk_at "sts"
          · simp [Tm.d, c, c2]
        · apply fin_eq
          · rw [run_3]
            apply e_rt
            unfold m3
            rw [d_at]
            walk_at "sts"
          · simp [Tm.d, c, c2]
  | mk t ih =>
    intro n p S h
    cases n with
    | zero => simp [Tm.dep] at h
    | succ n =>
      have q := ih n (p + 1) S (by simp [Tm.dep] at h; omega)
      apply fin_eq
      · rw [run_3]
        apply e_rt
        unfold m3
        rw [d_mk]
        walk_at "sts"
      · simp [sub, Tm.d]
  | cl s t i1 i2 =>
    intro n p S h
    cases n with
    | zero => simp [Tm.dep] at h
    | succ n =>
      have q1 := i1 n p S (by simp [Tm.dep] at h; omega)
      have q2 := i2 n p S (by simp [Tm.dep] at h; omega)
      apply fin_eq
      · rw [run_3]
        apply e_rt
        unfold m3
        rw [d_cl]
        walk_at "sts"
      · simp [sub, Tm.d]
theorem small_of {i : Int} (h0 : 0 ≤ i) (h1 : i ≤ 100000) : small64 i = true := by
  rw [small64_iff]
  omega
theorem run_lput (o : Tm) : ∀ (t : Tm) (n : Nat) (p : Int) (S : Sto), 0 ≤ p → p + t.dep ≤ 100000 → t.dep + o.dep ≤ n → run n 18 [t.d, .int p, o.d] S = some ((sub o p t).d, S) := by
  intro t
  induction t with
  | «at» i =>
    intro n p S h0 h1 h
    cases n with
    | zero => simp [Tm.dep] at h
    | succ n =>
      have q := run_lift p (small_of h0 (by simp [Tm.dep] at h1; omega)) o n 0 S (by simp [Tm.dep] at h; omega)
      unfold sub
      by_cases c : i = p
      · apply fin_eq
        · rw [run_18]
          apply e_rt
          unfold m18
          rw [d_at]
          walk_at "sts"
        · simp [c]
      · apply fin_eq
        · rw [run_18]
          apply e_rt
          unfold m18
          rw [d_at]
          walk_at "sts"
        · by_cases c2 : p < i <;> simp [Tm.d, c, c2]
  | mk t ih =>
    intro n p S h0 h1 h
    cases n with
    | zero => simp [Tm.dep] at h
    | succ n =>
      have q := ih n (p + 1) S (by omega) (by simp [Tm.dep] at h1; omega) (by simp [Tm.dep] at h; omega)
      apply fin_eq
      · rw [run_18]
        apply e_rt
        unfold m18
        rw [d_mk]
        walk_at "sts"
      · simp [sub, Tm.d]
  | cl s t i1 i2 =>
    intro n p S h0 h1 h
    cases n with
    | zero => simp [Tm.dep] at h
    | succ n =>
      have q1 := i1 n p S h0 (by simp [Tm.dep] at h1; omega) (by simp [Tm.dep] at h; omega)
      have q2 := i2 n p S h0 (by simp [Tm.dep] at h1; omega) (by simp [Tm.dep] at h; omega)
      apply fin_eq
      · rw [run_18]
        apply e_rt
        unfold m18
        rw [d_cl]
        walk_at "sts"
      · simp [sub, Tm.d]
theorem run_num (i : Int) (n : Nat) (S : Sto) (h : 1 ≤ n) : run n 0 [.int i] S = some (.bl (decide (0 ≤ i)), S) := by
  cases n with
  | zero => omega
  | succ n =>
    apply fin_eq
    · rw [run_0]
      apply e_rt
      unfold m0
      walk_at "sts"
    · rfl
theorem run_term : ∀ (t : Tm) (n : Nat) (k : Int) (S : Sto), t.dep + 1 ≤ n → run n 1 [t.d, .int k] S = some (.bl (wf k t), S) := by
  intro t
  induction t with
  | «at» i =>
    intro n k S h
    cases n with
    | zero => simp [Tm.dep] at h
    | succ n =>
      have q := run_num i n S (by simp [Tm.dep] at h; omega)
      unfold wf
      by_cases c : 0 ≤ i
      · apply fin_eq
        · rw [run_1]
          apply e_rt
          unfold m1
          rw [d_at]
          walk_at "sts"
        · simp [c]
      · apply fin_eq
        · rw [run_1]
          apply e_rt
          unfold m1
          rw [d_at]
          walk_at "sts"
        · simp [c]
  | mk t ih =>
    intro n k S h
    cases n with
    | zero => simp [Tm.dep] at h
    | succ n =>
      have q := ih n (k + 1) S (by simp [Tm.dep] at h; omega)
      apply fin_eq
      · rw [run_1]
        apply e_rt
        unfold m1
        rw [d_mk]
        walk_at "sts"
      · simp [wf]
  | cl s t i1 i2 =>
    intro n k S h
    cases n with
    | zero => simp [Tm.dep] at h
    | succ n =>
      have q1 := i1 n k S (by simp [Tm.dep] at h; omega)
      have q2 := i2 n k S (by simp [Tm.dep] at h; omega)
      cases c : wf k s with
      | true =>
        apply fin_eq
        · rw [run_1]
          apply e_rt
          unfold m1
          rw [d_cl]
          walk_at "sts"
        · simp [wf, c]
      | false =>
        apply fin_eq
        · rw [run_1]
          apply e_rt
          unfold m1
          rw [d_cl]
          walk_at "sts"
        · simp [wf, c]
end K49

namespace K49
open PySem L2 Mini
/-! ### step -/
theorem is_d (t : Tm) (S : Sto) : fIs t.d .non S = some (.bl false, S) := by cases t <;> rfl
theorem isN_d (t : Tm) (S : Sto) : fIsNot t.d .non S = some (.bl true, S) := by cases t <;> rfl
theorem stp_cl {s t : Tm} (h : s.isMk = false) : stp (.cl s t) = match stp s with
      | some s' => some (.cl s' t)
      | none => match stp t with
        | some t' => some (.cl s t')
        | none => none := by
  cases s <;> first | rfl | cases h
theorem run_step : ∀ (t : Tm) (n : Nat) (S : Sto), 2 * t.dep ≤ n → run n 4 [t.d] S = some (oD (stp t), S) := by
  intro t
  induction t with
  | «at» i =>
    intro n S h
    cases n with
    | zero => simp [Tm.dep] at h
    | succ n =>
      apply fin_eq
      · rw [run_4]
        apply e_rt
        unfold m4
        rw [d_at]
        walk_at "sts"
      · rfl
  | mk t ih =>
    intro n S h
    cases n with
    | zero => simp [Tm.dep] at h
    | succ n =>
      have q := ih n S (by simp [Tm.dep] at h; omega)
      cases c : stp t with
      | none =>
        rw [c] at q
        have q' : run n 4 [t.d] S = some (.non, S) := q
        apply fin_eq
        · rw [run_4]
          apply e_rt
          unfold m4
          rw [d_mk]
          walk_at "sts"
        · simp [stp, c, oD]
      | some t' =>
        rw [c] at q
        have q' : run n 4 [t.d] S = some (t'.d, S) := q
        have z1 := is_d t' S
        apply fin_eq
        · rw [run_4]
          apply e_rt
          unfold m4
          rw [d_mk]
          walk_at "sts"
        · simp [stp, c, oD, Tm.d]
  | cl s t i1 i2 =>
    intro n S h
    cases n with
    | zero => simp [Tm.dep] at h
    | succ n =>
      have q1 := i1 n S (by simp [Tm.dep] at h; omega)
      have q2 := i2 n S (by simp [Tm.dep] at h; omega)
      have way : ∀ (nm : Str) (r : List D), nm ≠ ("make" : Str) → s.d = .tup (.str nm :: r) → s.isMk = false → run (n + 1) 4 [(Tm.cl s t).d] S = some (oD (stp (.cl s t)), S) := by
        intro nm r hnm hs hmk
        have c1 : fEq (.str nm) (.str "make") S = some (.bl false, S) := by simp [fEq, eqF, eqS, hnm]
        have c2 : fIx s.d (.int 0) S = some (.str nm, S) := by rw [hs]; exact ix_head
        rw [stp_cl hmk]
        cases e1 : stp s with
        | some s' =>
          rw [e1] at q1
          have q1' : run n 4 [s.d] S = some (s'.d, S) := q1
          have z1 := isN_d s' S
          apply fin_eq
          · rw [run_4]
            apply e_rt
            unfold m4
            rw [d_cl]
            walk_at "sts"
          · simp [oD, Tm.d]
        | none =>
          rw [e1] at q1
          have q1' : run n 4 [s.d] S = some (.non, S) := q1
          cases e2 : stp t with
          | some t' =>
            rw [e2] at q2
            have q2' : run n 4 [t.d] S = some (t'.d, S) := q2
            have z1 := is_d t' S
            apply fin_eq
            · rw [run_4]
              apply e_rt
              unfold m4
              rw [d_cl]
              walk_at "sts"
            · simp [oD, Tm.d]
          | none =>
            rw [e2] at q2
            have q2' : run n 4 [t.d] S = some (.non, S) := q2
            apply fin_eq
            · rw [run_4]
              apply e_rt
              unfold m4
              rw [d_cl]
              walk_at "sts"
            · simp [oD]
      cases s with
      | «at» i => exact way _ _ (by decide) (d_at i) rfl
      | cl u v => exact way _ _ (by decide) (d_cl u v) rfl
      | mk b =>
        have q3 := run_put t b n 0 S (by simp [Tm.dep] at h; omega)
        apply fin_eq
        · rw [run_4]
          apply e_rt
          unfold m4
          rw [d_cl, d_mk]
          walk_at "sts"
        · simp [stp, oD]
theorem run_lstep : ∀ (t : Tm) (n : Nat) (S : Sto), t.dep ≤ 50000 → 2 * t.dep ≤ n → run n 17 [t.d] S = some (oD (stp t), S) := by
  intro t
  induction t with
  | «at» i =>
    intro n S hd h
    cases n with
    | zero => simp [Tm.dep] at h
    | succ n =>
      apply fin_eq
      · rw [run_17]
        apply e_rt
        unfold m17
        rw [d_at]
        walk_at "sts"
      · rfl
  | mk t ih =>
    intro n S hd h
    cases n with
    | zero => simp [Tm.dep] at h
    | succ n =>
      have q := ih n S (by simp [Tm.dep] at hd; omega) (by simp [Tm.dep] at h; omega)
      cases c : stp t with
      | none =>
        rw [c] at q
        have q' : run n 17 [t.d] S = some (.non, S) := q
        apply fin_eq
        · rw [run_17]
          apply e_rt
          unfold m17
          rw [d_mk]
          walk_at "sts"
        · simp [stp, c, oD]
      | some t' =>
        rw [c] at q
        have q' : run n 17 [t.d] S = some (t'.d, S) := q
        have z1 := is_d t' S
        apply fin_eq
        · rw [run_17]
          apply e_rt
          unfold m17
          rw [d_mk]
          walk_at "sts"
        · simp [stp, c, oD, Tm.d]
  | cl s t i1 i2 =>
    intro n S hd h
    cases n with
    | zero => simp [Tm.dep] at h
    | succ n =>
      have q1 := i1 n S (by simp [Tm.dep] at hd; omega) (by simp [Tm.dep] at h; omega)
      have q2 := i2 n S (by simp [Tm.dep] at hd; omega) (by simp [Tm.dep] at h; omega)
      have way : ∀ (nm : Str) (r : List D), nm ≠ ("make" : Str) → s.d = .tup (.str nm :: r) → s.isMk = false → run (n + 1) 17 [(Tm.cl s t).d] S = some (oD (stp (.cl s t)), S) := by
        intro nm r hnm hs hmk
        have c1 : fEq (.str nm) (.str "make") S = some (.bl false, S) := by simp [fEq, eqF, eqS, hnm]
        have c2 : fIx s.d (.int 0) S = some (.str nm, S) := by rw [hs]; exact ix_head
        rw [stp_cl hmk]
        cases e1 : stp s with
        | some s' =>
          rw [e1] at q1
          have q1' : run n 17 [s.d] S = some (s'.d, S) := q1
          have z1 := isN_d s' S
          apply fin_eq
          · rw [run_17]
            apply e_rt
            unfold m17
            rw [d_cl]
            walk_at "sts"
          · simp [oD, Tm.d]
        | none =>
          rw [e1] at q1
          have q1' : run n 17 [s.d] S = some (.non, S) := q1
          cases e2 : stp t with
          | some t' =>
            rw [e2] at q2
            have q2' : run n 17 [t.d] S = some (t'.d, S) := q2
            have z1 := isN_d t' S
            apply fin_eq
            · rw [run_17]
              apply e_rt
              unfold m17
              rw [d_cl]
              walk_at "sts"
            · simp [oD, Tm.d]
          | none =>
            rw [e2] at q2
            have q2' : run n 17 [t.d] S = some (.non, S) := q2
            apply fin_eq
            · rw [run_17]
              apply e_rt
              unfold m17
              rw [d_cl]
              walk_at "sts"
            · simp [oD]
      cases s with
      | «at» i => exact way _ _ (by decide) (d_at i) rfl
      | cl u v => exact way _ _ (by decide) (d_cl u v) rfl
      | mk b =>
        have q3 := run_lput t b n 0 S (by decide) (by simp [Tm.dep] at hd; omega) (by simp [Tm.dep] at h; omega)
        apply fin_eq
        · rw [run_17]
          apply e_rt
          unfold m17
          rw [d_cl, d_mk]
          walk_at "sts"
        · simp [stp, oD]
end K49

namespace K49
open PySem L2 Mini
/-! ### done -/
def bDone (f : List D → Sto → Option (D × Sto)) : XS := (sSeq (sAsg (xCall 1 f (xCons (xVar 0) xNil)) (gN 3)) (sSeq (sIf (bVal (xOp fIs (xVar 3) (xC .non))) (sSeq (sRet (xVar 0)) sNil) sNil) (sSeq (sAsg (xVar 3) (gN 0)) sNil)))
def sDone (f : List D → Sto → Option (D × Sto)) : XS := (sSeq (sFor (wRng1 (xOp fAdd (xVar 1) (xC (.int 1)))) (gN 2) (bDone f)) (sSeq (sRet (xC .non)) sNil))
/-! done -/
def dn : Nat → Tm → Option Tm
  | 0, _ => none
  | k + 1, t => match stp t with
    | none => some t
    | some t' => dn k t'
/-- all that is reached is at most so deep -/
def lim (cap : Nat) : Nat → Tm → Bool
  | 0, _ => true
  | k + 1, t => decide (t.dep ≤ cap) && match stp t with
    | none => true
    | some t' => lim cap k t'
theorem lim_dn {cap : Nat} : ∀ {k : Nat} {t t' : Tm}, lim cap k t = true → dn k t = some t' → t'.dep ≤ cap
  | 0, t, t', _, e => by cases e
  | k + 1, t, t', h, e => by
    unfold lim at h
    rw [Bool.and_eq_true, decide_eq_true_eq] at h
    unfold dn at e
    cases c : stp t with
    | none => rw [c] at e; cases e; exact h.1
    | some u =>
      rw [c] at e h
      exact lim_dn h.2 e
theorem done_loop {f : List D → Sto → Option (D × Sto)} {S : Sto} {cap : Nat} (hf : ∀ t : Tm, t.dep ≤ cap → f [t.d] S = some (oD (stp t), S)) (m : Option D) : ∀ (ds : List D) (t : Tm) (o1 o2 : Option D), lim cap ds.length t = true →
    ∃ r, forL (gN 2) (bDone f) ds [some t.d, m, o1, o2] S = some r ∧ match dn ds.length t with | some t' => r = .rt t'.d S | none => ∃ e, r = .nx e S
  | [], t, o1, o2, h => ⟨_, f_nil, _, rfl⟩
  | d :: ds, t, o1, o2, h => by
    have h' : (decide (t.dep ≤ cap) && match stp t with | none => true | some t' => lim cap ds.length t') = true := h
    rw [Bool.and_eq_true, decide_eq_true_eq] at h'
    have q := hf t h'.1
    cases c : stp t with
    | none =>
      rw [c] at q
      have q' : f [t.d] S = some (.non, S) := q
      have e1 : dn (d :: ds).length t = some t := by show (match stp t with | none => some t | some t' => dn ds.length t') = _; rw [c]
      rw [e1]
      refine ⟨.rt t.d S, ?_, rfl⟩
      refine f_consr (e1 := [some t.d, m, some d, o2]) rfl ?_
      unfold bDone
      walk_at "sts"
    | some t' =>
      rw [c] at q h'
      have q' : f [t.d] S = some (t'.d, S) := q
      have z1 := is_d t' S
      have e1 : dn (d :: ds).length t = dn ds.length t' := by show (match stp t with | none => some t | some t' => dn ds.length t') = _; rw [c]
      rw [e1]
      obtain ⟨r, r1, r2⟩ := done_loop hf m ds t' (some d) (some t'.d) h'.2
      refine ⟨r, ?_, r2⟩
      refine f_cons (e1 := [some t.d, m, some d, o2]) rfl ?_ r1
      unfold bDone
      walk_at "sts"
theorem done_run {f : List D → Sto → Option (D × Sto)} {S : Sto} {cap most : Nat} {t : Tm} (hf : ∀ t : Tm, t.dep ≤ cap → f [t.d] S = some (oD (stp t), S)) (h : lim cap (most + 1) t = true) (hm : most ≤ 1000) :
    ends (sDone f [some t.d, some (.int (most : Int)), none, none] S) = some (oD (dn (most + 1) t), S) := by
  have e0 : ((most : Int) + 1 - 0).toNat = most + 1 := by omega
  have hb' : lim cap (rngD 0 ((most : Int) + 1)).length t = true := by rw [rng_len, e0]; exact h
  obtain ⟨r, r1, r2⟩ := done_loop hf (some (.int (most : Int))) (rngD 0 ((most : Int) + 1)) t none none hb'
  rw [rng_len] at r2
  have e : ((most : Int) + 1 - 0).toNat = most + 1 := by omega
  rw [e] at r2
  have hw : wRng1 (xOp fAdd (xVar 1) (xC (.int 1))) [some t.d, some (.int (most : Int)), none, none] S = some (.fix (rngD 0 ((most : Int) + 1)), S) := by
    refine wRng1_run ?_ (small_i (by omega) (by omega))
    walk_at "ev"
  have q9 := s_for_fix hw r1
  cases c : dn (most + 1) t with
  | some t' =>
    rw [c] at r2
    subst r2
    apply e_rt
    unfold sDone
    exact s_seqr q9
  | none =>
    rw [c] at r2
    obtain ⟨e', rfl⟩ := r2
    apply e_rt
    unfold sDone
    apply s_seq
    · exact q9
    · show sSeq _ _ e' S = some (.rt .non S)
      walk_at "sts"
theorem m5_is (T) : m5 T = sDone (T 4) := rfl
theorem m16_is (T) : m16 T = sDone (T 17) := rfl
theorem m12_is (T) : m12 T = sDraw := rfl
theorem m13_is (T) : m13 T = sSame (T 13) := rfl
theorem m11_is (T) : m11 T = sCell := rfl
theorem m10_is (T) : m10 T = sDigits (T 11) := rfl
theorem m9_is (T) : m9 T = sBox (T 10) := rfl
theorem run_done {S : Sto} {most n cap : Nat} {t : Tm} (h : lim cap (most + 1) t = true) (hb : 2 * cap ≤ n) (hm : most ≤ 1000) : run (n + 1) 5 [t.d, .int (most : Int)] S = some (oD (dn (most + 1) t), S) := by
  rw [run_5, m5_is]
  exact done_run (cap := cap) (fun t' h' => run_step t' n S (by omega)) h hm
theorem run_ldone {S : Sto} {most n cap : Nat} {t : Tm} (h : lim cap (most + 1) t = true) (hb : 2 * cap ≤ n) (hc : cap ≤ 50000) (hm : most ≤ 1000) : run (n + 1) 16 [t.d, .int (most : Int)] S = some (oD (dn (most + 1) t), S) := by
  rw [run_16, m16_is]
  exact done_run (cap := cap) (fun t' h' => run_lstep t' n S (by omega) (by omega)) h hm
/-! ### same, the box, draws -/
theorem run_same (n : Nat) (x : D) (S : Sto) (h : x.pu) (hd : x.dp < n) : run n 13 [x, x] S = some (.bl true, S) :=
  same_run (fun n => run n 13) (fun n ds S => rfl) n x S h hd
theorem d_pu : ∀ t : Tm, t.d.pu
  | .at i => ⟨by simp, trivial, trivial, trivial⟩
  | .mk t => ⟨by simp, trivial, d_pu t, trivial⟩
  | .cl s t => ⟨by simp, trivial, d_pu s, d_pu t, trivial⟩
theorem d_dp : ∀ t : Tm, t.d.dp = t.dep
  | .at i => rfl
  | .mk t => by simp [Tm.d, D.dp, D.dps, Tm.dep, d_dp t]
  | .cl s t => by simp [Tm.d, D.dp, D.dps, Tm.dep, d_dp s, d_dp t]
theorem run_sameT (n : Nat) (t : Tm) (S : Sto) (hd : t.dep < n) : run n 13 [t.d, t.d] S = some (.bl true, S) := run_same n _ S (d_pu t) (by rw [d_dp]; exact hd)
theorem run_sameO (n : Nat) (t : Option Tm) (S : Sto) (hd : ∀ t', t = some t' → t'.dep < n) (h0 : 0 < n) : run n 13 [oD t, oD t] S = some (.bl true, S) := by
  cases t with
  | none => exact run_same n .non S trivial h0
  | some t' => exact run_sameT n t' S (hd t' rfl)
theorem run_box {S : Sto} {s n : Nat} {ns : List Int} (h : lstAt S s = some (ns.map D.int)) (hl : ns.length ≤ 1000) :
    ∃ S', run (n + 3) 9 [.loc s, .int 0, .int 62] S = some (.loc (S.length + 1), S') ∧ Box S' (S.length + 1) ∧ S'.length = S.length + 2 ∧ S <+: S' := by
  rw [run_9, m9_is]
  refine box_run (last := 62) (run (n + 2) 10) ?_
  obtain ⟨ms, h1, h2⟩ := digits_run (f := run (n + 1) 11) (S := S) (s := s) (fun S' k hk => by
    obtain ⟨i, hi⟩ := cell_run hk hl k
    refine ⟨i, ?_⟩
    rw [run_11, m11_is]
    exact hi) h 62 (by decide)
  refine ⟨ms, h1, ?_⟩
  rw [run_10, m10_is]
  exact h2
theorem run_draw {S : Sto} {b n : Nat} {many : Int} (h : Box S b) (hm : 0 < many) (hn : 1 ≤ n) : ∃ (r : Int) (S' : Sto), run n 12 [.loc b, .int many] S = some (.int r, S') ∧ 0 ≤ r ∧ r < many ∧ Box S' b ∧ Keeps b S S' := by
  obtain ⟨k, rfl⟩ : ∃ k, n = k + 1 := ⟨n - 1, by omega⟩
  rw [run_12, m12_is]
  exact draw_run h hm
/-- what may be drawn -/
inductive Dr : Int → Int → Tm → Prop
  | at {d r i : Int} : 0 ≤ i → i < d → Dr d r (.at i)
  | mk {d r : Int} {t : Tm} : 0 ≤ d → (d = 0 ∨ 2 ≤ r) → Dr (d + 1) (r - 1) t → Dr d r (.mk t)
  | cl {d r z : Int} {s t : Tm} : 0 < d → 0 ≤ z → z < r - 1 → Dr d (1 + z) s → Dr d (if r - 1 - (1 + z) > 1 then r - 1 - (1 + z) else 1) t → Dr d r (.cl s t)
/-- terms are drawn -/
theorem run_lawterm : ∀ (n : Nat) (b : Nat) (d r : Int) (S : Sto), Box S b → 0 ≤ d → (max 1 r + (if d = 0 then 1 else 0)) + 1 ≤ (n : Int) → ∃ (t : Tm) (S' : Sto), run n 14 [.loc b, .int d, .int r] S = some (t.d, S') ∧ Box S' b ∧ Keeps b S S' ∧ wf d t = true ∧ (t.dep : Int) ≤ max 1 r + (if d = 0 then 1 else 0) ∧ Dr d r t := by
  intro n
  induction n with
  | zero => intro b d r S hb hd hn; split at hn <;> omega
  | succ n ih =>
    intro b d r S hb hd hn
    have n1 : 1 ≤ n := by split at hn <;> omega
    by_cases hd0 : d = 0
    · subst hd0
      rw [if_pos rfl] at hn ⊢
      obtain ⟨t, S', h1, h2, h3, h4, h5, h6⟩ := ih b (0 + 1) (r - 1) S hb (by omega) (by rw [if_neg (by omega)]; omega)
      rw [if_neg (by omega)] at h5
      refine ⟨.mk t, S', ?_, h2, h3, h4, by simp only [Tm.dep]; omega, .mk (Int.le_refl 0) (.inl rfl) h6⟩
      apply fin_eq
      · rw [run_14]
        apply e_rt
        unfold m14
        by_cases c : r < 2
        · walk_at "sts"
        · walk_at "sts"
      · rfl
    · rw [if_neg hd0] at hn ⊢
      have hd1 : 0 < d := by omega
      -- a place
      have place : ∀ S1, Box S1 b → Keeps b S S1 → ∃ (i : Int) (S' : Sto), run n 12 [.loc b, .int d] S1 = some (.int i, S') ∧ Box S' b ∧ Keeps b S S' ∧ wf d (.at i) = true ∧ 0 ≤ i ∧ i < d := fun S1 b1 k1 => by
        obtain ⟨i, S', q1, q2, q3, q4, q5⟩ := run_draw (n := n) b1 hd1 n1
        exact ⟨i, S', q1, q4, k1.trans q5, by unfold wf; simp [q2, q3], q2, q3⟩
      by_cases c : r < 2
      · obtain ⟨i, S', q1, q2, q3, q4, q5, q6⟩ := place S hb .refl
        refine ⟨.at i, S', ?_, q2, q3, q4, by simp only [Tm.dep]; omega, .at q5 q6⟩
        apply fin_eq
        · rw [run_14]
          apply e_rt
          unfold m14
          walk_at "sts"
        · rfl
      · obtain ⟨x, S1, x1, x2, x3, x4, x5⟩ := run_draw (n := n) (many := 4) hb (by decide) n1
        by_cases cx : x = 0
        · obtain ⟨i, S', q1, q2, q3, q4, q5, q6⟩ := place S1 x4 x5
          refine ⟨.at i, S', ?_, q2, q3, q4, by simp only [Tm.dep]; omega, .at q5 q6⟩
          apply fin_eq
          · rw [run_14]
            apply e_rt
            unfold m14
            walk_at "sts"
          · rfl
        · obtain ⟨y, S2, y1, y2, y3, y4, y5⟩ := run_draw (n := n) (many := 2) x4 (by decide) n1
          by_cases cy : y = 0
          · obtain ⟨t, S', h1, h2, h3, h4, h5, h6⟩ := ih b (d + 1) (r - 1) S2 y4 (by omega) (by rw [if_neg (by omega)]; omega)
            rw [if_neg (by omega)] at h5
            refine ⟨.mk t, S', ?_, h2, (x5.trans y5).trans h3, h4, by simp only [Tm.dep]; omega, .mk hd (.inr (by omega)) h6⟩
            apply fin_eq
            · rw [run_14]
              apply e_rt
              unfold m14
              walk_at "sts"
            · rfl
          · obtain ⟨z, S3, z1, z2, z3, z4, z5⟩ := run_draw (n := n) (many := r - 1) y4 (by omega) n1
            obtain ⟨s, S4, g1, g2, g3, g4, g5, g6⟩ := ih b d (1 + z) S3 z4 hd (by rw [if_neg hd0]; omega)
            rw [if_neg hd0] at g5
            have mx : fMax2 [.int 1, .int (r - 1 - (1 + z))] S4 = some (.int (if r - 1 - (1 + z) > 1 then r - 1 - (1 + z) else 1), S4) := rfl
            obtain ⟨t, S', h1, h2, h3, h4, h5, h6⟩ := ih b d (if r - 1 - (1 + z) > 1 then r - 1 - (1 + z) else 1) S4 g2 hd (by rw [if_neg hd0]; split <;> omega)
            rw [if_neg hd0] at h5
            refine ⟨.cl s t, S', ?_, h2, (((x5.trans y5).trans z5).trans g3).trans h3, ?_, ?_, .cl hd1 z2 z3 g6 h6⟩
            · apply fin_eq
              · rw [run_14]
                apply e_rt
                unfold m14
                walk_at "sts"
              · rfl
            · unfold wf
              rw [g4, h4]
              rfl
            · simp only [Tm.dep]
              split at h5 <;> omega
end K49

namespace K49
open PySem L2 Mini
/-! ### words -/
inductive Wd where
  | at (i : Int) | k | s | pr (a b : Wd)
  deriving DecidableEq
def Wd.d : Wd → D
  | .at i => .int i
  | .k => .str "k"
  | .s => .str "s"
  | .pr a b => .tup [a.d, b.d]
theorem wd_at (i : Int) : (Wd.at i).d = .int i := rfl
theorem wd_k : Wd.k.d = .str "k" := rfl
theorem wd_s : Wd.s.d = .str "s" := rfl
theorem wd_pr (a b : Wd) : (Wd.pr a b).d = .tup [a.d, b.d] := rfl
def Wd.dep : Wd → Nat
  | .pr a b => max a.dep b.dep + 1
  | _ => 0
def Wd.cl : Wd → Bool
  | .at _ => false
  | .pr a b => a.cl && b.cl
  | _ => true
def wl : Wd → Wd
  | .at i => if i = 0 then .pr (.pr .s .k) .k else .pr .k (.at (i - 1))
  | .k => .pr .k .k
  | .s => .pr .k .s
  | .pr a b => .pr (.pr .s (wl a)) (wl b)
def wo : Tm → Wd
  | .at i => .at i
  | .mk t => wl (wo t)
  | .cl s t => .pr (wo s) (wo t)
def okw : Tm → Bool
  | .at _ => true
  | .mk t => decide ((wo t).dep ≤ 150) && okw t
  | .cl s t => okw s && okw t
def tK : Tm := .mk (.mk (.at 1))
def tS : Tm := .mk (.mk (.mk (.cl (.cl (.at 2) (.at 0)) (.cl (.at 1) (.at 0)))))
def comb : Wd → Tm
  | .at _ => .at 0
  | .k => tK
  | .s => tS
  | .pr a b => .cl (comb a) (comb b)
theorem pub_str {n : Nat} {x : Str} (h : PyData.strOk x = true) : D.pub n (.str x) = true := by cases n <;> exact h
theorem pub_int {n : Nat} {i : Int} : D.pub n (.int i) = true := by cases n <;> rfl
theorem pub_w : ∀ (w : Wd) (n : Nat), w.dep ≤ n → D.pub n w.d = true
  | .at i, n, h => pub_int
  | .k, n, h => pub_str (by decide +kernel)
  | .s, n, h => pub_str (by decide +kernel)
  | .pr a b, 0, h => by simp [Wd.dep] at h
  | .pr a b, n + 1, h => by
    have h1 := pub_w a n (by simp [Wd.dep] at h; omega)
    have h2 := pub_w b n (by simp [Wd.dep] at h; omega)
    show (D.pub n a.d && (D.pub n b.d && true)) = true
    rw [h1, h2]
    rfl
theorem eq_pr {a b : Wd} {y : D} {S : Sto} (h : (Wd.pr a b).dep ≤ 200) (hy : D.pub 200 y = true) (hs : eqS (Wd.pr a b).d y = none) (hb : eqB (Wd.pr a b).d y = false) : fEq (.tup [a.d, b.d]) y S = some (.bl false, S) := by
  have e : eqF (Wd.pr a b).d y = some false := by
    unfold eqF
    rw [hs]
    dsimp only
    rw [pub_w _ 200 h, hy, hb]
    rfl
  show (match eqF (Wd.pr a b).d y with | some b => some (D.bl b, S) | none => none) = _
  rw [e]
theorem run_wl : ∀ (w : Wd) (n : Nat) (S : Sto), w.dep ≤ 200 → w.dep + 1 ≤ n → run n 7 [w.d] S = some ((wl w).d, S) := by
  intro w
  induction w with
  | «at» i =>
    intro n S h0 h
    cases n with
    | zero => omega
    | succ n =>
      by_cases c : i = 0
      · apply fin_eq
        · rw [run_7]
          apply e_rt
          unfold m7
          rw [wd_at]
          walk_at "sts"
        · simp [wl, c, Wd.d]
      · apply fin_eq
        · rw [run_7]
          apply e_rt
          unfold m7
          rw [wd_at]
          walk_at "sts"
        · simp [wl, c, Wd.d]
  | k =>
    intro n S h0 h
    cases n with
    | zero => omega
    | succ n =>
      apply fin_eq
      · rw [run_7]
        apply e_rt
        unfold m7
        rw [wd_k]
        walk_at "sts"
      · simp [wl, Wd.d]
  | s =>
    intro n S h0 h
    cases n with
    | zero => omega
    | succ n =>
      apply fin_eq
      · rw [run_7]
        apply e_rt
        unfold m7
        rw [wd_s]
        walk_at "sts"
      · simp [wl, Wd.d]
  | pr a b i1 i2 =>
    intro n S h0 h
    cases n with
    | zero => omega
    | succ n =>
      have q0 : fEq (.tup [a.d, b.d]) (.int 0) S = some (.bl false, S) := eq_pr h0 rfl rfl rfl
      have q1 := i1 n S (by simp [Wd.dep] at h0; omega) (by simp [Wd.dep] at h; omega)
      have q2 := i2 n S (by simp [Wd.dep] at h0; omega) (by simp [Wd.dep] at h; omega)
      apply fin_eq
      · rw [run_7]
        apply e_rt
        unfold m7
        rw [wd_pr]
        walk_at "sts"
      · simp [wl, Wd.d]
theorem run_wo : ∀ (t : Tm) (n : Nat) (S : Sto), okw t = true → t.dep + 200 ≤ n → run n 8 [t.d] S = some ((wo t).d, S) := by
  intro t
  induction t with
  | «at» i =>
    intro n S h0 h
    cases n with
    | zero => omega
    | succ n =>
      apply fin_eq
      · rw [run_8]
        apply e_rt
        unfold m8
        rw [d_at]
        walk_at "sts"
      · rfl
  | mk t ih =>
    intro n S h0 h
    cases n with
    | zero => omega
    | succ n =>
      unfold okw at h0
      simp only [Bool.and_eq_true, decide_eq_true_eq] at h0
      have q := ih n S h0.2 (by simp [Tm.dep] at h; omega)
      have q2 := run_wl (wo t) n S (by omega) (by omega)
      apply fin_eq
      · rw [run_8]
        apply e_rt
        unfold m8
        rw [d_mk]
        walk_at "sts"
      · rfl
  | cl s t i1 i2 =>
    intro n S h0 h
    cases n with
    | zero => omega
    | succ n =>
      unfold okw at h0
      simp only [Bool.and_eq_true] at h0
      have q1 := i1 n S h0.1 (by simp [Tm.dep] at h; omega)
      have q2 := i2 n S h0.2 (by simp [Tm.dep] at h; omega)
      apply fin_eq
      · rw [run_8]
        apply e_rt
        unfold m8
        rw [d_cl]
        walk_at "sts"
      · rfl
theorem run_comb : ∀ (w : Wd) (n : Nat) (S : Sto), w.cl = true → w.dep ≤ 200 → w.dep + 1 ≤ n → run n 6 [w.d] S = some ((comb w).d, S) := by
  intro w
  induction w with
  | «at» i => intro n S h; cases h
  | k =>
    intro n S hc h0 h
    cases n with
    | zero => omega
    | succ n =>
      apply fin_eq
      · rw [run_6]
        apply e_rt
        unfold m6
        rw [wd_k]
        walk_at "sts"
      · rfl
  | s =>
    intro n S hc h0 h
    cases n with
    | zero => omega
    | succ n =>
      apply fin_eq
      · rw [run_6]
        apply e_rt
        unfold m6
        rw [wd_s]
        walk_at "sts"
      · rfl
  | pr a b i1 i2 =>
    intro n S hc h0 h
    cases n with
    | zero => omega
    | succ n =>
      unfold Wd.cl at hc
      rw [Bool.and_eq_true] at hc
      have q0 : fEq (.tup [a.d, b.d]) (.str "k") S = some (.bl false, S) := eq_pr h0 (pub_str (by decide +kernel)) rfl rfl
      have q3 : fEq (.tup [a.d, b.d]) (.str "s") S = some (.bl false, S) := eq_pr h0 (pub_str (by decide +kernel)) rfl rfl
      have q1 := i1 n S hc.1 (by simp [Wd.dep] at h0; omega) (by simp [Wd.dep] at h; omega)
      have q2 := i2 n S hc.2 (by simp [Wd.dep] at h0; omega) (by simp [Wd.dep] at h; omega)
      apply fin_eq
      · rw [run_6]
        apply e_rt
        unfold m6
        rw [wd_pr]
        walk_at "sts"
      · rfl
theorem run_lwt : ∀ (w : Wd) (n : Nat) (S : Sto), w.cl = true → w.dep ≤ 200 → w.dep + 1 ≤ n → run n 19 [w.d] S = some ((comb w).d, S) := by
  intro w
  induction w with
  | «at» i => intro n S h; cases h
  | k =>
    intro n S hc h0 h
    cases n with
    | zero => omega
    | succ n =>
      apply fin_eq
      · rw [run_19]
        apply e_rt
        unfold m19
        rw [wd_k]
        walk_at "sts"
      · rfl
  | s =>
    intro n S hc h0 h
    cases n with
    | zero => omega
    | succ n =>
      apply fin_eq
      · rw [run_19]
        apply e_rt
        unfold m19
        rw [wd_s]
        walk_at "sts"
      · rfl
  | pr a b i1 i2 =>
    intro n S hc h0 h
    cases n with
    | zero => omega
    | succ n =>
      unfold Wd.cl at hc
      rw [Bool.and_eq_true] at hc
      have q0 : fEq (.tup [a.d, b.d]) (.str "k") S = some (.bl false, S) := eq_pr h0 (pub_str (by decide +kernel)) rfl rfl
      have q3 : fEq (.tup [a.d, b.d]) (.str "s") S = some (.bl false, S) := eq_pr h0 (pub_str (by decide +kernel)) rfl rfl
      have q1 := i1 n S hc.1 (by simp [Wd.dep] at h0; omega) (by simp [Wd.dep] at h; omega)
      have q2 := i2 n S hc.2 (by simp [Wd.dep] at h0; omega) (by simp [Wd.dep] at h; omega)
      apply fin_eq
      · rw [run_19]
        apply e_rt
        unfold m19
        rw [wd_pr]
        walk_at "sts"
      · rfl
theorem run_isw : ∀ (w : Wd) (n : Nat) (S : Sto), w.cl = true → w.dep + 1 ≤ n → run n 20 [w.d] S = some (.bl true, S) := by
  intro w
  induction w with
  | «at» i => intro n S h; cases h
  | k =>
    intro n S hc h
    cases n with
    | zero => omega
    | succ n =>
      apply fin_eq
      · rw [run_20]
        apply e_rt
        unfold m20
        rw [wd_k]
        walk_at "sts"
      · rfl
  | s =>
    intro n S hc h
    cases n with
    | zero => omega
    | succ n =>
      apply fin_eq
      · rw [run_20]
        apply e_rt
        unfold m20
        rw [wd_s]
        walk_at "sts"
      · rfl
  | pr a b i1 i2 =>
    intro n S hc h
    cases n with
    | zero => omega
    | succ n =>
      unfold Wd.cl at hc
      rw [Bool.and_eq_true] at hc
      have q1 := i1 n S hc.1 (by simp [Wd.dep] at h; omega)
      have q2 := i2 n S hc.2 (by simp [Wd.dep] at h; omega)
      apply fin_eq
      · rw [run_20]
        apply e_rt
        unfold m20
        rw [wd_pr]
        walk_at "sts"
      · rfl
end K49

namespace K49
open PySem L2 Mini
/-! ### what may be drawn, gone through -/
def upTo (d : Int) : List Int := (List.range d.toNat).map Int.ofNat
theorem mem_upTo {i d : Int} (h0 : 0 ≤ i) (h1 : i < d) : i ∈ upTo d := by
  unfold upTo
  rw [List.mem_map]
  exact ⟨i.toNat, List.mem_range.mpr (by omega), Int.toNat_of_nonneg h0⟩
def tms : Nat → Int → Int → List Tm
  | 0, _, _ => []
  | f + 1, d, r => (upTo d).map .at ++ ((if d = 0 ∨ 2 ≤ r then (tms f (d + 1) (r - 1)).map .mk else []) ++ (upTo (r - 1)).flatMap fun z => (tms f d (1 + z)).flatMap fun s => (tms f d (if r - 1 - (1 + z) > 1 then r - 1 - (1 + z) else 1)).map (.cl s))
theorem Dr.mem {d r : Int} {t : Tm} (h : Dr d r t) : ∀ f, t.dep ≤ f → t ∈ tms f d r := by
  induction h with
  | «at» h0 h1 =>
    intro f hf
    cases f with
    | zero => simp [Tm.dep] at hf
    | succ f =>
      unfold tms
      exact List.mem_append_left _ (List.mem_map.mpr ⟨_, mem_upTo h0 h1, rfl⟩)
  | mk h0 h1 _ ih =>
    intro f hf
    cases f with
    | zero => simp [Tm.dep] at hf
    | succ f =>
      unfold tms
      refine List.mem_append_right _ (List.mem_append_left _ ?_)
      rw [if_pos h1]
      exact List.mem_map.mpr ⟨_, ih f (by simp [Tm.dep] at hf; omega), rfl⟩
  | cl h0 h1 h2 _ _ i1 i2 =>
    intro f hf
    cases f with
    | zero => simp [Tm.dep] at hf
    | succ f =>
      unfold tms
      refine List.mem_append_right _ (List.mem_append_right _ ?_)
      rw [List.mem_flatMap]
      refine ⟨_, mem_upTo h1 h2, ?_⟩
      rw [List.mem_flatMap]
      refine ⟨_, i1 f (by simp [Tm.dep] at hf; omega), ?_⟩
      exact List.mem_map.mpr ⟨_, i2 f (by simp [Tm.dep] at hf; omega), rfl⟩
def chk (t : Tm) : Bool := okw t && ((wo t).cl && (decide ((wo t).dep ≤ 150) && (decide ((comb (wo t)).dep ≤ 150) && (wf 0 (comb (wo t)) && (lim 150 13 t && (lim 150 151 (comb (wo t)) && match dn 13 t with
  | none => true
  | some a => decide (dn 151 (comb (wo t)) = some a)))))))
theorem chk_all : (tms 5 0 2).all chk = true ∧ (tms 5 0 3).all chk = true ∧ (tms 5 0 4).all chk = true := by decide +kernel
def bas : List Wd := [.k, .s, .pr (.pr .s .k) .k, .pr (.pr .s .k) .s]
def chkb (w : Wd) : Bool := w.cl && (decide (w.dep ≤ 150) && lim 150 21 (comb w))
theorem chkb_all : bas.all chkb = true := by decide +kernel
theorem dep_comb : ∀ w : Wd, (comb w).dep ≤ w.dep + 6
  | .at i => by simp [comb, Tm.dep]
  | .k => by decide
  | .s => by decide
  | .pr a b => by
    have h1 := dep_comb a
    have h2 := dep_comb b
    simp only [comb, Tm.dep, Wd.dep]
    omega
theorem pub_t : ∀ (t : Tm) (n : Nat), t.dep ≤ n → D.pub n t.d = true
  | .at i, 0, h => by simp [Tm.dep] at h
  | .mk t, 0, h => by simp [Tm.dep] at h
  | .cl s t, 0, h => by simp [Tm.dep] at h
  | .at i, n + 1, h => by
    show (D.pub n (.str "at") && (D.pub n (.int i) && true)) = true
    rw [pub_str (by decide +kernel), pub_int]
    rfl
  | .mk t, n + 1, h => by
    show (D.pub n (.str "make") && (D.pub n t.d && true)) = true
    rw [pub_str (by decide +kernel), pub_t t n (by simp [Tm.dep] at h; omega)]
    rfl
  | .cl s t, n + 1, h => by
    show (D.pub n (.str "call") && (D.pub n s.d && (D.pub n t.d && true))) = true
    rw [pub_str (by decide +kernel), pub_t s n (by simp [Tm.dep] at h; omega), pub_t t n (by simp [Tm.dep] at h; omega)]
    rfl
theorem eqB_t : ∀ t : Tm, eqB t.d t.d = true
  | .at i => by
    show (decide (("at" : Str) = "at") && (decide (i = i) && true)) = true
    simp
  | .mk t => by
    show (decide (("make" : Str) = "make") && (eqB t.d t.d && true)) = true
    rw [eqB_t t]
    simp
  | .cl s t => by
    show (decide (("call" : Str) = "call") && (eqB s.d s.d && (eqB t.d t.d && true))) = true
    rw [eqB_t s, eqB_t t]
    simp
theorem eqS_t (t : Tm) : eqS t.d t.d = none := by cases t <;> rfl
theorem ne_t (t : Tm) (S : Sto) (h : t.dep ≤ 200) : fNe t.d t.d S = some (.bl false, S) := by
  have e : eqF t.d t.d = some true := by
    unfold eqF
    rw [eqS_t]
    dsimp only
    rw [pub_t t 200 h, eqB_t]
    rfl
  unfold fNe
  rw [e]
  rfl
theorem lstAt_new {S : Sto} {ds : List D} : lstAt (S ++ [.lst ds]) S.length = some ds := by
  unfold lstAt
  rw [List.getElem?_append_right (Nat.le_refl _)]
  simp
/-- one of a list of words, drawn -/
theorem pick_w {S S' : Sto} {b : Nat} {ws : List Wd} {r : Int} (hb : b < S.length) (k : Keeps b (S ++ [.lst (ws.map Wd.d)]) S') (h0 : 0 ≤ r) (h1 : r < ws.length) : ∃ w, w ∈ ws ∧ fIx (.loc S.length) (.int r) S' = some (w.d, S') := by
  have hr : r.toNat < ws.length := by omega
  have er : r = ((r.toNat : Nat) : Int) := by omega
  have l := k.lst (by omega : S.length ≠ b) lstAt_new
  have q := ix_lst (i := r.toNat) l (by rw [List.getElem?_map, List.getElem?_eq_getElem hr]; rfl)
  rw [← er] at q
  exact ⟨_, List.getElem_mem hr, q⟩
def bWord (T : Nat → List D → Sto → Option (D × Sto)) : XS := (sSeq (sAsg (xOp fIx (xAll mkLst (xCons (xAll mkTup (xCons (xVar 2) (xCons (xC (.str "k")) xNil))) (xCons (xAll mkTup (xCons (xC (.str "s")) (xCons (xVar 2) xNil))) (xCons (xAll mkTup (xCons (xVar 2) (xCons (xVar 2) xNil))) xNil)))) (xCall 2 (T 12) (xCons (xVar 1) (xCons (xC (.int 3)) xNil)))) (gN 2)) sNil)
theorem word_turn {n b : Nat} {S : Sto} {w : Wd} (hn : 1 ≤ n) (hb : Box S b) (hw : w.cl = true) (x0 x3 x4 x5 x6 x7 x8 : Option D) :
    ∃ (w' : Wd) (S' : Sto), bWord (run n) [x0, some (.loc b), some w.d, x3, x4, x5, x6, x7, x8] S = some (.nx [x0, some (.loc b), some w'.d, x3, x4, x5, x6, x7, x8] S') ∧ Box S' b ∧ w'.cl = true ∧ w'.dep ≤ w.dep + 1 := by
  have b7 : Box (S ++ [.lst ([Wd.pr w .k, .pr .s w, .pr w w].map Wd.d)]) b := hb.more _
  have wl : mkLst [.tup [w.d, .str "k"], .tup [.str "s", w.d], .tup [w.d, w.d]] S = some (.loc S.length, S ++ [.lst ([Wd.pr w .k, .pr .s w, .pr w w].map Wd.d)]) := rfl
  obtain ⟨r, S8, k1, k2, k3, k4, k5⟩ := run_draw (n := n) (many := 3) b7 (by decide) hn
  obtain ⟨w', m, q⟩ := pick_w hb.lt k5 k2 k3
  generalize S ++ [.lst ([Wd.pr w .k, .pr .s w, .pr w w].map Wd.d)] = S7 at b7 wl k1 k5
  refine ⟨w', S8, ?_, k4, ?_⟩
  · unfold bWord
    walk_at "sts"
  · simp only [List.mem_cons, List.not_mem_nil, or_false] at m
    rcases m with rfl | rfl | rfl <;> simp [Wd.cl, Wd.dep, hw]
def rest (T : Nat → List D → Sto → Option (D × Sto)) : XS := (sSeq (sAsg (xOp fIx (xAll mkLst (xCons (xC (.str "k")) (xCons (xC (.str "s")) (xCons (xAll mkTup (xCons (xAll mkTup (xCons (xC (.str "s")) (xCons (xC (.str "k")) xNil))) (xCons (xC (.str "k")) xNil))) (xCons (xAll mkTup (xCons (xAll mkTup (xCons (xC (.str "s")) (xCons (xC (.str "k")) xNil))) (xCons (xC (.str "s")) xNil))) xNil))))) (xCall 2 (T 12) (xCons (xVar 1) (xCons (xC (.int 4)) xNil)))) (gN 8)) (sSeq (sRet (xCall 2 (T 13) (xCons (xCall 2 (T 5) (xCons (xCall 1 (T 6) (xCons (xVar 8) xNil)) (xCons (xC (.int 20)) xNil))) (xCons (xCall 2 (T 16) (xCons (xCall 1 (T 19) (xCons (xVar 8) xNil)) (xCons (xC (.int 20)) xNil))) xNil)))) sNil))
theorem rest_ok {n b : Nat} {S : Sto} (hn : 600 ≤ n) (hb : Box S b) (x0 x2 x3 x4 x5 x6 x7 x8 : Option D) : ∃ S', rest (run n) [x0, some (.loc b), x2, x3, x4, x5, x6, x7, x8] S = some (.rt (.bl true) S') := by
  obtain ⟨m, rfl⟩ : ∃ m, n = m + 1 := ⟨n - 1, by omega⟩
  have b7 : Box (S ++ [.lst (bas.map Wd.d)]) b := hb.more _
  have wl : mkLst [.str "k", .str "s", .tup [.tup [.str "s", .str "k"], .str "k"], .tup [.tup [.str "s", .str "k"], .str "s"]] S = some (.loc S.length, S ++ [.lst (bas.map Wd.d)]) := rfl
  obtain ⟨r, S8, k1, k2, k3, k4, k5⟩ := run_draw (n := m + 1) (many := 4) b7 (by decide) (by omega)
  obtain ⟨w, mw, q⟩ := pick_w (ws := bas) hb.lt k5 k2 k3
  generalize S ++ [.lst (bas.map Wd.d)] = S7 at b7 wl k1 k5
  have c := List.all_eq_true.mp chkb_all w mw
  unfold chkb at c
  simp only [Bool.and_eq_true, decide_eq_true_eq] at c
  obtain ⟨c1, c2, c3⟩ := c
  have a1 := run_comb w (m + 1) S8 c1 (by omega) (by omega)
  have a2 := run_lwt w (m + 1) S8 c1 (by omega) (by omega)
  have a3 : run (m + 1) 5 [(comb w).d, .int 20] S8 = some (oD (dn 21 (comb w)), S8) := run_done (most := 20) c3 (by omega) (by omega)
  have a4 : run (m + 1) 16 [(comb w).d, .int 20] S8 = some (oD (dn 21 (comb w)), S8) := run_ldone (most := 20) c3 (by omega) (by omega) (by omega)
  have a5 := run_sameO (m + 1) (dn 21 (comb w)) S8 (fun t' e => by have := lim_dn c3 e; omega) (by omega)
  refine ⟨S8, ?_⟩
  unfold rest
  walk_at "sts"
end K49

namespace K49
open PySem L2 Mini
/-! ### the law -/
def mid (T : Nat → List D → Sto → Option (D × Sto)) : XS := (sSeq (sIf (bNot (bTru (xCall 2 (T 13) (xCons (xCall 1 (T 6) (xCons (xVar 2) xNil)) (xCons (xCall 1 (T 19) (xCons (xVar 2) xNil)) xNil))))) (sSeq (sRet (xC (.bl false))) sNil) sNil) (sSeq (sAsg (xCall 3 (T 14) (xCons (xVar 1) (xCons (xC (.int 0)) (xCons (xOp fAdd (xC (.int 2)) (xCall 2 (T 12) (xCons (xVar 1) (xCons (xC (.int 3)) xNil)))) xNil)))) (gN 4)) (sSeq (sAsg (xCall 1 (T 8) (xCons (xVar 4) xNil)) (gN 5)) (sSeq (sIf (bOr (bNot (bTru (xCall 1 (T 20) (xCons (xVar 5) xNil)))) (bVal (xOp fIsNot (xCall 2 (T 1) (xCons (xCall 1 (T 6) (xCons (xVar 5) xNil)) (xCons (xC (.int 0)) xNil))) (xC (.bl true))))) (sSeq (sRet (xC (.bl false))) sNil) sNil) (sSeq (sAsg (xCall 2 (T 16) (xCons (xVar 4) (xCons (xC (.int 12)) xNil))) (gN 6)) (sSeq (sAsg (xCall 2 (T 16) (xCons (xCall 1 (T 6) (xCons (xVar 5) xNil)) (xCons (xC (.int 150)) xNil))) (gN 7)) (sSeq (sIf (bAnd (bVal (xOp fIsNot (xVar 6) (xC .non))) (bVal (xOp fNe (xVar 6) (xVar 7)))) (sSeq (sRet (xC (.bl false))) sNil) sNil) (sSeq (sIf (bNot (bTru (xCall 2 (T 13) (xCons (xCall 2 (T 5) (xCons (xVar 4) (xCons (xC (.int 12)) xNil))) (xCons (xVar 6) xNil))))) (sSeq (sRet (xC (.bl false))) sNil) sNil) (rest T)))))))))
theorem m21_is (T) : m21 T = (sSeq (sAsg (xCall 3 (T 9) (xCons (xVar 0) (xCons (xC (.int 0)) (xCons (xC (.int 62)) xNil)))) (gN 1)) (sSeq (sAsg (xC (.str "s")) (gN 2)) (sSeq (sFor (wRng1 (xCall 2 (T 12) (xCons (xVar 1) (xCons (xC (.int 4)) xNil)))) (gN 3) (bWord T)) (mid T)))) := rfl
theorem mid_ok {n b : Nat} {S : Sto} {w : Wd} (hn : 600 ≤ n) (hb : Box S b) (hw : w.cl = true) (hd : w.dep ≤ 100) (x0 x3 x4 x5 x6 x7 x8 : Option D) : ∃ S', mid (run n) [x0, some (.loc b), some w.d, x3, x4, x5, x6, x7, x8] S = some (.rt (.bl true) S') := by
  obtain ⟨m, rfl⟩ : ∃ m, n = m + 1 := ⟨n - 1, by omega⟩
  have a1 := run_comb w (m + 1) S hw (by omega) (by omega)
  have a2 := run_lwt w (m + 1) S hw (by omega) (by omega)
  have a3 := run_sameT (m + 1) (comb w) S (by have := dep_comb w; omega)
  obtain ⟨x, S1, d1, d2, d3, d4, d5⟩ := run_draw (n := m + 1) (many := 3) hb (by decide) (by omega)
  obtain ⟨t, S2, t1, t2, t3, t4, t5, t6⟩ := run_lawterm (m + 1) b 0 (2 + x) S1 d4 (by omega) (by rw [if_pos rfl]; omega)
  rw [if_pos rfl] at t5
  have mt := t6.mem 5 (by omega)
  have c : chk t = true := by
    obtain ⟨k1, k2, k3⟩ := chk_all
    have cx : x = 0 ∨ x = 1 ∨ x = 2 := by omega
    rcases cx with rfl | rfl | rfl
    · exact List.all_eq_true.mp k1 t mt
    · exact List.all_eq_true.mp k2 t mt
    · exact List.all_eq_true.mp k3 t mt
  have td : t.dep ≤ 10 := by omega
  clear mt t6
  unfold chk at c
  simp only [Bool.and_eq_true, decide_eq_true_eq] at c
  obtain ⟨c1, c2, c3, c4, c5, c6, c7, c8⟩ := c
  have b1 := run_wo t (m + 1) S2 c1 (by omega)
  generalize wo t = f at b1 c2 c3 c4 c5 c7 c8
  have b2 := run_isw f (m + 1) S2 c2 (by omega)
  have b3 := run_comb f (m + 1) S2 c2 (by omega) (by omega)
  have b4 := run_term (comb f) (m + 1) 0 S2 (by omega)
  rw [c5] at b4
  have b5 : run (m + 1) 16 [t.d, .int 12] S2 = some (oD (dn 13 t), S2) := run_ldone (most := 12) c6 (by omega) (by omega) (by omega)
  have b6 : run (m + 1) 16 [(comb f).d, .int 150] S2 = some (oD (dn 151 (comb f)), S2) := run_ldone (most := 150) c7 (by omega) (by omega) (by omega)
  have b7 : run (m + 1) 5 [t.d, .int 12] S2 = some (oD (dn 13 t), S2) := run_done (most := 12) c6 (by omega) (by omega)
  have b8 := run_sameO (m + 1) (dn 13 t) S2 (fun t' e => by have := lim_dn c6 e; omega) (by omega)
  cases e1 : dn 13 t with
  | none =>
    rw [e1] at b5 b7 b8
    have b5' : run (m + 1) 16 [t.d, .int 12] S2 = some (.non, S2) := b5
    have b7' : run (m + 1) 5 [t.d, .int 12] S2 = some (.non, S2) := b7
    have b8' : run (m + 1) 13 [.non, .non] S2 = some (.bl true, S2) := b8
    obtain ⟨S', r1⟩ := rest_ok (n := m + 1) hn t2 x0 (some w.d) x3 (some t.d) (some f.d) (some .non) (some (oD (dn 151 (comb f)))) x8
    refine ⟨S', ?_⟩
    clear b5 b7 b8 c8
    unfold mid
    walk_at "sts"
    exact r1
  | some a =>
    rw [e1] at b5 b7 b8 c8
    simp only [decide_eq_true_eq] at c8
    rw [c8] at b6
    have da := lim_dn c6 e1
    have b5' : run (m + 1) 16 [t.d, .int 12] S2 = some (a.d, S2) := b5
    have b6' : run (m + 1) 16 [(comb f).d, .int 150] S2 = some (a.d, S2) := b6
    have b7' : run (m + 1) 5 [t.d, .int 12] S2 = some (a.d, S2) := b7
    have b8' : run (m + 1) 13 [a.d, a.d] S2 = some (.bl true, S2) := b8
    have b9 := ne_t a S2 (by omega)
    have b10 := isN_d a S2
    obtain ⟨S', r1⟩ := rest_ok (n := m + 1) hn t2 x0 (some w.d) x3 (some t.d) (some f.d) (some a.d) (some a.d) x8
    refine ⟨S', ?_⟩
    clear b5 b6 b7 b8 c8
    unfold mid
    walk_at "sts"
    exact r1
theorem law_true : ∀ ns : List Int, ns.length ≤ 63 → ∃ S', run 690 21 [.loc 0] [.frz (ns.map D.int)] = some (.bl true, S') := by
  intro ns hl
  obtain ⟨S1, b1, b2, b3, b4⟩ := run_box (s := 0) (n := 686) (S := [.frz (ns.map D.int)]) (ns := ns) (frz_len rfl) (by omega)
  have b1' : run 689 9 [.loc 0, .int 0, .int 62] [.frz (ns.map D.int)] = some (.loc 2, S1) := b1
  have b2' : Box S1 2 := b2
  obtain ⟨x, S2, d1, d2, d3, d4, d5⟩ := run_draw (n := 689) (many := 4) b2' (by decide) (by decide)
  have loop := forL_all (g := gN 3) (s := bWord (run 689)) (ds := rngD 0 x) (e := [some (.loc 0), some (.loc 2), some Wd.s.d, none, none, none, none, none, none]) (S := S2)
    (P := fun i e' S' => Box S' 2 ∧ ∃ (w : Wd) (x3 : Option D), w.cl = true ∧ w.dep ≤ i ∧ e' = [some (.loc 0), some (.loc 2), some w.d, x3, none, none, none, none, none]) ⟨d4, .s, _, rfl, Nat.le_refl _, rfl⟩ (fun i d hd e' S' ⟨h1, w, x3, h2, h3, h4⟩ => by
      subst h4
      obtain ⟨w', S3, q1, q2, q3, q4⟩ := word_turn (n := 689) (by decide) h1 h2 (some (.loc 0)) (some d) none none none none none
      exact ⟨_, _, S3, rfl, .inl q1, q2, w', _, q3, by omega, rfl⟩)
  obtain ⟨e', S3, q1, q2, w, x3, q3, q4, rfl⟩ := loop
  rw [rng_len] at q4
  obtain ⟨S4, r1⟩ := mid_ok (n := 689) (by decide) q2 q3 (by omega) (some (.loc 0)) x3 none none none none none
  refine ⟨S4, ?_⟩
  generalize eT : run 689 = T at b1' d1 q1 r1
  have hw : wRng1 (xCall 2 (T 12) (xCons (xVar 1) (xCons (xC (.int 4)) xNil))) [some (.loc 0), some (.loc 2), some Wd.s.d, none, none, none, none, none, none] S1 = some (.fix (rngD 0 x), S2) := by
    refine wRng1_run ?_ (small_i (by omega) (by omega))
    walk_at "ev"
  have q9 := s_for_fix hw q1
  show ends (m21 (run 689) [some (.loc 0), none, none, none, none, none, none, none, none] [.frz (ns.map D.int)]) = _
  rw [eT, m21_is]
  apply e_rt
  walk_at "st"
  walk_at "st"
  exact s_seq q9 r1
end K49

open PySem PySem.W PyProof.Rows
set_option maxRecDepth 100000 in
set_option maxHeartbeats 0 in
theorem PySem.Challenge.cw_proofabode_k49_words_of_two_terms_holds : PySem.Challenge.rw_proofabode_k49_words_of_two_terms.Holds := by
  w_on; o_law; k_head; (case hw => w_witness2)
  k_fill
  refine K49.walk (l := PySem.Challenge.rw_proofabode_k49_words_of_two_terms) rfl rfl rfl (fun w h Y => PySem.W.kIn_of Y) K49.law_true ?F
  case F =>
    intro w mg fa h KX G hmg
    refine' Exists.imp (fun t q => ⟨⟨_, rfl⟩, q.2⟩) (K49.all_mk KX G ?a0 ?l0 ?e0 ?k0 ?a1 ?l1 ?e1 ?k1 ?a2 ?l2 ?e2 ?k2 ?a3 ?l3 ?e3 ?k3 ?a4 ?l4 ?e4 ?k4 ?a5 ?l5 ?e5 ?k5 ?a6 ?l6 ?e6 ?k6 ?a7 ?l7 ?e7 ?k7 ?a8 ?l8 ?e8 ?k8 ?a9 ?l9 ?e9 ?k9 ?a10 ?l10 ?e10 ?k10 ?a11 ?l11 ?e11 ?k11 ?a12 ?l12 ?e12 ?k12 ?a13 ?l13 ?e13 ?k13 ?a14 ?l14 ?e14 ?k14 ?a15 ?l15 ?e15 ?k15 ?a16 ?l16 ?e16 ?k16 ?a17 ?l17 ?e17 ?k17 ?a18 ?l18 ?e18 ?k18 ?a19 ?l19 ?e19 ?k19 ?a20 ?l20 ?e20 ?k20 ?a21 ?l21 ?e21 ?k21 ?z_bool ?z_int ?z_isinstance ?z_len ?z_max ?z_range ?z_str ?z_tuple)
    (case a0 => k_is)
    (case l0 => k_is)
    (case e0 => k_is)
    (case k0 => k_is)
    (case a1 => k_is)
    (case l1 => k_is)
    (case e1 => k_is)
    (case k1 => k_is)
    (case a2 => k_is)
    (case l2 => k_is)
    (case e2 => k_is)
    (case k2 => k_is)
    (case a3 => k_is)
    (case l3 => k_is)
    (case e3 => k_is)
    (case k3 => k_is)
    (case a4 => k_is)
    (case l4 => k_is)
    (case e4 => k_is)
    (case k4 => k_is)
    (case a5 => k_is)
    (case l5 => k_is)
    (case e5 => k_is)
    (case k5 => k_is)
    (case a6 => k_is)
    (case l6 => k_is)
    (case e6 => k_is)
    (case k6 => k_is)
    (case a7 => k_is)
    (case l7 => k_is)
    (case e7 => k_is)
    (case k7 => k_is)
    (case a8 => k_is)
    (case l8 => k_is)
    (case e8 => k_is)
    (case k8 => k_is)
    (case a9 => k_is)
    (case l9 => k_is)
    (case e9 => k_is)
    (case k9 => k_is)
    (case a10 => k_is)
    (case l10 => k_is)
    (case e10 => k_is)
    (case k10 => k_is)
    (case a11 => k_is)
    (case l11 => k_is)
    (case e11 => k_is)
    (case k11 => k_is)
    (case a12 => k_is)
    (case l12 => k_is)
    (case e12 => k_is)
    (case k12 => k_is)
    (case a13 => k_is)
    (case l13 => k_is)
    (case e13 => k_is)
    (case k13 => k_is)
    (case a14 => k_is)
    (case l14 => k_is)
    (case e14 => k_is)
    (case k14 => k_is)
    (case a15 => k_is)
    (case l15 => k_is)
    (case e15 => k_is)
    (case k15 => k_is)
    (case a16 => k_is)
    (case l16 => k_is)
    (case e16 => k_is)
    (case k16 => k_is)
    (case a17 => k_is)
    (case l17 => k_is)
    (case e17 => k_is)
    (case k17 => k_is)
    (case a18 => k_is)
    (case l18 => k_is)
    (case e18 => k_is)
    (case k18 => k_is)
    (case a19 => k_is)
    (case l19 => k_is)
    (case e19 => k_is)
    (case k19 => k_is)
    (case a20 => k_is)
    (case l20 => k_is)
    (case e20 => k_is)
    (case k20 => k_is)
    (case a21 => k_is)
    (case l21 => k_is)
    (case e21 => k_is)
    (case k21 => k_is)
    (case z_bool => k_is)
    (case z_int => k_is)
    (case z_isinstance => k_is)
    (case z_len => k_is)
    (case z_max => k_is)
    (case z_range => k_is)
    (case z_str => k_is)
    (case z_tuple => k_is)
