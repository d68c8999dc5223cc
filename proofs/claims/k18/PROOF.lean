import PyProof.Rows.All
import Wide.All
import OpenK.AllK
import Wide.FinOn
import HandS.ForMost
import HandS.IsInst
import HandS.Style
import HandS.Flow
import HandS.AnyAll
import HandS.TupAny
import HandS.Comp
import HandS.GenList
import PyProof.TupleOfGen
import HandS.EndTab
import HandS.HeadHook4
import HandS.SetFor
import HandS.SetKeys
import HandS.TupSets
import HandS.SortInts
import HandS.Codes
import KE.SortData
import HandS.SetBool
import HandS.Dict
import KE.KeyNested
import KE.DataFind
import HandS.Deep
import KE.GoesEnum
import HandS.Zip
import PyProof.SumAny
import KE.DataMinMax
import KE.DataCmp
import HandS.FStr
import HandS.TupMul
import HandS.Nested
import KE.SortKeyHeap
import HandS.Text
import PySem.Challenge.RW_proofabode_k18_equations_by_twos
set_option Elab.async false
set_option linter.all false
set_option maxRecDepth 100000
section
namespace Mini
open PySem L2

inductive D where
  | non | bl (b : Bool) | int (i : Int) | str (x : Str) | tup (ds : List D) | loc (n : Nat)
  deriving Inhabited

inductive O where
  | lst (ds : List D)
  | frz (ds : List D)
  | dct (kvs : List (Key × D))
  deriving Inhabited

abbrev Sto := List O
class Tabs where
  ts : Addr → Prop
variable [Tabs]
abbrev EnvD := List (Option D)

mutual
inductive Rep (K : PySem.W.Frag) (ρ : List Addr) (H : Hp) : D → V → Prop
  | non : Rep K ρ H .non .non
  | bl (b : Bool) : Rep K ρ H (.bl b) (.bl b)
  | int (i : Int) : Rep K ρ H (.int i) (.int i)
  | str (x : Str) : Rep K ρ H (.str x) (.str x)
  | tup {ds : List D} {a : Addr} {vs : List V} : SqT K H a vs → Reps K ρ H ds vs → Rep K ρ H (.tup ds) (.ref a)
  | loc {n : Nat} {a : Addr} : ρ[n]? = some a → Rep K ρ H (.loc n) (.ref a)
inductive Reps (K : PySem.W.Frag) (ρ : List Addr) (H : Hp) : List D → List V → Prop
  | nil : Reps K ρ H [] []
  | cons {d : D} {v : V} {ds : List D} {vs : List V} : Rep K ρ H d v → Reps K ρ H ds vs → Reps K ρ H (d :: ds) (v :: vs)
end

def RepH (K : PySem.W.Frag) (ρ : List Addr) (H : Hp) : O → HO → Prop
  | .lst ds, .lst vs => Reps K ρ H ds vs
  | .dct ks, .dK vs => ks.map (·.1) = vs.map (·.1) ∧ Reps K ρ H (ks.map (·.2)) (vs.map (·.2))
  | _, _ => False
def RepO (K : PySem.W.Frag) (ρ : List Addr) (H : Hp) (a : Addr) (o : O) : Prop := match o with
  | .frz ds => ∃ vs, ((∃ u, H a = some (.frz u (.lst vs))) ∨ SqL K (fun _ => none) a vs) ∧ Reps K ρ H ds vs
  | o => ∃ h, H a = some h ∧ RepH K ρ H o h
def O.mut : O → Bool
  | .frz _ => false
  | _ => true

def CodeOb (o : Obj) (c P : Addr) : Prop :=
  ∃ vs file tf flags tg inF text tt, o.cls = .type "code" ∧ o.data = .fields vs ∧ vs[11]? = some (.ref P) ∧ vs.getD 11 .none = .ref P ∧ vs.getD 18 .none = .str file tf ∧
    vs.getD 7 .none = .int flags tg ∧ vs.getD 9 .none = .bool inF ∧ vs.getD 10 .none = .int text tt ∧ c ≠ P
theorem codeOb_of {h : Heap} {c P : Addr} (x : PySem.W.CodeHd h c P) : ∃ o, h.get? c = some o ∧ CodeOb o c P := by
  obtain ⟨o, vs, file, tf, flags, tg, inF, text, tt, e, r⟩ := x
  exact ⟨o, e, vs, file, tf, flags, tg, inF, text, tt, r⟩
theorem CodeOb.hd {h : Heap} {o : Obj} {c P : Addr} (x : CodeOb o c P) (e : h.get? c = some o) : PySem.W.CodeHd h c P := by
  obtain ⟨vs, file, tf, flags, tg, inF, text, tt, r⟩ := x
  exact ⟨o, vs, file, tf, flags, tg, inF, text, tt, e, r⟩
theorem CodeOb.uniq {o : Obj} {c P Q : Addr} (x : CodeOb o c P) (y : CodeOb o c Q) : P = Q := by
  obtain ⟨vs, _, _, _, _, _, _, _, _, d, _, r, _⟩ := x
  obtain ⟨us, _, _, _, _, _, _, _, _, d', _, r', _⟩ := y
  rw [d] at d'
  cases d'
  rw [r] at r'
  cases r'
  rfl
def TabD : Nat → Hp → Addr → Prop
  | 0, H, P => ∃ ps : Array Value, H P = some (.tbl ps) ∧ TriplesOk ps.toList
  | k + 1, H, P => ∃ ps : Array Value, H P = some (.tbl ps) ∧ TriplesOk ps.toList ∧ ∀ (pos : Pos) (cv : Value), codeAmong pos ps.toList = some cv →
      ∃ (c Q : Addr) (o : Obj) (u : HO), cv = .ref c ∧ H c = some (.frz o u) ∧ CodeOb o c Q ∧ TabD k H Q
def TabI (H : Hp) (P : Addr) : Prop := ∀ k, TabD k H P
def TabsOk (H : Hp) : Prop := ∀ P, Tabs.ts P → TabI H P
theorem TabI.g {H : Hp} {P : Addr} (t : TabI H P) : GxR.TabG H P := t 0
theorem TabI.nil {H : Hp} {P : Addr} (e : H P = some (.tbl #[])) : TabI H P := fun k => by
  cases k with
  | zero => exact ⟨#[], e, trivial⟩
  | succ k =>
    refine ⟨#[], e, trivial, fun pos cv hc => ?_⟩
    have z : codeAmong pos [] = some cv := hc
    simp [codeAmong] at z
theorem TabD.ext {H H' : Hp} (t : ∀ b ps, H b = some (.tbl ps) → H' b = some (.tbl ps)) (f : ∀ b o u, H b = some (.frz o u) → H' b = some (.frz o u)) : ∀ {k : Nat} {P : Addr}, TabD k H P → TabD k H' P
  | 0, P, ⟨ps, h1, h2⟩ => ⟨ps, t _ _ h1, h2⟩
  | k + 1, P, ⟨ps, h1, h2, h3⟩ => ⟨ps, t _ _ h1, h2, fun pos cv hc => by
    obtain ⟨c, Q, o, u, e1, e2, e3, e4⟩ := h3 pos cv hc
    exact ⟨c, Q, o, u, e1, f _ _ _ e2, e3, TabD.ext t f e4⟩⟩
theorem TabsOk.ext {H H' : Hp} (x : TabsOk H) (t : ∀ b ps, H b = some (.tbl ps) → H' b = some (.tbl ps)) (f : ∀ b o u, H b = some (.frz o u) → H' b = some (.frz o u)) : TabsOk H' := fun P hP k => (x P hP k).ext t f
def TabbedI (H H' : Hp) : Prop := TabsOk H' ∧ ∀ b u, H b = some u → (∀ q, u ≠ .tbl q) → H' b = some u
inductive Reach (H : Hp) : Addr → Prop
  | root {P : Addr} : Tabs.ts P → Reach H P
  | step {P c Q : Addr} {ps : Array Value} {pos : Pos} {o : Obj} {u : HO} : Reach H P → H P = some (.tbl ps) → codeAmong pos ps.toList = some (.ref c) → H c = some (.frz o u) → CodeOb o c Q → Reach H Q
theorem Reach.tab {H : Hp} {P : Addr} (r : Reach H P) (x : TabsOk H) : TabI H P := by
  induction r with
  | root h => exact x _ h
  | step _ e1 e2 e3 e4 ih =>
    intro k
    obtain ⟨ps, h1, _, h3⟩ := ih (k + 1)
    rw [e1] at h1
    cases h1
    obtain ⟨c, Q, o, u, k1, k2, k3, k4⟩ := h3 _ _ e2
    cases k1
    rw [e3] at k2
    cases k2
    rw [e4.uniq k3]
    exact k4
theorem among_more {pos : Pos} {c : Value} (l m : List Value) (h : codeAmong pos l = some c) : codeAmong pos (l ++ m) = some c := by
  fun_induction codeAmong pos l with
  | case1 line t col u c' rest hc => 
    simp only [List.cons_append, codeAmong]
    rw [if_pos hc]
    exact h
  | case2 line t col u c' rest hc ih =>
    simp only [List.cons_append, codeAmong]
    rw [if_neg hc]
    exact ih h
  | case3 => cases h
theorem Reach.mono {H H' : Hp} {P : Addr} (r : Reach H P) (t : ∀ b ps, H b = some (.tbl ps) → ∃ more, H' b = some (.tbl (ps ++ more))) (f : ∀ b o u, H b = some (.frz o u) → H' b = some (.frz o u)) : Reach H' P := by
  induction r with
  | root h => exact .root h
  | step _ e1 e2 e3 e4 ih =>
    obtain ⟨more, e5⟩ := t _ _ e1
    exact .step ih e5 (by rw [Array.toList_append]; exact among_more _ _ e2) (f _ _ _ e3) e4

structure G (K : PySem.W.Frag) (ρ : List Addr) (H : Hp) (S : Sto) : Prop where
  len : ρ.length = S.length
  nd : ∀ (i j : Nat) (a : Addr) (o q : O), ρ[i]? = some a → ρ[j]? = some a → S[i]? = some o → S[j]? = some q → o.mut = true → q.mut = true → i = j
  ob : ∀ (i : Nat) (a : Addr) (o : O), ρ[i]? = some a → S[i]? = some o → RepO K ρ H a o
  tab : TabsOk H

structure Ext (K : PySem.W.Frag) (ρ : List Addr) (H : Hp) (ρ' : List Addr) (H' : Hp) : Prop where
  pre : ρ <+: ρ'
  tup : ∀ a xs, SqT K H a xs → SqT K H' a xs
  ext : ∀ a p, H a = some (.ext p) → H' a = some (.ext p)

theorem Ext.refl {K : PySem.W.Frag} {ρ : List Addr} {H : Hp} : Ext K ρ H ρ H := ⟨List.prefix_refl _, fun _ _ h => h, fun _ _ h => h⟩
theorem Ext.trans {K : PySem.W.Frag} {ρ ρ1 ρ2 : List Addr} {H H1 H2 : Hp} (a : Ext K ρ H ρ1 H1) (b : Ext K ρ1 H1 ρ2 H2) : Ext K ρ H ρ2 H2 :=
  ⟨a.pre.trans b.pre, fun c xs h => b.tup c xs (a.tup c xs h), fun c p h => b.ext c p (a.ext c p h)⟩
theorem pre_get {α : Type} {l m : List α} (h : l <+: m) {i : Nat} {a : α} (e : l[i]? = some a) : m[i]? = some a := by
  obtain ⟨t, rfl⟩ := h
  have hi : i < l.length := (List.getElem?_eq_some_iff.mp e).1
  rw [List.getElem?_append_left hi, e]

mutual
theorem Rep.mono {K : PySem.W.Frag} {ρ ρ' : List Addr} {H H' : Hp} (x : Ext K ρ H ρ' H') : ∀ {d : D} {v : V}, Rep K ρ H d v → Rep K ρ' H' d v
  | _, _, .non => .non
  | _, _, .bl b => .bl b
  | _, _, .int i => .int i
  | _, _, .str z => .str z
  | _, _, .tup h r => .tup (x.tup _ _ h) (Reps.mono x r)
  | _, _, .loc h => .loc (pre_get x.pre h)
theorem Reps.mono {K : PySem.W.Frag} {ρ ρ' : List Addr} {H H' : Hp} (x : Ext K ρ H ρ' H') : ∀ {ds : List D} {vs : List V}, Reps K ρ H ds vs → Reps K ρ' H' ds vs
  | _, _, .nil => .nil
  | _, _, .cons h r => .cons (Rep.mono x h) (Reps.mono x r)
end
theorem Reps.length {K : PySem.W.Frag} {ρ : List Addr} {H : Hp} : ∀ {ds : List D} {vs : List V}, Reps K ρ H ds vs → ds.length = vs.length
  | _, _, .nil => rfl
  | _, _, .cons _ r => congrArg (· + 1) (Reps.length r)
theorem Reps.get {K : PySem.W.Frag} {ρ : List Addr} {H : Hp} : ∀ {ds : List D} {vs : List V} {i : Nat} {d : D}, Reps K ρ H ds vs → ds[i]? = some d → ∃ v, vs[i]? = some v ∧ Rep K ρ H d v
  | _, _, _, _, .nil, e => by simp at e
  | _, _, 0, _, .cons h _, e => by simp at e; subst e; exact ⟨_, rfl, h⟩
  | _, _, i + 1, d, .cons _ r, e => by
    obtain ⟨v, h1, h2⟩ := Reps.get (i := i) (d := d) r (by simpa using e)
    exact ⟨v, by simpa using h1, h2⟩
theorem Reps.append {K : PySem.W.Frag} {ρ : List Addr} {H : Hp} : ∀ {ds es : List D} {vs ws : List V}, Reps K ρ H ds vs → Reps K ρ H es ws → Reps K ρ H (ds ++ es) (vs ++ ws)
  | _, _, _, _, .nil, s => s
  | _, _, _, _, .cons h r, s => .cons h (Reps.append r s)
theorem Reps.take {K : PySem.W.Frag} {ρ : List Addr} {H : Hp} : ∀ {ds : List D} {vs : List V} (n : Nat), Reps K ρ H ds vs → Reps K ρ H (ds.take n) (vs.take n)
  | _, _, 0, _ => .nil
  | _, _, _ + 1, .nil => .nil
  | _, _, n + 1, .cons h r => .cons h (Reps.take n r)
theorem Reps.drop {K : PySem.W.Frag} {ρ : List Addr} {H : Hp} : ∀ {ds : List D} {vs : List V} (n : Nat), Reps K ρ H ds vs → Reps K ρ H (ds.drop n) (vs.drop n)
  | _, _, 0, r => r
  | _, _, _ + 1, .nil => .nil
  | _, _, n + 1, .cons _ r => Reps.drop n r
theorem Reps.set {K : PySem.W.Frag} {ρ : List Addr} {H : Hp} {d : D} {v : V} (x : Rep K ρ H d v) : ∀ {ds : List D} {vs : List V} (n : Nat), Reps K ρ H ds vs → Reps K ρ H (ds.set n d) (vs.set n v)
  | _, _, _, .nil => .nil
  | _, _, 0, .cons _ r => .cons x r
  | _, _, n + 1, .cons h r => .cons h (Reps.set x n r)

section
variable {K : PySem.W.Frag} {ρ ρ' : List Addr} {H H' : Hp} {S : Sto} {p a : Addr} {o : HO} {q : O} {ds : List D} {vs : List V}
theorem sqT_new (hp : H p = none) : ∀ a xs, SqT K H a xs → SqT K (upd H p o) a xs := fun a xs h => by
  rcases h with (h | ⟨u, h⟩) | h
  · exact .inl (.inl (by rw [upd_ne (ne_of_none h hp)]; exact h))
  · exact .inl (.inr ⟨u, by rw [upd_ne (ne_of_none h hp)]; exact h⟩)
  · exact .inr h
def Chg : HO → Prop
  | .tup _ => False
  | .frz _ _ => False
  | .tbl _ => False
  | .ext _ => False
  | _ => True
theorem tab_new (hp : H p = none) (h : TabsOk H) : TabsOk (upd H p o) := h.ext (fun _ _ e => (upd_ne (ne_of_none e hp)).trans e) fun _ _ _ e => (upd_ne (ne_of_none e hp)).trans e
theorem tab_chg {u : HO} (hp : H p = some u) (c : Chg u) (h : TabsOk H) : TabsOk (upd H p o) :=
  h.ext (fun _ _ e => (upd_ne (fun z => by rw [z, hp] at e; cases e; exact c)).trans e) fun _ _ _ e => (upd_ne (fun z => by rw [z, hp] at e; cases e; exact c)).trans e
theorem sqT_chg {u : HO} (hp : H p = some u) (c : Chg u) : ∀ a ys, SqT K H a ys → SqT K (upd H p o) a ys := fun a ys h => by
  have ne : ∀ w, H a = some w → ¬ Chg w → a ≠ p := fun w e n z => by
    rw [z, hp] at e; cases e; exact n c
  rcases h with (h | ⟨u, h⟩) | h
  · exact .inl (.inl (by rw [upd_ne (ne _ h fun z => z)]; exact h))
  · exact .inl (.inr ⟨u, by rw [upd_ne (ne _ h fun z => z)]; exact h⟩)
  · exact .inr h
theorem ext_chg {u : HO} (hp : H p = some u) (c : Chg u) : ∀ a φ, H a = some (.ext φ) → upd H p o a = some (.ext φ) := fun a φ h => by
  rw [upd_ne (fun z => by rw [z, hp] at h; cases h; exact c)]; exact h
theorem RepH.chg {q : O} {h : HO} (r : RepH K ρ H q h) : Chg h := by
  cases q <;> cases h <;> first | exact r.elim | trivial
theorem RepH.mono {q : O} {h : HO} (x : Ext K ρ H ρ' H') (r : RepH K ρ H q h) : RepH K ρ' H' q h := by
  cases q <;> cases h <;> first | exact r.elim | exact Reps.mono x r | exact ⟨r.1, Reps.mono x r.2⟩
theorem RepO.mut_iff (m : q.mut = true) : RepO K ρ H a q ↔ ∃ h, H a = some h ∧ RepH K ρ H q h := by
  cases q with
  | frz ds => cases m
  | lst ds => exact Iff.rfl
  | dct kvs => exact Iff.rfl
theorem RepO.mono {q : O} (x : Ext K ρ H ρ' H') (e : ∀ u, H a = some u → H' a = some u) (h : RepO K ρ H a q) : RepO K ρ' H' a q := by
  cases hm : q.mut with
  | true =>
    obtain ⟨u, h1, h2⟩ := (RepO.mut_iff hm).mp h
    exact (RepO.mut_iff hm).mpr ⟨u, e u h1, h2.mono x⟩
  | false =>
    cases q with
    | lst ds => cases hm
    | dct _ => cases hm
    | frz ds =>
      obtain ⟨vs, h1, h2⟩ := h
      refine ⟨vs, ?_, h2.mono x⟩
      rcases h1 with ⟨u, h1⟩ | h1
      · exact .inl ⟨u, e _ h1⟩
      · exact .inr h1
theorem upd_new (hp : H p = none) : ∀ a u, H a = some u → upd H p o a = some u := fun a u h => by rw [upd_ne (ne_of_none h hp)]; exact h
theorem ext_new (hp : H p = none) : Ext K ρ H ρ (upd H p o) := ⟨List.prefix_refl _, sqT_new hp, fun _ _ h => (upd_ne (ne_of_none h hp)).trans h⟩
theorem G.grow (g : G K ρ H S) (x : Ext K ρ H ρ H') (e : ∀ a u, H a = some u → H' a = some u) : G K ρ H' S :=
  ⟨g.len, g.nd, fun i a o h1 h2 => (g.ob i a o h1 h2).mono x (e a), g.tab.ext (fun _ _ h => e _ _ h) fun _ _ _ h => e _ _ h⟩
theorem G.new (g : G K ρ H S) (hp : H p = none) (m : q.mut = true) (r : RepH K ρ H q o) : G K (ρ ++ [p]) (upd H p o) (S ++ [q]) ∧ Ext K ρ H (ρ ++ [p]) (upd H p o) := by
  have x : Ext K ρ H (ρ ++ [p]) (upd H p o) := ⟨List.prefix_append _ _, sqT_new hp, fun _ _ h => (upd_ne (ne_of_none h hp)).trans h⟩
  have old : ∀ (i : Nat) (a : Addr) (w : O), i < S.length → (ρ ++ [p])[i]? = some a → (S ++ [q])[i]? = some w → ρ[i]? = some a ∧ S[i]? = some w := fun i a w hi h1 h2 => by
    rw [List.getElem?_append_left (by rw [g.len]; exact hi)] at h1
    rw [List.getElem?_append_left hi] at h2
    exact ⟨h1, h2⟩
  have new : ∀ (i : Nat) (a : Addr) (w : O), ¬ i < S.length → (ρ ++ [p])[i]? = some a → (S ++ [q])[i]? = some w → i = S.length ∧ a = p ∧ w = q := fun i a w hi h1 h2 => by
    have hlt := (List.getElem?_eq_some_iff.mp h2).1
    have e : i = S.length := by rw [List.length_append, List.length_singleton] at hlt; omega
    subst e
    refine ⟨rfl, ?_, ?_⟩
    · rw [← g.len] at h1; simpa using h1.symm
    · simpa using h2.symm
  have apart : ∀ (i : Nat) (w : O), ρ[i]? = some p → S[i]? = some w → w.mut = true → False := fun i w h1 h2 m => by
    obtain ⟨u, e, _⟩ := (RepO.mut_iff m).mp (g.ob i p w h1 h2)
    rw [hp] at e; cases e
  refine ⟨⟨by simp [g.len], fun i j a w z h1 h2 h3 h4 m1 m2 => ?_, fun i a w h1 h2 => ?_, tab_new hp g.tab⟩, x⟩
  · by_cases hi : i < S.length
    · obtain ⟨a1, a2⟩ := old i a w hi h1 h3
      by_cases hj : j < S.length
      · obtain ⟨b1, b2⟩ := old j a z hj h2 h4
        exact g.nd i j a w z a1 b1 a2 b2 m1 m2
      · obtain ⟨_, rfl, _⟩ := new j a z hj h2 h4
        exact (apart i w a1 a2 m1).elim
    · obtain ⟨e1, rfl, _⟩ := new i a w hi h1 h3
      by_cases hj : j < S.length
      · obtain ⟨b1, b2⟩ := old j a z hj h2 h4
        exact (apart j z b1 b2 m2).elim
      · obtain ⟨e2, _⟩ := new j a z hj h2 h4
        omega
  · by_cases hi : i < S.length
    · obtain ⟨a1, a2⟩ := old i a w hi h1 h2
      exact (g.ob i a w a1 a2).mono x (upd_new hp a)
    · obtain ⟨rfl, rfl, rfl⟩ := new i a w hi h1 h2
      exact (RepO.mut_iff m).mpr ⟨o, upd_same, r.mono x⟩
theorem G.set (g : G K ρ H S) {n : Nat} {q' : O} (hn : ρ[n]? = some p) (hs : S[n]? = some q') (m' : q'.mut = true) (m : q.mut = true) (r : RepH K ρ H q o) : G K ρ (upd H p o) (S.set n q) ∧ Ext K ρ H ρ (upd H p o) := by
  obtain ⟨u, hu, ru⟩ := (RepO.mut_iff m').mp (g.ob n p q' hn hs)
  have x : Ext K ρ H ρ (upd H p o) := ⟨List.prefix_refl _, sqT_chg hu ru.chg, ext_chg hu ru.chg⟩
  have hlt : n < S.length := (List.getElem?_eq_some_iff.mp hs).1
  have look : ∀ (i : Nat) (w : O), (S.set n q)[i]? = some w → (i = n ∧ w = q) ∨ (i ≠ n ∧ S[i]? = some w) := fun i w h => by
    by_cases e : i = n
    · subst e
      rw [List.getElem?_set_self hlt] at h
      cases h
      exact .inl ⟨rfl, rfl⟩
    · rw [List.getElem?_set_ne (Ne.symm e)] at h
      exact .inr ⟨e, h⟩
  refine ⟨⟨by rw [List.length_set]; exact g.len, fun i j a w z h1 h2 h3 h4 m1 m2 => ?_, fun i a w h1 h2 => ?_, tab_chg hu ru.chg g.tab⟩, x⟩
  · rcases look i w h3 with ⟨e1, w1⟩ | ⟨_, k3⟩
    · rcases look j z h4 with ⟨e2, _⟩ | ⟨_, k4⟩
      · exact e1.trans e2.symm
      · rw [e1] at h1 ⊢
        exact g.nd n j a q' z h1 h2 hs k4 m' m2
    · rcases look j z h4 with ⟨e2, _⟩ | ⟨_, k4⟩
      · rw [e2] at h2 ⊢
        exact g.nd i n a w q' h1 h2 k3 hs m1 m'
      · exact g.nd i j a w z h1 h2 k3 k4 m1 m2
  · rcases look i w h2 with ⟨rfl, rfl⟩ | ⟨ne, h2⟩
    · rw [hn] at h1; cases h1
      exact (RepO.mut_iff m).mpr ⟨o, upd_same, r.mono x⟩
    · cases hm : w.mut with
      | true =>
        have na : a ≠ p := fun e => ne (g.nd i n a w q' h1 (e ▸ hn) h2 hs hm m')
        exact (g.ob i a w h1 h2).mono x fun u e => by rw [upd_ne na]; exact e
      | false =>
        cases w with
        | lst _ => cases hm
        | dct _ => cases hm
        | frz ds =>
          obtain ⟨vs, k1, k2⟩ := g.ob i a _ h1 h2
          refine ⟨vs, ?_, k2.mono x⟩
          rcases k1 with ⟨y, k1⟩ | k1
          · refine .inl ⟨y, ?_⟩
            rw [upd_ne (fun e => by rw [e, hu] at k1; cases k1; exact ru.chg)]; exact k1
          · exact .inr k1
end
end Mini
end
section
namespace Mini
open PySem L2
variable [Tabs]

inductive Res where
  | nx (e : EnvD) (S : Sto) | rt (d : D) (S : Sto) | bk (e : EnvD) (S : Sto) | ct (e : EnvD) (S : Sto)
  deriving Inhabited
abbrev XE := EnvD → Sto → Option (D × Sto)
abbrev XL := EnvD → Sto → Option (List D × Sto)
abbrev XB := EnvD → Sto → Option (Bool × Sto)
abbrev XS := EnvD → Sto → Option Res

structure RE (K : PySem.W.Frag) (ρ : List Addr) (H : Hp) (e : EnvD) (σ : L2.St) : Prop where
  len : e.length = σ.length
  at_ : ∀ (i : Nat) (d : D), e[i]? = some (some d) → ∃ v, σ[i]? = some (some v) ∧ Rep K ρ H d v
theorem RE.mono {K : PySem.W.Frag} {ρ ρ' : List Addr} {H H' : Hp} {e : EnvD} {σ : L2.St} (x : Ext K ρ H ρ' H') (r : RE K ρ H e σ) : RE K ρ' H' e σ :=
  ⟨r.len, fun i d h => let ⟨v, h1, h2⟩ := r.at_ i d h; ⟨v, h1, h2.mono x⟩⟩
theorem RE.set {K : PySem.W.Frag} {ρ : List Addr} {H : Hp} {e : EnvD} {σ : L2.St} {d : D} {v : V} (r : RE K ρ H e σ) (i : Nat) (h : Rep K ρ H d v) : RE K ρ H (e.set i (some d)) (σ.set i (some v)) := by
  refine ⟨by rw [List.length_set, List.length_set]; exact r.len, fun j d' q => ?_⟩
  by_cases z : j = i
  · subst z
    have hl : j < e.length := by
      have h9 := (List.getElem?_eq_some_iff.mp q).1
      rwa [List.length_set] at h9
    rw [List.getElem?_set_self hl] at q
    cases q
    exact ⟨v, List.getElem?_set_self (r.len ▸ hl), h⟩
  · rw [List.getElem?_set_ne (Ne.symm z)] at q
    obtain ⟨w, h1, h2⟩ := r.at_ j d' q
    exact ⟨w, by rw [List.getElem?_set_ne (Ne.symm z)]; exact h1, h2⟩

section
variable (K : PySem.W.Frag)
def rE (m : XE) : TE := fun σ H Q => ∃ ρ e S d S', RE K ρ H e σ ∧ G K ρ H S ∧ m e S = some (d, S') ∧ ∀ ρ' H' v, Ext K ρ H ρ' H' → G K ρ' H' S' → Rep K ρ' H' d v → Q v H'
def rL (m : XL) : TA := fun σ H Q => ∃ ρ e S ds S', RE K ρ H e σ ∧ G K ρ H S ∧ m e S = some (ds, S') ∧ ∀ ρ' H' vs, Ext K ρ H ρ' H' → G K ρ' H' S' → Reps K ρ' H' ds vs → Q vs H'
def rB (m : XB) : TT := fun σ H Q => ∃ ρ e S b S', RE K ρ H e σ ∧ G K ρ H S ∧ m e S = some (b, S') ∧ ∀ ρ' H', Ext K ρ H ρ' H' → G K ρ' H' S' → Q b H'
def After (ρ : List Addr) (H : Hp) (E : Ends) : Res → Prop
  | .nx e S => ∀ ρ' H' σ', Ext K ρ H ρ' H' → G K ρ' H' S → RE K ρ' H' e σ' → E.nx σ' H'
  | .bk e S => ∀ ρ' H' σ', Ext K ρ H ρ' H' → G K ρ' H' S → RE K ρ' H' e σ' → E.bk σ' H'
  | .ct e S => ∀ ρ' H' σ', Ext K ρ H ρ' H' → G K ρ' H' S → RE K ρ' H' e σ' → E.ct σ' H'
  | .rt d S => ∀ ρ' H' v, Ext K ρ H ρ' H' → G K ρ' H' S → Rep K ρ' H' d v → E.rt v H'
def rS (m : XS) : TS := fun E σ H => ∃ ρ e S r, RE K ρ H e σ ∧ G K ρ H S ∧ m e S = some r ∧ After K ρ H E r
end
theorem After.mono {K : PySem.W.Frag} {ρ ρ' : List Addr} {H H' : Hp} {E : Ends} {r : Res} (x : Ext K ρ H ρ' H') (a : After K ρ H E r) : After K ρ' H' E r := by
  cases r <;> exact fun p h v y => a p h v (x.trans y)

section
variable {X : Cx} {e : Expr} {es : List Expr} {st : Stmt} {sts : List Stmt}
theorem PE.imp {t t' : TE} (h : PE X e t) (i : ∀ σ H Q, t' σ H Q → t σ H Q) : PE X e t' := ⟨fun pins s σ H Q I q => h.run pins s σ H Q I (i σ H Q q)⟩
theorem PT.imp {t t' : TT} (h : PT X e t) (i : ∀ σ H Q, t' σ H Q → t σ H Q) : PT X e t' := ⟨fun pins s σ H Q I q => h.run pins s σ H Q I (i σ H Q q)⟩
theorem PW.imp {t t' : TT} (h : PW X e t) (i : ∀ σ H Q, t' σ H Q → t σ H Q) : PW X e t' := ⟨fun wh pins s σ H Q I q => h.run wh pins s σ H Q I (i σ H Q q)⟩
theorem PA.imp {t t' : TA} (h : PA X es t) (i : ∀ σ H Q, t' σ H Q → t σ H Q) : PA X es t' := ⟨fun pos pins s σ H Q I q => h.run pos pins s σ H Q I (i σ H Q q)⟩
theorem PS.imp {t t' : TS} (h : PS X st t) (i : ∀ E σ H, t' E σ H → t E σ H) : PS X st t' := ⟨fun pins s σ H E I q => h.run pins s σ H E I (i E σ H q)⟩
theorem PSs.imp {t t' : TS} (h : PSs X sts t) (i : ∀ E σ H, t' E σ H → t E σ H) : PSs X sts t' := ⟨fun pins s σ H E I q => h.run pins s σ H E I (i E σ H q)⟩
end

def xVar (i : Nat) : XE := fun e S => match e[i]? with
  | some (some d) => some (d, S)
  | _ => none
def xC (d : D) : XE := fun _ S => some (d, S)
def xOp (f : D → D → Sto → Option (D × Sto)) (a b : XE) : XE := fun e S => match a e S with
  | none => none
  | some (x, S1) => match b e S1 with
    | none => none
    | some (y, S2) => f x y S2
def xUn (f : D → Sto → Option (D × Sto)) (a : XE) : XE := fun e S => match a e S with
  | none => none
  | some (x, S1) => f x S1
def xNil : XL := fun _ S => some ([], S)
def xCons (a : XE) (l : XL) : XL := fun e S => match a e S with
  | none => none
  | some (x, S1) => match l e S1 with
    | none => none
    | some (xs, S2) => some (x :: xs, S2)
def xAll (f : List D → Sto → Option (D × Sto)) (l : XL) : XE := fun e S => match l e S with
  | none => none
  | some (xs, S1) => f xs S1
def xIf (c : XB) (a b : XE) : XE := fun e S => match c e S with
  | none => none
  | some (true, S1) => a e S1
  | some (false, S1) => b e S1
def xAnd (a b : XE) : XE := fun e S => match a e S with
  | some (.bl true, S1) => b e S1
  | some (.bl false, S1) => some (.bl false, S1)
  | _ => none
def xOr (a b : XE) : XE := fun e S => match a e S with
  | some (.bl true, S1) => some (.bl true, S1)
  | some (.bl false, S1) => b e S1
  | _ => none

def OpM (K : PySem.W.Frag) (f : D → D → Sto → Option (D × Sto)) (r : R2) : Prop := ∀ ρ H S x y d S' vx vy (Q : VK), G K ρ H S → Rep K ρ H x vx → Rep K ρ H y vy → f x y S = some (d, S') →
  (∀ ρ' H' v, Ext K ρ H ρ' H' → G K ρ' H' S' → Rep K ρ' H' d v → Q v H') → r vx vy H Q
def AllM (K : PySem.W.Frag) (f : List D → Sto → Option (D × Sto)) (r : List V → Hp → VK → Prop) : Prop := ∀ ρ H S xs d S' vs (Q : VK), G K ρ H S → Reps K ρ H xs vs → f xs S = some (d, S') →
  (∀ ρ' H' v, Ext K ρ H ρ' H' → G K ρ' H' S' → Rep K ρ' H' d v → Q v H') → r vs H Q
theorem OpM.pure {K : PySem.W.Frag} {f : D → D → Sto → Option (D × Sto)} {r : R2} (h : ∀ ρ H S x y d S' vx vy (Q : VK), G K ρ H S → Rep K ρ H x vx → Rep K ρ H y vy → f x y S = some (d, S') → S' = S ∧ ((∀ v, Rep K ρ H d v → Q v H) → r vx vy H Q)) : OpM K f r :=
  fun ρ H S x y d S' vx vy Q g hx hy e k => by
    obtain ⟨rfl, h⟩ := h ρ H S x y d S' vx vy Q g hx hy e
    exact h fun v q => k ρ H v .refl g q

section
variable {X : Cx} {a b c : Expr} {pos : Pos}
theorem r_var (i : Nat) {x : Str} (hN : X.N[i]? = some x) (hv : Vis X.env.scope x) (hd : (x == ("__debug__" : Str)) = false := by decide) (hcd : (x == ("__classdict__" : Str)) = false := by decide) : PE X (.Name x pos) (rE X.K (xVar i)) := by
  refine PE.imp (pe_var hN hv hd hcd) fun σ H Q ⟨ρ, e, S, d, S', re, g, h, k⟩ => ?_
  unfold xVar at h
  split at h
  · rename_i d' q
    cases h
    obtain ⟨v, hv, hr⟩ := re.at_ i _ q
    exact ⟨v, hv, k ρ H v .refl g hr⟩
  · cases h
theorem rC_of {e : Expr} {d : D} {v : V} (h : PE X e (tC v)) (r : ∀ ρ H, Rep X.K ρ H d v) : PE X e (rE X.K (xC d)) :=
  PE.imp h fun σ H Q ⟨ρ, e, S, d', S', re, g, h, k⟩ => by
    cases h
    exact k ρ H v .refl g (r ρ H)
theorem r_int {i : Int} {j} : PE X (.Constant (.int i) j pos) (rE X.K (xC (.int i))) := rC_of pe_int fun _ _ => .int i
theorem r_bl {k : Bool} {j} : PE X (.Constant (.bool k) j pos) (rE X.K (xC (.bl k))) := rC_of pe_bl fun _ _ => .bl k
theorem r_non {j} : PE X (.Constant .none j pos) (rE X.K (xC .non)) := rC_of pe_non fun _ _ => .non
theorem r_str {x : Str} {j} : PE X (.Constant (.str x) j pos) (rE X.K (xC (.str x))) := rC_of pe_str fun _ _ => .str x
theorem two {f : D → D → Sto → Option (D × Sto)} {r : R2} {ma mb : XE} {K : PySem.W.Frag} (o : OpM K f r) : ∀ σ H Q, rE K (xOp f ma mb) σ H Q → tOp r (rE K ma) (rE K mb) σ H Q := by
  intro σ H Q ⟨ρ, e, S, d, S', re, g, h, k⟩
  unfold xOp at h
  split at h
  · cases h
  rename_i x S1 ea
  split at h
  · cases h
  rename_i y S2 eb
  exact ⟨ρ, e, S, x, _, re, g, ea, fun ρ1 H1 vx x1 g1 hx => ⟨ρ1, e, _, y, _, re.mono x1, g1, eb, fun ρ2 H2 vy x2 g2 hy =>
    o ρ2 H2 S2 x y d S' vx vy Q g2 (hx.mono x2) hy h fun ρ3 H3 v x3 g3 hv => k ρ3 H3 v ((x1.trans x2).trans x3) g3 hv⟩⟩
theorem r_op {f : D → D → Sto → Option (D × Sto)} {r : R2} {op : Operator} {ma mb : XE} (ho : OpR X (binaryOp op) r) (o : OpM X.K f r) (ha : PE X a (rE X.K ma)) (hb : PE X b (rE X.K mb)) : PE X (.BinOp a op b pos) (rE X.K (xOp f ma mb)) :=
  PE.imp (pe_op ho ha hb) (two o)
theorem r_cmp {f : D → D → Sto → Option (D × Sto)} {r : R2} {op : CmpOp} {ma mb : XE} (ho : OpR X (compareOp op) r) (o : OpM X.K f r) (ha : PE X a (rE X.K ma)) (hb : PE X b (rE X.K mb)) (hm : behindInMarks op b = false) : PE X (.Compare a [op] [b] pos) (rE X.K (xOp f ma mb)) :=
  PE.imp (pe_cmpR ho ha hb hm) (two o)
theorem r_ix {f : D → D → Sto → Option (D × Sto)} {r : R2} {ma mb : XE} (ho : IxR X r) (o : OpM X.K f r) (ha : PE X a (rE X.K ma)) (hb : PE X b (rE X.K mb)) (hs : PlainIx b) : PE X (.Subscript a b pos) (rE X.K (xOp f ma mb)) :=
  PE.imp (pe_ix ho ha hb hs) (two o)
theorem ra_nil : PA X [] (rL X.K xNil) := PA.imp pa_nil fun σ H Q ⟨ρ, e, S, ds, S', re, g, h, k⟩ => by
  cases h
  exact k ρ H [] .refl g .nil
theorem ra_cons {es : List Expr} {ma : XE} {l : XL} (ha : PE X a (rE X.K ma)) (hr : PA X es (rL X.K l)) (hs : starEach (a :: es) X.env = (false, eval a X.env) :: starEach es X.env := by rfl) : PA X (a :: es) (rL X.K (xCons ma l)) := by
  refine PA.imp (pa_cons ha hr hs) fun σ H Q ⟨ρ, e, S, ds, S', re, g, h, k⟩ => ?_
  unfold xCons at h
  split at h
  · cases h
  rename_i x S1 ea
  split at h
  · cases h
  rename_i xs S2 eb
  cases h
  exact ⟨ρ, e, S, x, _, re, g, ea, fun ρ1 H1 vx x1 g1 hx => ⟨ρ1, e, _, xs, _, re.mono x1, g1, eb, fun ρ2 H2 vs x2 g2 hvs => k ρ2 H2 (vx :: vs) (x1.trans x2) g2 (.cons (hx.mono x2) hvs)⟩⟩
theorem all_of {f : List D → Sto → Option (D × Sto)} {r : List V → Hp → VK → Prop} {l : XL} {K : PySem.W.Frag} (o : AllM K f r) : ∀ σ H Q, rE K (xAll f l) σ H Q → tCB r (rL K l) σ H Q := by
  intro σ H Q ⟨ρ, e, S, d, S', re, g, h, k⟩
  unfold xAll at h
  split at h
  · cases h
  rename_i xs S1 ea
  exact ⟨ρ, e, S, xs, _, re, g, ea, fun ρ1 H1 vs x1 g1 hx => o ρ1 H1 S1 xs d S' vs Q g1 hx h fun ρ3 H3 v x3 g3 hv => k ρ3 H3 v (x1.trans x3) g3 hv⟩
def mkTup (ds : List D) (S : Sto) : Option (D × Sto) := if ds.length ≤ 100000 then some (.tup ds, S) else none
def mkLst (ds : List D) (S : Sto) : Option (D × Sto) := if ds.length ≤ 100000 then some (.loc S.length, S ++ [.lst ds]) else none
theorem line5 {n : Nat} (h : n ≤ 100000) : n ≤ sizeLine := Nat.le_trans h (by decide)
theorem tup_new {K : PySem.W.Frag} {ρ : List Addr} {H : Hp} {S : Sto} {ds : List D} {vs : List V} {p : Addr} (g : G K ρ H S) (r : Reps K ρ H ds vs) (hp : H p = none) :
    Ext K ρ H ρ (upd H p (.tup vs)) ∧ G K ρ (upd H p (.tup vs)) S ∧ Rep K ρ (upd H p (.tup vs)) (.tup ds) (.ref p) :=
  ⟨ext_new hp, g.grow (ext_new hp) (upd_new hp), .tup (.inl (.inl upd_same)) (r.mono (ext_new hp))⟩
theorem lst_new {K : PySem.W.Frag} {ρ : List Addr} {H : Hp} {S : Sto} {ds : List D} {vs : List V} {p : Addr} (g : G K ρ H S) (r : Reps K ρ H ds vs) (hp : H p = none) :
    Ext K ρ H (ρ ++ [p]) (upd H p (.lst vs)) ∧ G K (ρ ++ [p]) (upd H p (.lst vs)) (S ++ [.lst ds]) ∧ Rep K (ρ ++ [p]) (upd H p (.lst vs)) (.loc S.length) (.ref p) := by
  obtain ⟨g1, x1⟩ := g.new (q := .lst ds) (o := .lst vs) hp rfl r
  exact ⟨x1, g1, .loc (by rw [← g.len]; simp)⟩
theorem r_tup {es : List Expr} {l : XL} {x1} (h : PA X es (rL X.K l)) : PE X (.Tuple es x1 pos) (rE X.K (xAll mkTup l)) := by
  refine PE.imp (pe_tup h) (all_of (r := fun xs H Q => xs.length ≤ sizeLine ∧ ∀ p, H p = none → Q (.ref p) (upd H p (.tup xs))) fun ρ H S ds d S' vs Q g hr h k => ?_)
  unfold mkTup at h
  split at h
  · rename_i hl
    cases h
    refine ⟨hr.length ▸ line5 hl, fun p hp => ?_⟩
    obtain ⟨x, g', r'⟩ := tup_new g hr hp
    exact k _ _ _ x g' r'
  · cases h
theorem r_lst {es : List Expr} {l : XL} (h : PA X es (rL X.K l)) : PE X (.List es pos) (rE X.K (xAll mkLst l)) := by
  refine PE.imp (pe_lst h) (all_of (r := fun xs H Q => xs.length ≤ sizeLine ∧ ∀ p, H p = none → Q (.ref p) (upd H p (.lst xs))) fun ρ H S ds d S' vs Q g hr h k => ?_)
  unfold mkLst at h
  split at h
  · rename_i hl
    cases h
    refine ⟨hr.length ▸ line5 hl, fun p hp => ?_⟩
    obtain ⟨x, g', r'⟩ := lst_new g hr hp
    exact k _ _ _ x g' r'
  · cases h
theorem r_one {op} {ma : XE} (ha : PE X a (rE X.K ma)) : PE X (.BoolOp op [a] pos) (rE X.K ma) := pe_one ha
theorem r_and {rest : List Expr} {ma mb : XE} (ha : PE X a (rE X.K ma)) (hb : PE X (.BoolOp .And (b :: rest) pos) (rE X.K mb)) : PE X (.BoolOp .And (a :: b :: rest) pos) (rE X.K (xAnd ma mb)) := by
  refine PE.imp (pe_and ha hb) fun σ H Q ⟨ρ, e, S, d, S', re, g, h, k⟩ => ?_
  unfold xAnd at h
  split at h
  · rename_i S1 ec
    refine ⟨ρ, e, S, _, _, re, g, ec, fun ρ1 H1 v x1 g1 hv => ?_⟩
    cases hv
    refine ⟨true, rfl, ?_⟩
    refine iteT ?_
    exact ⟨ρ1, e, _, d, S', re.mono x1, g1, h, fun ρ2 H2 v x2 g2 hv => k ρ2 H2 v (x1.trans x2) g2 hv⟩
  · rename_i S1 ec
    cases h
    refine ⟨ρ, e, S, _, _, re, g, ec, fun ρ1 H1 v x1 g1 hv => ?_⟩
    cases hv
    refine ⟨false, rfl, ?_⟩
    refine iteF ?_
    exact k ρ1 H1 _ x1 g1 (.bl false)
  · cases h
end

def truth (S : Sto) : D → Option Bool
  | .non => some false
  | .bl b => some b
  | .int i => some (i != 0)
  | .str x => if x.length ≤ 100000 then some ((x.length : Int) != 0) else none
  | .tup ds => some (!ds.isEmpty)
  | .loc n => match S[n]? with
    | some (.lst ds) => some (!ds.isEmpty)
    | some (.frz ds) => some (!ds.isEmpty)
    | _ => none
def bTru (a : XE) : XB := fun e S => match a e S with
  | none => none
  | some (x, S1) => match truth S1 x with
    | none => none
    | some b => some (b, S1)
def bVal (a : XE) : XB := fun e S => match a e S with
  | some (.bl t, S1) => some (t, S1)
  | _ => none
def bAnd (a b : XB) : XB := fun e S => match a e S with
  | none => none
  | some (true, S1) => b e S1
  | some (false, S1) => some (false, S1)
def bOr (a b : XB) : XB := fun e S => match a e S with
  | none => none
  | some (true, S1) => some (true, S1)
  | some (false, S1) => b e S1
def bNot (a : XB) : XB := fun e S => match a e S with
  | none => none
  | some (k, S1) => some (!k, S1)
theorem empty_of {K : PySem.W.Frag} {ρ : List Addr} {H : Hp} {ds : List D} {vs : List V} (r : Reps K ρ H ds vs) : (!ds.isEmpty) = !vs.isEmpty := by
  cases r <;> rfl
theorem RepO.sqL {K : PySem.W.Frag} {ρ : List Addr} {H : Hp} {a : Addr} {ds : List D} {q : O} (h : RepO K ρ H a q) (e : q = .lst ds ∨ q = .frz ds) : ∃ vs, SqL K H a vs ∧ Reps K ρ H ds vs := by
  rcases e with rfl | rfl
  · obtain ⟨u, h1, h2⟩ := h
    cases u with
    | lst vs => exact ⟨vs, .inl (.inl h1), h2⟩
    | _ => exact h2.elim
  · obtain ⟨vs, h1, h2⟩ := h
    refine ⟨vs, ?_, h2⟩
    rcases h1 with ⟨u, h1⟩ | h1
    · exact .inl (.inr ⟨u, h1⟩)
    · rcases h1 with (h1 | ⟨u, h1⟩) | h1
      · cases h1
      · cases h1
      · exact .inr h1
def lstAt (S : Sto) (n : Nat) : Option (List D) := match S[n]? with
  | some (.lst ds) => some ds
  | some (.frz ds) => some ds
  | some (.dct _) => none
  | none => none
theorem G.lst {K : PySem.W.Frag} {ρ : List Addr} {H : Hp} {S : Sto} {n : Nat} {a : Addr} {ds : List D} (g : G K ρ H S) (hn : ρ[n]? = some a) (h : lstAt S n = some ds) : ∃ vs, SqL K H a vs ∧ Reps K ρ H ds vs := by
  unfold lstAt at h
  split at h
  · rename_i ds' q
    cases h
    exact (g.ob n a _ hn q).sqL (.inl rfl)
  · rename_i ds' q
    cases h
    exact (g.ob n a _ hn q).sqL (.inr rfl)
  · cases h
  · cases h
theorem tru_rep {K : PySem.W.Frag} {ρ : List Addr} {H : Hp} {S : Sto} {d : D} {v : V} {k : Bool} (g : G K ρ H S) (r : Rep K ρ H d v) (h : truth S d = some k) : TruV K v H k := by
  cases r with
  | non => cases h; rfl
  | bl b => cases h; rfl
  | int i => cases h; rfl
  | str x =>
    have h' : (if x.length ≤ 100000 then some ((x.length : Int) != 0) else none) = some k := h
    split at h'
    · rename_i hl; cases h'; exact ⟨line5 hl, rfl⟩
    · cases h'
  | tup hs hr =>
    cases h
    exact .inr (.inl ⟨_, hs, empty_of hr⟩)
  | @loc n a hn =>
    have : ∃ ds, lstAt S n = some ds ∧ k = !ds.isEmpty := by
      have h' : (match S[n]? with | some (.lst ds) => some (!ds.isEmpty) | some (.frz ds) => some (!ds.isEmpty) | _ => none) = some k := h
      unfold lstAt
      split at h' <;> rename_i q <;> first | (cases h'; rw [q]; exact ⟨_, rfl, rfl⟩) | cases h'
    obtain ⟨ds, e, rfl⟩ := this
    obtain ⟨vs, h1, h2⟩ := g.lst hn e
    exact .inl ⟨vs, h1, empty_of h2⟩
section
variable {X : Cx} {a b c : Expr} {pos : Pos}
theorem r_tru {ma : XE} (ha : PE X a (rE X.K ma)) (he : ∀ whole, isTrue a X.env whole = (do let v ← whole; standAt a.pos; holding [v] (truthy v))) : PT X a (rB X.K (bTru ma)) := by
  refine PT.imp (pt_truth ha he) fun σ H Q ⟨ρ, e, S, d, S', re, g, h, k⟩ => ?_
  unfold bTru at h
  split at h
  · cases h
  rename_i x S1 ea
  split at h
  · cases h
  rename_i t et
  cases h
  exact ⟨ρ, e, S, x, _, re, g, ea, fun ρ1 H1 v x1 g1 hv => ⟨_, tru_rep g1 hv et, k ρ1 H1 x1 g1⟩⟩
theorem r_tcmp {f : D → D → Sto → Option (D × Sto)} {r : R2} {op : CmpOp} {ma mb : XE} (ho : OpR X (compareOp op) r) (o : OpM X.K f r) (ha : PE X a (rE X.K ma)) (hb : PE X b (rE X.K mb)) (hm : behindInMarks op b = false) : PT X (.Compare a [op] [b] pos) (rB X.K (bVal (xOp f ma mb))) := by
  refine PT.imp (pt_cmpR ho ha hb hm) fun σ H Q ⟨ρ, e, S, d, S', re, g, h, k⟩ => ?_
  unfold bVal at h
  split at h
  · rename_i t S1 ea
    cases h
    refine two o σ H _ ⟨ρ, e, S, _, _, re, g, ea, fun ρ1 H1 v x1 g1 hv => ?_⟩
    cases hv
    exact ⟨_, rfl, k ρ1 H1 x1 g1⟩
  · cases h
theorem rw_and1 {ma : XB} (ha : PT X a (rB X.K ma)) : PW X (.BoolOp .And [a] pos) (rB X.K ma) := pw_and1 ha
theorem rw_or1 {ma : XB} (ha : PT X a (rB X.K ma)) : PW X (.BoolOp .Or [a] pos) (rB X.K ma) := pw_or1 ha
theorem rw_and {rest : List Expr} {ma mb : XB} (ha : PT X a (rB X.K ma)) (hb : PW X (.BoolOp .And (b :: rest) pos) (rB X.K mb)) : PW X (.BoolOp .And (a :: b :: rest) pos) (rB X.K (bAnd ma mb)) := by
  refine PW.imp (pw_and ha hb) fun σ H Q ⟨ρ, e, S, d, S', re, g, h, k⟩ => ?_
  unfold bAnd at h
  split at h
  · cases h
  · rename_i S1 ec
    refine ⟨ρ, e, S, true, _, re, g, ec, fun ρ1 H1 x1 g1 => ?_⟩
    refine iteT ?_
    exact ⟨ρ1, e, _, d, S', re.mono x1, g1, h, fun ρ2 H2 x2 g2 => k ρ2 H2 (x1.trans x2) g2⟩
  · rename_i S1 ec
    cases h
    refine ⟨ρ, e, S, false, _, re, g, ec, fun ρ1 H1 x1 g1 => ?_⟩
    refine iteF ?_
    exact k ρ1 H1 x1 g1
theorem rw_or {rest : List Expr} {ma mb : XB} (ha : PT X a (rB X.K ma)) (hb : PW X (.BoolOp .Or (b :: rest) pos) (rB X.K mb)) : PW X (.BoolOp .Or (a :: b :: rest) pos) (rB X.K (bOr ma mb)) := by
  refine PW.imp (pw_or ha hb) fun σ H Q ⟨ρ, e, S, d, S', re, g, h, k⟩ => ?_
  unfold bOr at h
  split at h
  · cases h
  · rename_i S1 ec
    cases h
    refine ⟨ρ, e, S, true, _, re, g, ec, fun ρ1 H1 x1 g1 => ?_⟩
    refine iteT ?_
    exact k ρ1 H1 x1 g1
  · rename_i S1 ec
    refine ⟨ρ, e, S, false, _, re, g, ec, fun ρ1 H1 x1 g1 => ?_⟩
    refine iteF ?_
    exact ⟨ρ1, e, _, d, S', re.mono x1, g1, h, fun ρ2 H2 x2 g2 => k ρ2 H2 (x1.trans x2) g2⟩
theorem r_not {ma : XB} (ha : PT X a (rB X.K ma)) : PT X (.UnaryOp .Not a pos) (rB X.K (bNot ma)) := by
  refine PT.imp (pt_not ha) fun σ H Q ⟨ρ, e, S, d, S', re, g, h, k⟩ => ?_
  unfold bNot at h
  split at h
  · cases h
  rename_i t S1 ec
  cases h
  exact ⟨ρ, e, S, t, _, re, g, ec, k⟩
end
end Mini
end
section
namespace Mini
open PySem L2
variable [Tabs]

def sNil : XS := fun e S => some (.nx e S)
def sSeq (a b : XS) : XS := fun e S => match a e S with
  | some (.nx e1 S1) => b e1 S1
  | r => r
def sRet (m : XE) : XS := fun e S => match m e S with
  | none => none
  | some (d, S1) => some (.rt d S1)
def sExpr (m : XE) : XS := fun e S => match m e S with
  | none => none
  | some (_, S1) => some (.nx e S1)
def sIf (c : XB) (a b : XS) : XS := fun e S => match c e S with
  | none => none
  | some (true, S1) => a e S1
  | some (false, S1) => b e S1
abbrev XG := D → EnvD → Option EnvD
abbrev XGs := List D → EnvD → Option EnvD
def gN (i : Nat) : XG := fun d e => some (e.set i (some d))
def gsN : XGs := fun ds e => match ds with
  | [] => some e
  | _ => none
def gsC (g : XG) (u : XGs) : XGs := fun ds e => match ds with
  | [] => none
  | d :: r => match g d e with
    | none => none
    | some e1 => u r e1
def gT (n : Nat) (u : XGs) : XG := fun d e => match d with
  | .tup ds => if ds.length = n then u ds e else none
  | _ => none
def sAsg (m : XE) (g : XG) : XS := fun e S => match m e S with
  | none => none
  | some (d, S1) => match g d e with
    | none => none
    | some e1 => some (.nx e1 S1)
def sPut (f : D → D → D → Sto → Option Sto) (v o i : XE) : XS := fun e S => match v e S with
  | none => none
  | some (y, S1) => match o e S1 with
    | none => none
    | some (x, S2) => match i e S2 with
      | none => none
      | some (k, S3) => match f x k y S3 with
        | none => none
        | some S4 => some (.nx e S4)

def rG (K : PySem.W.Frag) (g : XG) : TG := fun v σ H Q => ∃ ρ e d e', RE K ρ H e σ ∧ Rep K ρ H d v ∧ g d e = some e' ∧ ∀ σ', RE K ρ H e' σ' → Q σ' H
def rGs (K : PySem.W.Frag) (u : XGs) : TGs := fun vs σ H Q => ∃ ρ e ds e', RE K ρ H e σ ∧ Reps K ρ H ds vs ∧ u ds e = some e' ∧ ∀ σ', RE K ρ H e' σ' → Q σ' H
def PutM (K : PySem.W.Frag) (f : D → D → D → Sto → Option Sto) (t : TSet) : Prop := ∀ ρ H S x i y S' vx vi vy (Q : Hp → Prop), G K ρ H S → Rep K ρ H x vx → Rep K ρ H i vi → Rep K ρ H y vy → f x i y S = some S' →
  (∀ ρ' H', Ext K ρ H ρ' H' → G K ρ' H' S' → Q H') → t vx vi vy H Q

section
variable {X : Cx} {st : Stmt} {rest : List Stmt} {e : Expr} {pos : Pos}
theorem rs_nil : PSs X [] (rS X.K sNil) := PSs.imp pss_nil fun E σ H ⟨ρ, e, S, r, re, g, h, k⟩ => by
  cases h
  exact k ρ H σ .refl g re
theorem rs_cons {a b : XS} (h1 : PS X st (rS X.K a)) (h2 : PSs X rest (rS X.K b)) : PSs X (st :: rest) (rS X.K (sSeq a b)) := by
  refine PSs.imp (pss_cons h1 h2) fun E σ H ⟨ρ, e, S, r, re, g, h, k⟩ => ?_
  unfold sSeq at h
  split at h
  · rename_i e1 S1 ea
    exact ⟨ρ, e, S, .nx e1 S1, re, g, ea, fun ρ1 H1 σ1 x1 g1 re1 => ⟨ρ1, e1, S1, r, re1, g1, h, k.mono x1⟩⟩
  · rename_i o no
    refine ⟨ρ, e, S, r, re, g, h, ?_⟩
    cases r with
    | nx e1 S1 => exact absurd h (no e1 S1)
    | rt _ _ => exact k
    | bk _ _ => exact k
    | ct _ _ => exact k
theorem rs_ret {m : XE} (he : PE X e (rE X.K m)) : PS X (.Return (some e) pos) (rS X.K (sRet m)) := by
  refine PS.imp (ps_ret he) fun E σ H ⟨ρ, e, S, r, re, g, h, k⟩ => ?_
  unfold sRet at h
  split at h
  · cases h
  · rename_i d S1 ea
    cases h
    exact ⟨ρ, e, S, d, S1, re, g, ea, k⟩
theorem rs_expr {m : XE} (he : PE X e (rE X.K m)) (hs : swapsWith e none pos.line X.env = pure false := by rfl) : PS X (.Expr e pos) (rS X.K (sExpr m)) := by
  refine PS.imp (ps_expr he hs) fun E σ H ⟨ρ, e, S, r, re, g, h, k⟩ => ?_
  unfold sExpr at h
  split at h
  · cases h
  · rename_i d S1 ea
    cases h
    exact ⟨ρ, e, S, d, S1, re, g, ea, fun ρ1 H1 v x1 g1 _ => k ρ1 H1 σ x1 g1 (re.mono x1)⟩
theorem rs_if {c : Expr} {a b : List Stmt} {mc : XB} {ma mb : XS} (hc : PT X c (rB X.K mc)) (ha : PSs X a (rS X.K ma)) (hb : PSs X b (rS X.K mb)) : PS X (.If c a b pos) (rS X.K (sIf mc ma mb)) := by
  refine PS.imp (ps_if hc ha hb) fun E σ H ⟨ρ, e, S, r, re, g, h, k⟩ => ?_
  unfold sIf at h
  split at h
  · cases h
  · rename_i S1 ec
    refine ⟨ρ, e, S, true, _, re, g, ec, fun ρ1 H1 x1 g1 => ?_⟩
    refine iteT ?_
    exact ⟨ρ1, e, S1, r, re.mono x1, g1, h, k.mono x1⟩
  · rename_i S1 ec
    refine ⟨ρ, e, S, false, _, re, g, ec, fun ρ1 H1 x1 g1 => ?_⟩
    refine iteF ?_
    exact ⟨ρ1, e, S1, r, re.mono x1, g1, h, k.mono x1⟩
theorem PG.imp {t : Expr} {g g' : TG} (h : PG X t g) (i : ∀ v σ H Q, g' v σ H Q → g v σ H Q) : PG X t g' := ⟨fun pins s σ H v u Q I r q => h.run pins s σ H v u Q I r (i _ _ _ _ q)⟩
theorem PGs.imp {t : List Expr} {g g' : TGs} (h : PGs X t g) (i : ∀ v σ H Q, g' v σ H Q → g v σ H Q) : PGs X t g' := ⟨fun pins s σ H v u Q I r q => h.run pins s σ H v u Q I r (i _ _ _ _ q)⟩
theorem rg_name (i : Nat) {x : Str} (hN : X.N.Nodup) (hi : X.N[i]? = some x) (hx : Loc X.env.scope x) (hf : X.fn x = true ∨ X.env.scope.names.lookup x = some .local := by first | exact .inl rfl | exact .inr rfl | assumption) : PG X (.Name x pos) (rG X.K (gN i)) :=
  PG.imp (pg_name hN hi hx hf) fun v σ H Q ⟨ρ, e, d, e', re, r, h, k⟩ => by
    cases h
    exact k _ (re.set i r)
theorem rgs_nil : PGs X [] (rGs X.K gsN) := PGs.imp pgs_nil fun v σ H Q ⟨ρ, e, d, e', re, r, h, k⟩ => by
  cases r with
  | nil => cases h; exact ⟨rfl, k _ re⟩
  | cons _ _ => cases h
theorem rgs_cons {t : Expr} {ts : List Expr} {g : XG} {u : XGs} (h1 : PG X t (rG X.K g)) (h2 : PGs X ts (rGs X.K u))
    (ha : (assignEach (t :: ts) X.env).map (·.2) = assign t X.env :: (assignEach ts X.env).map (·.2) := by rfl) : PGs X (t :: ts) (rGs X.K (gsC g u)) := by
  refine PGs.imp (pgs_cons h1 h2 ha) fun v σ H Q ⟨ρ, e, ds, e', re, r, h, k⟩ => ?_
  cases r with
  | nil => cases h
  | @cons d0 v0 ds0 vs0 hr hrs =>
    have h' : (match g d0 e with | none => none | some e1 => u ds0 e1) = some e' := h
    split at h'
    · cases h'
    rename_i e1 ea
    exact ⟨_, _, rfl, ρ, e, _, e1, re, hr, ea, fun σ1 re1 => ⟨ρ, e1, _, e', re1, hrs, h', k⟩⟩
theorem rg_tup {ts : List Expr} {kk : Nat} {u : XGs} {n : Nat} (hc : X.calm = true) (h : PGs X ts (rGs X.K u))
    (hn : (assignEach ts X.env).length = n := by rfl) (hst : (assignEach ts X.env).findIdx? (·.1) = none := by rfl) : PG X (.Tuple ts kk pos) (rG X.K (gT n u)) := by
  refine PG.imp (pg_tup (n := n) hc h hn hst) fun v σ H Q ⟨ρ, e, d, e', re, r, h, k⟩ => ?_
  unfold gT at h
  split at h
  · rename_i ds
    split at h
    · rename_i hl
      cases r with
      | tup hs hr => exact ⟨_, _, rfl, hs, hr.length ▸ hl, ρ, e, ds, e', re, hr, h, k⟩
    · cases h
  · cases h
theorem rs_asg {tg : Expr} {m : XE} {g : XG} (he : PE X e (rE X.K m)) (hg : PG X tg (rG X.K g)) (hs : swapsWithSole [tg] e pos.line X.env = pure false := by rfl) (hw : swappedStores [tg] e X.env = pure none := by rfl)
    (h1 : (assignEach [tg] X.env).map (·.2) = [assign tg X.env] := by rfl) : PS X (.Assign [tg] e pos) (rS X.K (sAsg m g)) := by
  refine PS.imp (ps_asg he hg hs hw h1) fun E σ H ⟨ρ, e, S, r, re, g, h, k⟩ => ?_
  unfold sAsg at h
  split at h
  · cases h
  rename_i d S1 ea
  split at h
  · cases h
  rename_i e1 eg
  cases h
  exact ⟨ρ, e, S, d, S1, re, g, ea, fun ρ1 H1 v x1 g1 hv => ⟨ρ1, e, d, e1, re.mono x1, hv, eg, fun σ1 re1 => k ρ1 H1 σ1 x1 g1 re1⟩⟩
theorem rs_put {o i v : Expr} {mo mi mv : XE} {f : D → D → D → Sto → Option Sto} {t : TSet} {tpos : Pos} (hp : PSet X t) (pm : PutM X.K f t) (hv : PE X v (rE X.K mv)) (ho : PE X o (rE X.K mo)) (hi : PE X i (rE X.K mi))
    (hs : swapsWithSole [.Subscript o i tpos] v pos.line X.env = pure false := by rfl) (hw : swappedStores [.Subscript o i tpos] v X.env = pure none := by rfl)
    (h1 : (assignEach [.Subscript o i tpos] X.env).map (·.2) = [assign (.Subscript o i tpos) X.env] := by rfl)
    (h2 : ∀ u, assign (.Subscript o i tpos) X.env u = (do
      let ov ← holding [u] (eval o X.env)
      let iv ← holding [u, ov] (eval i X.env)
      standAt tpos
      holding [u, ov, iv] (setItem ov iv u)
      release [u, ov, iv] []) := by intro _; rfl) : PS X (.Assign [.Subscript o i tpos] v pos) (rS X.K (sPut f mv mo mi)) := by
  refine PS.imp (ps_asg hv (pg_sub ho hi hp h2) hs hw h1) fun E σ H ⟨ρ, e, S, r, re, g, h, k⟩ => ?_
  unfold sPut at h
  split at h
  · cases h
  rename_i y S1 ey
  split at h
  · cases h
  rename_i x S2 ex
  split at h
  · cases h
  rename_i kk S3 ek
  split at h
  · cases h
  rename_i S4 ef
  cases h
  refine ⟨ρ, e, S, y, S1, re, g, ey, fun ρ1 H1 vy x1 g1 hy => ⟨ρ1, e, S1, x, S2, re.mono x1, g1, ex, fun ρ2 H2 vx x2 g2 hx => ⟨ρ2, e, S2, kk, S3, re.mono (x1.trans x2), g2, ek, fun ρ3 H3 vk x3 g3 hk => ?_⟩⟩⟩
  exact pm ρ3 H3 S3 x kk y S4 vx vk vy _ g3 (hx.mono x3) hk (hy.mono (x2.trans x3)) ef fun ρ4 H4 x4 g4 => k ρ4 H4 σ (((x1.trans x2).trans x3).trans x4) g4 (re.mono (((x1.trans x2).trans x3).trans x4))
end
end Mini
end
section
namespace Mini
open PySem L2
variable [Tabs]

def forL (g : XG) (b : XS) : List D → EnvD → Sto → Option Res
  | [], e, S => some (.nx e S)
  | d :: ds, e, S => match g d e with
    | none => none
    | some e1 => match b e1 S with
      | none => none
      | some (.nx e2 S2) => forL g b ds e2 S2
      | some (.ct e2 S2) => forL g b ds e2 S2
      | some (.bk e2 S2) => some (.nx e2 S2)
      | some (.rt d S2) => some (.rt d S2)
def forV (n : Nat) (g : XG) (b : XS) : Nat → Nat → EnvD → Sto → Option Res
  | 0, _, _, _ => none
  | k + 1, i, e, S => match lstAt S n with
    | none => none
    | some ds => match ds[i]? with
      | none => some (.nx e S)
      | some d => match g d e with
        | none => none
        | some e1 => match b e1 S with
          | none => none
          | some (.nx e2 S2) => forV n g b k (i + 1) e2 S2
          | some (.ct e2 S2) => forV n g b k (i + 1) e2 S2
          | some (.bk e2 S2) => some (.nx e2 S2)
          | some (.rt d S2) => some (.rt d S2)
inductive Walk where
  | fix (ds : List D)
  | live (n : Nat)
abbrev XW := EnvD → Sto → Option (Walk × Sto)
def turns : Nat := 20000000
def sFor (w : XW) (g : XG) (b : XS) : XS := fun e S => match w e S with
  | none => none
  | some (.fix ds, S1) => forL g b ds e S1
  | some (.live n, S1) => forV n g b turns 0 e S1

def WalkOk (K : PySem.W.Frag) (ρ : List Addr) (H : Hp) (J : It) : Walk → Prop
  | .fix ds => (∀ ρ' H', Ext K ρ H ρ' H' → J.stop ds.length H') ∧ ∀ (i : Nat) (d : D), ds[i]? = some d → ∀ ρ' H', Ext K ρ H ρ' H' → J.go i H' ∧
      ∀ x H2, J.yld i H' x H2 → ∀ S, G K ρ' H' S → Ext K ρ' H' ρ' H2 ∧ G K ρ' H2 S ∧ Rep K ρ' H2 d x
  | .live n => ∃ a, ρ[n]? = some a ∧ J = Itl K a
def rW (K : PySem.W.Frag) (w : XW) : TI := fun σ H R => ∃ ρ e S wk S', RE K ρ H e σ ∧ G K ρ H S ∧ w e S = some (wk, S') ∧ ∀ ρ' H' J, Ext K ρ H ρ' H' → G K ρ' H' S' → WalkOk K ρ' H' J wk → R J H'

section
variable {X : Cx} {st : Stmt} {rest : List Stmt} {e : Expr} {pos : Pos}
theorem for_fix {K : PySem.W.Frag} {J : It} {ds : List D} {ρ0 : List Addr} {H0 : Hp} {g : XG} {b : XS} {E : Ends} {σ : L2.St} {e : EnvD} {S : Sto} {r : Res} (re : RE K ρ0 H0 e σ) (gg : G K ρ0 H0 S) (w : WalkOk K ρ0 H0 J (.fix ds)) (h : forL g b ds e S = some r) (k : After K ρ0 H0 E r) :
    ∃ W : Nat → Nat → L2.St → Hp → Prop, (∃ m, W 0 m σ H0) ∧ ∀ i m σ H, W i m σ H → (J.stop i H ∧ E.nx σ H) ∨ (J.go i H ∧ ∃ N : L2.St → Hp → Prop, (∀ σ' H', N σ' H' → ∃ m', m' < m ∧ W (i + 1) m' σ' H') ∧
      ∀ x H', J.yld i H x H' → rG K g x σ H' fun σ2 H2 => rS K b { E with nx := N, ct := N, bk := E.nx } σ2 H2) := by
  refine ⟨fun i m σ H => m = ds.length - i ∧ i ≤ ds.length ∧ ∃ ρ e S r, Ext K ρ0 H0 ρ H ∧ RE K ρ H e σ ∧ G K ρ H S ∧ forL g b (ds.drop i) e S = some r ∧ After K ρ H E r, ⟨_, rfl, Nat.zero_le _, ρ0, e, S, r, .refl, re, gg, h, k⟩, ?_⟩
  rintro i m σ H ⟨rfl, hi, ρ, e, S, r, x0, re, gg, h, k⟩
  by_cases hlt : i < ds.length
  · obtain ⟨q1, q2⟩ := w.2 i ds[i] (List.getElem?_eq_getElem hlt) ρ H x0
    rw [List.drop_eq_getElem_cons hlt] at h
    have h' : (match g ds[i] e with
      | none => none
      | some e1 => match b e1 S with
        | none => none
        | some (.nx e2 S2) => forL g b (ds.drop (i + 1)) e2 S2
        | some (.ct e2 S2) => forL g b (ds.drop (i + 1)) e2 S2
        | some (.bk e2 S2) => some (.nx e2 S2)
        | some (.rt d S2) => some (.rt d S2)) = some r := h
    split at h'
    · cases h'
    rename_i e1 eg
    refine .inr ⟨q1, fun σ H => ∃ ρ e S r, Ext K ρ0 H0 ρ H ∧ RE K ρ H e σ ∧ G K ρ H S ∧ forL g b (ds.drop (i + 1)) e S = some r ∧ After K ρ H E r, fun σ' H' n => ⟨ds.length - (i + 1), by omega, rfl, hlt, n⟩, fun x H' y => ?_⟩
    obtain ⟨x1, g1, rx⟩ := q2 x H' y S gg
    refine ⟨ρ, e, ds[i], e1, re.mono x1, rx, eg, fun σ1 re1 => ?_⟩
    split at h'
    · cases h'
    · rename_i e2 S2 eb
      exact ⟨ρ, e1, S, .nx e2 S2, re1, g1, eb, fun ρ2 H2 σ2 x2 g2 re2 => ⟨ρ2, e2, S2, r, (x0.trans x1).trans x2, re2, g2, h', k.mono (x1.trans x2)⟩⟩
    · rename_i e2 S2 eb
      exact ⟨ρ, e1, S, .ct e2 S2, re1, g1, eb, fun ρ2 H2 σ2 x2 g2 re2 => ⟨ρ2, e2, S2, r, (x0.trans x1).trans x2, re2, g2, h', k.mono (x1.trans x2)⟩⟩
    · rename_i e2 S2 eb
      cases h'
      exact ⟨ρ, e1, S, .bk e2 S2, re1, g1, eb, fun ρ2 H2 σ2 x2 g2 re2 => k ρ2 H2 σ2 (x1.trans x2) g2 re2⟩
    · rename_i d2 S2 eb
      cases h'
      exact ⟨ρ, e1, S, .rt d2 S2, re1, g1, eb, fun ρ2 H2 v x2 g2 hv => k ρ2 H2 v (x1.trans x2) g2 hv⟩
  · have ei : i = ds.length := by omega
    subst ei
    rw [List.drop_length] at h
    cases h
    exact .inl ⟨w.1 ρ H x0, k ρ H σ .refl gg re⟩
theorem for_live {K : PySem.W.Frag} {n : Nat} {a : Addr} {ρ0 : List Addr} {H0 : Hp} {g : XG} {b : XS} {E : Ends} {σ : L2.St} {e : EnvD} {S : Sto} {r : Res} (t : Nat) (re : RE K ρ0 H0 e σ) (gg : G K ρ0 H0 S) (hn : ρ0[n]? = some a) (h : forV n g b t 0 e S = some r) (k : After K ρ0 H0 E r) :
    ∃ W : Nat → Nat → L2.St → Hp → Prop, (∃ m, W 0 m σ H0) ∧ ∀ i m σ H, W i m σ H → ((Itl K a).stop i H ∧ E.nx σ H) ∨ ((Itl K a).go i H ∧ ∃ N : L2.St → Hp → Prop, (∀ σ' H', N σ' H' → ∃ m', m' < m ∧ W (i + 1) m' σ' H') ∧
      ∀ x H', (Itl K a).yld i H x H' → rG K g x σ H' fun σ2 H2 => rS K b { E with nx := N, ct := N, bk := E.nx } σ2 H2) := by
  refine ⟨fun i m σ H => ∃ ρ e S r, Ext K ρ0 H0 ρ H ∧ RE K ρ H e σ ∧ G K ρ H S ∧ forV n g b m i e S = some r ∧ After K ρ H E r, ⟨_, ρ0, e, S, r, .refl, re, gg, h, k⟩, ?_⟩
  rintro i m σ H ⟨ρ, e, S, r, x0, re, gg, h, k⟩
  cases m with
  | zero => cases h
  | succ m =>
    have h' : (match lstAt S n with
      | none => none
      | some ds => match ds[i]? with
        | none => some (.nx e S)
        | some d => match g d e with
          | none => none
          | some e1 => match b e1 S with
            | none => none
            | some (.nx e2 S2) => forV n g b m (i + 1) e2 S2
            | some (.ct e2 S2) => forV n g b m (i + 1) e2 S2
            | some (.bk e2 S2) => some (.nx e2 S2)
            | some (.rt d S2) => some (.rt d S2)) = some r := h
    split at h'
    · cases h'
    rename_i ds el
    obtain ⟨vs, hs, hr⟩ := gg.lst (pre_get x0.pre hn) el
    split at h'
    · rename_i ed
      cases h'
      exact .inl ⟨⟨vs, hs, by rw [← hr.length]; exact List.getElem?_eq_none_iff.mp ed⟩, k ρ H σ .refl gg re⟩
    rename_i d ed
    obtain ⟨v, hv, rv⟩ := hr.get ed
    split at h'
    · cases h'
    rename_i e1 eg
    refine .inr ⟨⟨vs, v, hs, hv⟩, fun σ H => ∃ ρ e S r, Ext K ρ0 H0 ρ H ∧ RE K ρ H e σ ∧ G K ρ H S ∧ forV n g b m (i + 1) e S = some r ∧ After K ρ H E r, fun σ' H' q => ⟨m, Nat.lt_succ_self m, q⟩, fun x H' y => ?_⟩
    obtain ⟨rfl, y2⟩ := y
    have ex := y2 vs hs
    rw [hv] at ex
    cases ex
    refine ⟨ρ, e, d, e1, re, rv, eg, fun σ1 re1 => ?_⟩
    split at h'
    · cases h'
    · rename_i e2 S2 eb
      exact ⟨ρ, e1, S, .nx e2 S2, re1, gg, eb, fun ρ2 H2 σ2 x2 g2 re2 => ⟨ρ2, e2, S2, r, x0.trans x2, re2, g2, h', k.mono x2⟩⟩
    · rename_i e2 S2 eb
      exact ⟨ρ, e1, S, .ct e2 S2, re1, gg, eb, fun ρ2 H2 σ2 x2 g2 re2 => ⟨ρ2, e2, S2, r, x0.trans x2, re2, g2, h', k.mono x2⟩⟩
    · rename_i e2 S2 eb
      cases h'
      exact ⟨ρ, e1, S, .bk e2 S2, re1, gg, eb, k⟩
    · rename_i d2 S2 eb
      cases h'
      exact ⟨ρ, e1, S, .rt d2 S2, re1, gg, eb, k⟩
theorem rs_for {tg iter : Expr} {body : List Stmt} {w : XW} {g : XG} {b : XS} (hp : PassesOwn (model X.prog X.w) X.A X.env X.xe) (hc : X.calm = true) (hi : PI X tg iter (rW X.K w)) (hg : PG X tg (rG X.K g)) (hb : PSs X body (rS X.K b))
    (hs : ∀ x, foldedSetIterable iter X.env x = pure x := by intro _; rfl) : PS X (.For tg iter body [] pos) (rS X.K (sFor w g b)) := by
  refine PS.imp (ps_for hp hc hi hg hb hs) fun E σ H ⟨ρ, e, S, r, re, gg, h, k⟩ => ?_
  unfold sFor at h
  split at h
  · cases h
  · rename_i ds S1 ew
    refine ⟨ρ, e, S, .fix ds, S1, re, gg, ew, fun ρ1 H1 J x1 g1 wk => ?_⟩
    exact for_fix (re.mono x1) g1 wk h (k.mono x1)
  · rename_i n S1 ew
    refine ⟨ρ, e, S, .live n, S1, re, gg, ew, fun ρ1 H1 J x1 g1 wk => ?_⟩
    obtain ⟨a, ha, rfl⟩ := wk
    exact for_live turns (re.mono x1) g1 ha h (k.mono x1)

theorem PI.imp {tg iter : Expr} {w w' : TI} (h : PI X tg iter w) (i : ∀ σ H R, w' σ H R → w σ H R) : PI X tg iter w' := ⟨fun pins s σ H R I q => h.run pins s σ H R I (i _ _ _ q)⟩
def wLst (m : XE) : XW := fun e S => match m e S with
  | some (.loc n, S1) => match lstAt S1 n with
    | some _ => some (.live n, S1)
    | none => none
  | _ => none
def wTup (m : XE) : XW := fun e S => match m e S with
  | some (.tup ds, S1) => some (.fix ds, S1)
  | _ => none
def rngD (lo hi : Int) : List D := (List.range (hi - lo).toNat).map fun (k : Nat) => .int (lo + k)
def smallI (i : Int) : Bool := decide (-1000000 ≤ i) && decide (i ≤ 1000000)
def wRng1 (m : XE) : XW := fun e S => match m e S with
  | some (.int j, S1) => if smallI j = true then some (.fix (rngD 0 j), S1) else none
  | _ => none
def wRng2 (m n : XE) : XW := fun e S => match m e S with
  | some (.int i, S1) => match n e S1 with
    | some (.int j, S2) => if (smallI i && smallI j) = true then some (.fix (rngD i j), S2) else none
    | _ => none
  | _ => none
theorem rw_lst {tg l : Expr} {m : XE} (hl : PE X l (rE X.K m)) : PI X tg l (rW X.K (wLst m)) := by
  refine PI.imp (pi_list hl) fun σ H R ⟨ρ, e, S, wk, S', re, g, h, k⟩ => ?_
  unfold wLst at h
  split at h
  · rename_i n S1 em
    split at h
    · rename_i ds el
      cases h
      refine ⟨ρ, e, S, _, _, re, g, em, fun ρ1 H1 v x1 g1 hv => ?_⟩
      cases hv with
      | loc hn =>
        obtain ⟨vs, hs, _⟩ := g1.lst hn el
        exact ⟨_, rfl, ⟨vs, hs⟩, k ρ1 H1 _ x1 g1 ⟨_, hn, rfl⟩⟩
    · cases h
  · cases h
theorem rw_tup {tg l : Expr} {m : XE} (hl : PE X l (rE X.K m)) : PI X tg l (rW X.K (wTup m)) := by
  refine PI.imp (pi_tup hl) fun σ H R ⟨ρ, e, S, wk, S', re, g, h, k⟩ => ?_
  unfold wTup at h
  split at h
  · rename_i ds S1 em
    cases h
    refine ⟨ρ, e, S, _, _, re, g, em, fun ρ1 H1 v x1 g1 hv => ?_⟩
    cases hv with
    | tup hs hr =>
      refine ⟨_, rfl, ⟨_, hs⟩, k ρ1 H1 _ x1 g1 ⟨fun ρ2 H2 x2 => ⟨_, x2.tup _ _ hs, by rw [hr.length]; exact Nat.le_refl _⟩, fun i d hd ρ2 H2 x2 => ?_⟩⟩
      obtain ⟨v, hv, rv⟩ := hr.get hd
      refine ⟨⟨_, v, x2.tup _ _ hs, hv⟩, fun x H3 y S3 g3 => ?_⟩
      obtain ⟨rfl, y2⟩ := y
      have ex := y2 _ (x2.tup _ _ hs)
      rw [hv] at ex
      cases ex
      exact ⟨.refl, g3, rv.mono x2⟩
  · cases h
theorem rng_ok {K : PySem.W.Frag} {ρ : List Addr} {H : Hp} {lo hi : Int} : WalkOk K ρ H (Itr lo (hi - lo).toNat) (.fix (rngD lo hi)) := by
  have hl : (rngD lo hi).length = (hi - lo).toNat := by simp [rngD]
  refine ⟨fun ρ' H' _ => by rw [hl]; exact Nat.le_refl _, fun i d hd ρ' H' x => ?_⟩
  have hi' : i < (hi - lo).toNat := hl ▸ (List.getElem?_eq_some_iff.mp hd).1
  have ed : d = .int (lo + (i : Int)) := by
    unfold rngD at hd
    rw [List.getElem?_map, List.getElem?_range hi'] at hd
    cases hd
    rfl
  subst ed
  refine ⟨hi', fun v H2 y S g => ?_⟩
  obtain ⟨rfl, rfl⟩ := y
  exact ⟨.refl, g, .int _⟩
theorem small_b {i : Int} (h : smallI i = true) : -(2 ^ 62) ≤ i ∧ i < 2 ^ 62 := by
  unfold smallI at h
  simp only [Bool.and_eq_true, decide_eq_true_eq] at h
  omega
theorem rw_rng1 {tg a : Expr} {m : XE} {p : Pos} (hg : Gl X "range") (hm : X.mg "range" = none) (ha : PE X a (rE X.K m)) (hs : starEach [a] X.env = [(false, eval a X.env)] := by rfl) : PI X tg (.Call (.Name "range" p) [a] [] pos) (rW X.K (wRng1 m)) := by
  refine PI.imp (pi_range1 hg hm (pa_cons ha pa_nil hs) hs) fun σ H R ⟨ρ, e, S, wk, S', re, g, h, k⟩ => ?_
  unfold wRng1 at h
  split at h
  · rename_i j S1 em
    split at h
    · rename_i hsm
      cases h
      refine ⟨ρ, e, S, _, _, re, g, em, fun ρ1 H1 v x1 g1 hv => ?_⟩
      cases hv
      obtain ⟨b1, b2⟩ := small_b hsm
      have q := k ρ1 H1 (Itr 0 (j - 0).toNat) x1 g1 rng_ok
      rw [Int.sub_zero] at q
      exact ⟨j, rfl, b1, b2, q⟩
    · cases h
  · cases h
theorem rw_rng2 {tg a b : Expr} {m n : XE} {p : Pos} (hg : Gl X "range") (hm : X.mg "range" = none) (ha : PE X a (rE X.K m)) (hb : PE X b (rE X.K n)) (hs : starEach [a, b] X.env = [(false, eval a X.env), (false, eval b X.env)] := by rfl) (hs2 : starEach [b] X.env = [(false, eval b X.env)] := by rfl) :
    PI X tg (.Call (.Name "range" p) [a, b] [] pos) (rW X.K (wRng2 m n)) := by
  refine PI.imp (pi_range2 hg hm (pa_cons ha (pa_cons hb pa_nil hs2) (by rw [hs, hs2])) hs hs2) fun σ H R ⟨ρ, e, S, wk, S', re, g, h, k⟩ => ?_
  unfold wRng2 at h
  split at h
  · rename_i i S1 em
    split at h
    · rename_i j S2 en
      split at h
      · rename_i hsm
        cases h
        rw [Bool.and_eq_true] at hsm
        refine ⟨ρ, e, S, _, _, re, g, em, fun ρ1 H1 v x1 g1 hv => ⟨ρ1, e, _, _, _, re.mono x1, g1, en, fun ρ2 H2 v2 x2 g2 hv2 => ?_⟩⟩
        cases hv
        cases hv2
        obtain ⟨b1, b2⟩ := small_b hsm.1
        obtain ⟨b3, b4⟩ := small_b hsm.2
        exact ⟨i, j, rfl, ⟨b1, b2, b3, b4⟩, k ρ2 H2 _ (x1.trans x2) g2 rng_ok⟩
      · cases h
    · cases h
  · cases h

end
end Mini
end
section
namespace Mini
open PySem PySem.Spec PyProof.Rows L2
variable [Tabs]

structure Rm (c n : Nat) (A : Around) : Prop where
  hd : A.handled = none
  dp : A.depth + c * n + 8 < recursionLimit
  un : A.units + 7 * (c * n) + 300 < cLine
theorem Rm.mono {c m n : Nat} {A : Around} (r : Rm c n A) (h : m ≤ n) : Rm c m A := by
  have hm : c * m ≤ c * n := Nat.mul_le_mul_left c h
  exact ⟨r.hd, by have := r.dp; omega, by have := r.un; omega⟩
theorem Rm.step {c n : Nat} {A : Around} (hc : 1 ≤ c) (r : Rm c (n + 1) A) (env : Env) : Rm c n (A.deeper env) := by
  have hm : c * (n + 1) = c * n + c := Nat.mul_succ c n
  refine ⟨r.hd, ?_, ?_⟩
  · have := r.dp
    show A.depth + 1 + c * n + 8 < _
    omega
  · have := r.un
    show A.units + 3 + 7 * (c * n) + 300 < _
    omega
structure Rs (c n j : Nat) (A : Around) : Prop where
  hd : A.handled = none
  dp : A.depth + c * n + j + 8 < recursionLimit
  un : A.units + 7 * (c * n) + 8 * j + 300 < cLine
theorem Rs.rm {c n j : Nat} {A : Around} (r : Rs c n j A) : Rm c n A := ⟨r.hd, by have := r.dp; omega, by have := r.un; omega⟩
theorem Rm.enter {c n : Nat} {A : Around} (hc : 1 ≤ c ∧ c ≤ 5) (r : Rm c (n + 1) A) (env : Env) : Rs c n (c - 1) (A.deeper env) := by
  have hm : c * (n + 1) = c * n + c := Nat.mul_succ c n
  refine ⟨r.hd, ?_, ?_⟩
  · have := r.dp
    show A.depth + 1 + c * n + (c - 1) + 8 < _
    omega
  · have := r.un
    show A.units + 3 + 7 * (c * n) + 8 * (c - 1) + 300 < _
    omega
theorem Rs.near {c n j : Nat} {A A' : Around} (r : Rs c n (j + 1) A) (h : A'.handled = none ∧ A'.depth = A.depth + 1 ∧ A'.units ≤ A.units + 8) : Rs c n j A' := by
  obtain ⟨h1, h2, h3⟩ := h
  exact ⟨h1, by have := r.dp; omega, by have := r.un; omega⟩
theorem Rs.un250 {c n j : Nat} {A : Around} (r : Rs c n j A) : A.units + 250 < cLine := by have := r.un; omega
theorem Rs.dp0 {c n j : Nat} {A : Around} (r : Rs c n j A) : A.depth < recursionLimit := by have := r.dp; omega
theorem Rm.un250 {c n : Nat} {A : Around} (r : Rm c n A) : A.units + 250 < cLine := by have := r.un; omega
structure FnAt (P : Program) (w : World) (K : PySem.W.Frag) (mg : Str → Option Value) (base : Heap) (c n : Nat) (f : Addr) (fd : FuncData) (ps : List Str) (m : List D → Sto → Option (D × Sto)) : Prop where
  run : ∀ (A : Around) (outer : List Env) (s : Shared) (H : Hp) (args : Args) (us : List Value) (vs : List V) (ds : List D) (ρ : List Addr) (S S' : Sto) (d : D) (Q : VK),
    Rm c n A → Env0 P w K mg base A outer s H → BindsTo s fd args (ps.zip us) → Vals vs us → Reps K ρ H ds vs → G K ρ H S → ds.length = ps.length → m ds S = some (d, S') →
    (∀ ρ' H' v, Ext K ρ H ρ' H' → G K ρ' H' S' → Rep K ρ' H' d v → Q v H') →
    codeAny (model P w) A (.call (.ref f) args) (CR CX0 outer P w H s Q E0) s
theorem FnAt.none {P : Program} {w : World} {K : PySem.W.Frag} {mg : Str → Option Value} {base : Heap} {c n : Nat} {f : Addr} {fd : FuncData} {ps : List Str} : FnAt P w K mg base c n f fd ps fun _ _ => none :=
  ⟨fun _ _ _ _ _ _ _ _ _ _ _ _ _ _ _ _ _ _ _ _ h => nomatch h⟩

def entry (k : Nat) (ds : List D) : EnvD := ds.map some ++ List.replicate (k - ds.length) none
def ends : Option Res → Option (D × Sto)
  | some (.rt d S) => some (d, S)
  | some (.nx _ S) => some (.non, S)
  | _ => none
theorem re_entry {K : PySem.W.Frag} {ρ : List Addr} {H : Hp} {N : List Str} {ds : List D} {vs : List V} (r : Reps K ρ H ds vs) : RE K ρ H (entry N.length ds) (L2.start N vs) := by
  have hl := r.length
  refine ⟨?_, fun i d h => ?_⟩
  · unfold entry L2.start
    rw [List.length_append, List.length_append, List.length_map, List.length_map, List.length_replicate, List.length_replicate, hl]
  · unfold entry at h
    by_cases hi : i < ds.length
    · rw [List.getElem?_append_left (by rw [List.length_map]; exact hi), List.getElem?_map] at h
      cases q : ds[i]? with
      | none => rw [q] at h; cases h
      | some d' =>
        rw [q] at h
        cases h
        obtain ⟨v, hv, rv⟩ := r.get q
        refine ⟨v, ?_, rv⟩
        unfold L2.start
        rw [List.getElem?_append_left (by rw [List.length_map]; omega), List.getElem?_map, hv]
        rfl
    · rw [List.getElem?_append_right (by rw [List.length_map]; omega), List.getElem?_replicate] at h
      split at h <;> cases h
section
variable {P : Program} {w : World} {K : PySem.W.Frag} {mg : Str → Option Value} {base : Heap} {c n : Nat}
theorem fnAt_of {x qual : Str} {st : Stmt} {f : Addr} {fd : FuncData} {N ps : List Str} {b : XS} (hc : 1 ≤ c ∧ c ≤ 5) (F : Fun K x qual st f fd) (S : FnScope N ps (defScope st))
    (hb : ∀ (cdv : Value) (A : Around) (outer : List Env) (s : Shared) (H : Hp) (E : XK), fd.code = cdv → Rs c n (c - 1) (A.deeper (envOfC qual (defScope st) s.heap.objs.size f cdv)) →
      PSs (cxOf CX0 P w K mg base N qual (defScope st) f cdv A outer s H E).nox (defBody st) (rS K b)) :
    FnAt P w K mg base c (n + 1) f fd ps fun ds S => ends (b (entry N.length ds) S) := by
  obtain ⟨oc, od, kV, doc, pm, an, cdv, ct, osl, rfl, lk, hcd⟩ := F.ex
  refine ⟨fun A outer s H args us vs ds ρ S0 S1 d Q hr e0 hbd r rd g hlen hm k => ?_⟩
  have hvl : vs.length = ps.length := by rw [← hlen]; exact rd.length.symm
  have KX : K.In s.heap := e0.mod.kin.keeps fun a o h => (e0.bs a o h).1
  have lim : s.heap.NoLimit := e0.mod.nolimit.keeps fun a o h => (e0.bs a o h).1
  have kinds : ∀ y ∈ ps.zip us, (defScope st).names.lookup y.1 = some .local ∨ ((defScope st).names.lookup y.1 = some .cell ∧ ((cellsFrom (s.heap.objs.size + 1) (defScope st).names []).lookup y.1).isSome = true) := fun ⟨z, v⟩ hy => by
    rcases S.par z (List.of_mem_zip hy).1 with q | q
    · exact .inl q
    · exact .inr ⟨q, PySem.W.cellsFrom_some _ _ _ (.inl q)⟩
  refine codeAny_call_function (by have := hr.dp; omega) (KX _ _ lk) rfl S.co S.gen rfl (PySem.W.codeRec_of KX hcd) (hbd _ _ _ _ ?_)
  refine wpAny_newFunctionEnv_cells S.kind kinds fun env he s1 x => ?_
  subst he
  refine ⟨lim.keeps x.toInCall.keep, codeAny_func ?_⟩
  have body := (hb cdv A outer s H E0 rfl (hr.enter hc _)).nox
  have I : Inv (cxOf CX0 P w K mg base N qual (defScope st) f cdv A outer s H E0) [] (L2.start N vs) H s1 := inv_start S hr.hd e0 hvl r x
  have rr : ∃ res, b (entry N.length ds) S0 = some res ∧ After K ρ H { nx := fun _ H' => Q .non H', rt := Q } res := by
    cases q : b (entry N.length ds) S0 with
    | none => rw [q] at hm; cases hm
    | some res =>
      rw [q] at hm
      refine ⟨res, rfl, ?_⟩
      cases res with
      | rt d' S' => cases hm; exact k
      | nx e' S' => cases hm; exact fun ρ' H' σ' x' g' _ => k ρ' H' .non x' g' .non
      | bk _ _ => cases hm
      | ct _ _ => cases hm
  obtain ⟨res, hres, aft⟩ := rr
  refine wpAny_mono (body.run [] s1 (L2.start N vs) H { nx := fun _ H' => Q .non H', rt := Q } I ⟨ρ, _, S0, res, re_entry rd, g, hres, aft⟩) (fun fl s' hs => ?_) fun e s' hs => hs
  have fin : ∀ {σ' : L2.St} {H' : Hp} {v : V} {u : Value}, Inv (cxOf CX0 P w K mg base N qual (defScope st) f cdv A outer s H E0) [] σ' H' s' → RelV v u → Q v H' → CE outer P w H s Q u s' :=
    fun {σ' H' v u} J rv q => ⟨v, H', J.os, J.bare, J.base, J.hok, rv, q⟩
  cases fl with
  | ret u => obtain ⟨v, σ', H', J, rv, q⟩ := hs; exact fin J rv q
  | next => obtain ⟨σ', H', J, q⟩ := hs; exact fin (v := V.non) (u := Value.none) J rfl q
  | brk => obtain ⟨_, _, _, q⟩ := hs; exact q.elim
  | cont => obtain ⟨_, _, _, q⟩ := hs; exact q.elim
structure Known (K : PySem.W.Frag) (mg : Str → Option Value) (x : Str) (f : Addr) (fd : FuncData) (ps : List Str) : Prop where
  at_ : mg x = some (.ref f)
  kp : PySem.W.keepIn K (.ref f) = true
  bd : Binds K fd ps []
end
section
variable {X : Cx} {c n j : Nat} {f : Addr} {fd : FuncData} {ps : List Str} {m : List D → Sto → Option (D × Sto)} {x : Str} {p pos : Pos} {e : Expr} {es : List Expr} {l : XL}
def xCall (k : Nat) (m : List D → Sto → Option (D × Sto)) (l : XL) : XE := fun e S => match l e S with
  | none => none
  | some (ds, S1) => if ds.length = k then m ds S1 else none
theorem r_call (F : FnAt X.prog X.w X.K X.mg X.base c n f fd ps m) (kn : Known X.K X.mg x f fd ps) (hr : Rs c n j X.A) (hg : Gl X x) (k : Nat) (hk : ps.length = k) (ha : PA X (e :: es) (rL X.K l)) (hdb : (x == ("__debug__" : Str)) = false := by decide)
    (he : starEach (e :: es) X.env = (false, eval e X.env) :: starEach es X.env := by rfl) (hpl : (backTo pos (starEach es X.env)).any (·.1) = false := by rfl) :
    PE X (.Call (.Name x p) (e :: es) [] pos) (rE X.K (xCall k m l)) := by
  refine ⟨fun pins s σ H Q I ⟨ρ, en, S, d, S', re, g, h, kk⟩ => ?_⟩
  unfold xCall at h
  split at h
  · cases h
  rename_i ds S1 el
  by_cases hl : ds.length = k
  case neg => rw [if_neg hl] at h; cases h
  rw [if_pos hl] at h
  refine wpAny_Call_Name_kw (ld_glob I hg kn.at_ ?_ hdb)
  refine PySem.W.callWith_K (h₀ := X.base) I.ok.mod.kin kn.kp (thn (ha.run pos pins s σ H (fun vs H1 => ∃ ρ1, Ext X.K ρ H ρ1 H1 ∧ G X.K ρ1 H1 S1 ∧ Reps X.K ρ1 H1 ds vs) I ⟨ρ, en, S, ds, S1, re, g, el, fun ρ1 H1 vs x1 g1 r1 => ⟨ρ1, x1, g1, r1⟩⟩) fun us s1 ⟨vs, H1, I1, r, ρ1, x1, g1, r1⟩ => ⟨I1.kIn, ?_⟩) he hpl
  have hus : (us ++ []).length = ps.length := by
    rw [List.append_nil, ← r.length, ← r1.length, hl, hk]
  refine wpAny_call (codeAny_mono (F.run X.A X.stack s1 H1 ⟨us, []⟩ us vs ds ρ1 S1 S' d Q hr.rm I1.env0 (by have q := kn.bd s1 us I1.kIn hus; rw [List.append_nil] at q; exact q) r r1 g1 (hl.trans hk.symm) h fun ρ2 H2 v x2 g2 hv => kk ρ2 H2 v (x1.trans x2) g2 hv) fun res s2 hq => ?_)
  cases res with
  | error _ => exact hq.elim
  | ok fl =>
    cases fl with
    | ret u => exact I1.after hq
    | next => exact hq.elim
    | brk => exact hq.elim
    | cont => exact hq.elim
end

mutual
/-- no place from k on -/
def D.low (k : Nat) : D → Prop
  | .tup ds => D.lows k ds
  | .loc n => n < k
  | _ => True
def D.lows (k : Nat) : List D → Prop
  | [] => True
  | d :: ds => D.low k d ∧ D.lows k ds
end
def O.low (k : Nat) : O → Prop
  | .lst ds => D.lows k ds
  | .frz ds => D.lows k ds
  | .dct kvs => D.lows k (kvs.map (·.2))
mutual
theorem Rep.cut {K : PySem.W.Frag} {ρ : List Addr} {H : Hp} {k : Nat} : ∀ {d : D} {v : V}, D.low k d → Rep K ρ H d v → Rep K (ρ.take k) H d v
  | _, _, _, .non => .non
  | _, _, _, .bl b => .bl b
  | _, _, _, .int i => .int i
  | _, _, _, .str z => .str z
  | _, _, l, .tup h r => .tup h (Reps.cut l r)
  | .loc n, _, l, .loc h => .loc (by rw [List.getElem?_take_of_lt l]; exact h)
theorem Reps.cut {K : PySem.W.Frag} {ρ : List Addr} {H : Hp} {k : Nat} : ∀ {ds : List D} {vs : List V}, D.lows k ds → Reps K ρ H ds vs → Reps K (ρ.take k) H ds vs
  | _, _, _, .nil => .nil
  | _, _, l, .cons h r => .cons (Rep.cut l.1 h) (Reps.cut l.2 r)
end
mutual
theorem Rep.low {K : PySem.W.Frag} {ρ : List Addr} {H : Hp} : ∀ {d : D} {v : V}, Rep K ρ H d v → D.low ρ.length d
  | _, _, .non => trivial
  | _, _, .bl b => trivial
  | _, _, .int i => trivial
  | _, _, .str z => trivial
  | _, _, .tup h r => Reps.low r
  | _, _, .loc h => (List.getElem?_eq_some_iff.mp h).1
theorem Reps.low {K : PySem.W.Frag} {ρ : List Addr} {H : Hp} : ∀ {ds : List D} {vs : List V}, Reps K ρ H ds vs → D.lows ρ.length ds
  | _, _, .nil => trivial
  | _, _, .cons h r => ⟨Rep.low h, Reps.low r⟩
end
theorem RepO.cut {K : PySem.W.Frag} {ρ : List Addr} {H : Hp} {a : Addr} {k : Nat} {q : O} (l : O.low k q) (h : RepO K ρ H a q) : RepO K (ρ.take k) H a q := by
  cases q with
  | lst ds =>
    obtain ⟨u, h1, h2⟩ := h
    cases u with
    | lst vs => exact ⟨.lst vs, h1, Reps.cut l h2⟩
    | _ => exact h2.elim
  | frz ds =>
    obtain ⟨vs, h1, h2⟩ := h
    exact ⟨vs, h1, Reps.cut l h2⟩
  | dct kvs =>
    obtain ⟨u, h1, h2⟩ := h
    cases u with
    | dK vs => exact ⟨.dK vs, h1, h2.1, Reps.cut l h2.2⟩
    | _ => exact h2.elim
theorem RepO.low {K : PySem.W.Frag} {ρ : List Addr} {H : Hp} {a : Addr} {q : O} (h : RepO K ρ H a q) : O.low ρ.length q := by
  cases q with
  | lst ds =>
    obtain ⟨u, h1, h2⟩ := h
    cases u with
    | lst vs => exact Reps.low h2
    | _ => exact h2.elim
  | frz ds =>
    obtain ⟨vs, h1, h2⟩ := h
    exact Reps.low h2
  | dct kvs =>
    obtain ⟨u, h1, h2⟩ := h
    cases u with
    | dK vs => exact Reps.low h2.2
    | _ => exact h2.elim
def Plain (m' m : List D → Sto → Option (D × Sto)) : Prop := ∀ ds S d S', m' ds S = some (d, S') → ∃ T, m ds S = some (d, S' ++ T) ∧ S.length ≤ S'.length ∧ (D.low S.length d ∨ D.low S'.length d) ∧ ∀ (i : Nat) (o : O), S'[i]? = some o → S[i]? = some o ∨ O.low S'.length o
mutual
theorem D.low_mono {j k : Nat} (h : j ≤ k) : ∀ {d : D}, D.low j d → D.low k d
  | .non, _ => trivial
  | .bl _, _ => trivial
  | .int _, _ => trivial
  | .str _, _ => trivial
  | .tup _, l => D.lows_mono h l
  | .loc _, l => Nat.lt_of_lt_of_le l h
theorem D.lows_mono {j k : Nat} (h : j ≤ k) : ∀ {ds : List D}, D.lows j ds → D.lows k ds
  | [], _ => trivial
  | _ :: _, l => ⟨D.low_mono h l.1, D.lows_mono h l.2⟩
end
theorem O.low_mono {j k : Nat} (h : j ≤ k) : ∀ {o : O}, O.low j o → O.low k o
  | .lst _, l => D.lows_mono h l
  | .frz _, l => D.lows_mono h l
  | .dct _, l => D.lows_mono h l
theorem G.cut {K : PySem.W.Frag} {ρ : List Addr} {H : Hp} {S T : Sto} (g : G K ρ H (S ++ T)) (h : ∀ (i : Nat) (o : O), S[i]? = some o → O.low S.length o) : G K (ρ.take S.length) H S := by
  have hl := g.len
  rw [List.length_append] at hl
  have look : ∀ (i : Nat) (a : Addr), (ρ.take S.length)[i]? = some a → ρ[i]? = some a := fun i a q => by
    have hi : i < S.length := by
      have := (List.getElem?_eq_some_iff.mp q).1
      rw [List.length_take] at this
      omega
    rw [List.getElem?_take_of_lt hi] at q
    exact q
  have put : ∀ (i : Nat) (o : O), S[i]? = some o → (S ++ T)[i]? = some o := fun i o q => pre_get (List.prefix_append S T) q
  refine ⟨by rw [List.length_take]; omega, fun i j a o q h1 h2 h3 h4 m1 m2 => g.nd i j a o q (look i a h1) (look j a h2) (put i o h3) (put j q h4) m1 m2, fun i a o h1 h2 => ?_, g.tab⟩
  exact (g.ob i a o (look i a h1) (put i o h2)).cut (h i o h2)
theorem FnAt.plain {P : Program} {w : World} {K : PySem.W.Frag} {mg : Str → Option Value} {base : Heap} {c n : Nat} {f : Addr} {fd : FuncData} {ps : List Str} {m m' : List D → Sto → Option (D × Sto)} (F : FnAt P w K mg base c n f fd ps m) (h : Plain m' m) : FnAt P w K mg base c n f fd ps m' := by
  refine ⟨fun A outer s H args us vs ds ρ S S' d Q hr e0 hb r rd g hl hm k => ?_⟩
  obtain ⟨T, h1, h2, h3, h4⟩ := h ds S d S' hm
  refine F.run A outer s H args us vs ds ρ S (S' ++ T) d Q hr e0 hb r rd g hl h1 fun ρ' H' v x g' hv => ?_
  have gl := g.len
  have low : ∀ (i : Nat) (o : O), S'[i]? = some o → O.low S'.length o := fun i o q => by
    rcases h4 i o q with z | z
    · have hi := (List.getElem?_eq_some_iff.mp z).1
      have := (g.ob i _ o (List.getElem?_eq_getElem (by omega : i < ρ.length)) z).low
      exact O.low_mono (by omega) this
    · exact z
  have dl : D.low S'.length d := by
    rcases h3 with z | z
    · exact D.low_mono h2 z
    · exact z
  refine k (ρ'.take S'.length) H' v ⟨?_, x.tup, x.ext⟩ (g'.cut low) (hv.cut dl)
  obtain ⟨t, e⟩ := x.pre
  refine ⟨t.take (S'.length - ρ.length), ?_⟩
  have e2 : S'.length = ρ.length + (S'.length - ρ.length) := by rw [gl]; exact (Nat.add_sub_cancel' h2).symm
  rw [← e]
  conv => rhs; rw [e2]
  exact (List.take_length_add_append _).symm

def spLaw (K : PySem.W.Frag) (n : Nat) : Sp := fun vs H Q _ => ∃ (a : Addr) (ns : List Int), vs = [.ref a] ∧ SqL K H a (ns.map V.int) ∧ TabsOk H ∧ ns.length ≤ n ∧ ∀ H', Q (.bl true) H'
theorem reps_ints {K : PySem.W.Frag} {ρ : List Addr} {H : Hp} : ∀ ns : List Int, Reps K ρ H (ns.map D.int) (ns.map V.int)
  | [] => .nil
  | i :: r => .cons (.int i) (reps_ints r)
theorem law_ok {P : Program} {w : World} {K : PySem.W.Frag} {mg : Str → Option Value} {base : Heap} {c n k N : Nat} {f : Addr} {fd : FuncData} {x : Str} {m : List D → Sto → Option (D × Sto)} (F : FnAt P w K mg base c n f fd [x] m) (h1 : c * n ≤ 3 * k) (h3 : 7 * (c * n) + 100 ≤ 16 * k)
    (hm : ∀ (ns : List Int) (o : O), ns.length ≤ N → o = .lst (ns.map D.int) ∨ o = .frz (ns.map D.int) → ∃ S', m [.loc 0] [o] = some (.bl true, S')) : FnOk P w K mg base CX0 (k + 1) f fd [x] (spLaw K N) := by
  refine ⟨fun vs H Q E h => ?_, fun A outer s H args us vs Q E hr e0 hb r h => ?_⟩
  · obtain ⟨a, ns, rfl, _⟩ := h
    rfl
  obtain ⟨a, ns, rfl, hs, ht, hl, q⟩ := h
  have rm : Rm c n A := ⟨hr.hd, by have := hr.dp; omega, by have := hr.un; omega⟩
  have go : ∃ o : O, (o = .lst (ns.map D.int) ∨ o = .frz (ns.map D.int)) ∧ G K [a] H [o] := by
    have one : ∀ o : O, RepO K [a] H a o → G K [a] H [o] := fun o ho => by
      refine ⟨rfl, fun i j b o1 q h1 h2 h3 h4 m1 m2 => ?_, fun i b o1 h1 h2 => ?_, ht⟩
      · have l3 := (List.getElem?_eq_some_iff.mp h3).1
        have l4 := (List.getElem?_eq_some_iff.mp h4).1
        simp only [List.length_singleton] at l3 l4
        omega
      · have e1 := List.mem_of_getElem? h1
        have e2 := List.mem_of_getElem? h2
        rw [List.mem_singleton] at e1 e2
        subst e1 e2
        exact ho
    rcases hs with (z | ⟨u, z⟩) | z
    · exact ⟨.lst (ns.map D.int), .inl rfl, one _ ⟨_, z, reps_ints ns⟩⟩
    · exact ⟨.frz (ns.map D.int), .inr rfl, one _ ⟨ns.map V.int, .inl ⟨u, z⟩, reps_ints ns⟩⟩
    · exact ⟨.frz (ns.map D.int), .inr rfl, one _ ⟨ns.map V.int, .inr (.inr z), reps_ints ns⟩⟩
  obtain ⟨o, ho, g⟩ := go
  obtain ⟨S', hS⟩ := hm ns o hl ho
  refine codeAny_mono (F.run A outer s H args us [.ref a] [.loc 0] [a] _ S' (.bl true) Q rm e0 hb r (.cons (.loc rfl) .nil) g rfl hS fun ρ' H' v _ _ hv => by cases hv; exact q H') fun res s2 hq => ?_
  cases res with
  | error _ => exact hq.elim
  | ok fl => exact hq
end Mini
end
section
namespace Mini
open PySem PySem.Spec PyProof.Rows L2
variable [Tabs]

def fI (g : Int → Int → Option D) (x y : D) (S : Sto) : Option (D × Sto) := match x, y with
  | .int i, .int j => match g i j with
    | some d => some (d, S)
    | none => none
  | _, _ => none
theorem opm_I {K : PySem.W.Frag} {g : Int → Int → Option D} {C : Int → Int → Prop} {k : Int → Int → V} (h : ∀ i j d, g i j = some d → C i j ∧ ∀ ρ H, Rep K ρ H d (k i j)) : OpM K (fI g) (rI C k) := by
  refine OpM.pure fun ρ H S x y d S' vx vy Q gg hx hy e => ?_
  unfold fI at e
  split at e
  · rename_i i j
    split at e
    · rename_i d' eg
      cases e
      cases hx
      cases hy
      obtain ⟨h1, h2⟩ := h i j _ eg
      exact ⟨rfl, fun q => ⟨i, j, rfl, rfl, h1, q _ (h2 ρ H)⟩⟩
    · cases e
  · cases e
theorem opm_I0 {K : PySem.W.Frag} {g : Int → Int → Option D} {k : Int → Int → V} (h : ∀ i j d, g i j = some d → ∀ ρ H, Rep K ρ H d (k i j)) : OpM K (fI g) (rI0 k) := by
  refine OpM.pure fun ρ H S x y d S' vx vy Q gg hx hy e => ?_
  unfold fI at e
  split at e
  · rename_i i j
    split at e
    · rename_i d' eg
      cases e
      cases hx
      cases hy
      exact ⟨rfl, fun q => ⟨i, j, rfl, rfl, q _ (h i j _ eg ρ H)⟩⟩
    · cases e
  · cases e
def small64 (i : Int) : Bool := decide (-(2 ^ 64) < i) && decide (i < 2 ^ 64)
def fSub : D → D → Sto → Option (D × Sto) := fI fun i j => some (.int (i - j))
def fMul : D → D → Sto → Option (D × Sto) := fI fun i j => if (small64 i || small64 j) = true then some (.int (i * j)) else none
def fDiv : D → D → Sto → Option (D × Sto) := fI fun i j => if (decide (0 < j) && decide (j < 1073741824)) = true then some (.int (i / j)) else none
def fMod : D → D → Sto → Option (D × Sto) := fI fun i j => if decide (0 < j) = true then some (.int (i % j)) else none
def fPow : D → D → Sto → Option (D × Sto) := fI fun i j => if (decide (0 ≤ j) && decide (j ≤ 1000000) && decide (i.natAbs < 2 ^ 64)) = true then some (.int (i ^ j.toNat)) else none
theorem small64_iff {i : Int} : small64 i = true ↔ -(2 ^ 64) < i ∧ i < 2 ^ 64 := by
  unfold small64
  simp only [Bool.and_eq_true, decide_eq_true_eq]
section
variable {K : PySem.W.Frag}
theorem om_sub : OpM K fSub (rI0 fun i j => .int (i - j)) := opm_I0 fun i j d h ρ H => by cases h; exact .int _
theorem om_mul : OpM K fMul (rI CMul fun i j => .int (i * j)) := opm_I fun i j d h => by
  split at h
  · rename_i c
    cases h
    rw [Bool.or_eq_true, small64_iff, small64_iff] at c
    exact ⟨c, fun _ _ => .int _⟩
  · cases h
theorem om_div : OpM K fDiv (rI CDiv fun i j => .int (i / j)) := opm_I fun i j d h => by
  split at h
  · rename_i c
    cases h
    simp only [Bool.and_eq_true, decide_eq_true_eq] at c
    exact ⟨c, fun _ _ => .int _⟩
  · cases h
theorem om_mod : OpM K fMod (rI (fun _ j => 0 < j) fun i j => .int (i % j)) := opm_I fun i j d h => by
  split at h
  · rename_i c
    cases h
    exact ⟨of_decide_eq_true c, fun _ _ => .int _⟩
  · cases h
theorem om_pow : OpM K fPow (rI CPow fun i j => .int (i ^ j.toNat)) := opm_I fun i j d h => by
  split at h
  · rename_i c
    cases h
    simp only [Bool.and_eq_true, decide_eq_true_eq] at c
    exact ⟨⟨c.1.1, c.1.2, c.2⟩, fun _ _ => .int _⟩
  · cases h
def fAdd : D → D → Sto → Option (D × Sto) := fun x y S => match x, y with
  | .int i, .int j => some (.int (i + j), S)
  | .str a, .str b => if a.length + b.length ≤ 100000 then some (.str (a ++ b), S) else none
  | .tup a, .tup b => if a.length + b.length ≤ 100000 then some (.tup (a ++ b), S) else none
  | .loc m, .loc n => match S[m]?, S[n]? with
    | some (.lst a), some (.lst b) => if a.length + b.length ≤ 100000 then some (.loc S.length, S ++ [.lst (a ++ b)]) else none
    | _, _ => none
  | _, _ => none
def rAddA (K : PySem.W.Frag) : R2 := fun x y H Q => (rI0 (fun i j => .int (i + j)) x y H Q) ∨ (∃ i j, x = .str i ∧ y = .str j ∧ i.length + j.length ≤ sizeLine ∧ Q (.str (i ++ j)) H) ∨ rCatA K x y H Q ∨ rCat x y H Q
theorem orp_add {X : Cx} : OpR X (binaryOp .Add) (rAddA X.K) := OpR.or op_add (OpR.or op_add_str (OpR.or op_catA op_cat))
theorem lst_at {ρ : List Addr} {H : Hp} {S : Sto} {n : Nat} {a : Addr} {ds : List D} (g : G K ρ H S) (hn : ρ[n]? = some a) (h : S[n]? = some (.lst ds)) : ∃ vs, H a = some (.lst vs) ∧ Reps K ρ H ds vs := by
  obtain ⟨u, h1, h2⟩ := g.ob n a _ hn h
  cases u with
  | lst vs => exact ⟨vs, h1, h2⟩
  | _ => exact h2.elim
theorem om_add : OpM K fAdd (rAddA K) := by
  intro ρ H S x y d S' vx vy Q g hx hy e k
  unfold fAdd at e
  split at e
  · cases e; cases hx; cases hy
    exact .inl ⟨_, _, rfl, rfl, k ρ H _ .refl g (.int _)⟩
  · split at e
    · rename_i hl
      cases e; cases hx; cases hy
      exact .inr (.inl ⟨_, _, rfl, rfl, line5 hl, k ρ H _ .refl g (.str _)⟩)
    · cases e
  · split at e
    · rename_i a b hl
      cases e
      cases hx with
      | tup sa ra =>
        cases hy with
        | tup sb rb =>
          refine .inr (.inr (.inl ⟨_, _, _, _, rfl, rfl, sa, sb, by rw [← ra.length, ← rb.length]; exact line5 hl, fun e1 => ?_, fun _ e2 => ?_, fun _ _ p hp => ?_⟩))
          · subst e1
            cases ra
            exact k ρ H _ .refl g (.tup sb rb)
          · subst e2
            cases rb
            rw [List.append_nil] at k
            exact k ρ H _ .refl g (.tup sa ra)
          · obtain ⟨x1, g1, r1⟩ := tup_new g (ra.append rb) hp
            exact k _ _ _ x1 g1 r1
    · cases e
  · rename_i m n
    split at e
    · rename_i a b h1 h2
      split at e
      · rename_i hl
        cases e
        cases hx with
        | loc hm =>
          cases hy with
          | loc hn =>
            obtain ⟨va, ea, ra⟩ := lst_at g hm h1
            obtain ⟨vb, eb, rb⟩ := lst_at g hn h2
            refine .inr (.inr (.inr ⟨_, _, _, _, rfl, rfl, ea, eb, by rw [← ra.length, ← rb.length]; exact line5 hl, fun p hp => ?_⟩))
            obtain ⟨x1, g1, r1⟩ := lst_new g (ra.append rb) hp
            exact k _ _ _ x1 g1 r1
      · cases e
    · cases e
  · cases e

def fLt : D → D → Sto → Option (D × Sto) := fI fun i j => some (.bl (decide (i < j)))
def fGt : D → D → Sto → Option (D × Sto) := fI fun i j => some (.bl (decide (j < i)))
def fGe : D → D → Sto → Option (D × Sto) := fI fun i j => some (.bl (decide (j ≤ i)))
theorem om_lt : OpM K fLt (rI0 fun i j => .bl (decide (i < j))) := opm_I0 fun i j d h ρ H => by cases h; exact .bl _
theorem om_gt : OpM K fGt (rI0 fun i j => .bl (decide (j < i))) := opm_I0 fun i j d h ρ H => by cases h; exact .bl _
theorem om_ge : OpM K fGe (rI0 fun i j => .bl (decide (j ≤ i))) := opm_I0 fun i j d h ρ H => by cases h; exact .bl _
mutual
/-- no places, at most so deep -/
def D.pub : Nat → D → Bool
  | 0, .tup _ => false
  | n + 1, .tup ds => D.pubs n ds
  | _, .loc _ => false
  | _, .str x => PyData.strOk x
  | _, _ => true
def D.pubs : Nat → List D → Bool
  | _, [] => true
  | n, d :: ds => D.pub n d && D.pubs n ds
end
mutual
def D.py : D → PyData
  | .non => .none
  | .bl b => .bool b
  | .int i => .int i
  | .str x => .str x
  | .tup ds => .tuple (D.pys ds)
  | .loc _ => .none
def D.pys : List D → List PyData
  | [] => []
  | d :: ds => D.py d :: D.pys ds
end
mutual
def eqB : D → D → Bool
  | .non, .non => true
  | .bl a, .bl b => decide (a = b)
  | .bl a, .int j => decide ((if a then 1 else 0) = j)
  | .int i, .bl b => decide (i = (if b then 1 else 0))
  | .int i, .int j => decide (i = j)
  | .str x, .str y => decide (x = y)
  | .tup a, .tup b => eqBs a b
  | _, _ => false
def eqBs : List D → List D → Bool
  | [], [] => true
  | x :: xs, y :: ys => eqB x y && eqBs xs ys
  | _, _ => false
end
mutual
theorem eqB_py : ∀ {x y : D} {m n : Nat}, D.pub m x = true → D.pub n y = true → PyData.eqv x.py y.py = eqB x y
  | .loc _, _, m, _, h, _ => by cases m <;> cases h
  | .non, .loc _, _, n, _, h => by cases n <;> cases h
  | .bl _, .loc _, _, n, _, h => by cases n <;> cases h
  | .int _, .loc _, _, n, _, h => by cases n <;> cases h
  | .str _, .loc _, _, n, _, h => by cases n <;> cases h
  | .tup _, .loc _, _, n, _, h => by cases n <;> cases h
  | .non, .non, _, _, _, _ => rfl
  | .non, .bl _, _, _, _, _ => rfl
  | .non, .int _, _, _, _, _ => rfl
  | .non, .str _, _, _, _, _ => rfl
  | .non, .tup _, _, _, _, _ => rfl
  | .bl a, .non, _, _, _, _ => rfl
  | .bl a, .bl b, _, _, _, _ => by cases a <;> cases b <;> rfl
  | .bl a, .int j, _, _, _, _ => by
    show ((if a then 1 else 0) == j) = decide ((if a then 1 else 0) = j)
    cases a <;> rfl
  | .bl _, .str _, _, _, _, _ => rfl
  | .bl _, .tup _, _, _, _, _ => rfl
  | .int _, .non, _, _, _, _ => rfl
  | .int i, .bl b, _, _, _, _ => by
    show (i == (if b then 1 else 0)) = decide (i = (if b then 1 else 0))
    cases b <;> rfl
  | .int i, .int j, _, _, _, _ => rfl
  | .int _, .str _, _, _, _, _ => rfl
  | .int _, .tup _, _, _, _, _ => rfl
  | .str _, .non, _, _, _, _ => rfl
  | .str _, .bl _, _, _, _, _ => rfl
  | .str _, .int _, _, _, _, _ => rfl
  | .str x, .str y, _, _, _, _ => by
    show (x == y) = decide (x = y)
    by_cases h : x = y
    · subst h; simp
    · rw [decide_eq_false h]; exact beq_eq_false_iff_ne.mpr h
  | .str _, .tup _, _, _, _, _ => rfl
  | .tup _, .non, _, _, _, _ => rfl
  | .tup _, .bl _, _, _, _, _ => rfl
  | .tup _, .int _, _, _, _, _ => rfl
  | .tup _, .str _, _, _, _, _ => rfl
  | .tup a, .tup b, 0, _, h, _ => by cases h
  | .tup a, .tup b, _, 0, _, h => by cases h
  | .tup a, .tup b, m + 1, n + 1, h1, h2 => eqBs_py (m := m) (n := n) h1 h2
theorem eqBs_py : ∀ {xs ys : List D} {m n : Nat}, D.pubs m xs = true → D.pubs n ys = true → PyData.eqvAll (D.pys xs) (D.pys ys) = eqBs xs ys
  | [], [], _, _, _, _ => rfl
  | [], _ :: _, _, _, _, _ => rfl
  | _ :: _, [], _, _, _, _ => rfl
  | x :: xs, y :: ys, m, n, h1, h2 => by
    have a1 : (D.pub m x && D.pubs m xs) = true := h1
    have a2 : (D.pub n y && D.pubs n ys) = true := h2
    rw [Bool.and_eq_true] at a1 a2
    show (PyData.eqv x.py y.py && PyData.eqvAll (D.pys xs) (D.pys ys)) = (eqB x y && eqBs xs ys)
    rw [eqB_py a1.1 a2.1, eqBs_py a1.2 a2.2]
end
mutual
theorem py_dp {ρ : List Addr} {H : Hp} : ∀ {d : D} {v : V} {n : Nat}, Rep K ρ H d v → D.pub n d = true → Dp K H v d.py ∧ d.py.canLay0 = true ∧ d.py.depth ≤ n
  | _, _, n, .non, _ => ⟨.non, rfl, Nat.zero_le _⟩
  | _, _, n, .bl b, _ => ⟨.bl b, rfl, Nat.zero_le _⟩
  | _, _, n, .int i, _ => ⟨.int i, rfl, Nat.zero_le _⟩
  | _, _, 0, .str x, h => ⟨.str x, h, Nat.zero_le _⟩
  | _, _, n + 1, .str x, h => ⟨.str x, h, Nat.zero_le _⟩
  | _, _, 0, .tup _ _, h => by cases h
  | _, _, n + 1, .tup hs hr, h => by
    obtain ⟨h1, h2, h3⟩ := pys_dp (n := n) hr h
    exact ⟨.tup hs h1, by show PyData.canLayAll0 _ = true; exact h2, Nat.succ_le_succ h3⟩
  | _, _, n, .loc _, h => by cases n <;> cases h
theorem pys_dp {ρ : List Addr} {H : Hp} : ∀ {ds : List D} {vs : List V} {n : Nat}, Reps K ρ H ds vs → D.pubs n ds = true → DpAll K H vs (D.pys ds) ∧ PyData.canLayAll0 (D.pys ds) = true ∧ PyData.depthAll (D.pys ds) ≤ n
  | _, _, n, .nil, _ => ⟨.nil, rfl, Nat.zero_le _⟩
  | _, _, n, .cons (d := d) (ds := ds) hd hr, h => by
    have a1 : (D.pub n d && D.pubs n ds) = true := h
    rw [Bool.and_eq_true] at a1
    obtain ⟨h1, h2, h3⟩ := py_dp hd a1.1
    obtain ⟨k1, k2, k3⟩ := pys_dp hr a1.2
    exact ⟨.cons h1 k1, by show (_ && _) = true; rw [h2, k2]; rfl, Nat.max_le.mpr ⟨h3, k3⟩⟩
end
def eqS : D → D → Option Bool
  | .non, .non => some true
  | .non, .int _ => some false
  | .int _, .non => some false
  | .non, .bl _ => some false
  | .bl _, .non => some false
  | .non, .str _ => some false
  | .str _, .non => some false
  | .int i, .int j => some (decide (i = j))
  | .bl i, .bl j => some (decide (i = j))
  | .str i, .str j => some (decide (i = j))
  | .int _, .str _ => some false
  | .str _, .int _ => some false
  | .bl _, .str _ => some false
  | .str _, .bl _ => some false
  | _, _ => none
def eqF (x y : D) : Option Bool := match eqS x y with
  | some b => some b
  | none => if (D.pub 200 x && D.pub 200 y) = true then some (eqB x y) else none
def fEq (x y : D) (S : Sto) : Option (D × Sto) := match eqF x y with
  | some b => some (.bl b, S)
  | none => none
def fNe (x y : D) (S : Sto) : Option (D × Sto) := match eqF x y with
  | some b => some (.bl (!b), S)
  | none => none
def rEqV (K : PySem.W.Frag) : R2 := fun x y H Q => rEq x y H Q ∨ ∃ d e, Dp K H x d ∧ Dp K H y e ∧ d.canLay0 = true ∧ e.canLay0 = true ∧ d.depth ≤ 200 ∧ Q (.bl (PyData.eqv d e)) H
def rNeV (K : PySem.W.Frag) : R2 := fun x y H Q => rNe x y H Q ∨ ∃ d e, Dp K H x d ∧ Dp K H y e ∧ d.canLay0 = true ∧ e.canLay0 = true ∧ d.depth ≤ 200 ∧ Q (.bl (!PyData.eqv d e)) H
theorem orp_eq {X : Cx} (hu : X.A.units + 250 < cLine) : OpR X (compareOp .Eq) (rEqV X.K) := OpR.or op_eq (by
  intro pins s σ H x y v u Q I rx ry ⟨d, e, h1, h2, h3, h4, h5, q⟩
  obtain ⟨as, ra⟩ := Dp.reads I d x v h1 rx
  obtain ⟨bs, rb⟩ := Dp.reads I e y u h2 ry
  exact SeqAt.compareEq_reads ra rb h3 h4 (by omega) ⟨.bl _, H, I, rfl, q⟩)
theorem orp_ne {X : Cx} (hu : X.A.units + 250 < cLine) : OpR X (compareOp .NotEq) (rNeV X.K) := OpR.or op_ne (by
  intro pins s σ H x y v u Q I rx ry ⟨d, e, h1, h2, h3, h4, h5, q⟩
  obtain ⟨as, ra⟩ := Dp.reads I d x v h1 rx
  obtain ⟨bs, rb⟩ := Dp.reads I e y u h2 ry
  exact SeqAt.compareNe_reads ra rb h3 h4 (by omega) ⟨.bl _, H, I, rfl, q⟩)
theorem eqS_of {ρ : List Addr} {H : Hp} {x y : D} {vx vy : V} {b : Bool} (hx : Rep K ρ H x vx) (hy : Rep K ρ H y vy) (h : eqS x y = some b) : scal vx vy = true ∧ b = decide (vx = vy) := by
  cases hx <;> cases hy <;> first
    | (cases h; exact ⟨rfl, rfl⟩)
    | (cases h; exact ⟨rfl, by simp⟩)
    | cases h
theorem eqF_of {ρ : List Addr} {H : Hp} {x y : D} {vx vy : V} {b : Bool} (hx : Rep K ρ H x vx) (hy : Rep K ρ H y vy) (h : eqF x y = some b) : (scal vx vy = true ∧ b = decide (vx = vy)) ∨ ∃ d e, Dp K H vx d ∧ Dp K H vy e ∧ d.canLay0 = true ∧ e.canLay0 = true ∧ d.depth ≤ 200 ∧ b = PyData.eqv d e := by
  unfold eqF at h
  split at h
  · rename_i b' e1
    cases h
    exact .inl (eqS_of hx hy e1)
  · split at h
    · rename_i c
      rw [Bool.and_eq_true] at c
      cases h
      obtain ⟨a1, a2, a3⟩ := py_dp hx c.1
      obtain ⟨b1, b2, b3⟩ := py_dp hy c.2
      exact .inr ⟨_, _, a1, b1, a2, b2, a3, (eqB_py c.1 c.2).symm⟩
    · cases h
theorem om_eq : OpM K fEq (rEqV K) := OpM.pure fun ρ H S x y d S' vx vy Q g hx hy e => by
  unfold fEq at e
  split at e
  · rename_i b eb
    cases e
    refine ⟨rfl, fun q => ?_⟩
    rcases eqF_of hx hy eb with ⟨h1, rfl⟩ | ⟨d1, d2, h1, h2, h3, h4, h5, rfl⟩
    · exact .inl ⟨h1, q _ (.bl _)⟩
    · exact .inr ⟨d1, d2, h1, h2, h3, h4, h5, q _ (.bl _)⟩
  · cases e
theorem om_ne : OpM K fNe (rNeV K) := OpM.pure fun ρ H S x y d S' vx vy Q g hx hy e => by
  unfold fNe at e
  split at e
  · rename_i b eb
    cases e
    refine ⟨rfl, fun q => ?_⟩
    rcases eqF_of hx hy eb with ⟨h1, rfl⟩ | ⟨d1, d2, h1, h2, h3, h4, h5, rfl⟩
    · exact .inl ⟨h1, q _ (.bl _)⟩
    · exact .inr ⟨d1, d2, h1, h2, h3, h4, h5, q _ (.bl _)⟩
  · cases e
def isNon : D → Bool
  | .non => true
  | _ => false
def isF (x y : D) : Option Bool := match y with
  | .non => some (isNon x)
  | .bl b => match x with
    | .bl a => some (decide (a = b))
    | _ => none
  | _ => none
def fIs (x y : D) (S : Sto) : Option (D × Sto) := match isF x y with
  | some b => some (.bl b, S)
  | none => none
def fIsNot (x y : D) (S : Sto) : Option (D × Sto) := match isF x y with
  | some b => some (.bl (!b), S)
  | none => none
def rIsA : R2 := fun x y H Q => (y = .non ∧ Q (.bl (decide (x = .non))) H) ∨ rIsB x y H Q
def rNotA : R2 := fun x y H Q => (y = .non ∧ Q (.bl (!decide (x = .non))) H) ∨ rNotB x y H Q
theorem orp_is {X : Cx} : OpR X (compareOp .Is) rIsA := OpR.or op_isN op_isBl
theorem orp_not {X : Cx} : OpR X (compareOp .IsNot) rNotA := OpR.or op_notN op_notBl
theorem isF_of {ρ : List Addr} {H : Hp} {x y : D} {vx vy : V} {b : Bool} (hx : Rep K ρ H x vx) (hy : Rep K ρ H y vy) (h : isF x y = some b) : (vy = .non ∧ b = decide (vx = .non)) ∨ ∃ i j : Bool, vx = .bl i ∧ vy = .bl j ∧ b = decide (i = j) := by
  cases hy <;> first | cases h | skip
  · refine .inl ⟨rfl, ?_⟩
    cases hx <;> simp [isF, isNon]
  · cases hx <;> first
      | (cases h; exact .inr ⟨_, _, rfl, rfl, rfl⟩)
      | cases h
theorem om_is : OpM K fIs rIsA := OpM.pure fun ρ H S x y d S' vx vy Q g hx hy e => by
  unfold fIs at e
  split at e
  · rename_i b eb
    cases e
    refine ⟨rfl, fun q => ?_⟩
    rcases isF_of hx hy eb with ⟨rfl, rfl⟩ | ⟨i, j, rfl, rfl, rfl⟩
    · exact .inl ⟨rfl, q _ (.bl _)⟩
    · exact .inr ⟨i, j, rfl, rfl, q _ (.bl _)⟩
  · cases e
theorem om_isNot : OpM K fIsNot rNotA := OpM.pure fun ρ H S x y d S' vx vy Q g hx hy e => by
  unfold fIsNot at e
  split at e
  · rename_i b eb
    cases e
    refine ⟨rfl, fun q => ?_⟩
    rcases isF_of hx hy eb with ⟨rfl, rfl⟩ | ⟨i, j, rfl, rfl, rfl⟩
    · exact .inl ⟨rfl, q _ (.bl _)⟩
    · exact .inr ⟨i, j, rfl, rfl, q _ (.bl _)⟩
  · cases e

def fIx : D → D → Sto → Option (D × Sto) := fun x y S => match x, y with
  | .tup ds, .int i => match atI ds i with
    | some d => some (d, S)
    | none => none
  | .loc n, .int i => match lstAt S n with
    | some ds => match atI ds i with
      | some d => some (d, S)
      | none => none
    | none => none
  | .str z, .int i => if z.length ≤ 100000 then match atI z.cps.toList i with
      | some c => some (.str ⟨#[c]⟩, S)
      | none => none
    else none
  | _, _ => none
theorem atI_rep {ρ : List Addr} {H : Hp} {ds : List D} {vs : List V} {i : Int} {d : D} (r : Reps K ρ H ds vs) (h : atI ds i = some d) : ∃ v, atI vs i = some v ∧ Rep K ρ H d v := by
  unfold atI at h ⊢
  rw [← r.length]
  cases q : ixN ds.length i with
  | none => rw [q] at h; cases h
  | some j =>
    rw [q] at h
    exact r.get h
theorem om_ix : OpM K fIx (rIx K) := OpM.pure fun ρ H S x y d S' vx vy Q g hx hy e => by
  unfold fIx at e
  split at e
  · split at e
    · rename_i d' ed
      cases e
      cases hx with
      | tup hs hr =>
        cases hy
        obtain ⟨v, hv, rv⟩ := atI_rep hr ed
        exact ⟨rfl, fun q => .inr (.inl ⟨_, _, _, v, rfl, rfl, hs, hv, q v rv⟩)⟩
    · cases e
  · split at e
    · rename_i ds el
      split at e
      · rename_i d' ed
        cases e
        cases hx with
        | loc hn =>
          cases hy
          obtain ⟨vs, hs, hr⟩ := g.lst hn el
          obtain ⟨v, hv, rv⟩ := atI_rep hr ed
          exact ⟨rfl, fun q => .inl ⟨_, vs, _, v, rfl, rfl, hs, hv, q v rv⟩⟩
      · cases e
    · cases e
  · split at e
    · rename_i hl
      split at e
      · rename_i c' ec
        cases e; cases hx; cases hy
        exact ⟨rfl, fun q => .inr (.inr ⟨_, _, _, rfl, rfl, line5 hl, ec, q _ (.str _)⟩)⟩
      · cases e
    · cases e
  · cases e
def fPut : D → D → D → Sto → Option Sto := fun x i y S => match x, i with
  | .loc n, .int k => match S[n]? with
    | some (.lst ds) => match ixN ds.length k with
      | some j => some (S.set n (.lst (ds.set j y)))
      | none => none
    | _ => none
  | _, _ => none
theorem pm_put : PutM K fPut rSetL := by
  intro ρ H S x i y S' vx vi vy Q g hx hi hy e k
  unfold fPut at e
  split at e
  · split at e
    · rename_i n kk ds h1
      split at e
      · rename_i j ej
        cases e
        cases hx with
        | loc hn =>
          cases hi
          obtain ⟨vs, ev, rv⟩ := lst_at g hn h1
          obtain ⟨g1, x1⟩ := g.set (q := .lst (ds.set j y)) (o := .lst (vs.set j vy)) hn h1 rfl rfl (rv.set hy j)
          exact ⟨_, _, _, j, rfl, rfl, ev, by rw [← rv.length]; exact ej, k ρ _ x1 g1⟩
      · cases e
    · cases e
  · cases e

def lenF (S : Sto) : D → Option Int
  | .str z => if z.length ≤ 100000 then some z.length else none
  | .tup ds => some ds.length
  | .loc n => match lstAt S n with
    | some ds => some ds.length
    | none => none
  | _ => none
def fLen (xs : List D) (S : Sto) : Option (D × Sto) := match xs with
  | [x] => match lenF S x with
    | some n => some (.int n, S)
    | none => none
  | _ => none
theorem am_len : AllM K fLen (fun xs H Q => ∃ x n, xs = [x] ∧ LenV K x H n ∧ Q (.int n) H) := by
  intro ρ H S xs d S' vs Q g hx e k
  unfold fLen at e
  split at e
  rotate_left
  · cases e
  rename_i x
  split at e
  rotate_left
  · cases e
  rename_i n en
  cases e
  cases hx with
  | cons hr hn =>
    cases hn
    have fin : ∀ m : Nat, n = (m : Int) → Q (.int m) H := fun m em => k ρ H _ .refl g (em ▸ .int _)
    cases hr with
    | str z =>
      have en' : (if z.length ≤ 100000 then some (z.length : Int) else none) = some n := en
      split at en'
      · rename_i hl
        cases en'
        exact ⟨_, z.length, rfl, ⟨line5 hl, rfl⟩, fin _ rfl⟩
      · cases en'
    | tup hs hq =>
      cases en
      exact ⟨_, _, rfl, .inr ⟨_, hs, rfl⟩, fin _ (by rw [hq.length])⟩
    | @loc j a hj =>
      have en' : (match lstAt S j with | some ds => some (ds.length : Int) | none => none) = some n := en
      split at en'
      · rename_i ds el
        cases en'
        obtain ⟨vs, hs, hq⟩ := g.lst hj el
        exact ⟨_, _, rfl, .inl ⟨vs, hs, rfl⟩, fin _ (by rw [hq.length])⟩
      · cases en'
    | _ => cases en
def fInt (xs : List D) (S : Sto) : Option (D × Sto) := match xs with
  | [.int i] => some (.int i, S)
  | [.bl k] => some (.int (if k then 1 else 0), S)
  | _ => none
theorem am_int : AllM K fInt (fun xs H Q => (∃ i, xs = [.int i] ∧ Q (.int i) H) ∨ ∃ k, xs = [.bl k] ∧ Q (.int (if k then 1 else 0)) H) := by
  intro ρ H S xs d S' vs Q g hx e k
  unfold fInt at e
  split at e
  · cases e
    cases hx with
    | cons h hn =>
      cases h; cases hn
      exact .inl ⟨_, rfl, k ρ H _ .refl g (.int _)⟩
  · cases e
    cases hx with
    | cons h hn =>
      cases h; cases hn
      exact .inr ⟨_, rfl, k ρ H _ .refl g (.int _)⟩
  · cases e
inductive Ty where
  | non | bool | int | str | tuple | list | dict | set
  deriving DecidableEq
def Ty.nm : Ty → String
  | .non => "NoneType"
  | .bool => "bool"
  | .int => "int"
  | .str => "str"
  | .tuple => "tuple"
  | .list => "list"
  | .dict => "dict"
  | .set => "set"
def isTy : Ty → Ty → Bool
  | .bool, .int => true
  | t, u => decide (t = u)
theorem isTy_kit (t u : Ty) : kitB t.nm u.nm = some (isTy t u) := by
  cases t <;> cases u <;> decide +kernel
def tyD (S : Sto) : D → Option Ty
  | .non => some .non
  | .bl _ => some .bool
  | .int _ => some .int
  | .str _ => some .str
  | .tup _ => some .tuple
  | .loc n => match lstAt S n with
    | some _ => some .list
    | none => none
def xIsi (T : Ty) (a : XE) : XE := fun e S => match a e S with
  | none => none
  | some (x, S1) => match tyD S1 x with
    | none => none
    | some t => some (.bl (isTy t T), S1)
theorem ty_rep {ρ : List Addr} {H : Hp} {S : Sto} {x : D} {v : V} {t : Ty} (g : G K ρ H S) (r : Rep K ρ H x v) (h : tyD S x = some t) : TyX K H v (.type t.nm) := by
  cases r with
  | non => cases h; exact .base .non
  | bl b => cases h; exact .base (.bl b)
  | int i => cases h; exact .base (.int i)
  | str z => cases h; exact .base (.str z)
  | tup hs hr =>
    cases h
    rcases hs with (hs | ⟨u, hs⟩) | ⟨o, its, n, h1, h2, _⟩
    · exact .base (.tup hs)
    · exact .fTuple hs
    · exact .kTuple h1 h2
  | @loc n a hn =>
    have h' : (match lstAt S n with | some _ => some Ty.list | none => none) = some t := h
    split at h'
    · rename_i ds el
      cases h'
      obtain ⟨vs, hs, _⟩ := g.lst hn el
      rcases hs with (hs | ⟨u, hs⟩) | ⟨o, its, n, h1, h2, _⟩
      · exact .base (.lst hs)
      · exact .base (.frz hs)
      · exact .kList h1 h2
    · cases h'
section
variable {X : Cx} {a : Expr} {p p2 pos : Pos} {ma : XE}
theorem r_isi (T : Ty) {nm : Str} (hg : Gl X "isinstance") (hm : X.mg "isinstance" = none) (hv : bootBuiltins "isinstance" = some (.builtin "isinstance")) (hg2 : Gl X nm) (hm2 : X.mg nm = none) (hv2 : bootBuiltins nm = some (.type T.nm)) (ha : PE X a (rE X.K ma))
    (hn2 : nm ≠ "__name__" := by decide) (hd2 : (nm == ("__debug__" : Str)) = false := by decide)
    (he : starEach [a, .Name nm p2] X.env = (false, eval a X.env) :: starEach [.Name nm p2] X.env := by rfl) (he2 : starEach [.Name nm p2] X.env = (false, eval (.Name nm p2) X.env) :: starEach [] X.env := by rfl)
    (hpl : (backTo pos (starEach [.Name nm p2] X.env)).any (·.1) = false := by rfl) :
    PE X (.Call (.Name "isinstance" p) [a, .Name nm p2] [] pos) (rE X.K (xIsi T ma)) := by
  have hb : PE X (.Name nm p2) (tC (.ty T.nm)) := pe_bltn hg2 hm2 hv2 rfl hn2 hd2
  refine PE.imp (pe_callB call_isi hg hm hv (pa_cons ha (pa_cons hb pa_nil he2) he) (by decide) (by decide) he hpl) fun σ H Q ⟨ρ, e, S, d, S', re, g, h, k⟩ => ?_
  unfold xIsi at h
  split at h
  · cases h
  rename_i x S1 ea
  split at h
  · cases h
  rename_i t et
  cases h
  exact ⟨ρ, e, S, x, _, re, g, ea, fun ρ1 H1 v x1 g1 hv => ⟨v, .ty T.nm, .type t.nm, .type T.nm, isTy t T, rfl, .ty _, ty_rep g1 hv et, kit_ty (isTy_kit t T), k ρ1 H1 _ x1 g1 (.bl _)⟩⟩
theorem r_blt {x : Str} {id : String} {r : List V → Hp → VK → Prop} {f : List D → Sto → Option (D × Sto)} {e : Expr} {es : List Expr} {l : XL} (hc : CallR X (.builtin id) r) (o : AllM X.K f r) (hg : Gl X x) (hm : X.mg x = none) (hv : bootBuiltins x = some (.builtin id)) (ha : PA X (e :: es) (rL X.K l))
    (hn : x ≠ "__name__" := by decide) (hdb : (x == ("__debug__" : Str)) = false := by decide) (he : starEach (e :: es) X.env = (false, eval e X.env) :: starEach es X.env := by rfl) (hpl : (backTo pos (starEach es X.env)).any (·.1) = false := by rfl) :
    PE X (.Call (.Name x p) (e :: es) [] pos) (rE X.K (xAll f l)) := PE.imp (pe_callB hc hg hm hv ha hn hdb he hpl) (all_of o)
theorem r_typ {x : Str} {T : String} {r : List V → Hp → VK → Prop} {f : List D → Sto → Option (D × Sto)} {e : Expr} {es : List Expr} {l : XL} (hc : CallR X (.type T) r) (o : AllM X.K f r) (hg : Gl X x) (hm : X.mg x = none) (hv : bootBuiltins x = some (.type T)) (ha : PA X (e :: es) (rL X.K l))
    (hn : x ≠ "__name__" := by decide) (hdb : (x == ("__debug__" : Str)) = false := by decide) (he : starEach (e :: es) X.env = (false, eval e X.env) :: starEach es X.env := by rfl) (hpl : (backTo pos (starEach es X.env)).any (·.1) = false := by rfl) :
    PE X (.Call (.Name x p) (e :: es) [] pos) (rE X.K (xAll f l)) := PE.imp (pe_callTy hc hg hm hv ha hn hdb he hpl) (all_of o)
end

def xNot (a : XE) : XE := fun e S => match a e S with
  | none => none
  | some (x, S1) => match truth S1 x with
    | none => none
    | some b => some (.bl (!b), S1)
theorem r_notV {X : Cx} {a : Expr} {pos : Pos} {ma : XE} (ha : PE X a (rE X.K ma)) : PE X (.UnaryOp .Not a pos) (rE X.K (xNot ma)) := by
  refine PE.imp (pe_notT ha) fun σ H Q ⟨ρ, e, S, d, S', re, g, h, k⟩ => ?_
  unfold xNot at h
  split at h
  · cases h
  rename_i x S1 ea
  split at h
  · cases h
  rename_i t et
  cases h
  exact ⟨ρ, e, S, x, _, re, g, ea, fun ρ1 H1 v x1 g1 hv => ⟨_, tru_rep g1 hv et, k ρ1 H1 _ x1 g1 (.bl _)⟩⟩

theorem as_body {X : Cx} {K : PySem.W.Frag} {sts : List Stmt} {b b' : XS} (h : PSs X sts (rS X.K b)) (e : b = b') (eK : X.K = K) : PSs X sts (rS K b') := by
  subst e eK
  exact h

def xMet (ok : D → Sto → Bool) (f : D → List D → Sto → Option (D × Sto)) (o : XE) (l : XL) : XE := fun e S => match o e S with
  | none => none
  | some (x, S1) => if ok x S1 = true then match l e S1 with
      | none => none
      | some (xs, S2) => f x xs S2
    else none
def MetM (K : PySem.W.Frag) (f : D → List D → Sto → Option (D × Sto)) (r : V → List V → Hp → VK → Prop) : Prop := ∀ ρ H S x xs d S' vx vs (Q : VK), G K ρ H S → Rep K ρ H x vx → Reps K ρ H xs vs → f x xs S = some (d, S') →
  (∀ ρ' H' v, Ext K ρ H ρ' H' → G K ρ' H' S' → Rep K ρ' H' d v → Q v H') → r vx vs H Q
def okList (x : D) (S : Sto) : Bool := match x with
  | .loc n => match lstAt S n with
    | some _ => true
    | none => false
  | _ => false
theorem okList_ty {ρ : List Addr} {H : Hp} {S : Sto} {x : D} {v : V} (g : G K ρ H S) (r : Rep K ρ H x v) (h : okList x S = true) : tyV K "list" v H := by
  unfold okList at h
  split at h
  · split at h
    · rename_i el
      cases r with
      | loc hn =>
        obtain ⟨vs, hs, _⟩ := g.lst hn el
        exact .inl ⟨rfl, vs, hs⟩
    · cases h
  · cases h
section
variable {X : Cx} {o e : Expr} {es : List Expr} {name : Str} {apos cpos : Pos} {T id : String} {r : V → List V → Hp → VK → Prop} {f : D → List D → Sto → Option (D × Sto)} {ok : D → Sto → Bool} {mo : XE} {l : XL}
theorem r_met (pa : PlainAttrs T) (slot : Slot T name id) (hty : typeOf (.builtin id) = pure (.type "method_descriptor")) (hm : MtR X id r) (mm : MetM X.K f r) (hok : ∀ {ρ : List Addr} {H : Hp} {S : Sto} {x : D} {v : V}, G X.K ρ H S → Rep X.K ρ H x v → ok x S = true → tyV X.K T v H)
    (ho : PE X o (rE X.K mo)) (ha : PA X (e :: es) (rL X.K l)) (hbase : attributeBase o name X.env (eval o X.env) = eval o X.env := by rfl)
    (hfew : ((backTo cpos (starEach (e :: es) X.env)).all (fun x => !x.1) && (backToKw cpos (keywordEach [] X.env)).all (fun x => x.1.isSome) && decide ((e :: es).length + ([] : List Keyword).length + (if ([] : List Keyword).isEmpty then 0 else 1) < 30)) = true := by rfl)
    (hline : (apos.endLine == cpos.line) = true := by rfl) (hs : starEach (e :: es) X.env = (false, eval e X.env) :: starEach es X.env := by rfl) (hplain : (backTo cpos (starEach es X.env)).any (·.1) = false := by rfl) :
    PE X (.Call (.Attribute o name apos) (e :: es) [] cpos) (rE X.K (xMet ok f mo l)) := by
  refine PE.imp (pe_bm pa slot hty hm ho ha hbase hfew hline hs hplain) fun σ H Q ⟨ρ, en, S, d, S', re, g, h, k⟩ => ?_
  unfold xMet at h
  split at h
  · cases h
  rename_i x S1 ex
  split at h
  rotate_left
  · cases h
  rename_i hk
  split at h
  · cases h
  rename_i xs S2 el
  exact ⟨ρ, en, S, x, S1, re, g, ex, fun ρ1 H1 v x1 g1 hv => ⟨hok g1 hv hk, ρ1, en, S1, xs, S2, re.mono x1, g1, el, fun ρ2 H2 vs x2 g2 hvs => mm ρ2 H2 S2 x xs d S' v vs Q g2 (hv.mono x2) hvs h fun ρ3 H3 v3 x3 g3 hv3 => k ρ3 H3 v3 ((x1.trans x2).trans x3) g3 hv3⟩⟩
end
def fApp (x : D) (xs : List D) (S : Sto) : Option (D × Sto) := match x, xs with
  | .loc n, [y] => match S[n]? with
    | some (.lst ds) => if ds.length < 1000000 then some (.non, S.set n (.lst (ds ++ [y]))) else none
    | _ => none
  | _, _ => none
theorem mm_app : MetM K fApp rAppend := by
  intro ρ H S x xs d S' vx vs Q g hx hxs e k
  unfold fApp at e
  split at e
  rotate_left
  · cases e
  rename_i n y
  split at e
  rotate_left
  · cases e
  rename_i ds h1
  split at e
  rotate_left
  · cases e
  rename_i hl
  cases e
  cases hx with
  | loc hn =>
    cases hxs with
    | cons hy hnil =>
      cases hnil
      obtain ⟨vl, ev, rv⟩ := lst_at g hn h1
      obtain ⟨g1, x1⟩ := g.set (q := .lst (ds ++ [y])) (o := .lst (vl ++ [_])) hn h1 rfl rfl (rv.append (.cons hy .nil))
      exact ⟨_, vl, _, rfl, rfl, ev, by rw [← rv.length]; exact Nat.lt_of_lt_of_le hl (by decide), k ρ _ _ x1 g1 .non⟩
end
end Mini
end
section
namespace Mini
open PySem L2
section
variable {e e1 : EnvD} {S S1 S2 S3 S4 : Sto} {a b c : XE} {p q : XB} {s t : XS} {l : XL} {x y z d : D} {k : Bool} {g : XG} {xs : List D} {n : Nat} {r : Option (D × Sto)} {rb : Option (Bool × Sto)} {rs : Option Res}
theorem v_c : xC d e S = some (d, S) := rfl
theorem v_nil : xNil e S = some ([], S) := rfl
theorem v_cons (h1 : a e S = some (x, S1)) (h2 : l e S1 = some (xs, S2)) : xCons a l e S = some (x :: xs, S2) := by unfold xCons; rw [h1]; dsimp only; rw [h2]
theorem v_op {f} (h1 : a e S = some (x, S1)) (h2 : b e S1 = some (y, S2)) (h3 : f x y S2 = r) : xOp f a b e S = r := by unfold xOp; rw [h1]; dsimp only; rw [h2]; exact h3
theorem v_un {f} (h1 : a e S = some (x, S1)) (h3 : f x S1 = r) : xUn f a e S = r := by unfold xUn; rw [h1]; exact h3
theorem v_all {f} (h1 : l e S = some (xs, S1)) (h3 : f xs S1 = r) : xAll f l e S = r := by unfold xAll; rw [h1]; exact h3
theorem v_call {n m} (h1 : l e S = some (xs, S1)) (h2 : xs.length = n) (h3 : m xs S1 = r) : xCall n m l e S = r := by unfold xCall; rw [h1]; dsimp only; rw [if_pos h2]; exact h3
theorem v_if (h : p e S = some (k, S1)) (h2 : (if k = true then a e S1 else b e S1) = r) : xIf p a b e S = r := by unfold xIf; rw [h]; cases k <;> exact h2
theorem v_and (h : a e S = some (.bl k, S1)) (h2 : (if k = true then b e S1 else some (.bl false, S1)) = r) : xAnd a b e S = r := by unfold xAnd; rw [h]; cases k <;> exact h2
theorem v_or (h : a e S = some (.bl k, S1)) (h2 : (if k = true then some (.bl true, S1) else b e S1) = r) : xOr a b e S = r := by unfold xOr; rw [h]; cases k <;> exact h2
theorem v_not (h : a e S = some (x, S1)) (h2 : truth S1 x = some k) : xNot a e S = some (.bl (!k), S1) := by unfold xNot; rw [h]; dsimp only; rw [h2]
theorem v_isi {T ty} (h : a e S = some (x, S1)) (h2 : tyD S1 x = some ty) : xIsi T a e S = some (.bl (isTy ty T), S1) := by unfold xIsi; rw [h]; dsimp only; rw [h2]
theorem v_met {ok f} (h : a e S = some (x, S1)) (ho : ok x S1 = true) (h2 : l e S1 = some (xs, S2)) (h3 : f x xs S2 = r) : xMet ok f a l e S = r := by unfold xMet; rw [h]; dsimp only; rw [if_pos ho, h2]; exact h3
theorem t_tru (h : a e S = some (x, S1)) (h2 : truth S1 x = some k) : bTru a e S = some (k, S1) := by unfold bTru; rw [h]; dsimp only; rw [h2]
theorem t_val (h : a e S = some (.bl k, S1)) : bVal a e S = some (k, S1) := by unfold bVal; rw [h]
theorem t_and (h : p e S = some (k, S1)) (h2 : (if k = true then q e S1 else some (false, S1)) = rb) : bAnd p q e S = rb := by unfold bAnd; rw [h]; cases k <;> exact h2
theorem t_or (h : p e S = some (k, S1)) (h2 : (if k = true then some (true, S1) else q e S1) = rb) : bOr p q e S = rb := by unfold bOr; rw [h]; cases k <;> exact h2
theorem t_not (h : p e S = some (k, S1)) : bNot p e S = some (!k, S1) := by unfold bNot; rw [h]
theorem s_nil : sNil e S = some (.nx e S) := rfl
theorem s_seq (h : s e S = some (.nx e1 S1)) (h2 : t e1 S1 = rs) : sSeq s t e S = rs := by unfold sSeq; rw [h]; exact h2
theorem s_seqr (h : s e S = some (.rt d S1)) : sSeq s t e S = some (.rt d S1) := by unfold sSeq; rw [h]
theorem s_ret (h : a e S = some (d, S1)) : sRet a e S = some (.rt d S1) := by unfold sRet; rw [h]
theorem s_expr (h : a e S = some (d, S1)) : sExpr a e S = some (.nx e S1) := by unfold sExpr; rw [h]
theorem s_if (h : p e S = some (k, S1)) (h2 : (if k = true then s e S1 else t e S1) = rs) : sIf p s t e S = rs := by unfold sIf; rw [h]; cases k <;> exact h2
theorem s_ifs {u : XS} (h : p e S = some (k, S1)) (h2 : (if k = true then sSeq s u e S1 else sSeq t u e S1) = rs) : sSeq (sIf p s t) u e S = rs := by
  have hh : sIf p s t e S = if k = true then s e S1 else t e S1 := s_if h rfl
  cases k
  · have h2' : sSeq t u e S1 = rs := h2
    unfold sSeq at h2' ⊢
    rw [hh]; exact h2'
  · have h2' : sSeq s u e S1 = rs := h2
    unfold sSeq at h2' ⊢
    rw [hh]; exact h2'
theorem s_nils {u : XS} (h : u e S = rs) : sSeq sNil u e S = rs := h
theorem s_rets {u : XS} (h : a e S = some (d, S1)) : sSeq (sRet a) u e S = some (.rt d S1) := s_seqr (s_ret h)
theorem s_seqs {u v : XS} (h : sSeq s (sSeq u v) e S = rs) : sSeq (sSeq s u) v e S = rs := by
  unfold sSeq at h ⊢
  cases q : s e S with
  | none => rw [q] at h; exact h
  | some r => cases r <;> (rw [q] at h; exact h)
theorem s_asg (h : a e S = some (d, S1)) (h2 : g d e = some e1) : sAsg a g e S = some (.nx e1 S1) := by unfold sAsg; rw [h]; dsimp only; rw [h2]
theorem s_put {f} (h : a e S = some (y, S1)) (h1 : b e S1 = some (x, S2)) (h2 : c e S2 = some (z, S3)) (h3 : f x z y S3 = some S4) : sPut f a b c e S = some (.nx e S4) := by
  unfold sPut; rw [h]; dsimp only; rw [h1]; dsimp only; rw [h2]; dsimp only; rw [h3]
theorem s_for_fix {w : XW} {ds} (h : w e S = some (.fix ds, S1)) (h2 : forL g s ds e S1 = rs) : sFor w g s e S = rs := by unfold sFor; rw [h]; exact h2
theorem s_asgs {u : XS} {g : XG} (h : a e S = some (d, S1)) (h2 : g d e = some e1) (h3 : u e1 S1 = rs) : sSeq (sAsg a g) u e S = rs := s_seq (s_asg h h2) h3
theorem s_exprs {u : XS} (h : a e S = some (d, S1)) (h3 : u e S1 = rs) : sSeq (sExpr a) u e S = rs := s_seq (s_expr h) h3
theorem s_puts {u : XS} {f} (h : a e S = some (y, S1)) (h1 : b e S1 = some (x, S2)) (h2 : c e S2 = some (z, S3)) (h3 : f x z y S3 = some S4) (h4 : u e S4 = rs) : sSeq (sPut f a b c) u e S = rs := s_seq (s_put h h1 h2 h3) h4
theorem ix_lst {ds : List D} {n i : Nat} (h0 : lstAt S n = some ds) (h : ds[i]? = some d) : fIx (.loc n) (.int (i : Int)) S = some (d, S) := by
  show (match lstAt S n with | some ds => (match atI ds (i : Int) with | some d => some (d, S) | none => none) | none => none) = some (d, S)
  rw [h0]
  dsimp only
  rw [atI_nat h]
theorem len_lst {ds : List D} {n : Nat} (h0 : lstAt S n = some ds) : fLen [.loc n] S = some (.int (ds.length : Int), S) := by
  show (match (match lstAt S n with | some ds => some ((ds.length : Nat) : Int) | none => none) with | some n => some (D.int n, S) | none => none) = _
  rw [h0]
theorem lst_len (e : S[n]? = some (.lst xs)) : lstAt S n = some xs := by unfold lstAt; rw [e]
theorem app_run {n : Nat} (e : S[n]? = some (.lst xs)) (h : xs.length < 1000000) : fApp (.loc n) [x] S = some (.non, S.set n (.lst (xs ++ [x]))) := by
  show (match S[n]? with | some (.lst ds) => (if ds.length < 1000000 then some (D.non, S.set n (.lst (ds ++ [x]))) else none) | _ => none) = _
  rw [e]
  dsimp only
  rw [if_pos h]
theorem put_run {n j : Nat} (e : S[n]? = some (.lst xs)) (h : j < xs.length) : fPut (.loc n) (.int (j : Int)) x S = some (S.set n (.lst (xs.set j x))) := by
  show (match S[n]? with | some (.lst ds) => (match ixN ds.length (j : Int) with | some j => some (S.set n (.lst (ds.set j x))) | none => none) | _ => none) = _
  rw [e]
  dsimp only
  have q : ixN xs.length (j : Int) = some j := by
    unfold ixN
    rw [if_pos (by omega), if_pos (by omega)]
    simp
  rw [q]
theorem okl_run {n : Nat} (e : S[n]? = some (.lst xs)) : okList (.loc n) S = true := by
  show (match lstAt S n with | some _ => true | none => false) = true
  rw [lst_len e]
theorem forL_inv {ds : List D} {P : Nat → EnvD → Sto → Prop}
    (hb : ∀ i d, ds[i]? = some d → ∀ e S, P i e S → ∃ e1 e2 S2, g d e = some e1 ∧ (s e1 S = some (.nx e2 S2) ∨ s e1 S = some (.ct e2 S2)) ∧ P (i + 1) e2 S2) :
    ∀ (k : Nat) (e : EnvD) (S : Sto), k ≤ ds.length → P (ds.length - k) e S → ∃ e' S', forL g s (ds.drop (ds.length - k)) e S = some (.nx e' S') ∧ P ds.length e' S' := by
  intro k
  induction k with
  | zero =>
    intro e S hk p
    refine ⟨e, S, ?_, p⟩
    rw [Nat.sub_zero, List.drop_length]
    rfl
  | succ k ih =>
    intro e S hk p
    have hi : ds.length - (k + 1) < ds.length := by omega
    obtain ⟨e1, e2, S2, hg, hs, hp⟩ := hb _ _ (List.getElem?_eq_getElem hi) e S p
    have e3 : ds.length - (k + 1) + 1 = ds.length - k := by omega
    rw [e3] at hp
    obtain ⟨e', S', r1, r2⟩ := ih e2 S2 (by omega) hp
    refine ⟨e', S', ?_, r2⟩
    rw [List.drop_eq_getElem_cons hi, e3]
    unfold forL
    rw [hg]; dsimp only
    rcases hs with hs | hs <;> (rw [hs]; exact r1)
theorem forL_all {ds : List D} {P : Nat → EnvD → Sto → Prop} (h0 : P 0 e S)
    (hb : ∀ i d, ds[i]? = some d → ∀ e S, P i e S → ∃ e1 e2 S2, g d e = some e1 ∧ (s e1 S = some (.nx e2 S2) ∨ s e1 S = some (.ct e2 S2)) ∧ P (i + 1) e2 S2) :
    ∃ e' S', forL g s ds e S = some (.nx e' S') ∧ P ds.length e' S' := by
  have q := forL_inv (P := P) hb ds.length e S (Nat.le_refl _) (by rw [Nat.sub_self]; exact h0)
  rw [Nat.sub_self, List.drop_zero] at q
  exact q
theorem e_rt (h : s e S = some (.rt d S1)) : ends (s e S) = some (d, S1) := by rw [h]; rfl
theorem fin_eq {m : Option (D × Sto)} (h : m = some (d, S1)) (h2 : some (d, S1) = r) : m = r := h.trans h2
end
end Mini
end
section
namespace Mini
open PySem L2
variable [Tabs]

def wipeD (e : EnvD) : List Nat → EnvD
  | [] => e
  | v :: vs => (wipeD e vs).set v none
theorem RE.unset {K : PySem.W.Frag} {ρ : List Addr} {H : Hp} {e : EnvD} {σ : L2.St} (r : RE K ρ H e σ) (i : Nat) : RE K ρ H (e.set i none) (σ.set i none) := by
  refine ⟨by rw [List.length_set, List.length_set]; exact r.len, fun j d' q => ?_⟩
  by_cases z : j = i
  · subst z
    have hl : j < e.length := by
      have h9 := (List.getElem?_eq_some_iff.mp q).1
      rwa [List.length_set] at h9
    rw [List.getElem?_set_self hl] at q
    cases q
  · rw [List.getElem?_set_ne (Ne.symm z)] at q
    obtain ⟨w, h1, h2⟩ := r.at_ j d' q
    exact ⟨w, by rw [List.getElem?_set_ne (Ne.symm z)]; exact h1, h2⟩
theorem RE.wipe {K : PySem.W.Frag} {ρ : List Addr} {H : Hp} {e : EnvD} {σ : L2.St} (r : RE K ρ H e σ) : ∀ vs : List Nat, RE K ρ H (wipeD e vs) (L2.wipe σ vs)
  | [] => r
  | v :: vs => (RE.wipe r vs).unset v
theorem wipe_get (σ : L2.St) (j : Nat) : ∀ vs : List Nat, (L2.wipe σ vs)[j]? = if j ∈ vs then (σ[j]?).map (fun _ => none) else σ[j]?
  | [] => by simp [L2.wipe]
  | v :: vs => by
    unfold L2.wipe
    rw [List.getElem?_set, L2.wipe_length]
    by_cases h : v = j
    · subst h
      by_cases hl : v < σ.length
      · simp [hl]
      · simp [hl]
    · rw [if_neg h, wipe_get σ j vs]
      have : (j ∈ v :: vs) ↔ j ∈ vs := by simp [Ne.symm h]
      simp only [this]
theorem wipe_set {σ : L2.St} {i : Nat} {x : Option V} {vs : List Nat} (hi : i ∈ vs) : L2.wipe (σ.set i x) vs = L2.wipe σ vs := by
  apply List.ext_getElem?
  intro j
  rw [wipe_get, wipe_get]
  by_cases h : j ∈ vs
  · rw [if_pos h, if_pos h]
    by_cases e : i = j
    · subst e
      by_cases hl : i < σ.length
      · rw [List.getElem?_set_self hl, List.getElem?_eq_getElem hl]
        rfl
      · rw [List.getElem?_eq_none_iff.mpr (by simpa using hl), List.getElem?_eq_none_iff.mpr (by simpa using hl)]
    · rw [List.getElem?_set_ne e]
  · rw [if_neg h, if_neg h, List.getElem?_set_ne (fun e => h (by rw [← e]; exact hi))]
theorem wipe_wipe (σ : L2.St) (vs : List Nat) : L2.wipe (L2.wipe σ vs) vs = L2.wipe σ vs := by
  apply List.ext_getElem?
  intro j
  rw [wipe_get, wipe_get]
  by_cases h : j ∈ vs
  · rw [if_pos h, if_pos h, Option.map_map]
    rfl
  · rw [if_neg h, if_neg h]

def rGw (K : PySem.W.Frag) (vs : List Nat) (g : XG) : TG := fun v σ H Q => ∃ ρ e d e', RE K ρ H e σ ∧ Rep K ρ H d v ∧ g d e = some e' ∧ ∀ σ', RE K ρ H e' σ' → L2.wipe σ' vs = L2.wipe σ vs → Q σ' H
def rGws (K : PySem.W.Frag) (vs : List Nat) (u : XGs) : TGs := fun xs σ H Q => ∃ ρ e ds e', RE K ρ H e σ ∧ Reps K ρ H ds xs ∧ u ds e = some e' ∧ ∀ σ', RE K ρ H e' σ' → L2.wipe σ' vs = L2.wipe σ vs → Q σ' H
section
variable {X : Cx} {pos : Pos} {vs : List Nat}
theorem rgw_name (i : Nat) {x : Str} (hN : X.N.Nodup) (hi : X.N[i]? = some x) (hx : Loc X.env.scope x) (hm : i ∈ vs) (hf : X.fn x = true ∨ X.env.scope.names.lookup x = some .local := by first | exact .inl rfl | exact .inr rfl | assumption) : PG X (.Name x pos) (rGw X.K vs (gN i)) :=
  PG.imp (pg_name hN hi hx hf) fun v σ H Q ⟨ρ, e, d, e', re, r, h, k⟩ => by
    cases h
    exact k _ (re.set i r) (wipe_set hm)
theorem rgws_nil : PGs X [] (rGws X.K vs gsN) := PGs.imp pgs_nil fun v σ H Q ⟨ρ, e, d, e', re, r, h, k⟩ => by
  cases r with
  | nil => cases h; exact ⟨rfl, k _ re rfl⟩
  | cons _ _ => cases h
theorem rgws_cons {t : Expr} {ts : List Expr} {g : XG} {u : XGs} (h1 : PG X t (rGw X.K vs g)) (h2 : PGs X ts (rGws X.K vs u))
    (ha : (assignEach (t :: ts) X.env).map (·.2) = assign t X.env :: (assignEach ts X.env).map (·.2) := by rfl) : PGs X (t :: ts) (rGws X.K vs (gsC g u)) := by
  refine PGs.imp (pgs_cons h1 h2 ha) fun v σ H Q ⟨ρ, e, ds, e', re, r, h, k⟩ => ?_
  cases r with
  | nil => cases h
  | @cons d0 v0 ds0 vs0 hr hrs =>
    have h' : (match g d0 e with | none => none | some e1 => u ds0 e1) = some e' := h
    split at h'
    · cases h'
    rename_i e1 ea
    exact ⟨_, _, rfl, ρ, e, _, e1, re, hr, ea, fun σ1 re1 w1 => ⟨ρ, e1, _, e', re1, hrs, h', fun σ2 re2 w2 => k σ2 re2 (w2.trans w1)⟩⟩
theorem rgw_tup {ts : List Expr} {kk : Nat} {u : XGs} {n : Nat} (hc : X.calm = true) (h : PGs X ts (rGws X.K vs u))
    (hn : (assignEach ts X.env).length = n := by rfl) (hst : (assignEach ts X.env).findIdx? (·.1) = none := by rfl) : PG X (.Tuple ts kk pos) (rGw X.K vs (gT n u)) := by
  refine PG.imp (pg_tup (n := n) hc h hn hst) fun v σ H Q ⟨ρ, e, d, e', re, r, h, k⟩ => ?_
  unfold gT at h
  split at h
  · rename_i ds
    split at h
    · rename_i hl
      cases r with
      | tup hs hr => exact ⟨_, _, rfl, hs, by rw [← hr.length]; exact hl, ρ, e, ds, e', re, hr, h, k⟩
    · cases h
  · cases h
end

def bYes : XB := fun _ S => some (true, S)
def grown (n : Nat) (x : D) (S : Sto) : Option Sto := match S[n]? with
  | some (.lst acc) => if acc.length < 1000000 then some (S.set n (.lst (acc ++ [x]))) else none
  | _ => none
def lcOne (g : XG) (c : XB) (a : XE) (n : Nat) (d : D) (e : EnvD) (S : Sto) : Option Sto := match g d e with
  | none => none
  | some e1 => match c e1 S with
    | none => none
    | some (false, S1) => some S1
    | some (true, S1) => match a e1 S1 with
      | none => none
      | some (x, S2) => grown n x S2
def lcL (g : XG) (c : XB) (a : XE) (n : Nat) : List D → EnvD → Sto → Option Sto
  | [], _, S => some S
  | d :: ds, e, S => match lcOne g c a n d e S with
    | none => none
    | some S1 => lcL g c a n ds e S1
def lcV (l : Nat) (g : XG) (c : XB) (a : XE) (n : Nat) : Nat → Nat → EnvD → Sto → Option Sto
  | 0, _, _, _ => none
  | k + 1, i, e, S => match lstAt S l with
    | none => none
    | some ds => match ds[i]? with
      | none => some S
      | some d => match lcOne g c a n d e S with
        | none => none
        | some S1 => lcV l g c a n k (i + 1) e S1
def xLc (w : XW) (vs : List Nat) (g : XG) (c : XB) (a : XE) : XE := fun e S => match w e S with
  | none => none
  | some (.fix ds, S1) => match lcL g c a S1.length ds (wipeD e vs) (S1 ++ [.lst []]) with
    | none => none
    | some S2 => some (.loc S1.length, S2)
  | some (.live l, S1) => match lcV l g c a S1.length turns 0 (wipeD e vs) (S1 ++ [.lst []]) with
    | none => none
    | some S2 => some (.loc S1.length, S2)
section
variable {K : PySem.W.Frag}
theorem lc_turn {ρ : List Addr} {H : Hp} {e : EnvD} {σ : L2.St} {S S1 : Sto} {d : D} {x : V} {g : XG} {c : XB} {a : XE} {n : Nat} {D0 : Addr} {vs : List Nat} {Nx : Hp → Prop}
    (re : RE K ρ H (wipeD e vs) (L2.wipe σ vs)) (gg : G K ρ H S) (rx : Rep K ρ H d x) (hn : ρ[n]? = some D0) (h : lcOne g c a n d (wipeD e vs) S = some S1)
    (k : ∀ ρ' H', Ext K ρ H ρ' H' → G K ρ' H' S1 → Nx H') :
    rGw K vs g x (L2.wipe σ vs) H fun σ2 H2 => L2.wipe σ2 vs = L2.wipe σ vs ∧ rB K c σ2 H2 fun b H3 =>
      if b = true then rE K a σ2 H3 fun y H4 => ∃ acc, H4 D0 = some (.lst acc) ∧ acc.length < sizeLine ∧ Nx (upd H4 D0 (.lst (acc ++ [y]))) else Nx H3 := by
  unfold lcOne at h
  split at h
  · cases h
  rename_i e1 eg
  refine ⟨ρ, wipeD e vs, d, e1, re, rx, eg, fun σ1 re1 hw => ⟨hw.trans (wipe_wipe σ vs), ?_⟩⟩
  split at h
  · cases h
  · rename_i S2 ec
    cases h
    refine ⟨ρ, e1, S, false, _, re1, gg, ec, fun ρ1 H1 x1 g1 => ?_⟩
    refine iteF ?_
    exact k ρ1 H1 x1 g1
  · rename_i S2 ec
    refine ⟨ρ, e1, S, true, _, re1, gg, ec, fun ρ1 H1 x1 g1 => ?_⟩
    refine iteT ?_
    split at h
    · cases h
    rename_i y S3 ea
    refine ⟨ρ1, e1, S2, y, S3, re1.mono x1, g1, ea, fun ρ2 H2 v x2 g2 hv => ?_⟩
    unfold grown at h
    split at h
    · rename_i acc es
      split at h
      · rename_i hl
        cases h
        have hn2 := pre_get x2.pre (pre_get x1.pre hn)
        obtain ⟨u, hu, ru⟩ := (RepO.mut_iff rfl).mp (g2.ob n D0 _ hn2 es)
        cases u with
        | lst ys =>
          have r2 : Reps K ρ2 H2 acc ys := ru
          obtain ⟨g3, x3⟩ := g2.set (q := .lst (acc ++ [y])) (o := .lst (ys ++ [v])) hn2 es rfl rfl (r2.append (.cons hv .nil))
          exact ⟨ys, hu, by rw [← r2.length]; exact Nat.lt_trans hl (by decide), k ρ2 _ ((x1.trans x2).trans x3) g3⟩
        | _ => exact ru.elim
      · cases h
    · cases h
theorem lc_fix {J : It} {ds : List D} {ρ0 : List Addr} {H0 : Hp} {g : XG} {c : XB} {a : XE} {σ : L2.St} {e : EnvD} {S S2 : Sto} {vs : List Nat} {n : Nat} {D0 : Addr} {Qd : Hp → Prop} (re : RE K ρ0 H0 e σ) (gg : G K ρ0 H0 S) (hn : ρ0[n]? = some D0)
    (w : WalkOk K ρ0 H0 J (.fix ds)) (h : lcL g c a n ds (wipeD e vs) S = some S2) (k : ∀ ρ' H', Ext K ρ0 H0 ρ' H' → G K ρ' H' S2 → Qd H') :
    ∃ W : Nat → Nat → Hp → Prop, (∃ m, W 0 m H0) ∧ ∀ i m H, W i m H → (J.stop i H ∧ Qd H) ∨ (J.go i H ∧ ∃ Nx : Hp → Prop, (∀ H', Nx H' → ∃ m', m' < m ∧ W (i + 1) m' H') ∧
      ∀ x H', J.yld i H x H' → rGw K vs g x (L2.wipe σ vs) H' fun σ2 H2 => L2.wipe σ2 vs = L2.wipe σ vs ∧ rB K c σ2 H2 fun b H3 =>
        if b = true then rE K a σ2 H3 fun y H4 => ∃ acc, H4 D0 = some (.lst acc) ∧ acc.length < sizeLine ∧ Nx (upd H4 D0 (.lst (acc ++ [y]))) else Nx H3) := by
  refine ⟨fun i m H => m = ds.length - i ∧ i ≤ ds.length ∧ ∃ ρ S, Ext K ρ0 H0 ρ H ∧ G K ρ H S ∧ lcL g c a n (ds.drop i) (wipeD e vs) S = some S2, ⟨_, rfl, Nat.zero_le _, ρ0, S, .refl, gg, h⟩, ?_⟩
  rintro i m H ⟨rfl, hi, ρ, S, x0, gg, h⟩
  by_cases hlt : i < ds.length
  · obtain ⟨q1, q2⟩ := w.2 i ds[i] (List.getElem?_eq_getElem hlt) ρ H x0
    rw [List.drop_eq_getElem_cons hlt] at h
    have h' : (match lcOne g c a n ds[i] (wipeD e vs) S with
      | none => none
      | some S1 => lcL g c a n (ds.drop (i + 1)) (wipeD e vs) S1) = some S2 := h
    split at h'
    · cases h'
    rename_i S1 e1
    refine .inr ⟨q1, fun H => ∃ ρ S, Ext K ρ0 H0 ρ H ∧ G K ρ H S ∧ lcL g c a n (ds.drop (i + 1)) (wipeD e vs) S = some S2, fun H' q => ⟨ds.length - (i + 1), by omega, rfl, hlt, q⟩, fun x H' y => ?_⟩
    obtain ⟨x1, g1, rx⟩ := q2 x H' y S gg
    have x2 := x0.trans x1
    exact lc_turn ((re.mono x2).wipe vs) g1 rx (pre_get x2.pre hn) e1 fun ρ' H' x3 g3 => ⟨ρ', S1, x2.trans x3, g3, h'⟩
  · have ei : i = ds.length := by omega
    subst ei
    rw [List.drop_length] at h
    cases h
    exact .inl ⟨w.1 ρ H x0, k ρ H x0 gg⟩
theorem lc_live {l : Nat} {b : Addr} {ρ0 : List Addr} {H0 : Hp} {g : XG} {c : XB} {a : XE} {σ : L2.St} {e : EnvD} {S S2 : Sto} {vs : List Nat} {n : Nat} {D0 : Addr} {Qd : Hp → Prop} (t : Nat) (re : RE K ρ0 H0 e σ) (gg : G K ρ0 H0 S) (hn : ρ0[n]? = some D0)
    (hl : ρ0[l]? = some b) (h : lcV l g c a n t 0 (wipeD e vs) S = some S2) (k : ∀ ρ' H', Ext K ρ0 H0 ρ' H' → G K ρ' H' S2 → Qd H') :
    ∃ W : Nat → Nat → Hp → Prop, (∃ m, W 0 m H0) ∧ ∀ i m H, W i m H → ((Itl K b).stop i H ∧ Qd H) ∨ ((Itl K b).go i H ∧ ∃ Nx : Hp → Prop, (∀ H', Nx H' → ∃ m', m' < m ∧ W (i + 1) m' H') ∧
      ∀ x H', (Itl K b).yld i H x H' → rGw K vs g x (L2.wipe σ vs) H' fun σ2 H2 => L2.wipe σ2 vs = L2.wipe σ vs ∧ rB K c σ2 H2 fun b H3 =>
        if b = true then rE K a σ2 H3 fun y H4 => ∃ acc, H4 D0 = some (.lst acc) ∧ acc.length < sizeLine ∧ Nx (upd H4 D0 (.lst (acc ++ [y]))) else Nx H3) := by
  refine ⟨fun i m H => ∃ ρ S, Ext K ρ0 H0 ρ H ∧ G K ρ H S ∧ lcV l g c a n m i (wipeD e vs) S = some S2, ⟨_, ρ0, S, .refl, gg, h⟩, ?_⟩
  rintro i m H ⟨ρ, S, x0, gg, h⟩
  cases m with
  | zero => cases h
  | succ m =>
    have h' : (match lstAt S l with
      | none => none
      | some ds => match ds[i]? with
        | none => some S
        | some d => match lcOne g c a n d (wipeD e vs) S with
          | none => none
          | some S1 => lcV l g c a n m (i + 1) (wipeD e vs) S1) = some S2 := h
    split at h'
    · cases h'
    rename_i ds el
    obtain ⟨vs', hs, hr⟩ := gg.lst (pre_get x0.pre hl) el
    split at h'
    · rename_i ed
      cases h'
      exact .inl ⟨⟨vs', hs, by rw [← hr.length]; exact List.getElem?_eq_none_iff.mp ed⟩, k ρ H x0 gg⟩
    rename_i d ed
    obtain ⟨v, hv, rv⟩ := hr.get ed
    split at h'
    · cases h'
    rename_i S1 e1
    refine .inr ⟨⟨vs', v, hs, hv⟩, fun H => ∃ ρ S, Ext K ρ0 H0 ρ H ∧ G K ρ H S ∧ lcV l g c a n m (i + 1) (wipeD e vs) S = some S2, fun H' q => ⟨m, Nat.lt_succ_self m, q⟩, fun x H' y => ?_⟩
    obtain ⟨rfl, y2⟩ := y
    have ex := y2 vs' hs
    rw [hv] at ex
    cases ex
    exact lc_turn ((re.mono x0).wipe vs) gg rv (pre_get x0.pre hn) e1 fun ρ' H' x3 g3 => ⟨ρ', S1, x0.trans x3, g3, h'⟩
theorem lc_of {w : XW} {vs : List Nat} {g : XG} {c : XB} {a : XE} : ∀ σ H Q, rE K (xLc w vs g c a) σ H Q → tLc (rW K w) (rGw K vs g) (rB K c) (rE K a) vs σ H Q := by
  intro σ H Q ⟨ρ, e, S, d, S', re, gg, h, k⟩
  unfold xLc at h
  split at h
  · cases h
  · rename_i ds S1 ew
    split at h
    · cases h
    rename_i S2 el
    cases h
    refine ⟨ρ, e, S, .fix ds, S1, re, gg, ew, fun ρ1 H1 J x1 g1 wk D0 hD => ?_⟩
    obtain ⟨g2, x2⟩ := g1.new (q := .lst []) (o := .lst []) hD rfl .nil
    have hn : (ρ1 ++ [D0])[S1.length]? = some D0 := by rw [← g1.len]; simp
    have wk2 : WalkOk K (ρ1 ++ [D0]) (upd H1 D0 (.lst [])) J (.fix ds) := ⟨fun ρ' H' x => wk.1 ρ' H' (x2.trans x), fun i d hd ρ' H' x => wk.2 i d hd ρ' H' (x2.trans x)⟩
    exact lc_fix (re.mono (x1.trans x2)) g2 hn wk2 el fun ρ' H' x3 g3 => k ρ' H' _ ((x1.trans x2).trans x3) g3 (.loc (pre_get x3.pre hn))
  · rename_i l S1 ew
    split at h
    · cases h
    rename_i S2 el
    cases h
    refine ⟨ρ, e, S, .live l, S1, re, gg, ew, fun ρ1 H1 J x1 g1 wk D0 hD => ?_⟩
    obtain ⟨b, hb, rfl⟩ := wk
    obtain ⟨g2, x2⟩ := g1.new (q := .lst []) (o := .lst []) hD rfl .nil
    have hn : (ρ1 ++ [D0])[S1.length]? = some D0 := by rw [← g1.len]; simp
    exact lc_live turns (re.mono (x1.trans x2)) g2 hn (pre_get x2.pre hb) el fun ρ' H' x3 g3 => k ρ' H' _ ((x1.trans x2).trans x3) g3 (.loc (pre_get x3.pre hn))
end
section
variable {X : Cx}
theorem PTs.imp {ifs : List Expr} {t t' : TT} (h : PTs X ifs t) (i : ∀ σ H Q, t' σ H Q → t σ H Q) : PTs X ifs t' := ⟨fun pins s σ H Q I q => h.run pins s σ H Q I (i _ _ _ q)⟩
theorem rts_nil : PTs X [] (rB X.K bYes) := PTs.imp pts_nil fun σ H Q ⟨ρ, e, S, b, S', re, g, h, k⟩ => by
  cases h
  exact k ρ H .refl g
theorem rts_one {c : Expr} {m : XB} (h : PT X c (rB X.K m)) : PTs X [c] (rB X.K m) := pts_one h
theorem r_lc {elt tg iter : Expr} {ifs : List Expr} {scope : Scope} {pos : Pos} {w : XW} {g : XG} {c : XB} {a : XE} (own : List (Str × Nat)) (vs : List Nat) (sc : Scope) {N : List Str} (hc : X.calm = true) (hN : X.N.Nodup) (eN : X.N = N) (esc : X.env.scope = sc) (hv : own.map (·.2) = vs)
    (hok : blkC N sc scope own = true) (hi : PI X tg iter (rW X.K w))
    (hg : ∀ (s : Shared) (H : Hp) (C : Addr) (cl : List (Str × Addr)) (fp : List Addr), PG (X.blk s H scope (compEnvC scope cl C X.env) fp) tg (rGw X.K vs g))
    (ht : ∀ (s : Shared) (H : Hp) (C : Addr) (cl : List (Str × Addr)) (fp : List Addr), PTs (X.blk s H scope (compEnvC scope cl C X.env) fp) ifs (rB X.K c))
    (he : ∀ (s : Shared) (H : Hp) (C : Addr) (cl : List (Str × Addr)) (fp : List Addr), PE (X.blk s H scope (compEnvC scope cl C X.env) fp) elt (rE X.K a))
    (hs : ∀ x, foldedSetIterable iter X.env x = pure x := by intro _; rfl) : PE X (.ListComp elt [⟨tg, iter, ifs, 0⟩] scope pos) (rE X.K (xLc w vs g c a)) := by
  subst hv eN esc
  exact PE.imp (pe_lc hc hN hi (blkOk_by hok) hg ht he hs) lc_of
end
end Mini
end
section
namespace Mini
open PySem PySem.Spec PyProof.Rows L2 GenW

def gxEnv (scope : Scope) (cells : List (Str × Addr)) (C : Addr) (code : Value) (bi : Addr) (env : Env) : Env :=
  newEnv scope C env.globals cells (env.qual ++ "<genexpr>.") none code none bi
theorem newEnv_gx {M : Model} {A : Around} {E : Value → Shared → Prop} {s : Shared} {scope : Scope} {globals : Addr} {closure : List (Str × Addr)} {qual : Str} {code it : Value} {builtins : Addr} {Q : Env → Shared → Prop}
    (h0 : scope.names.lookup (".0" : Str) = some NameKind.local) (hk : scope.kind = .function)
    (h : ∀ h' tk, h'.Ns s.heap.objs.size (fun y => if y = ".0" then some it else none) → Heap.SameBut s.heap.objs.size (pushCells (s.heap.push { cls := .type "frame", data := .dict #[] }) scope.names) h' →
      Q (newEnv scope s.heap.objs.size globals (cellsFrom (s.heap.objs.size + 1) scope.names closure) qual none code none builtins) { s with heap := h', toks := tk }) :
    wpAny M A (newFunctionEnv scope globals closure [(".0", it)] qual none code none builtins) Q E s := by
  simp only [newFunctionEnv, Option.isSome_none, Bool.false_eq_true, if_false]
  refine wpAny_bind (wpAny_alloc ?_)
  refine wpAny_bind (wpAny_layCells _ (fun n k c => rfl) scope.names closure _ _ ?_)
  rw [show ({ s with heap := s.heap.push { cls := .type "frame", data := .dict #[] } } : Shared).heap.objs.size = s.heap.objs.size + 1 from Heap.size_push ..]
  have hn : (pushCells (s.heap.push { cls := .type "frame", data := .dict #[] }) scope.names).Ns s.heap.objs.size (fun _ => none) := Heap.Ns.keeps (Heap.Ns.new ..) fun b o e => pushCells_keeps _ _ _ _ e
  rw [List.forIn_cons]
  refine wpAny_bind (wpAny_bind (wpAny_bind (wpAny_storeName_local (env := newEnv scope s.heap.objs.size globals (cellsFrom (s.heap.objs.size + 1) scope.names closure) qual none code none builtins) h0 hn (fun h' hn' hs' => wpAny_pure ?_) (by show (scope.kind == .class || (scope.kind == .module && _)) = false; rw [hk]; rfl))))
  dsimp only
  rw [List.forIn_nil]
  exact wpAny_pure (wpAny_pure (h h' _ hn' hs'))

abbrev gxC (X : Cx) (A : Around) (s : Shared) (H : Hp) (scope : Scope) (cenv : Env) (fp : List Addr) : Cx :=
  { X with A := A, s_0 := s, H_0 := H, env := cenv, outer := X.stack, stack := cenv :: X.stack, ex := fp, fn := fun x => scope.names.lookup x == some .cell, pn := [], xe := fun _ _ => False }
section
variable {X : Cx} {pins : List (Addr × Obj)} {σ : L2.St} {H : Hp} {s : Shared}
theorem gx_start {A : Around} {scope : Scope} {own : List (Str × Nat)} {fp : List Addr} {code itv : Value} {tk : Nat} {h' : Heap} (I : Inv X pins σ H s) (ok : BlkOk X.N X.env.scope scope own) (hN : X.N.Nodup) (hfp : ∀ b ∈ fp, FpOk X pins H b ∧ b < s.heap.objs.size)
    (hd : A.handled = none) (hfr : A.frames = some (gxEnv scope (cellsFrom (s.heap.objs.size + 1) scope.names (cloFrom X.env.cells scope.names [])) s.heap.objs.size code builtinsNs X.env :: X.stack))
    (hns : h'.Ns s.heap.objs.size (fun y => if y = ".0" then some itv else none)) (hsb : Heap.SameBut s.heap.objs.size (pushCells (s.heap.push { cls := .type "frame", data := .dict #[] }) scope.names) h') :
    Inv (gxC X A s H scope (gxEnv scope (cellsFrom (s.heap.objs.size + 1) scope.names (cloFrom X.env.cells scope.names [])) s.heap.objs.size code builtinsNs X.env) fp) [] (wipe σ (own.map (·.2))) H { s with heap := h', toks := tk } := by
  have hfree : ∀ y ∈ scope.names, y.2 = .free → ∃ c, X.env.cells.lookup y.1 = some c := fun y hy e => by
    rcases ok.free y hy e with k | k
    · exact I.ok.has _ (.inl k)
    · exact I.ok.has _ (.inr k)
  generalize hcenv : gxEnv scope (cellsFrom (s.heap.objs.size + 1) scope.names (cloFrom X.env.cells scope.names [])) s.heap.objs.size code builtinsNs X.env = cenv at hfr ⊢
  have kp : ∀ b o, s.heap.get? b = some o → h'.get? b = some o := fun b o e => hsb.extBut b o (Nat.ne_of_lt (Heap.lt_size e)) (pushCells_keeps _ _ _ _ (Heap.get?_push_of_some _ e))
  have hL : cenv.locals = s.heap.objs.size := by rw [← hcenv]; rfl
  have hcl : cenv.cells = cellsFrom (s.heap.objs.size + 1) scope.names (cloFrom X.env.cells scope.names []) := by rw [← hcenv]; rfl
  have hsc : cenv.scope = scope := by rw [← hcenv]; rfl
  have hff : cenv.frame = some cenv.locals := by rw [← hcenv]; rfl
  rw [← Heap.size_push s.heap { cls := .type "frame", data := .dict #[] }] at hcl
  have cm : ∀ {y c}, (y, c) ∈ cloFrom X.env.cells scope.names [] → X.env.cells.lookup y = some c ∧ c < s.heap.objs.size := fun {y c} hm => by
    rcases cloFrom_mem hm with hm | ⟨h1, rfl⟩
    · cases hm
    · obtain ⟨c, hc⟩ := hfree _ h1 rfl
      rw [hc]
      obtain ⟨w, z⟩ := I.cell _ _ hc
      exact ⟨rfl, z.lt⟩
  have mem : ∀ {y c}, cenv.cells.lookup y = some c → (X.env.cells.lookup y = some c ∧ c < s.heap.objs.size) ∨ (s.heap.objs.size + 1 ≤ c ∧ CellAt h' c none) := fun {y c} e => by
    rw [hcl] at e
    rcases cells_mem (PySem.mem_of_lookup e) with hm | ⟨_, h2, h3⟩
    · exact .inl (cm hm)
    · rw [Heap.size_push] at h2
      refine .inr ⟨h2, ?_⟩
      obtain ⟨o, ho, hd⟩ := h3
      exact ⟨o, hsb.extBut c o (Nat.ne_of_gt (Nat.lt_of_succ_le h2)) ho, hd⟩
  have look : ∀ {y}, scope.names.lookup y = some .free → ∃ c, cenv.cells.lookup y = some c ∧ X.env.cells.lookup y = some c := fun {y} hl => by
    have hy : (y, NameKind.free) ∈ scope.names := PySem.mem_of_lookup hl
    obtain ⟨c', e'⟩ := mem_lookup (cells_acc (names := scope.names) (n := (s.heap.push { cls := .type "frame", data := .dict #[] }).objs.size) (cloFrom_has (cells := X.env.cells) (acc := []) hy))
    rw [← hcl] at e'
    refine ⟨c', e', ?_⟩
    rw [hcl] at e'
    rcases cells_mem (PySem.mem_of_lookup e') with hm | ⟨h1, _, _⟩
    · exact (cm hm).1
    · have := ok.uniq _ h1
      rw [hl] at this; cases this
  have okB : (gxC X A s H scope cenv fp).Ok := by
    refine ⟨I.ok.mod, by show cenv.scope.kind = _; rw [hsc]; exact ok.kind, by show cenv.globals = _; rw [← hcenv]; exact I.ok.glob, by show cenv.builtins = _; rw [← hcenv]; rfl, by show s.heap.objs.size ≤ cenv.locals; rw [hL]; exact Nat.le_refl _,
      fun y z c e1 e2 => ?_, fun y hy => ?_, fun y c z e => ?_, fun _ => hd, hfr, .inr ⟨rfl, hff⟩, fun b hb => ⟨?_, fun y c e z => ?_⟩, I.bs, Nat.le_trans I.ok.bsz I.sz, fun b o e hb => ?_, fun b hb z => ?_, I.stack, I.stkFree⟩
    · have e1 : cenv.cells.lookup y = some c := e1
      have e2 : cenv.cells.lookup z = some c := e2
      rw [hcl] at e1 e2
      refine cells_inj (fun p hp => ?_) (fun y z c a b => I.ok.inj y z c (cm a).1 (cm b).1) (PySem.mem_of_lookup e1) (PySem.mem_of_lookup e2)
      rw [Heap.size_push]
      exact Nat.lt_succ_of_lt (cm (y := p.1) (c := p.2) hp).2
    · show ∃ c, cenv.cells.lookup y = some c
      have key : ∀ k, cenv.kindOf y = some k → (k = .cell ∨ k = .free) → ∃ c, cenv.cells.lookup y = some c := fun k hk hk' => by
        unfold Env.kindOf at hk
        rw [hsc] at hk
        rcases hk' with rfl | rfl
        · obtain ⟨c, hm⟩ := cells_has (n := (s.heap.push { cls := .type "frame", data := .dict #[] }).objs.size) (acc := cloFrom X.env.cells scope.names []) (PySem.mem_of_lookup hk)
          obtain ⟨c', e'⟩ := mem_lookup hm
          exact ⟨c', by rw [hcl]; exact e'⟩
        · obtain ⟨c, h1, _⟩ := look hk
          exact ⟨c, h1⟩
      rcases hy with hy | hy
      · exact key _ hy (.inl rfl)
      · exact key _ hy (.inr rfl)
    · have z : (scope.names.lookup y == some NameKind.cell) = true := z
      have z : scope.names.lookup y = some .cell := by simpa using z
      have e : cenv.cells.lookup y = some c := e
      rw [hcl] at e
      rcases cells_mem (PySem.mem_of_lookup e) with hm | ⟨_, h2, _⟩
      · rcases cloFrom_mem hm with hm | ⟨h1, _⟩
        · cases hm
        · have q := ok.uniq _ h1
          rw [z] at q; cases q
      · rw [Heap.size_push] at h2
        exact Nat.le_of_succ_le h2
    · show b ≠ cenv.locals
      rw [hL]; exact Nat.ne_of_lt (hfp b hb).2
    · have e : cenv.cells.lookup y = some c := e
      rcases mem e with ⟨h1, _⟩ | ⟨h1, _⟩
      · exact (hfp b hb).1.2.2.2.2.1 y c h1 z
      · have h2 : s.heap.objs.size + 1 ≤ b := by rw [← z]; exact h1
        exact absurd (Nat.lt_of_lt_of_le (hfp b hb).2 (Nat.le_of_succ_le h2)) (Nat.lt_irrefl _)
    · rcases (hfp b hb).1.2.2.2.1 with z | z
      · exact I.ok.noex b o e z
      · exact absurd (Nat.lt_of_lt_of_le (Heap.lt_size e) (Nat.le_trans I.ok.bsz z)) (Nat.lt_irrefl _)
    · rcases List.mem_cons.mp (I.stkSub b z) with z | z
      · exact (hfp b hb).1.2.1 z
      · exact (hfp b hb).1.2.2.1 z
  refine ⟨okB, rfl, I.bare, Un.kept kp, ⟨fun y => if y = ".0" then some itv else none, ?_, fun i y av e1 e2 e3 => ?_⟩, fun y c e => ?_, ?_, fun y c e => ?_, fun p hp => ?_, I.hok.kept kp, by rw [wipe_length]; exact I.len⟩
  · show Heap.Ns _ cenv.locals _
    rw [hL]
    exact hns
  · obtain ⟨e2, hne⟩ := wipe_some e2
    have hfr2 : scope.names.lookup y = some .free := by
      have key : ∀ k, scope.names.lookup y = some k → k = .local ∨ k = .cell ∨ k = .free → scope.names.lookup y = some .free := fun k hk hk' => by
        have no : ¬ (k = .local ∨ k = .cell) := fun hh => by
          rcases ok.own _ (PySem.mem_of_lookup hk) hh with e' | e'
          · obtain ⟨p, hp, hpy⟩ := List.mem_map.mp e'
            have e3 := ok.ix p hp
            have : p.1 = y := hpy
            rw [this] at e3
            exact hne (List.mem_map.mpr ⟨p, hp, nodup_ix hN e3 e1⟩)
          · exact e' (List.mem_of_getElem? e1)
        rcases hk' with rfl | rfl | rfl
        · exact absurd (.inl rfl) no
        · exact absurd (.inr rfl) no
        · exact hk
      have e3 : Vis cenv.scope y := e3
      rw [hsc] at e3
      rcases e3 with e3 | e3 | e3
      · exact key _ e3 (.inl rfl)
      · exact key _ e3 (.inr (.inl rfl))
      · exact key _ e3 (.inr (.inr rfl))
    obtain ⟨m, hn, hl⟩ := I.loc
    have hvis : Vis X.env.scope y := (ok.free _ (PySem.mem_of_lookup hfr2) rfl).elim (fun k => .inr (.inl k)) (fun k => .inr (.inr k))
    obtain ⟨w, r, q⟩ := hl i y av e1 e2 hvis
    refine ⟨w, r, .inr ⟨.inr (by show cenv.kindOf y = _; unfold Env.kindOf; rw [hsc]; exact hfr2), ?_⟩⟩
    obtain ⟨c, h1, h2⟩ := look hfr2
    rcases q with ⟨k, _⟩ | ⟨_, c', e', z⟩
    · have k : X.env.scope.names.lookup y = some .local := k
      rcases ok.free _ (PySem.mem_of_lookup hfr2) rfl with k' | k' <;> rw [show X.env.scope.names.lookup y = _ from k'] at k <;> cases k
    · rw [h2] at e'; cases e'
      exact ⟨c, h1, z.keeps kp⟩
  · have e : cenv.cells.lookup y = some c := e
    rcases mem e with ⟨h1, _⟩ | ⟨_, z⟩
    · obtain ⟨w, z⟩ := I.cell y c h1
      exact ⟨w, z.keeps kp⟩
    · exact ⟨_, z⟩
  · show H cenv.locals = none
    rw [hL]; exact I.hok.fresh (Nat.le_refl _)
  · have e : cenv.cells.lookup y = some c := e
    rcases mem e with ⟨h1, _⟩ | ⟨h1, _⟩
    · exact I.freeC y c h1
    · exact I.hok.fresh (Nat.le_of_succ_le h1)
  · exact absurd (show p ∈ ([] : List (Addr × Obj)) ++ [] from hp) (by simp)
theorem gx_back {A : Around} {scope : Scope} {fp : List Addr} {cenv : Env} {pins' : List (Addr × Obj)} {σ' : L2.St} {H' : Hp} {s' : Shared} (I : Inv X pins σ H s) (hfp : ∀ b ∈ fp, FpOk X pins H b) (J : Inv (gxC X A s H scope cenv fp) pins' σ' H' s') : Inv X pins σ H' s' :=
  I.call' (ch := fp) J.os J.base J.hok J.bare fun b hb => ⟨(hfp b hb).2.2.2.1, (hfp b hb).2.1, (hfp b hb).2.2.2.2.1, (hfp b hb).2.2.2.2.2⟩
theorem Inv.regen {G : Array GenState} (I : Inv X pins σ H s) (h : AllBare G) : Inv X pins σ H { s with gens := G } :=
  ⟨I.ok, I.os, h, I.base, I.loc, I.cell, I.free, I.freeC, I.pin, I.hok, I.len⟩
end
end Mini
end
section
namespace Mini
open PySem PySem.Spec PyProof.Rows L2 GenW GxR

theorem over_gxL {A : Around} {elt tg iter : Expr} {ifs : List Expr} {scope : Scope} {pos : Pos} {it acc : Value} {env : Env} : A.over (.compLoop (.GeneratorExp elt [⟨tg, iter, ifs, 0⟩] scope pos) 0 it acc env) [] = A.deeper env := by
  first
    | rfl
    | (obtain ⟨hd, d, fr, gs, u⟩ := A; simp [Around.over, Around.deeper, marksOver, frameCount, unitsOf, envsOf, guardsOf, pushEnvs, pushGuards, Code.envs, Code.env?, Code.isFrame, Code.guards, Code.isGuard, Code.weight, Code.frames, Code.isCreation, Code.isCaller, Code.cUnits])

def gxR (X' : Cx) (pins : List (Addr × Obj)) (Qd : Hp → Prop) : GenEnd := fun _ _ r s1 => ((r = .ok (.ret .none) ∨ r = .ok .next) ∧ ∃ σ' H', Inv X' pins σ' H' s1 ∧ Qd H') ∨ ∃ e, r = .error e ∧ False
def gxY (X' : Cx) (pins : List (Addr × Obj)) (Cons : V → Hp → (Hp → Prop) → Prop) : Protocol := fun _ _ v s kap =>
  ∃ y pn2 σ2 H4 Nx, RelV y v ∧ Inv X' (pins ++ pn2) σ2 H4 s ∧ Cons y H4 Nx ∧ ∀ s'' H'', Inv X' (pins ++ pn2) σ2 H'' s'' → Nx H'' → kap (.send .none) s''

section
variable {X' : Cx} {elt tg iter : Expr} {ifs : List Expr} {scope : Scope} {pos : Pos} {it : Addr} {fp : List Addr} {tn : Nat → Heap → Prop} {J : It} {g : TG} {tt : TT} {te : TE} {vs : List Nat} {σ : L2.St} {pins : List (Addr × Obj)} {Cons : V → Hp → (Hp → Prop) → Prop} {Qd : Hp → Prop} {W : Nat → Nat → Hp → Prop} {A : Around}
theorem gx_loop (hov : A.deeper X'.env = X'.A) (hc : X'.calm = true) (hxe : X'.xe = fun _ _ => False) (hpn : X'.pn = []) (hex : X'.ex = fp) (hco : X'.env.scope.isCoroutine = false) (T : Turn X'.prog X'.w X'.K tg J fp it tn) (haf : ∀ p ∈ pins, p.1 ∉ fp)
    (pg : PG X' tg g) (pt : PTs X' ifs tt) (pe : PE X' elt te)
    (turn : ∀ i m H, W i m H → (J.stop i H ∧ Qd H) ∨ (J.go i H ∧ ∃ Nx : Hp → Prop, (∀ H', Nx H' → ∃ m', m' < m ∧ W (i + 1) m' H') ∧
      ∀ x H', J.yld i H x H' → g x (wipe σ vs) H' fun σ2 H2 => wipe σ2 vs = wipe σ vs ∧ tt σ2 H2 fun b H3 => if b = true then te σ2 H3 fun y H4 => Cons y H4 Nx else Nx H3)) :
    ∀ (n m i : Nat) (s₀ s : Shared) (H : Hp), m < n → Inv X' pins (wipe σ vs) H s → tn i s.heap → (∀ b ∈ fp, H b = none) → W i m H →
      Seg (model X'.prog X'.w) A (gxR X' pins Qd) (gxY X' pins Cons) n s₀ (.compLoop (.GeneratorExp elt [⟨tg, iter, ifs, 0⟩] scope pos) 0 (.ref it) .none X'.env)
        ((model X'.prog X'.w).den (.compLoop (.GeneratorExp elt [⟨tg, iter, ifs, 0⟩] scope pos) 0 (.ref it) .none X'.env)) [] s := by
  have stat : ∀ {σ' : L2.St} {H' : Hp} {s' : Shared}, Inv X' pins σ' H' s' → (∀ b ∈ fp, H' b = none) → ∀ b ∈ fp, FpOk X' pins H' b := fun {σ' H' s'} I' hn b hb =>
    ⟨hn b hb, (I'.ok.exf b (hex ▸ hb)).1, I'.ok.exfs b (hex ▸ hb), .inl (hex ▸ hb), fun x c e => (I'.ok.exf b (hex ▸ hb)).2 x c e, fun p hp z => by
      rw [hpn, List.nil_append] at hp
      exact haf p hp (z ▸ hb)⟩
  intro n
  induction n with
  | zero => intro m i s₀ s H hm; omega
  | succ n ihn =>
    intro m
    induction m using Nat.strongRecOn with
    | ind m ihm =>
      intro i s₀ s H hm I st nf w
      show Seg _ A _ _ (n + 1) s₀ _ ((compTurn (.GeneratorExp elt [⟨tg, iter, ifs, 0⟩] scope pos) 0 (.ref it) .none X'.env).onRaise (leaving X'.env)) [] s
      rw [compTurn_gen, Sem.onRaise_eq_wrap]
      refine seg_bind_wrap (wpAny_standAt ?_)
      rcases turn i m H w with ⟨stop, qq⟩ | ⟨go, Nx, hNx, step⟩
      · have td := T.done X' rfl rfl rfl hc i pins s _ H (fun _ _ => False) I (stat I nf) st stop
        refine seg_bind_wrap ?_
        rw [over_gxL, hov]
        refine thnF td fun r s6 ⟨hr, I6⟩ => ?_
        subst hr
        exact seg_end (.ok .next) (.inl ⟨.inr rfl, _, H, I6, qq⟩)
      · have ti := T.item X' rfl rfl rfl hc i pins s _ H (fun _ _ => False) I (stat I nf) st go
        refine seg_bind_wrap ?_
        rw [over_gxL, hov]
        refine thnF ti fun r s6 ⟨u, hr, h6⟩ => ?_
        subst hr
        refine seg_bind_wrap ?_
        rw [over_gxL, hov]
        refine thnF h6 fun _ s7 ⟨x, H7, I7, r7, y7, st7, n7⟩ => ?_
        have I7' := I7.pinned (stat I7 n7) (T.obj _ _ st7)
        have p1 := pg.run _ s7 _ H7 x u _ I7' r7 (step x H7 y7)
        rw [hxe] at p1
        refine seg_bind_wrap ?_
        rw [over_gxL, hov]
        refine thnF p1 fun _ s8 ⟨σ8, H8, I8, hw8, q8⟩ => ?_
        have p2 := pt.run _ s8 σ8 H8 _ I8 q8
        rw [hxe] at p2
        refine seg_bind_wrap ?_
        rw [over_gxL, hov]
        refine thnF p2 fun b s9 ⟨H9, I9, q9⟩ => ?_
        -- the turn's end
        have fin : ∀ {s' : Shared} {H' : Hp}, Inv X' (pins ++ pinsAt fp s7.heap) σ8 H' s' → Nx H' → ∃ m', m' < m ∧ Inv X' pins (wipe σ vs) H' s' ∧ tn (i + 1) s'.heap ∧ (∀ b ∈ fp, H' b = none) ∧ W (i + 1) m' H' := fun {s' H'} I' nx => by
          obtain ⟨m', hm', w'⟩ := hNx H' nx
          have pin' : ∀ b ∈ fp, ∀ o, s7.heap.get? b = some o → s'.heap.get? b = some o ∧ H' b = none := fun b hb o e =>
            let z := I'.pin (b, o) (List.mem_append_right _ (List.mem_append_right _ (mem_pinsAt hb e)))
            ⟨z.1, z.2.1⟩
          have hl : (wipe σ vs).length = σ8.length := by rw [← hw8, wipe_length]
          refine ⟨m', hm', (I'.unpinned (pins := pins)).weak hl (fun j v e => ?_), T.keep _ _ _ st7 fun b hb o e => (pin' b hb o e).1, fun b hb => ?_, w'⟩
          · rw [← hw8] at e
            exact (wipe_some e).1
          · obtain ⟨o, e, _⟩ := T.obj _ _ st7 b hb
            exact (pin' b hb o e).2
        cases b with
        | false =>
          simp only [Bool.false_eq_true, if_false] at q9 ⊢
          obtain ⟨m', hm', I', st', nf', w'⟩ := fin I9 q9
          exact seg_again rfl (ihm m' hm' (i + 1) s₀ _ _ (by omega) I' st' nf' w')
        | true =>
          simp only [if_true] at q9 ⊢
          have hy : ∀ v, yieldOut X'.env v = yieldValue v := fun v => by simp only [yieldOut, hco, Bool.false_eq_true, if_false]
          simp only [hy]
          rw [Sem.bind_eq_wrap', Sem.bind_eq_wrap', Sem.wrap_wrap, Sem.wrap_wrap]
          have p3 := pe.run _ s9 σ8 H9 _ I9 q9
          rw [hxe] at p3
          refine seg_wrap ?_
          rw [over_gxL, hov]
          refine thnF p3 fun z s10 ⟨yv, H10, I10, r10, cons⟩ => ?_
          refine seg_at (seg_yield rfl rfl rfl ⟨yv, pinsAt fp s7.heap, σ8, H10, Nx, r10, I10, cons, fun s'' H'' I'' nx => ?_⟩)
          obtain ⟨m', hm', I', st', nf', w'⟩ := fin I'' nx
          exact seg_again rfl (ihn m' (i + 1) s'' s'' H'' (by omega) I' st' nf' w')
theorem gx_begin {n : Nat} {s₀ s : Shared} (hov : A.deeper X'.env = X'.A) (T : Turn X'.prog X'.w X'.K tg J fp it tn) (st : tn 0 s.heap)
    (h : Seg (model X'.prog X'.w) A (gxR X' pins Qd) (gxY X' pins Cons) n s₀ (.compLoop (.GeneratorExp elt [⟨tg, iter, ifs, 0⟩] scope pos) 0 (.ref it) .none X'.env)
        ((model X'.prog X'.w).den (.compLoop (.GeneratorExp elt [⟨tg, iter, ifs, 0⟩] scope pos) 0 (.ref it) .none X'.env)) [] s) :
    Seg (model X'.prog X'.w) A (gxR X' pins Qd) (gxY X' pins Cons) n s₀ (.compStart (.GeneratorExp elt [⟨tg, iter, ifs, 0⟩] scope pos) 0 (.ref it) .none X'.env)
        ((model X'.prog X'.w).den (.compStart (.GeneratorExp elt [⟨tg, iter, ifs, 0⟩] scope pos) 0 (.ref it) .none X'.env)) [] s := by
  show Seg _ A _ _ _ s₀ _ ((compStart (.GeneratorExp elt [⟨tg, iter, ifs, 0⟩] scope pos) 0 (.ref it) .none X'.env).onRaise (leaving X'.env)) [] s
  unfold compStart
  rw [Sem.onRaise_eq_wrap]
  show Seg _ A _ _ _ s₀ _ ((ask >>= _).wrap _ _ _ _) [] s
  refine seg_bind_wrap (wpAny_askSetting ?_)
  split
  · exact seg_again rfl h
  · refine seg_bind_wrap (wpAny_rule ?_)
    show Seg _ A _ _ _ s₀ _ ((standAt iter.pos >>= _).wrap _ _ _ _) [] s
    exact seg_bind_wrap (wpAny_standAt (seg_bind_wrap (T.self _ 0 s _ _ st (seg_again rfl h))))
end
end Mini
end
section
namespace Mini
open PySem PySem.Spec PyProof.Rows L2 GenW GxR
variable [Tabs]
abbrev codeH (H : Hp) (P : Addr) (ps : Array Value) (c : Addr) (o : Obj) (Q : Addr) : Hp := upd (upd (upd H P (.tbl ps)) c (.frz o (.ext fun _ => True))) Q (.tbl #[])
section
variable {X : Cx} {pins : List (Addr × Obj)} {σ : L2.St} {H : Hp} {s : Shared}
theorem inv_code {P c Q : Addr} {o : Obj} {ps more : Array Value} {h' : Heap} {t' : Nat} (I : Inv X pins σ H s) (hP : H P = some (.tbl ps)) (k : ∀ b o, b ≠ P → s.heap.get? b = some o → h'.get? b = some o)
    (hm : h'.get? P = some { cls := .none, data := .fields (ps ++ more) }) (hc : s.heap.objs.size ≤ c) (hq : s.heap.objs.size ≤ Q) (ncq : c ≠ Q) (ho : h'.get? c = some o) (hqo : h'.get? Q = some { cls := .none, data := .fields #[] }) :
    Inv X pins σ (codeH H P (ps ++ more) c o Q) { s with heap := h', toks := t' } := by
  have nC : H c = none := I.hok.fresh hc
  have nQ : H Q = none := I.hok.fresh hq
  have nPc : P ≠ c := ne_of_none hP nC
  have nPq : P ≠ Q := ne_of_none hP nQ
  have at_ : ∀ b, b ≠ P → b ≠ c → b ≠ Q → codeH H P (ps ++ more) c o Q b = H b := fun b h1 h2 h3 => by unfold codeH; rw [upd_ne h3, upd_ne h2, upd_ne h1]
  have atP : codeH H P (ps ++ more) c o Q P = some (.tbl (ps ++ more)) := by unfold codeH; rw [upd_ne nPq, upd_ne nPc, upd_same]
  have atC : codeH H P (ps ++ more) c o Q c = some (.frz o (.ext fun _ => True)) := by unfold codeH; rw [upd_ne ncq, upd_same]
  have atQ : codeH H P (ps ++ more) c o Q Q = some (.tbl #[]) := upd_same
  have nP : ∀ b u, H b = some u → (∀ q, u ≠ .tbl q) → b ≠ P := fun b u e q z => by
    rw [z, hP] at e
    exact q ps (Option.some.inj e).symm
  have nN : ∀ b, H b = none → b ≠ P := fun b e z => by
    rw [z, hP] at e
    cases e
  have lt' : ∀ b o, s.heap.get? b = some o → b ≠ c ∧ b ≠ Q := fun b o e => ⟨fun z => by
    rw [z] at e
    exact Nat.lt_irrefl _ (Nat.lt_of_lt_of_le (Heap.lt_size e) hc), fun z => by
    rw [z] at e
    exact Nat.lt_irrefl _ (Nat.lt_of_lt_of_le (Heap.lt_size e) hq)⟩
  have sm : ∀ b u, H b = some u → b ≠ c ∧ b ≠ Q := fun b u e => ⟨ne_of_none e nC, ne_of_none e nQ⟩
  refine I.step (g' := s.gens) (d' := s.drawn) (ch := []) (fun b hb => absurd hb (by simp)) (fun b o _ _ _ e n => k b o (nN b n) e) (fun b o _ _ _ e n => ⟨o.slots, k b o (nN b n) e⟩)
    (fun b o _ e n => by rw [at_ b (nN b n) (lt' b o e).1 (lt' b o e).2]; exact n) (fun b o _ e => ?_) (fun b xs e => by rw [at_ b (nP b _ e (fun q z => by cases z)) (sm b _ e).1 (sm b _ e).2]; exact e) (fun b o u e => by rw [at_ b (nP b _ e (fun q z => by cases z)) (sm b _ e).1 (sm b _ e).2]; exact e) (fun b qs e => ?_) (fun m hn => ?_) (fun b u e => ?_) I.bare
  · by_cases hb : b = P
    · rw [hb]
      exact ⟨_, hm⟩
    · exact ⟨o, k b o hb e⟩
  · by_cases hb : b = P
    · rw [hb, hP] at e
      cases e
      rw [hb, atP]
      exact ⟨more, rfl⟩
    · rw [at_ b hb (sm b _ e).1 (sm b _ e).2, e]
      exact ⟨#[], by simp⟩
  · obtain ⟨ob, es, ep, ho, r⟩ := hn
    exact ⟨ob, es, ep, k _ ob (nN _ I.free) ho, r⟩
  · by_cases hb : b = c
    · rw [hb, atC] at e
      cases e
      rw [hb]
      exact ⟨ho, trivial, ⟨o, ho⟩, fun _ _ _ _ => trivial⟩
    by_cases hb1 : b = Q
    · rw [hb1, atQ] at e
      cases e
      rw [hb1]
      exact hqo
    by_cases hb2 : b = P
    · rw [hb2, atP] at e
      cases e
      rw [hb2]
      exact hm
    · rw [at_ b hb2 hb hb1] at e
      refine (I.hok b u e).stay (fun d v hd q => k d v ?_ q) (fun d q => by rw [at_ d (nP d _ q (fun q z => by cases z)) (sm d _ q).1 (sm d _ q).2]; exact q) fun d xs q => by rw [at_ d (nP d _ q (fun q z => by cases z)) (sm d _ q).1 (sm d _ q).2]; exact q
      rcases hd with z | z
      · rw [z]
        exact hb2
      · exact nP d _ z (fun q z => by cases z)
end
theorem among_snoc {pos p' : Pos} {c cv : Value} (l : List Value) (h : TriplesOk l) (hc : codeAmong p' (l ++ [rawInt pos.line, rawInt pos.col, c]) = some cv) : codeAmong p' l = some cv ∨ cv = c := by
  fun_induction TriplesOk l with
  | case1 =>
    simp only [List.nil_append, rawInt, codeAmong] at hc
    split at hc
    · exact .inr (Option.some.inj hc).symm
    · cases hc
  | case2 a t b u x rest ih =>
    simp only [List.cons_append, codeAmong] at hc ⊢
    split at hc
    · rename_i q
      rw [if_pos q]
      exact .inl hc
    · rename_i q
      rw [if_neg q]
      exact ih h hc
  | case3 l h1 h2 => exact h.elim
theorem code_tabs {H : Hp} {P c Q : Addr} {o : Obj} {ps : Array Value} {pos : Pos} (x : TabsOk H) (hP : H P = some (.tbl ps)) (nC : H c = none) (nQ : H Q = none) (ncq : c ≠ Q) (co : CodeOb o c Q) : TabbedI H (codeH H P (ps ++ #[rawInt pos.line, rawInt pos.col, .ref c]) c o Q) := by
  have nPc : P ≠ c := ne_of_none hP nC
  have nPq : P ≠ Q := ne_of_none hP nQ
  have atP : codeH H P (ps ++ #[rawInt pos.line, rawInt pos.col, .ref c]) c o Q P = some (.tbl (ps ++ #[rawInt pos.line, rawInt pos.col, .ref c])) := by unfold codeH; rw [upd_ne nPq, upd_ne nPc, upd_same]
  have atC : codeH H P (ps ++ #[rawInt pos.line, rawInt pos.col, .ref c]) c o Q c = some (.frz o (.ext fun _ => True)) := by unfold codeH; rw [upd_ne ncq, upd_same]
  have atQ : codeH H P (ps ++ #[rawInt pos.line, rawInt pos.col, .ref c]) c o Q Q = some (.tbl #[]) := upd_same
  have old : ∀ b u, H b = some u → b ≠ P → codeH H P (ps ++ #[rawInt pos.line, rawInt pos.col, .ref c]) c o Q b = some u := fun b u e n => by
    unfold codeH
    rw [upd_ne (ne_of_none e nQ), upd_ne (ne_of_none e nC), upd_ne n]
    exact e
  have nt : ∀ b u, H b = some u → (∀ q, u ≠ .tbl q) → codeH H P (ps ++ #[rawInt pos.line, rawInt pos.col, .ref c]) c o Q b = some u := fun b u e n => old b u e fun z => by
    rw [z, hP] at e
    exact n ps (Option.some.inj e).symm
  have eL : (ps ++ #[rawInt pos.line, rawInt pos.col, Value.ref c]).toList = ps.toList ++ [rawInt pos.line, rawInt pos.col, .ref c] := by simp
  have go : ∀ (k : Nat) (R : Addr), TabD k H R → TabD k (codeH H P (ps ++ #[rawInt pos.line, rawInt pos.col, .ref c]) c o Q) R := by
    intro k
    induction k with
    | zero =>
      rintro R ⟨qs, h1, h2⟩
      by_cases e : R = P
      · subst e
        rw [hP] at h1
        cases h1
        exact ⟨_, atP, by rw [eL]; exact PySem.TriplesOk_snoc _ _ _ _ h2⟩
      · exact ⟨qs, old _ _ h1 e, h2⟩
    | succ k ih =>
      rintro R ⟨qs, h1, h2, h3⟩
      have en : ∀ (p : Pos) (cv : Value), codeAmong p qs.toList = some cv → ∃ (c' Q' : Addr) (o' : Obj) (u : HO), cv = .ref c' ∧ codeH H P (ps ++ #[rawInt pos.line, rawInt pos.col, .ref c]) c o Q c' = some (.frz o' u) ∧ CodeOb o' c' Q' ∧ TabD k (codeH H P (ps ++ #[rawInt pos.line, rawInt pos.col, .ref c]) c o Q) Q' := fun p cv hc => by
        obtain ⟨c', Q', o', u, e1, e2, e3, e4⟩ := h3 p cv hc
        exact ⟨c', Q', o', u, e1, nt _ _ e2 (fun q z => by cases z), e3, ih _ e4⟩
      by_cases e : R = P
      · subst e
        rw [hP] at h1
        cases h1
        refine ⟨_, atP, by rw [eL]; exact PySem.TriplesOk_snoc _ _ _ _ h2, fun p cv hc => ?_⟩
        rw [eL] at hc
        rcases among_snoc _ h2 hc with z | z
        · exact en p cv z
        · exact ⟨c, Q, o, _, z, atC, co, TabI.nil atQ k⟩
      · exact ⟨qs, old _ _ h1 e, h2, en⟩
  exact ⟨fun R hR k => go k R (x R hR k), nt⟩
def CK (X : Cx) (c P : Addr) : Prop := ∀ (pins : List (Addr × Obj)) (σ : L2.St) (H : Hp) (s : Shared), Inv X pins σ H s → PySem.W.CodeHd s.heap c P ∧ Reach H P ∧ X.base.BuiltinsAt X.mg P
theorem ck_base {X : Cx} {c P : Addr} (TB : TabB X.base X.mg c P) (hP : Tabs.ts P) : CK X c P := fun pins σ H s I => ⟨TB.code.keeps I.bk, .root hP, TB.bm⟩
theorem ck_gx {X : Cx} {A : Around} {s : Shared} {H : Hp} {scope : Scope} {cenv : Env} {fp : List Addr} {c P : Addr} {o : Obj} {u : HO} (hc : H c = some (.frz o u)) (co : CodeOb o c P) (r : Reach H P) (hb : X.base.BuiltinsAt X.mg P) :
    CK (gxC X A s H scope cenv fp) c P := fun pins σ H' s' I => by
  have e := I.base.frzs c o u hc
  obtain ⟨e1, _⟩ := I.hok c _ e
  exact ⟨co.hd e1, r.mono I.base.tbls I.base.frzs, hb⟩
end Mini
end
section
namespace Mini
open PySem PySem.Spec PyProof.Rows L2 GenW GxR
variable [Tabs]

def GxMade (X : Cx) (pins : List (Addr × Obj)) (σ : L2.St) (elt tg iter : Expr) (ifs : List Expr) (scope : Scope) (pos : Pos) (vs : List Nat) (J : It) (H1 : Hp) (u : Value) (s6 : Shared) : Prop :=
  ∃ (it : Addr) (fp : List Addr) (tn : Nat → Heap → Prop) (s3 : Shared) (H3 : Hp) (cl : List (Str × Addr)) (C : Addr) (code : Value) (a gn : Nat) (nm qn : Value),
    u = .ref a ∧ Turn X.prog X.w X.K tg J fp it tn ∧ tn 0 s6.heap ∧ Inv X pins σ H3 s3 ∧ (∀ b ∈ fp, FpOk X pins H3 b) ∧ TabbedI H1 H3 ∧ a ∉ fp ∧ (∀ A', ∃ cc Q, code = .ref cc ∧ CK (gxC X A' s3 H3 scope (gxEnv scope cl C code builtinsNs X.env) fp) cc Q) ∧
    s6.gens[gn]? = some (.fresh (.compStart (.GeneratorExp elt [⟨tg, iter, ifs, 0⟩] scope pos) 0 (.ref it) .none (gxEnv scope cl C code builtinsNs X.env))) ∧
    ∀ A', A'.handled = none → A'.frames = some (gxEnv scope cl C code builtinsNs X.env :: X.stack) →
      Inv (gxC X A' s3 H3 scope (gxEnv scope cl C code builtinsNs X.env) fp) [(a, { cls := .type "generator", data := .fields #[.int gn 0, nm, qn] })] (wipe σ vs) H3 s6
section
variable {X : Cx} {pins : List (Addr × Obj)} {σ : L2.St} {H : Hp} {s : Shared} {elt tg iter : Expr} {ifs : List Expr} {scope : Scope} {pos : Pos} {wi : TI}
theorem gx_make {c P : Addr} {own : List (Str × Nat)} {Q' : Value → Shared → Prop} {R : It → Hp → Prop} (ck : CK X c P) (hcode : X.env.code = .ref c) (hroom : X.A.depth < recursionLimit) (hco : scope.isCoroutine = false)
    (h0 : scope.names.lookup (".0" : Str) = some NameKind.local) (ok : BlkOk X.N X.env.scope scope own) (hN : X.N.Nodup) (hi : PI X tg iter wi) (hs : ∀ x, genFold iter X.env x = pure x) (I : Inv X pins σ H s)
    (h : wi σ H fun J H1 => TabsOk H1 ∧ R J H1) (hQ : ∀ J H1 u s6, R J H1 → GxMade X pins σ elt tg iter ifs scope pos (own.map (·.2)) J H1 u s6 → Q' u s6) :
    wpAny (model X.prog X.w) X.A (eval (.GeneratorExp elt [⟨tg, iter, ifs, 0⟩] scope pos) X.env) Q' X.xe s := by
  have hfree : ∀ y ∈ scope.names, y.2 = .free → ∃ c, X.env.cells.lookup y.1 = some c := fun y hy e => by
    rcases ok.free y hy e with k | k
    · exact I.ok.has _ (.inl k)
    · exact I.ok.has _ (.inr k)
  rw [eval_GeneratorExp1 _ _ _ _ _ _ _ hco, closure_ok hfree]
  refine wpAny_bind (thn (hi.run pins s σ H _ I h) fun xv s1 hx => ?_)
  refine wpAny_bind (wpAny_standAt ?_)
  refine wpAny_bind (wpAny_of_eq (hs xv) ?_)
  refine wpAny_bind (wpAny_holding (thn hx fun itv s2 h2 => ?_))
  obtain ⟨it, fp, tn, J, H2, e, I2, T, st2, f2, tb, q⟩ := h2
  subst e
  refine wpAny_bind (wpAny_enterFrame I2.nolimit hroom ?_)
  refine wpAny_bind (wpAny_pure ?_)
  obtain ⟨cd, rch, bmA⟩ := ck pins σ H2 s2 I2
  have tI := rch.tab tb
  obtain ⟨ps, hP, ht⟩ := tI 0
  have hPs : s2.heap.get? P = some { cls := .none, data := .fields ps } := I2.hok P _ hP
  have fP : ∀ b ∈ fp, b ≠ P := fun b hb z => by
    have q := (f2 b hb).1
    rw [z, hP] at q; cases q
  have cont : ∀ (cc Q : Addr) (o : Obj) (u : HO) (s3 : Shared) (H3 : Hp), Inv X pins σ H3 s3 → TabbedI H2 H3 → (∀ b ∈ fp, H3 b = none) → H3 cc = some (.frz o u) → CodeOb o cc Q → Reach H3 Q → X.base.BuiltinsAt X.mg Q → (∀ b o, b ≠ P → s2.heap.get? b = some o → s3.heap.get? b = some o) →
      wpAny (model X.prog X.w) X.A (do
        let bi ← builtinsFor X.env.globals X.env.builtins
        let cenv ← newFunctionEnv scope X.env.globals (cloFrom X.env.cells scope.names []) [(".0", .ref it)] (X.env.qual ++ "<genexpr>.") none (.ref cc) none bi
        newGenerator (.compStart (.GeneratorExp elt [⟨tg, iter, ifs, 0⟩] scope pos) 0 (.ref it) .none cenv) "<genexpr>" (X.env.qual ++ "<genexpr>")) Q' X.xe s3 := by
    intro cc Q o u s3 H3 I3 hT hfp hcc co hrq hbq k3
    obtain ⟨bm, ob, e1, e2, e3, e4, e5, e6, e7, e8⟩ := hbq
    refine wpAny_bind (wpAny_builtinsFor (m := X.mg) (by rw [I3.ok.glob]; exact I3.mod.glob.keeps I3.bk) e1 e2 (I3.bk _ _ e5) e6 e7 e8 ?_)
    have f3 : ∀ b ∈ fp, FpOk X pins H3 b ∧ b < s3.heap.objs.size := fun b hb => by
      obtain ⟨o, e, _⟩ := T.obj _ _ st2 b hb
      exact ⟨⟨hfp b hb, (f2 b hb).2⟩, Heap.lt_size (k3 b o (fP b hb) e)⟩
    refine wpAny_bind (newEnv_gx h0 ok.kind fun h' tk hns hsb => ?_)
    simp only [newGenerator, newFields]
    refine wpAny_bind (wpAny_newGen (wpAny_bind (wpAny_mkText (wpAny_bind (wpAny_mkText (wpAny_newObj_type ?_ (by size_fits)))))))
    have k4 : ∀ b o, s3.heap.get? b = some o → h'.get? b = some o := fun b o e => hsb.extBut b o (Nat.ne_of_lt (Heap.lt_size e)) (pushCells_keeps _ _ _ _ (Heap.get?_push_of_some _ e))
    refine hQ J H2 _ _ q ⟨it, fp, tn, s3, H3, _, _, .ref cc, h'.objs.size, s3.gens.size, .str "<genexpr>" tk, .str (X.env.qual ++ "<genexpr>") (tk + 1), rfl, T, T.keep _ _ _ st2 fun b hb o e => Heap.get?_push_of_some _ (k4 b o (k3 b o (fP b hb) e)), I3, fun b hb => (f3 b hb).1, hT, fun hm => ?_, fun A' => ⟨cc, Q, rfl, ck_gx hcc co hrq ⟨bm, ob, e1, e2, e3, e4, e5, e6, e7, e8⟩⟩, Array.getElem?_push_size .., fun A' hd hfr => ?_⟩
    · obtain ⟨o, e, _⟩ := T.obj _ _ st2 _ hm
      exact absurd (Heap.lt_size (k4 _ o (k3 _ o (fP _ hm) e))) (Nat.lt_irrefl _)
    · have J0 := gx_start (A := A') (tk := tk) I3 ok hN f3 hd hfr hns hsb
      have J1 := Inv.regen J0 (G := s3.gens.push (.fresh (.compStart (.GeneratorExp elt [⟨tg, iter, ifs, 0⟩] scope pos) 0 (.ref it) .none (gxEnv scope (cellsFrom (s3.heap.objs.size + 1) scope.names (cloFrom X.env.cells scope.names [])) s3.heap.objs.size (.ref cc) builtinsNs X.env)))) (AllBare.push J0.bare rfl)
      refine (J1.kept (t' := _) fun b u e => Heap.get?_push_of_some _ e).pins_of fun p hp => ?_
      rw [List.mem_singleton.mp hp]
      exact ⟨Heap.get?_push_size _ rfl, J0.hok.fresh (Nat.le_refl _), Nat.ne_of_gt J0.lt, J0.nofs (Nat.le_refl _), fun v z => by cases z⟩
  cases hf : codeAmong pos ps.toList with
  | none =>
    refine wpAny_bind (wpAny_genexprCodeX hcode (cd.code hPs ht) (cd.tab hPs) hf fun c' h' tk hx hge hlt hco' _ htab' hnew => ?_)
    obtain ⟨o1, vs, f1, tf, fl, tg', inF, tx, tt, op, _, _, _, _, _, _, _, _, _, htr, _⟩ := hco'
    obtain ⟨Q, hqge, hq1, hq2⟩ := hnew
    obtain ⟨o, ho, co⟩ := codeOb_of (PySem.W.CodeHd.of hq1 hq2)
    have ncq : c' ≠ Q := by
      obtain ⟨_, _, _, _, _, _, _, _, _, _, _, _, _, _, _, _, n⟩ := id co
      exact n
    have nC : H2 c' = none := I2.hok.fresh hge
    have nQ : H2 Q = none := I2.hok.fresh hqge
    have I3 := inv_code (t' := tk) (more := #[rawInt pos.line, rawInt pos.col, .ref c']) I2 hP (fun b o hb e => hx b o hb e) htab'.2 hge hqge ncq ho hq2.2
    have hTb := code_tabs (pos := pos) (o := o) tb hP nC nQ ncq co
    have at3 : ∀ b, b ≠ P → b ≠ c' → b ≠ Q → codeH H2 P (ps ++ #[rawInt pos.line, rawInt pos.col, .ref c']) c' o Q b = H2 b := fun b h1 h2 h3 => by unfold codeH; rw [upd_ne h3, upd_ne h2, upd_ne h1]
    have nPc : P ≠ c' := ne_of_none hP nC
    have nPq : P ≠ Q := ne_of_none hP nQ
    have atC : codeH H2 P (ps ++ #[rawInt pos.line, rawInt pos.col, .ref c']) c' o Q c' = some (.frz o (.ext fun _ => True)) := by unfold codeH; rw [upd_ne ncq, upd_same]
    have atP : codeH H2 P (ps ++ #[rawInt pos.line, rawInt pos.col, .ref c']) c' o Q P = some (.tbl (ps ++ #[rawInt pos.line, rawInt pos.col, .ref c'])) := by unfold codeH; rw [upd_ne nPq, upd_ne nPc, upd_same]
    have eL : (ps ++ #[rawInt pos.line, rawInt pos.col, Value.ref c']).toList = ps.toList ++ [rawInt pos.line, rawInt pos.col, .ref c'] := by simp
    have rP : Reach (codeH H2 P (ps ++ #[rawInt pos.line, rawInt pos.col, .ref c']) c' o Q) P := rch.mono (fun b qs e => by
      by_cases hb : b = P
      · subst hb
        rw [hP] at e
        cases e
        exact ⟨_, atP⟩
      · exact ⟨#[], by rw [at3 b hb (ne_of_none e nC) (ne_of_none e nQ), e]; simp⟩) fun b o u e => hTb.2 b _ e fun q z => by cases z
    have rQ : Reach (codeH H2 P (ps ++ #[rawInt pos.line, rawInt pos.col, .ref c']) c' o Q) Q := .step (pos := pos) rP atP (by rw [eL]; exact PySem.codeAmong_snoc _ ht hf) atC co
    refine cont c' Q o _ _ _ I3 hTb (fun b hb => ?_) atC co rQ ?_ fun b o hb e => hx b o hb e
    · obtain ⟨o', e', _⟩ := T.obj _ _ st2 b hb
      have hlt := Heap.lt_size e'
      rw [at3 b (fP b hb) (fun z => Nat.lt_irrefl _ (Nat.lt_of_lt_of_le hlt (z ▸ hge))) (fun z => Nat.lt_irrefl _ (Nat.lt_of_lt_of_le hlt (z ▸ hqge)))]
      exact (f2 b hb).1
    · obtain ⟨bm, ob, e1, e2, e3, e4, e5, e6, e7, e8⟩ := bmA
      exact ⟨bm, ob, e1, e2, e3, fun z => Nat.lt_irrefl _ (Nat.lt_of_lt_of_le (Heap.lt_size (I2.bk _ _ e5)) (z ▸ hqge)), e5, e6, e7, e8⟩
  | some cv =>
    obtain ⟨ps', hP', _, hall⟩ := tI 1
    rw [hP] at hP'
    cases hP'
    obtain ⟨cc, Q, o, u, rfl, hcc, co, ⟨qs, hQ', _⟩⟩ := hall pos cv hf
    refine wpAny_bind (wpAny_genexprCode_hit hcode (cd.code hPs ht) hf ?_)
    refine cont cc Q o u s2 H2 I2 ⟨tb, fun b u e _ => e⟩ (fun b hb => (f2 b hb).1) hcc co (.step rch hP hf hcc co) ?_ fun b o _ e => e
    obtain ⟨bm, ob, e1, e2, e3, e4, e5, e6, e7, e8⟩ := bmA
    refine ⟨bm, ob, e1, e2, e3, fun z => ?_, e5, e6, e7, e8⟩
    have h1 := I2.hok Q _ hQ'
    have h2 := I2.bk _ _ e5
    rw [z] at h2
    have h1 : s2.heap.get? Q = some { cls := .none, data := .fields qs } := h1
    rw [h1] at h2
    cases h2
    cases e6
end

def GxSt (X' : Cx) (pins : List (Addr × Obj)) (Qd : Hp → Prop) (Cons : V → Hp → (Hp → Prop) → Prop) (B : Around) (gn n : Nat) (s : Shared) : Prop :=
  ∃ pn2 σ2 H' gs, Inv X' (pins ++ pn2) σ2 H' s ∧ s.gens[gn]? = some gs ∧ gs.Goes (model X'.prog X'.w) B (gxR X' pins Qd) (gxY X' pins Cons) n (.send .none) (s.setGen gn .running)
section
variable {X' : Cx} {Cons : V → Hp → (Hp → Prop) → Prop} {Qd : Hp → Prop} {B : Around} {a gn n : Nat} {nm qn : Value} {s : Shared}
theorem gx_next {Q : Option Value → Shared → Prop} {E : Value → Shared → Prop} (hh : B.handled = none) (hroom : B.depth < recursionLimit)
    (h : GxSt X' [(a, { cls := .type "generator", data := .fields #[.int gn 0, nm, qn] })] Qd Cons B.in1 gn n s)
    (hY : ∀ v s' y pn2 σ2 H4 Nx, RelV y v → Inv X' ([(a, { cls := .type "generator", data := .fields #[.int gn 0, nm, qn] })] ++ pn2) σ2 H4 s' → Cons y H4 Nx →
      (∀ s'' H'', Inv X' ([(a, { cls := .type "generator", data := .fields #[.int gn 0, nm, qn] })] ++ pn2) σ2 H'' s'' → Nx H'' → s''.gens = s'.gens →
        ∃ m, n = m + 1 ∧ GxSt X' [(a, { cls := .type "generator", data := .fields #[.int gn 0, nm, qn] })] Qd Cons B.in1 gn m s'') → Q (some v) s')
    (hD : ∀ s' σ' H', Inv X' [(a, { cls := .type "generator", data := .fields #[.int gn 0, nm, qn] })] σ' H' s' → Qd H' → Q none s') :
    wpAny (model X'.prog X'.w) B (pyNext (.ref a)) Q E s := by
  obtain ⟨pn2, σ2, H', gs, I, hgs, hgo⟩ := h
  have hg : s.heap.IsGen a gn := ⟨_, nm, qn, (I.pin (a, _) (List.mem_append_right _ (List.mem_append_left _ (List.mem_singleton.mpr rfl)))).1, rfl, rfl, rfl⟩
  have hgl : gn < s.gens.size := (Array.getElem?_eq_some_iff.mp hgs).1
  refine wpAny_gsz (n := gn + 1) hgl (next_genG (A := B) (F := fun _ _ s1 => ∃ σ' H', Inv X' [(a, { cls := .type "generator", data := .fields #[.int gn 0, nm, qn] })] σ' H' s1 ∧ Qd H') (Er := fun _ _ => False) hh I.nolimit hroom hg hgs hgo (fun v s₁ gs' hbare hv => ?_) (fun s₁ hp h' hk => ?_) fun e s₁ he => he.elim)
  · intro hsz
    obtain ⟨y, pn3, σ3, H4, Nx, rv, I4, cons, hk⟩ := hv
    have hsz1 : gn < s₁.gens.size := by
      have q : (s₁.setGen gn gs').gens.size = s₁.gens.size := setGen_size _ _ _
      have hsz' : gn + 1 ≤ (s₁.setGen gn gs').gens.size := hsz
      omega
    have I5 : Inv X' ([(a, { cls := .type "generator", data := .fields #[.int gn 0, nm, qn] })] ++ pn3) σ3 H4 (s₁.setGen gn gs') := Inv.regen I4 (allBare_setGen I4.bare hbare)
    refine hY v _ y pn3 σ3 H4 Nx rv I5 cons fun s'' H'' I'' nx eg => ?_
    have z := hk (s''.setGen gn .running) H'' (Inv.regen I'' (allBare_setGen I''.bare rfl)) nx
    cases n with
    | zero => exact z.elim
    | succ m => exact ⟨m, rfl, pn3, σ3, H'', gs', I'', by rw [eg]; exact setGen_at hsz1, z⟩
  · intro hsz
    obtain ⟨σ', H', I4, q⟩ := hp
    exact hD _ σ' H' ((Inv.regen I4 (G := (s₁.setGen gn .finished).gens) (allBare_setGen I4.bare rfl)).kept (t' := s₁.toks) hk) q

def consB (b : Bool) (Qo : Hp → Prop) : V → Hp → (Hp → Prop) → Prop := fun y H Nx => ∃ k, y = .bl k ∧ if k = b then Nx H else Qo H
variable {A : Around} {Qo : Hp → Prop} {R : Result → Shared → Prop}
theorem gx_all (hh : A.handled = none) (hroom : A.depth < recursionLimit)
    (hT : ∀ s' pn σ' H', Inv X' pn σ' H' s' → Qd H' → R (.ok (.ret (.bool true))) s') (hF : ∀ s' pn σ' H', Inv X' pn σ' H' s' → Qo H' → R (.ok (.ret (.bool false))) s') :
    ∀ (n : Nat) (s : Shared), GxSt X' [(a, { cls := .type "generator", data := .fields #[.int gn 0, nm, qn] })] Qd (consB true Qo) A.in1.in1 gn n s → codeAny (model X'.prog X'.w) A (.builtin "all.loop" ⟨[.ref a], []⟩) R s := by
  intro n
  induction n with
  | zero =>
    intro s h
    refine codeAny_builtin F.entry_all_loop ?_
    rw [Around.under_plainId F.plain_all_loop _]
    show wpAny _ A.in1 (pyNext (.ref a) >>= _) _ _ s
    refine wpAny_bind (gx_next (B := A.in1) hh hroom h (fun v s' y pn2 σ2 H4 Nx rv I cons next => ?_) fun s' σ' H' I q => ?_)
    · obtain ⟨k, rfl, hk⟩ := cons
      obtain rfl : v = .bool k := rv
      refine wpAny_bind (wpAny_holding (wpAny_truthy_bool ?_))
      refine wpAny_bind (wpAny_letGo ?_)
      cases k with
      | true =>
        obtain ⟨m, hm, _⟩ := next s' H4 I (by simpa using hk) rfl
        omega
      | false =>
        simp only [Bool.false_eq_true, if_false] at hk ⊢
        exact wpAny_bind (wpAny_rule (wpAny_pure (hF _ _ _ _ I hk)))
    · exact wpAny_bind (wpAny_rule (wpAny_pure (hT _ _ _ _ I q)))
  | succ n ih =>
    intro s h
    refine codeAny_builtin F.entry_all_loop ?_
    rw [Around.under_plainId F.plain_all_loop _]
    show wpAny _ A.in1 (pyNext (.ref a) >>= _) _ _ s
    refine wpAny_bind (gx_next (B := A.in1) hh hroom h (fun v s' y pn2 σ2 H4 Nx rv I cons next => ?_) fun s' σ' H' I q => ?_)
    · obtain ⟨k, rfl, hk⟩ := cons
      obtain rfl : v = .bool k := rv
      refine wpAny_bind (wpAny_holding (wpAny_truthy_bool ?_))
      refine wpAny_bind (wpAny_letGo ?_)
      cases k with
      | true =>
        obtain ⟨m, hm, st⟩ := next s' H4 I (by simpa using hk) rfl
        obtain rfl : n = m := by omega
        simp only [if_true]
        exact wpAny_pure ⟨plainId_quiet F.plain_all_loop _, ih s' st⟩
      | false =>
        simp only [Bool.false_eq_true, if_false] at hk ⊢
        exact wpAny_bind (wpAny_rule (wpAny_pure (hF _ _ _ _ I hk)))
    · exact wpAny_bind (wpAny_rule (wpAny_pure (hT _ _ _ _ I q)))
end
end Mini
end
section
namespace Mini
open PySem PySem.Spec PyProof.Rows L2 GenW GxR
variable [Tabs]
section
variable {X' : Cx} {Cons : V → Hp → (Hp → Prop) → Prop} {Qd : Hp → Prop} {B : Around} {a gn n : Nat} {nm qn : Value} {s : Shared}
variable {A : Around} {Qo : Hp → Prop} {R : Result → Shared → Prop}
end
def GxTurn (J : It) (g : TG) (tt : TT) (te : TE) (vs : List Nat) (σ : L2.St) (Cons : V → Hp → (Hp → Prop) → Prop) (Qd : Hp → Prop) (W : Nat → Nat → Hp → Prop) : Prop :=
  ∀ i m H, W i m H → (J.stop i H ∧ Qd H) ∨ (J.go i H ∧ ∃ Nx : Hp → Prop, (∀ H', Nx H' → ∃ m', m' < m ∧ W (i + 1) m' H') ∧
      ∀ x H', J.yld i H x H' → g x (wipe σ vs) H' fun σ2 H2 => wipe σ2 vs = wipe σ vs ∧ tt σ2 H2 fun b H3 => if b = true then te σ2 H3 fun y H4 => Cons y H4 Nx else Nx H3)
def tBoolG (k : Bool) (wi : TI) (g : TG) (tt : TT) (te : TE) (vs : List Nat) : TE := fun σ H Q => wi σ H fun J H1 => TabsOk H1 ∧ ∀ H3, TabbedI H1 H3 → ∃ W : Nat → Nat → Hp → Prop, (∃ m, W 0 m H3) ∧
  GxTurn J g tt te vs σ (consB k (Q (.bl (!k)))) (Q (.bl k)) W
def Near (X : Cx) (A' : Around) : Prop := A'.handled = none ∧ A'.depth = X.A.depth + 1 ∧ A'.units ≤ X.A.units + 8
section
variable {X : Cx} {elt tg iter : Expr} {ifs : List Expr} {scope : Scope} {gpos p pos : Pos} {wi : TI} {g : TG} {tt : TT} {te : TE}
structure GxOk (X : Cx) (c P : Addr) (elt tg iter : Expr) (ifs : List Expr) (scope : Scope) (own : List (Str × Nat)) (wi : TI) (g : TG) (tt : TT) (te : TE) : Prop where
  ck : CK X c P
  code : X.env.code = .ref c
  hd : X.A.handled = none
  room : X.A.depth < recursionLimit
  calm : X.calm = true
  co : scope.isCoroutine = false
  dot : scope.names.lookup (".0" : Str) = some NameKind.local
  ok : BlkOk X.N X.env.scope scope own
  nd : X.N.Nodup
  it : PI X tg iter wi
  fold : ∀ x, genFold iter X.env x = pure x
  tg : ∀ (A' : Around), Near X A' → ∀ (s : Shared) (H : Hp) (C : Addr) (code : Value) (cl : List (Str × Addr)) (fp : List Addr) (cc Q : Addr), code = .ref cc → CK (gxC X A' s H scope (gxEnv scope cl C code builtinsNs X.env) fp) cc Q → PG (gxC X A' s H scope (gxEnv scope cl C code builtinsNs X.env) fp) tg g
  ifs : ∀ (A' : Around), Near X A' → ∀ (s : Shared) (H : Hp) (C : Addr) (code : Value) (cl : List (Str × Addr)) (fp : List Addr) (cc Q : Addr), code = .ref cc → CK (gxC X A' s H scope (gxEnv scope cl C code builtinsNs X.env) fp) cc Q → PTs (gxC X A' s H scope (gxEnv scope cl C code builtinsNs X.env) fp) ifs tt
  elt : ∀ (A' : Around), Near X A' → ∀ (s : Shared) (H : Hp) (C : Addr) (code : Value) (cl : List (Str × Addr)) (fp : List Addr) (cc Q : Addr), code = .ref cc → CK (gxC X A' s H scope (gxEnv scope cl C code builtinsNs X.env) fp) cc Q → PE (gxC X A' s H scope (gxEnv scope cl C code builtinsNs X.env) fp) elt te
theorem gx_fresh {c P : Addr} {own : List (Str × Nat)} (G : GxOk X c P elt tg iter ifs scope own wi g tt te) {σ : L2.St} {J : It} {s3 s6 : Shared} {H3 : Hp} {cl : List (Str × Addr)} {C : Addr} {code : Value} {a gn : Nat} {nm qn : Value} {it : Addr} {fp : List Addr} {tn : Nat → Heap → Prop}
    {Cons : V → Hp → (Hp → Prop) → Prop} {Qd : Hp → Prop} {W : Nat → Nat → Hp → Prop} {B : Around} {m : Nat} {H6 : Hp} (T : Turn X.prog X.w X.K tg J fp it tn) (st : tn 0 s6.heap) (haf : a ∉ fp) (f6 : ∀ b ∈ fp, H6 b = none)
    (hgs : s6.gens[gn]? = some (.fresh (.compStart (.GeneratorExp elt [⟨tg, iter, ifs, 0⟩] scope gpos) 0 (.ref it) .none (gxEnv scope cl C code builtinsNs X.env))))
    (I : Inv (gxC X (B.deeper (gxEnv scope cl C code builtinsNs X.env)) s3 H3 scope (gxEnv scope cl C code builtinsNs X.env) fp) [(a, { cls := .type "generator", data := .fields #[.int gn 0, nm, qn] })] (wipe σ (own.map (·.2))) H6 s6)
    (hn : Near X (B.deeper (gxEnv scope cl C code builtinsNs X.env))) (hck : ∀ A', ∃ cc Q, code = .ref cc ∧ CK (gxC X A' s3 H3 scope (gxEnv scope cl C code builtinsNs X.env) fp) cc Q) (w : W 0 m H6) (turn : GxTurn J g tt te (own.map (·.2)) σ Cons Qd W) :
    GxSt (gxC X (B.deeper (gxEnv scope cl C code builtinsNs X.env)) s3 H3 scope (gxEnv scope cl C code builtinsNs X.env) fp) [(a, { cls := .type "generator", data := .fields #[.int gn 0, nm, qn] })] Qd Cons B gn (m + 1) s6 := by
  obtain ⟨cc, Q, hcc, hq⟩ := hck (B.deeper (gxEnv scope cl C code builtinsNs X.env))
  refine ⟨[], wipe σ (own.map (·.2)), H6, _, by rw [List.append_nil]; exact I, hgs, rfl, ?_⟩
  refine gx_begin (X' := gxC X (B.deeper (gxEnv scope cl C code builtinsNs X.env)) s3 H3 scope (gxEnv scope cl C code builtinsNs X.env) fp) rfl T st ?_
  exact gx_loop (X' := gxC X (B.deeper (gxEnv scope cl C code builtinsNs X.env)) s3 H3 scope (gxEnv scope cl C code builtinsNs X.env) fp) (vs := own.map (·.2)) (σ := σ) (W := W) (Cons := Cons) (Qd := Qd) rfl G.calm rfl rfl rfl G.co T
    (fun p hp => by rw [List.mem_singleton.mp hp]; exact haf) (G.tg _ hn _ _ _ _ _ _ cc Q hcc hq) (G.ifs _ hn _ _ _ _ _ _ cc Q hcc hq) (G.elt _ hn _ _ _ _ _ _ cc Q hcc hq) (fun i m H w => turn i m H w) (m + 1) m 0 _ _ H6 (Nat.lt_succ_self m) (Inv.regen I (allBare_setGen I.bare rfl)) st f6 w
theorem pe_allG {c P : Addr} {own : List (Str × Nat)} (G : GxOk X c P elt tg iter ifs scope own wi g tt te) (hg : Gl X "all") (hm : X.mg "all" = none) (hb : bootBuiltins "all" = some (.builtin "all"))
    (he : starEach [.GeneratorExp elt [⟨tg, iter, ifs, 0⟩] scope gpos] X.env = (false, eval (.GeneratorExp elt [⟨tg, iter, ifs, 0⟩] scope gpos) X.env) :: starEach [] X.env := by rfl) :
    PE X (.Call (.Name "all" p) [.GeneratorExp elt [⟨tg, iter, ifs, 0⟩] scope gpos] [] pos) (tBoolG true wi g tt te (own.map (·.2))) := by
  refine ⟨fun pins s σ H Q I h => ?_⟩
  refine wpAny_Call_Name_kw (ld_blt I hg hm hb ?_)
  refine PyProof.Rows.callWith_builtin1 ?_ he (by rfl)
  rw [he]
  show wpAny _ _ (spliced ((false, eval (.GeneratorExp elt [⟨tg, iter, ifs, 0⟩] scope gpos) X.env) :: backTo pos (starEach [] X.env))) _ _ s
  refine Calls.spliced_cons (gx_make G.ck G.code G.room G.co G.dot G.ok G.nd G.it G.fold I h fun J H1 u s6 hR hG => ?_)
  refine Calls.spliced_nil ?_
  obtain ⟨it, fp, tn, s3, H3, cl, C, code, a, gn, nm, qn, rfl, T, st, I3, f3, hT, haf, hck, hgs, hA⟩ := hG
  obtain ⟨W, ⟨m0, w0⟩, turn⟩ := hR H3 hT
  have I6 := hA (X.A.in1.in1.deeper (gxEnv scope cl C code builtinsNs X.env)) G.hd (Around.frames_deeper I3.ok.frames)
  have hgen : s6.heap.IsGen a gn := ⟨_, nm, qn, (I6.pin (a, _) (List.mem_append_right _ (List.mem_singleton.mpr rfl))).1, rfl, rfl, rfl⟩
  refine call_function_tree F.kind_all F.plain_all F.entry_all (F.args_all1 _) ?_
  unfold Builtin.«all»
  refine wpAny_bind (m := PySem.oneArg "all" _) (wpAny_pure ?_)
  refine wpAny_bind (wpAny_pyIter_gen hgen ?_)
  refine wpAny_pure ⟨plainId_quiet F.plain_all_loop _, ?_⟩
  exact gx_all (X' := gxC X (X.A.in1.in1.deeper (gxEnv scope cl C code builtinsNs X.env)) s3 H3 scope (gxEnv scope cl C code builtinsNs X.env) fp) (A := X.A) (Qo := Q (.bl false)) (Qd := Q (.bl true)) G.hd G.room (fun s' pn σ' H' J' q => ⟨.bl true, H', gx_back I3 f3 J', rfl, q⟩) (fun s' pn σ' H' J' q => ⟨.bl false, H', gx_back I3 f3 J', rfl, q⟩)
    (m0 + 1) s6 (gx_fresh G T st haf (fun b hb => (f3 b hb).1) hgs I6 ⟨G.hd, rfl, Nat.le_of_lt (by show X.A.units + 1 + 1 + 3 < _; omega)⟩ hck w0 turn)
end
end Mini
end
section
namespace PySem
open Sem (wp)
open AutoSeq1 (wpAny_loadPart')
theorem code_tuple_new_gx {prog : Program} {w : World} {A : Around} {E : Value → Shared → Prop} {s : Shared} {a : Addr} {Kp : List Value → Shared → Prop} {Q₁ : Value → Shared → Prop} (hTI : s.TypeIs (.ref a) "generator")
    (col : ∀ {Q2 : List Value → Shared → Prop} {E2 : Value → Shared → Prop}, (∀ its s', Kp its s' → Q2 its s') → wpAny (model prog w) A.in1 (collect (.ref a)) Q2 E2 s) (hz : ∀ its s', Kp its s' → its.length ≤ sizeLine)
    (h : ∀ its s', Kp its s' → Q₁ (.ref s'.heap.objs.size) { s' with heap := s'.heap.push { cls := .type "tuple", data := .seq its.toArray } }) :
    codeAny (model prog w) A (.call (.builtin "tuple.__new__") ⟨[.type "tuple", .ref a], []⟩) (wants Q₁ E) s := by
  refine codeAny_of_tree ?_
  show wpAny _ A.in1 (do checkBuiltinCall "tuple.__new__" ⟨[.type "tuple", .ref a], []⟩; again (.builtin "tuple.__new__" ⟨[.type "tuple", .ref a], []⟩)) _ _ s
  refine wpAny_bind (wpAny_of_eq (F.newCall_tuple_1 _) (wpAny_pure ⟨plainId_quiet F.plain_tuple_new _, codeAny_builtin F.entry_tuple_new ?_⟩))
  rw [Around.under_plainId F.plain_tuple_new _]
  have hsub := sub_tuple_self
  have hinit := init_tuple_lookup
  have hmh := madeHere_tuple
  wp_walk using wpAny_typeOf hTI, col
  intro its s' hk
  show wpAny _ _ (Builtin.Tuple.tupleExact its.toArray >>= fun v => ret v) _ _ _
  unfold Builtin.Tuple.tupleExact
  refine wpAny_bind (wpAny_newObj_type ?_ (by show its.toArray.size ≤ sizeLine; rw [List.size_toArray]; exact hz its s' hk))
  refine wpAny_pure ?_
  exact h its s' hk
end PySem
namespace Mini
open PySem PySem.Spec PyProof.Rows L2 GenW GxR
variable [Tabs]
def consL (S : Addr) : V → Hp → (Hp → Prop) → Prop := fun y H Nx => ∃ acc, H S = some (.lst acc) ∧ acc.length < sizeLine ∧ Nx (upd H S (.lst (acc ++ [y])))
section
variable {X' : Cx} {Qd : Hp → Prop} {a gn : Nat} {nm qn res : Value} {S : Addr} {A : Around} {R : Result → Shared → Prop}
theorem gx_extend (hh : A.handled = none) (hroom : A.depth < recursionLimit) (hD : ∀ s' pn σ' H', Inv X' pn σ' H' s' → Qd H' → R (.ok (.ret res)) s') :
    ∀ (n : Nat) (s : Shared), GxSt X' [(a, { cls := .type "generator", data := .fields #[.int gn 0, nm, qn] })] Qd (consL S) A.in1.in1 gn n s → codeAny (model X'.prog X'.w) A (.builtin "list.extend.loop" ⟨[.ref S, .ref a, res], []⟩) R s := by
  intro n
  induction n with
  | zero =>
    intro s h
    refine codeAny_builtin F.entry_extend_loop ?_
    rw [Around.under_plainId F.plain_extend_loop _]
    show wpAny _ A.in1 (pyNext (.ref a) >>= _) _ _ s
    refine wpAny_bind (gx_next (B := A.in1) hh hroom h (fun v s' y pn2 σ2 H4 Nx rv I cons next => ?_) fun s' σ' H' I q => ?_)
    · obtain ⟨acc, e1, e2, nx⟩ := cons
      obtain ⟨hz', its, c, ri, e⟩ := I.hok S _ e1
      have e3 : its.toArray.size < sizeLine := by rw [List.size_toArray, ← ri.length]; exact e2
      show wpAny _ A.in1 (updateSeq S (·.push v) >>= _) _ _ _
      refine wpAny_bind (wpAny_updateSeq e rfl ?_ (Nat.le_of_lt e3) (by show (its.toArray.push v).size ≤ sizeLine + 1; rw [Array.size_push]; omega))
      have I2 : Inv X' _ σ2 (upd H4 S (.lst (acc ++ [y]))) { s' with heap := s'.heap.update S (Obj.mapSeq (·.push v)) } :=
        I.write (t' := s'.toks) (by rw [e1]; trivial) (.inl rfl) (fun b u hb q => (Heap.get?_update_other _ _ (Ne.symm hb)).trans q) ⟨_, Heap.get?_update_self _ e rfl⟩
          ⟨by rw [List.length_append]; exact e2, its ++ [v], c + 1, ri.append (.cons rv .nil), by rw [Heap.get?_update_self _ e rfl]; simp [Obj.mapSeq]⟩
      obtain ⟨m, hm, _⟩ := next _ _ I2 nx rfl
      omega
    · exact wpAny_pure (hD _ _ _ _ I q)
  | succ n ih =>
    intro s h
    refine codeAny_builtin F.entry_extend_loop ?_
    rw [Around.under_plainId F.plain_extend_loop _]
    show wpAny _ A.in1 (pyNext (.ref a) >>= _) _ _ s
    refine wpAny_bind (gx_next (B := A.in1) hh hroom h (fun v s' y pn2 σ2 H4 Nx rv I cons next => ?_) fun s' σ' H' I q => ?_)
    · obtain ⟨acc, e1, e2, nx⟩ := cons
      obtain ⟨hz', its, c, ri, e⟩ := I.hok S _ e1
      have e3 : its.toArray.size < sizeLine := by rw [List.size_toArray, ← ri.length]; exact e2
      show wpAny _ A.in1 (updateSeq S (·.push v) >>= _) _ _ _
      refine wpAny_bind (wpAny_updateSeq e rfl ?_ (Nat.le_of_lt e3) (by show (its.toArray.push v).size ≤ sizeLine + 1; rw [Array.size_push]; omega))
      have I2 : Inv X' _ σ2 (upd H4 S (.lst (acc ++ [y]))) { s' with heap := s'.heap.update S (Obj.mapSeq (·.push v)) } :=
        I.write (t' := s'.toks) (by rw [e1]; trivial) (.inl rfl) (fun b u hb q => (Heap.get?_update_other _ _ (Ne.symm hb)).trans q) ⟨_, Heap.get?_update_self _ e rfl⟩
          ⟨by rw [List.length_append]; exact e2, its ++ [v], c + 1, ri.append (.cons rv .nil), by rw [Heap.get?_update_self _ e rfl]; simp [Obj.mapSeq]⟩
      obtain ⟨m, hm, st⟩ := next _ _ I2 nx rfl
      obtain rfl : n = m := by omega
      exact wpAny_pure ⟨plainId_quiet F.plain_extend_loop _, ih _ st⟩
    · exact wpAny_pure (hD _ _ _ _ I q)
end
section
variable {X : Cx} {elt tg iter : Expr} {ifs : List Expr} {scope : Scope} {gpos p pos : Pos} {wi : TI} {g : TG} {tt : TT} {te : TE}
def tFillG (wi : TI) (g : TG) (tt : TT) (te : TE) (vs : List Nat) (Qe : Addr → Hp → VK → Prop) : TE := fun σ H Q => wi σ H fun J H1 => TabsOk H1 ∧ ∀ H3, TabbedI H1 H3 → ∀ S, H3 S = none → ∃ W : Nat → Nat → Hp → Prop, (∃ m, W 0 m (upd H3 S (.lst []))) ∧
  GxTurn J g tt te vs σ (consL S) (fun H' => Qe S H' Q) W
def qTup : Addr → Hp → VK → Prop := fun S H' Q => ∃ acc, H' S = some (.lst acc) ∧ acc.length ≤ sizeLine ∧ ∀ p, H' p = none → Q (.ref p) (upd H' p (.tup acc))
theorem gx_collect {c P : Addr} {own : List (Str × Nat)} (G : GxOk X c P elt tg iter ifs scope own wi g tt te) {pins : List (Addr × Obj)} {σ : L2.St} {J : It} {H1 : Hp} {u : Value} {s6 : Shared} {A : Around} {Qe : Addr → Hp → Prop} {Q : List Value → Shared → Prop} {E : Value → Shared → Prop}
    (hA : A.handled = X.A.handled) (hAd : A.depth = X.A.depth) (hAf : A.frames = X.A.frames) (hAu : A.units ≤ X.A.units + 2)
    (hG : GxMade X pins σ elt tg iter ifs scope gpos (own.map (·.2)) J H1 u s6) (hR : ∀ H3, TabbedI H1 H3 → ∀ S, H3 S = none → ∃ W : Nat → Nat → Hp → Prop, (∃ m, W 0 m (upd H3 S (.lst []))) ∧ GxTurn J g tt te (own.map (·.2)) σ (consL S) (Qe S) W)
    (hQ : ∀ S s' H' acc its, Inv X pins σ H' s' → Qe S H' → H' S = some (.lst acc) → Vals acc its → Q its s') (hT : ∀ S H', Qe S H' → ∃ acc, H' S = some (.lst acc)) : wpAny (model X.prog X.w) A (collect u) Q E s6 := by
  obtain ⟨it, fp, tn, s3, H3, cl, C, code, a, gn, nm, qn, rfl, T, st, I3, f3, hTb, haf, hck, hgs, hI⟩ := hG
  have I6 := hI (A.in1.in1.deeper (gxEnv scope cl C code builtinsNs X.env)) (hA.trans G.hd) (Around.frames_deeper (by show A.frames = _; rw [hAf]; exact I3.ok.frames))
  generalize hS : s6.heap.objs.size = S
  have hSn : H3 S = none := I6.hok.fresh (Nat.le_of_eq hS)
  obtain ⟨W, ⟨m0, w0⟩, turn⟩ := hR H3 hTb S hSn
  have hpa := (I6.pin (a, _) (List.mem_append_right _ (List.mem_singleton.mpr rfl))).1
  have hgen : ∀ {h : Heap}, (∀ b o, s6.heap.get? b = some o → h.get? b = some o) → h.IsGen a gn := fun k => ⟨_, nm, qn, k _ _ hpa, rfl, rfl, rfl⟩
  have hSa : S ≠ a := fun z => by
    have := Heap.lt_size hpa
    rw [← z, ← hS] at this
    exact Nat.lt_irrefl _ this
  unfold collect
  refine wpAny_bind (wpAny_runValue (codeAny_builtin F.entry_proto_collect ?_))
  rw [Around.under_plainId F.plain_proto_collect _]
  show wpAny _ A.in1 (newList [] >>= fun l => again (.builtin "list.__iadd__" ⟨[l, .ref a], []⟩)) _ _ s6
  refine wpAny_bind (wpAny_newObj_type ?_)
  refine wpAny_pure ⟨plainId_quiet F.plain_list_iadd _, codeAny_builtin F.entry_list_iadd ?_⟩
  rw [Around.under_plainId F.plain_list_iadd _]
  rw [hS]
  show wpAny _ A.in1 (Builtin.List.listExtendWith (.ref S) (.ref a) (.ref S)) _ _ _
  unfold Builtin.List.listExtendWith
  have k1 : ∀ b o, s6.heap.get? b = some o → (s6.heap.push { cls := .type "list", data := .seq ([] : List Value).toArray }).get? b = some o := fun b o e => Heap.get?_push_of_some _ e
  refine wpAny_bind (wpAny_typeOf (Heap.IsGen.typeIs (s := { s6 with heap := _ }) (hgen k1)) ?_)
  have h1 : Builtin.List.listSameRef (.ref S) (.ref a) = false := by simp [Builtin.List.listSameRef, hSa]
  have h2 : (Value.type "generator" == Value.type "list") = false := by decide
  have h3 : (Value.type "generator" == Value.type "tuple") = false := by decide
  simp only [h1, h2, h3, Bool.or_false, Bool.false_eq_true, if_false]
  refine wpAny_bind (wpAny_pyIter_gen (s := { s6 with heap := _ }) (hgen k1) ?_)
  refine wpAny_bind (wpAny_holding ?_)
  unfold Builtin.List.listLengthHint
  refine wpAny_bind (wpAny_specialOf (Heap.IsGen.typeIs (s := { s6 with heap := _ }) (hgen k1)) F.gen_no_len ?_)
  show wpAny _ A.in1 (specialOf (Value.ref a) (Str.ofString "__length_hint__") >>= _) _ _ _
  refine wpAny_bind (wpAny_specialOf (Heap.IsGen.typeIs (s := { s6 with heap := _ }) (hgen k1)) F.gen_no_hint ?_)
  refine wpAny_pure ?_
  show wpAny _ A.in1 (rule "list.extend.makes-room" >>= fun _ => Builtin.List.listTouch (.ref S) >>= fun _ =>
    again (.builtin "list.extend.loop" ⟨[.ref S, .ref a, .ref S], []⟩)) _ _ _
  refine wpAny_bind (wpAny_rule ?_)
  have hS₁ : (s6.heap.push { cls := .type "list", data := .seq ([] : List Value).toArray }).get? S = some { cls := .type "list", data := .seq ([] : List Value).toArray } := by rw [← hS]; exact Heap.get?_push_size _ rfl
  refine wpAny_bind ?_
  show wpAny _ A.in1 (updateSeq S (·.push .none) >>= fun _ => updateSeq S (·.pop)) _ _ _
  refine wpAny_bind (wpAny_updateSeq hS₁ rfl ?_)
  have hS₂ := Heap.get?_update_self (Obj.mapSeq (·.push Value.none)) hS₁ rfl
  refine wpAny_updateSeq (hz := by seq_fits) hS₂ rfl ?_
  have hS₃ := Heap.get?_update_self (Obj.mapSeq (·.pop)) hS₂ rfl
  have nS : ∀ b o, s6.heap.get? b = some o → b ≠ S := fun b o e z => by
    have := Heap.lt_size e
    rw [z, ← hS] at this
    exact Nat.lt_irrefl _ this
  have k3 : ∀ b o, s6.heap.get? b = some o → (((s6.heap.push { cls := .type "list", data := .seq ([] : List Value).toArray }).update S (Obj.mapSeq (·.push Value.none))).update S (Obj.mapSeq (·.pop))).get? b = some o :=
    fun b o e => (Heap.get?_update_other _ _ (Ne.symm (nS b o e))).trans ((Heap.get?_update_other _ _ (Ne.symm (nS b o e))).trans (k1 b o e))
  have I7 := I6.laid (t' := s6.toks) (a := S) (o := .lst []) k3 (Nat.le_of_eq hS) ⟨Nat.zero_le _, [], _, .nil, hS₃⟩
  refine wpAny_pure ⟨plainId_quiet F.plain_extend_loop _, ?_⟩
  refine gx_extend (X' := gxC X (A.in1.in1.deeper (gxEnv scope cl C code builtinsNs X.env)) s3 H3 scope (gxEnv scope cl C code builtinsNs X.env) fp) (A := A) (S := S) (Qd := Qe S) (hA.trans G.hd) (by rw [hAd]; exact G.room) (fun s' pn σ' H' J' q => ?_) (m0 + 1) _
    (gx_fresh G T (T.keep _ _ _ st fun b _ o e => k3 b o e) haf (fun b hb => ?_) hgs I7 ⟨hA.trans G.hd, by show A.depth + 1 = _; rw [hAd], by show A.units + 1 + 1 + 3 ≤ _; omega⟩ hck w0 turn)
  · obtain ⟨acc, e1⟩ := hT S H' q
    have J'' := gx_back I3 f3 J'
    obtain ⟨hz', its, c', ri, e⟩ := J''.hok S _ e1
    show wpAny _ A (load S >>= _) _ _ s'
    refine wpAny_bind (wpAny_load e ?_)
    exact wpAny_pure (hQ S s' H' acc _ J'' q e1 (by simpa using ri))
  · obtain ⟨o, e, _⟩ := T.obj _ _ st b hb
    rw [upd_ne (nS b o e)]
    exact (f3 b hb).1
theorem pe_tupG {c P : Addr} {own : List (Str × Nat)} (G : GxOk X c P elt tg iter ifs scope own wi g tt te) (hg : Gl X "tuple") (hm : X.mg "tuple" = none) (hb : bootBuiltins "tuple" = some (.type "tuple"))
    (he : starEach [.GeneratorExp elt [⟨tg, iter, ifs, 0⟩] scope gpos] X.env = (false, eval (.GeneratorExp elt [⟨tg, iter, ifs, 0⟩] scope gpos) X.env) :: starEach [] X.env := by rfl) :
    PE X (.Call (.Name "tuple" p) [.GeneratorExp elt [⟨tg, iter, ifs, 0⟩] scope gpos] [] pos) (tFillG wi g tt te (own.map (·.2)) qTup) := by
  refine ⟨fun pins s σ H Q I h => ?_⟩
  refine wpAny_Call_Name_kw (ld_blt I hg hm hb ?_)
  refine PyProof.Rows.callWith_type1 ?_ he rfl
  rw [he]
  show wpAny _ _ (spliced ((false, eval (.GeneratorExp elt [⟨tg, iter, ifs, 0⟩] scope gpos) X.env) :: backTo pos (starEach [] X.env))) _ _ s
  refine Calls.spliced_cons (gx_make G.ck G.code G.room G.co G.dot G.ok G.nd G.it G.fold I h fun J H1 u s6 hR hG => ?_)
  refine Calls.spliced_nil ?_
  have hG' := hG
  obtain ⟨it, fp, tn, s3, H3, cl, C, code, a, gn, nm, qn, rfl, T, st, I3, f3, hTb, haf, hck, hgs, hI⟩ := hG'
  have I6 := hI (X.A.in1.in1.deeper (gxEnv scope cl C code builtinsNs X.env)) G.hd (Around.frames_deeper I3.ok.frames)
  have hpa := (I6.pin (a, _) (List.mem_append_right _ (List.mem_singleton.mpr rfl))).1
  have hTI : s6.TypeIs (.ref a) "generator" := ⟨_, hpa, rfl⟩
  refine callType_codes (Q₁ := fun obj s₁ => s₁.TypeIs obj "tuple" ∧ EP X pins σ Q obj s₁) F.called_tuple (F.typeCall_tuple_1 _) F.entry_object_init ?_ fun obj s₁ h₁ => ?_
  · refine code_tuple_new_gx (A := X.A.in1) (Kp := fun its s' => ∃ S H' acc, Inv X pins σ H' s' ∧ qTup S H' Q ∧ H' S = some (.lst acc) ∧ Vals acc its) hTI (fun {Q2 E2} h2 =>
      gx_collect G (A := X.A.in1.in1) (Qe := fun S H' => qTup S H' Q) rfl rfl rfl (Nat.le_refl _) hG (fun H3 h S hS => hR H3 h S hS) (fun S s' H' acc its I7 q e rv => h2 its s' ⟨S, H', acc, I7, q, e, rv⟩) fun S H' ⟨acc, e, _⟩ => ⟨acc, e⟩) ?_ ?_
    · rintro its s' ⟨S, H', acc, I7, ⟨acc', e1, e2, q⟩, e3, rv⟩
      rw [e3] at e1
      cases e1
      rw [← rv.length]
      exact e2
    · rintro its s' ⟨S, H', acc, I7, ⟨acc', e1, e2, q⟩, e3, rv⟩
      rw [e3] at e1
      cases e1
      have I8 : Inv X pins σ (upd H' s'.heap.objs.size (.tup acc)) { s' with heap := s'.heap.push { cls := .type "tuple", data := .seq its.toArray } } :=
        I7.laid (t' := s'.toks) (fun b o e => Heap.get?_push_of_some _ e) (Nat.le_refl _) (show ObjOk X.prog X.w _ _ _ (.tup acc) from ⟨e2, its, rv, IsTup.new _ _⟩)
      exact ⟨⟨_, Heap.get?_push_size _ rfl, rfl⟩, .ref s'.heap.objs.size, _, I8, rfl, q _ (I7.hok.fresh (Nat.le_refl _))⟩
  · exact ⟨h₁.1, F.args_object_init_2 obj _, object_init_meets F.called_tuple.init.lookup F.called_tuple.made (by decide) X.prog X.w X.A.in1 _ s₁ ⟨h₁.1, rfl, h₁.2⟩⟩
end
end Mini
end
section
namespace Mini
open PySem L2
variable [Tabs]

section
variable {K : PySem.W.Frag}
theorem G.tabbed {ρ : List Addr} {H H3 : Hp} {S : Sto} (g : G K ρ H S) (t : TabbedI H H3) : Ext K ρ H ρ H3 ∧ G K ρ H3 S := by
  have same : ∀ b u, H b = some u → (∀ q, u ≠ .tbl q) → H3 b = some u := t.2
  have x : Ext K ρ H ρ H3 := ⟨List.prefix_refl _, fun a xs h => by
    rcases h with (h | ⟨u, h⟩) | h
    · exact .inl (.inl (same _ _ h fun q z => by cases z))
    · exact .inl (.inr ⟨u, same _ _ h fun q z => by cases z⟩)
    · exact .inr h, fun a φ h => same _ _ h fun q z => by cases z⟩
  refine ⟨x, g.len, g.nd, fun i a o k1 k2 => ?_, t.1⟩
  cases hm : o.mut with
  | true =>
    obtain ⟨u, e, r⟩ := (RepO.mut_iff hm).mp (g.ob i a o k1 k2)
    have c := r.chg
    exact (RepO.mut_iff hm).mpr ⟨u, same a u e fun q z => by rw [z] at c; exact c, r.mono x⟩
  | false =>
    cases o with
    | lst _ => cases hm
    | dct _ => cases hm
    | frz ds =>
      obtain ⟨vs, e, r⟩ := g.ob i a _ k1 k2
      refine ⟨vs, ?_, r.mono x⟩
      rcases e with ⟨u, e⟩ | e
      · exact .inl ⟨u, same _ _ e fun q z => by cases z⟩
      · exact .inr e

def qOne (g : XG) (c : XB) (a : XE) (d : D) (e : EnvD) (S : Sto) : Option (Option Bool × Sto) := match g d e with
  | none => none
  | some e1 => match c e1 S with
    | none => none
    | some (false, S1) => some (none, S1)
    | some (true, S1) => match a e1 S1 with
      | some (.bl b, S2) => some (some b, S2)
      | _ => none
def qL (k : Bool) (g : XG) (c : XB) (a : XE) : List D → EnvD → Sto → Option (Bool × Sto)
  | [], _, S => some (k, S)
  | d :: ds, e, S => match qOne g c a d e S with
    | none => none
    | some (none, S1) => qL k g c a ds e S1
    | some (some b, S1) => if b = k then qL k g c a ds e S1 else some (!k, S1)
def qV (k : Bool) (l : Nat) (g : XG) (c : XB) (a : XE) : Nat → Nat → EnvD → Sto → Option (Bool × Sto)
  | 0, _, _, _ => none
  | t + 1, i, e, S => match lstAt S l with
    | none => none
    | some ds => match ds[i]? with
      | none => some (k, S)
      | some d => match qOne g c a d e S with
        | none => none
        | some (none, S1) => qV k l g c a t (i + 1) e S1
        | some (some b, S1) => if b = k then qV k l g c a t (i + 1) e S1 else some (!k, S1)
def xQ (k : Bool) (w : XW) (vs : List Nat) (g : XG) (c : XB) (a : XE) : XE := fun e S => match w e S with
  | none => none
  | some (.fix ds, S1) => match qL k g c a ds (wipeD e vs) S1 with
    | none => none
    | some (b, S2) => some (.bl b, S2)
  | some (.live l, S1) => match qV k l g c a turns 0 (wipeD e vs) S1 with
    | none => none
    | some (b, S2) => some (.bl b, S2)
theorem q_turn {ρ : List Addr} {H : Hp} {e : EnvD} {σ : L2.St} {S S1 : Sto} {d : D} {x : V} {g : XG} {c : XB} {a : XE} {vs : List Nat} {Nx Qo : Hp → Prop} {k : Bool} {r : Option Bool}
    (re : RE K ρ H (wipeD e vs) (L2.wipe σ vs)) (gg : G K ρ H S) (rx : Rep K ρ H d x) (h : qOne g c a d (wipeD e vs) S = some (r, S1))
    (on : (∀ b, r = some b → b = k) → ∀ ρ' H', Ext K ρ H ρ' H' → G K ρ' H' S1 → Nx H') (out : r = some (!k) → ∀ ρ' H', Ext K ρ H ρ' H' → G K ρ' H' S1 → Qo H') :
    rGw K vs g x (L2.wipe σ vs) H fun σ2 H2 => L2.wipe σ2 vs = L2.wipe σ vs ∧ rB K c σ2 H2 fun b H3 => if b = true then rE K a σ2 H3 fun y H4 => consB k Qo y H4 Nx else Nx H3 := by
  unfold qOne at h
  split at h
  · cases h
  rename_i e1 eg
  refine ⟨ρ, wipeD e vs, d, e1, re, rx, eg, fun σ1 re1 hw => ⟨hw.trans (wipe_wipe σ vs), ?_⟩⟩
  split at h
  · cases h
  · rename_i S2 ec
    cases h
    refine ⟨ρ, e1, S, false, _, re1, gg, ec, fun ρ1 H1 x1 g1 => ?_⟩
    refine iteF ?_
    exact on (fun b z => by cases z) ρ1 H1 x1 g1
  · rename_i S2 ec
    refine ⟨ρ, e1, S, true, _, re1, gg, ec, fun ρ1 H1 x1 g1 => ?_⟩
    refine iteT ?_
    split at h
    · rename_i b S3 ea
      cases h
      refine ⟨ρ1, e1, S2, .bl b, _, re1.mono x1, g1, ea, fun ρ2 H2 v x2 g2 hv => ?_⟩
      cases hv
      refine ⟨b, rfl, ?_⟩
      by_cases hb : b = k
      · rw [if_pos hb]
        exact on (fun b' z => by cases z; exact hb) ρ2 H2 (x1.trans x2) g2
      · rw [if_neg hb]
        exact out (by congr 1; cases b <;> cases k <;> simp_all) ρ2 H2 (x1.trans x2) g2
    · cases h
theorem q_fix {J : It} {ds : List D} {ρ0 : List Addr} {H0 : Hp} {g : XG} {c : XB} {a : XE} {σ : L2.St} {e : EnvD} {S S2 : Sto} {vs : List Nat} {k rb : Bool} {Q : VK} (re : RE K ρ0 H0 e σ) (gg : G K ρ0 H0 S)
    (w : WalkOk K ρ0 H0 J (.fix ds)) (h : qL k g c a ds (wipeD e vs) S = some (rb, S2)) (kk : ∀ ρ' H', Ext K ρ0 H0 ρ' H' → G K ρ' H' S2 → Q (.bl rb) H') :
    ∃ W : Nat → Nat → Hp → Prop, (∃ m, W 0 m H0) ∧ GxTurn J (rGw K vs g) (rB K c) (rE K a) vs σ (consB k (Q (.bl (!k)))) (Q (.bl k)) W := by
  refine ⟨fun i m H => m = ds.length - i ∧ i ≤ ds.length ∧ ∃ ρ S, Ext K ρ0 H0 ρ H ∧ G K ρ H S ∧ qL k g c a (ds.drop i) (wipeD e vs) S = some (rb, S2), ⟨_, rfl, Nat.zero_le _, ρ0, S, .refl, gg, h⟩, ?_⟩
  rintro i m H ⟨rfl, hi, ρ, S, x0, gg, h⟩
  by_cases hlt : i < ds.length
  · obtain ⟨q1, q2⟩ := w.2 i ds[i] (List.getElem?_eq_getElem hlt) ρ H x0
    rw [List.drop_eq_getElem_cons hlt] at h
    have h' : (match qOne g c a ds[i] (wipeD e vs) S with
      | none => none
      | some (none, S1) => qL k g c a (ds.drop (i + 1)) (wipeD e vs) S1
      | some (some b, S1) => if b = k then qL k g c a (ds.drop (i + 1)) (wipeD e vs) S1 else some (!k, S1)) = some (rb, S2) := h
    cases e1 : qOne g c a ds[i] (wipeD e vs) S with
    | none => rw [e1] at h'; cases h'
    | some rs =>
      obtain ⟨r, S1⟩ := rs
      rw [e1] at h'
      refine .inr ⟨q1, fun H => ∃ ρ S, Ext K ρ0 H0 ρ H ∧ G K ρ H S ∧ qL k g c a (ds.drop (i + 1)) (wipeD e vs) S = some (rb, S2), fun H' q => ⟨ds.length - (i + 1), by omega, rfl, hlt, q⟩, fun x H' y => ?_⟩
      obtain ⟨x1, g1, rx⟩ := q2 x H' y S gg
      have x2 := x0.trans x1
      refine q_turn ((re.mono x2).wipe vs) g1 rx e1 (fun hr ρ' H' x3 g3 => ⟨ρ', S1, x2.trans x3, g3, ?_⟩) fun hr ρ' H' x3 g3 => ?_
      · cases r with
        | none => exact h'
        | some b =>
          have hb := hr b rfl
          subst hb
          simpa using h'
      · subst hr
        have h2 : (if (!k) = k then qL k g c a (ds.drop (i + 1)) (wipeD e vs) S1 else some (!k, S1)) = some (rb, S2) := h'
        rw [if_neg (by cases k <;> simp)] at h2
        cases h2
        exact kk ρ' H' (x2.trans x3) g3
  · have ei : i = ds.length := by omega
    subst ei
    rw [List.drop_length] at h
    cases h
    exact .inl ⟨w.1 ρ H x0, kk ρ H x0 gg⟩
theorem q_live {l : Nat} {b : Addr} {ρ0 : List Addr} {H0 : Hp} {g : XG} {c : XB} {a : XE} {σ : L2.St} {e : EnvD} {S S2 : Sto} {vs : List Nat} {k rb : Bool} {Q : VK} (t : Nat) (re : RE K ρ0 H0 e σ) (gg : G K ρ0 H0 S) (hl : ρ0[l]? = some b)
    (h : qV k l g c a t 0 (wipeD e vs) S = some (rb, S2)) (kk : ∀ ρ' H', Ext K ρ0 H0 ρ' H' → G K ρ' H' S2 → Q (.bl rb) H') :
    ∃ W : Nat → Nat → Hp → Prop, (∃ m, W 0 m H0) ∧ GxTurn (Itl K b) (rGw K vs g) (rB K c) (rE K a) vs σ (consB k (Q (.bl (!k)))) (Q (.bl k)) W := by
  refine ⟨fun i m H => ∃ ρ S, Ext K ρ0 H0 ρ H ∧ G K ρ H S ∧ qV k l g c a m i (wipeD e vs) S = some (rb, S2), ⟨_, ρ0, S, .refl, gg, h⟩, ?_⟩
  rintro i m H ⟨ρ, S, x0, gg, h⟩
  cases m with
  | zero => cases h
  | succ m =>
    have h' : (match lstAt S l with
      | none => none
      | some ds => match ds[i]? with
        | none => some (k, S)
        | some d => match qOne g c a d (wipeD e vs) S with
          | none => none
          | some (none, S1) => qV k l g c a m (i + 1) (wipeD e vs) S1
          | some (some b, S1) => if b = k then qV k l g c a m (i + 1) (wipeD e vs) S1 else some (!k, S1)) = some (rb, S2) := h
    split at h'
    · cases h'
    rename_i ds el
    obtain ⟨vs', hs, hr⟩ := gg.lst (pre_get x0.pre hl) el
    split at h'
    · rename_i ed
      cases h'
      exact .inl ⟨⟨vs', hs, by rw [← hr.length]; exact List.getElem?_eq_none_iff.mp ed⟩, kk ρ H x0 gg⟩
    rename_i d ed
    obtain ⟨v, hv, rv⟩ := hr.get ed
    cases e1 : qOne g c a d (wipeD e vs) S with
    | none => rw [e1] at h'; cases h'
    | some rs =>
      obtain ⟨r, S1⟩ := rs
      rw [e1] at h'
      refine .inr ⟨⟨vs', v, hs, hv⟩, fun H => ∃ ρ S, Ext K ρ0 H0 ρ H ∧ G K ρ H S ∧ qV k l g c a m (i + 1) (wipeD e vs) S = some (rb, S2), fun H' q => ⟨m, Nat.lt_succ_self m, q⟩, fun x H' y => ?_⟩
      obtain ⟨rfl, y2⟩ := y
      have ex := y2 vs' hs
      rw [hv] at ex
      cases ex
      refine q_turn ((re.mono x0).wipe vs) gg rv e1 (fun hr ρ' H' x3 g3 => ⟨ρ', S1, x0.trans x3, g3, ?_⟩) fun hr ρ' H' x3 g3 => ?_
      · cases r with
        | none => exact h'
        | some b =>
          have hb := hr b rfl
          subst hb
          simpa using h'
      · subst hr
        have h2 : (if (!k) = k then qV k l g c a m (i + 1) (wipeD e vs) S1 else some (!k, S1)) = some (rb, S2) := h'
        rw [if_neg (by cases k <;> simp)] at h2
        cases h2
        exact kk ρ' H' (x0.trans x3) g3
theorem q_of {w : XW} {vs : List Nat} {g : XG} {c : XB} {a : XE} {k : Bool} : ∀ σ H Q, rE K (xQ k w vs g c a) σ H Q → tBoolG k (rW K w) (rGw K vs g) (rB K c) (rE K a) vs σ H Q := by
  intro σ H Q ⟨ρ, e, S, d, S', re, gg, h, kk⟩
  unfold xQ at h
  split at h
  · cases h
  · rename_i ds S1 ew
    split at h
    · cases h
    rename_i b S2 el
    cases h
    refine ⟨ρ, e, S, .fix ds, S1, re, gg, ew, fun ρ1 H1 J x1 g1 wk => ⟨g1.tab, fun H3 hT => ?_⟩⟩
    obtain ⟨x2, g2⟩ := g1.tabbed hT
    have wk2 : WalkOk K ρ1 H3 J (.fix ds) := ⟨fun ρ' H' x => wk.1 ρ' H' (x2.trans x), fun i d hd ρ' H' x => wk.2 i d hd ρ' H' (x2.trans x)⟩
    exact q_fix (re.mono (x1.trans x2)) g2 wk2 el fun ρ' H' x3 g3 => kk ρ' H' _ ((x1.trans x2).trans x3) g3 (.bl _)
  · rename_i l S1 ew
    split at h
    · cases h
    rename_i b S2 el
    cases h
    refine ⟨ρ, e, S, .live l, S1, re, gg, ew, fun ρ1 H1 J x1 g1 wk => ⟨g1.tab, fun H3 hT => ?_⟩⟩
    obtain ⟨b', hb, rfl⟩ := wk
    obtain ⟨x2, g2⟩ := g1.tabbed hT
    exact q_live turns (re.mono (x1.trans x2)) g2 (pre_get x2.pre hb) el fun ρ' H' x3 g3 => kk ρ' H' _ ((x1.trans x2).trans x3) g3 (.bl _)
end
section
variable {X : Cx} {elt tg iter : Expr} {ifs : List Expr} {scope : Scope} {gpos p pos : Pos} {w : XW} {g : XG} {c : XB} {a : XE}
theorem gx_ok {cc P : Addr} {n j cn : Nat} (own : List (Str × Nat)) (vs : List Nat) (sc : Scope) {N : List Str} (ck : CK X cc P) (hcode : X.env.code = .ref cc) (hr : Rs cn n (j + 1) X.A) (hc : X.calm = true) (hco : scope.isCoroutine = false) (h0 : scope.names.lookup (".0" : Str) = some NameKind.local) (hN : X.N.Nodup) (eN : X.N = N) (esc : X.env.scope = sc)
    (hok : blkC N sc scope own = true) (hv : own.map (·.2) = vs) (hi : PI X tg iter (rW X.K w)) (hs : ∀ x, genFold iter X.env x = pure x)
    (hg : ∀ (A' : Around), Rs cn n j A' → ∀ (s : Shared) (H : Hp) (C : Addr) (code : Value) (cl : List (Str × Addr)) (fp : List Addr) (c' Q : Addr), code = .ref c' → CK (gxC X A' s H scope (gxEnv scope cl C code builtinsNs X.env) fp) c' Q → PG (gxC X A' s H scope (gxEnv scope cl C code builtinsNs X.env) fp) tg (rGw X.K vs g))
    (ht : ∀ (A' : Around), Rs cn n j A' → ∀ (s : Shared) (H : Hp) (C : Addr) (code : Value) (cl : List (Str × Addr)) (fp : List Addr) (c' Q : Addr), code = .ref c' → CK (gxC X A' s H scope (gxEnv scope cl C code builtinsNs X.env) fp) c' Q → PTs (gxC X A' s H scope (gxEnv scope cl C code builtinsNs X.env) fp) ifs (rB X.K c))
    (he : ∀ (A' : Around), Rs cn n j A' → ∀ (s : Shared) (H : Hp) (C : Addr) (code : Value) (cl : List (Str × Addr)) (fp : List Addr) (c' Q : Addr), code = .ref c' → CK (gxC X A' s H scope (gxEnv scope cl C code builtinsNs X.env) fp) c' Q → PE (gxC X A' s H scope (gxEnv scope cl C code builtinsNs X.env) fp) elt (rE X.K a)) :
    GxOk X cc P elt tg iter ifs scope own (rW X.K w) (rGw X.K vs g) (rB X.K c) (rE X.K a) := by
  subst eN esc
  exact ⟨ck, hcode, hr.hd, hr.dp0, hc, hco, h0, blkOk_by hok, hN, hi, hs, fun A' h => hg A' (hr.near h), fun A' h => ht A' (hr.near h), fun A' h => he A' (hr.near h)⟩
theorem r_all {cc P : Addr} {own : List (Str × Nat)} {vs : List Nat} (hv : own.map (·.2) = vs) (hgl : Gl X "all") (hm : X.mg "all" = none) (hb : bootBuiltins "all" = some (.builtin "all"))
    (G : GxOk X cc P elt tg iter ifs scope own (rW X.K w) (rGw X.K vs g) (rB X.K c) (rE X.K a))
    (he : starEach [.GeneratorExp elt [⟨tg, iter, ifs, 0⟩] scope gpos] X.env = (false, eval (.GeneratorExp elt [⟨tg, iter, ifs, 0⟩] scope gpos) X.env) :: starEach [] X.env := by rfl) :
    PE X (.Call (.Name "all" p) [.GeneratorExp elt [⟨tg, iter, ifs, 0⟩] scope gpos] [] pos) (rE X.K (xQ true w vs g c a)) := by
  subst hv
  exact PE.imp (pe_allG G hgl hm hb he) q_of
end
end Mini
end
section
namespace Mini
open PySem L2
variable [Tabs]
def xTG (w : XW) (vs : List Nat) (g : XG) (c : XB) (a : XE) : XE := fun e S => match xLc w vs g c a e S with
  | some (.loc n, S2) => match S2[n]? with
    | some (.lst acc) => if acc.length ≤ 1000000 then some (.tup acc, S2) else none
    | _ => none
  | _ => none
theorem tg_of {K : PySem.W.Frag} {w : XW} {vs : List Nat} {g : XG} {c : XB} {a : XE} : ∀ σ H Q, rE K (xTG w vs g c a) σ H Q → tFillG (rW K w) (rGw K vs g) (rB K c) (rE K a) vs qTup σ H Q := by
  intro σ H Q ⟨ρ, e, S, d, S', re, gg, h, kk⟩
  unfold xTG at h
  -- the list is filled, then read
  have fin : ∀ {n : Nat} {S2 : Sto} {ρ1 : List Addr} {D0 : Addr}, ρ1[n]? = some D0 → (match S2[n]? with
    | some (.lst acc) => if acc.length ≤ 1000000 then some (D.tup acc, S2) else none
    | _ => none) = some (d, S') → ∀ {H2 : Hp}, Ext K ρ H ρ1 H2 → ∀ ρ' H', Ext K ρ1 H2 ρ' H' → G K ρ' H' S2 → qTup D0 H' Q := by
    intro n S2 ρ1 D0 hn h2 H2 x0 ρ' H' x3 g3
    split at h2
    · rename_i acc es
      split at h2
      · rename_i hl
        cases h2
        obtain ⟨u, hu, ru⟩ := (RepO.mut_iff rfl).mp (g3.ob n D0 _ (pre_get x3.pre hn) es)
        cases u with
        | lst ys =>
          have r2 : Reps K ρ' H' acc ys := ru
          refine ⟨ys, hu, by rw [← r2.length]; exact Nat.le_trans hl (by decide), fun p hp => ?_⟩
          obtain ⟨x4, g4, r4⟩ := tup_new g3 r2 hp
          exact kk ρ' _ _ ((x0.trans x3).trans x4) g4 r4
        | _ => exact ru.elim
      · cases h2
    · cases h2
  unfold xLc at h
  split at h
  · rename_i n S2 hx
    split at hx
    · cases hx
    · rename_i ds S1 ew
      split at hx
      · cases hx
      rename_i S3 el
      cases hx
      refine ⟨ρ, e, S, .fix ds, S1, re, gg, ew, fun ρ1 H1 J x1 g1 wk => ⟨g1.tab, fun H3 hT D0 hD => ?_⟩⟩
      obtain ⟨xt, gt⟩ := g1.tabbed hT
      obtain ⟨g2, x2⟩ := gt.new (q := .lst []) (o := .lst []) hD rfl .nil
      have hn : (ρ1 ++ [D0])[S1.length]? = some D0 := by rw [← g1.len]; simp
      have wk2 : WalkOk K (ρ1 ++ [D0]) (upd H3 D0 (.lst [])) J (.fix ds) := ⟨fun ρ' H' x => wk.1 ρ' H' ((xt.trans x2).trans x), fun i d hd ρ' H' x => wk.2 i d hd ρ' H' ((xt.trans x2).trans x)⟩
      exact lc_fix (re.mono ((x1.trans xt).trans x2)) g2 hn wk2 el (fin hn h ((x1.trans xt).trans x2))
    · rename_i l S1 ew
      split at hx
      · cases hx
      rename_i S3 el
      cases hx
      refine ⟨ρ, e, S, .live l, S1, re, gg, ew, fun ρ1 H1 J x1 g1 wk => ⟨g1.tab, fun H3 hT D0 hD => ?_⟩⟩
      obtain ⟨b, hb, rfl⟩ := wk
      obtain ⟨xt, gt⟩ := g1.tabbed hT
      obtain ⟨g2, x2⟩ := gt.new (q := .lst []) (o := .lst []) hD rfl .nil
      have hn : (ρ1 ++ [D0])[S1.length]? = some D0 := by rw [← g1.len]; simp
      exact lc_live turns (re.mono ((x1.trans xt).trans x2)) g2 hn (pre_get (xt.trans x2).pre hb) el (fin hn h ((x1.trans xt).trans x2))
  · cases h
section
variable {X : Cx} {elt tg iter : Expr} {ifs : List Expr} {scope : Scope} {gpos p pos : Pos} {w : XW} {g : XG} {c : XB} {a : XE}
theorem r_tupG {cc P : Addr} {own : List (Str × Nat)} {vs : List Nat} (hv : own.map (·.2) = vs) (hgl : Gl X "tuple") (hm : X.mg "tuple" = none) (hb : bootBuiltins "tuple" = some (.type "tuple"))
    (G : GxOk X cc P elt tg iter ifs scope own (rW X.K w) (rGw X.K vs g) (rB X.K c) (rE X.K a))
    (he : starEach [.GeneratorExp elt [⟨tg, iter, ifs, 0⟩] scope gpos] X.env = (false, eval (.GeneratorExp elt [⟨tg, iter, ifs, 0⟩] scope gpos) X.env) :: starEach [] X.env := by rfl) :
    PE X (.Call (.Name "tuple" p) [.GeneratorExp elt [⟨tg, iter, ifs, 0⟩] scope gpos] [] pos) (rE X.K (xTG w vs g c a)) := by
  subst hv
  exact PE.imp (pe_tupG G hgl hm hb he) tg_of
end
def wAny (m : XE) : XW := fun e S => match m e S with
  | some (.tup ds, S1) => some (.fix ds, S1)
  | some (.loc n, S1) => match lstAt S1 n with
    | some _ => some (.live n, S1)
    | none => none
  | _ => none
theorem rw_any {X : Cx} {tg l : Expr} {m : XE} (hl : PE X l (rE X.K m)) : PI X tg l (rW X.K (wAny m)) := by
  refine ⟨fun pins s σ H R I ⟨ρ, e, S, wk, S', re, g, h, k⟩ => ?_⟩
  have h0 := h
  unfold wAny at h
  split at h
  · rename_i ds S1 em
    exact (rw_tup (tg := tg) hl).run pins s σ H R I ⟨ρ, e, S, wk, S', re, g, by unfold wTup; rw [em]; exact h, k⟩
  · rename_i n S1 em
    exact (rw_lst (tg := tg) hl).run pins s σ H R I ⟨ρ, e, S, wk, S', re, g, by unfold wLst; rw [em]; exact h, k⟩
  · cases h
end Mini
end
section
namespace Mini
open PySem PySem.Spec PyProof.Rows L2 GxR He

def noTab (K : PySem.W.Frag) : PySem.W.Frag := K.filter fun q => match K.lookup q.1 with
  | some o => !emptyTab o
  | none => true
theorem lookup_filter {α β : Type} [BEq α] [LawfulBEq α] (p : α → Bool) (a : α) : ∀ l : List (α × β), (l.filter fun q => p q.1).lookup a = if p a = true then l.lookup a else none
  | [] => by simp
  | (b, u) :: r => by
    have ih := lookup_filter p a r
    by_cases e : a = b
    · subst e
      by_cases hp : p a = true
      · rw [List.filter_cons_of_pos (by simpa using hp)]
        simp [hp]
      · rw [List.filter_cons_of_neg (by simpa using hp), ih]
        simp [hp]
    · have e2 : (a == b) = false := by simpa using e
      by_cases hp : p b = true
      · rw [List.filter_cons_of_pos (by simpa using hp)]
        simp only [List.lookup_cons, e2]
        exact ih
      · rw [List.filter_cons_of_neg (by simpa using hp)]
        simp only [List.lookup_cons, e2]
        exact ih
theorem noTab_look (K : PySem.W.Frag) (a : Addr) : (noTab K).lookup a = match K.lookup a with
    | some o => if emptyTab o = true then none else some o
    | none => none := by
  unfold noTab
  have q := lookup_filter (fun b => match K.lookup b with | some o => !emptyTab o | none => true) a K
  refine Eq.trans q ?_
  cases e : K.lookup a with
  | none => simp
  | some o => cases h : emptyTab o <;> simp [h]
theorem noTab_in {K : PySem.W.Frag} {h : Heap} (X : K.In h) : (noTab K).In h := fun a o e => by
  rw [noTab_look] at e
  cases q : K.lookup a with
  | none => rw [q] at e; cases e
  | some o' =>
    rw [q] at e
    have e' : (if emptyTab o' = true then none else some o') = some o := e
    split at e'
    · cases e'
    · cases e'
      exact X a _ q
theorem noTab_none {K : PySem.W.Frag} {h : Heap} (X : K.In h) {P : Addr} (e : h.get? P = some { cls := .none, data := .fields #[] }) : (noTab K).lookup P = none := by
  rw [noTab_look]
  cases q : K.lookup P with
  | none => rfl
  | some o =>
    have := X P o q
    rw [e] at this
    cases this
    rfl
theorem emptyTab_func {oc : Value} {od : Option Addr} {fd : FuncData} {sl : Array (Option Value)} : emptyTab ⟨oc, od, .func fd, sl⟩ = false := by
  cases oc <;> cases od <;> rfl
theorem noTab_func {K : PySem.W.Frag} {a : Addr} {oc : Value} {od : Option Addr} {fd : FuncData} {sl : Array (Option Value)} (e : K.lookup a = some ⟨oc, od, .func fd, sl⟩) : (noTab K).lookup a = some ⟨oc, od, .func fd, sl⟩ := by
  rw [noTab_look, e]
  show (if emptyTab _ = true then none else _) = _
  rw [emptyTab_func]
  rfl
theorem noTab_keep {K : PySem.W.Frag} {a : Addr} {oc : Value} {od : Option Addr} {fd : FuncData} {sl : Array (Option Value)} (e : K.lookup a = some ⟨oc, od, .func fd, sl⟩) : PySem.W.keepIn (noTab K) (.ref a) = true := by
  simp only [PySem.W.keepIn, noTab_func e]
theorem noTab_code {K : PySem.W.Frag} {cd : Value} {q : Str} (e : PySem.W.codeIn K cd q = true) : PySem.W.codeIn (noTab K) cd q = true := by
  unfold PySem.W.codeIn at e ⊢
  split at e
  · rename_i c
    split at e
    · rename_i oc od vs sl ho
      have z : emptyTab ⟨oc, od, .fields vs, sl⟩ = false := by
        cases h : emptyTab ⟨oc, od, .fields vs, sl⟩ with
        | false => rfl
        | true =>
          have := emptyTab_eq h
          cases this
          simp at e
      have q : (noTab K).lookup c = some ⟨oc, od, .fields vs, sl⟩ := by
        rw [noTab_look, ho]
        show (if emptyTab _ = true then none else _) = _
        rw [z]
        rfl
      simp only [q]
      exact e
    · cases e
  · cases e
@[reducible] def tabsOf (cs : List (Addr × Addr)) : Tabs := ⟨fun P => P ∈ cs.map (·.2)⟩
theorem walk_tab {l : PySem.W.OpenLaw} {k : Nat} {q : Program} {loose : List Str} {XP : (Str → Option Value) → Heap → Prop} {YP : World → Heap → Prop} {d : DefRec} {K : Params → PySem.W.Frag} {x : Str} (names : List Str)
    (hn : l.most = some 63) (hdf : d.params.defaults = []) (hr : Room k callerA) (hrec : (names.all fun y => (recsOf q).any fun e => e.name == y) = true) (hY : ∀ (w : World) (h : Heap), YP w h → (K w.params).In h)
    (F : ∀ (w : World) (mg : Str → Option Value) (fa : Addr) (h : Heap), (K w.params).In h → h.Ns mainGlobals mg → mg d.name = some (.ref fa) →
      ∃ fd : FuncData, (∀ (s : Shared) (u : Value), BindsTo s fd ⟨[u], []⟩ [(x, u)]) ∧
        ∀ cs : List (Addr × Addr), (∀ y ∈ names, ∀ (f : Addr) (oc : Value) (od : Option Addr) (fd' : FuncData) (sl : Array (Option Value)), mg y = some (.ref f) → (noTab (K w.params)).lookup f = some ⟨oc, od, .func fd', sl⟩ → ∃ p ∈ cs, fd'.code = .ref p.1) →
          ∀ base : Heap, (noTab (K w.params)).In base → base.Ns mainGlobals mg → (∀ p ∈ cs, TabB base mg p.1 p.2) → FnOk l.prog w (noTab (K w.params)) mg base CX0 k fa fd [x] (@spLaw (tabsOf cs) (noTab (K w.params)) 63)) :
    PySem.W.WalkO q loose XP YP l.row.toRowW d [] (fun f vs => PySem.call f vs) := by
  refine Att.attach_callB hn hdf fun w s₀ s₁ mg mb fa o pm cd doc a vs ns G Y ho hd hcd hmg hobj hints hlen hbits hg => ?_
  have KX := hY w _ Y
  obtain ⟨fd, hb, hF⟩ := F w mg fa _ KX G.T.g hmg
  have tabs : ∀ ys : List Str, (∀ y ∈ ys, y ∈ names) → ∃ cs : List (Addr × Addr), (∀ p ∈ cs, s₁.heap.get? p.2 = some { cls := .none, data := .fields #[] }) ∧ (∀ p ∈ cs, PySem.W.CodeHd s₁.heap p.1 p.2) ∧
      ∀ y ∈ ys, ∃ (f : Addr) (o : Obj) (fd' : FuncData), mg y = some (.ref f) ∧ s₁.heap.get? f = some o ∧ o.data = .func fd' ∧ ∃ p ∈ cs, fd'.code = .ref p.1 := by
    intro ys
    induction ys with
    | nil => intro _; exact ⟨[], by simp, by simp, by simp⟩
    | cons y ys ih =>
      intro hin
      obtain ⟨cs, c1, c2, c3⟩ := ih fun z hz => hin z (List.mem_cons_of_mem _ hz)
      obtain ⟨dL, hm, hn1⟩ := List.any_eq_true.mp (List.all_eq_true.mp hrec y (hin y List.mem_cons_self))
      have hn2 : dL.name = y := beq_iff_eq.mp hn1
      obtain ⟨a', o', fd', c', P', h1, h2, h3, h4, h5, h6⟩ := G.T.tab dL hm
      rw [hn2] at h1
      refine ⟨(c', P') :: cs, fun p hp => ?_, fun p hp => ?_, fun z hz => ?_⟩
      · rcases List.mem_cons.mp hp with rfl | hp
        · exact h6.2
        · exact c1 p hp
      · rcases List.mem_cons.mp hp with rfl | hp
        · exact PySem.W.CodeHd.of h5 h6
        · exact c2 p hp
      · rcases List.mem_cons.mp hz with rfl | hz
        · exact ⟨a', o', fd', h1, h2, h3, (c', P'), List.mem_cons_self, h4⟩
        · obtain ⟨f, o1, fd1, e1, e2, e3, p, hp, e4⟩ := c3 z hz
          exact ⟨f, o1, fd1, e1, e2, e3, p, List.mem_cons_of_mem _ hp, e4⟩
  obtain ⟨cs, c1, c2, c3⟩ := tabs names fun _ h => h
  refine LamX.law_callTs (cs := cs) (sp := @spLaw (tabsOf cs) (noTab (K w.params)) 63) (noTab_in KX) G.T.g G.T.b G.T.builtins G.T.nolimit hg c1 (fun p hp => noTab_none KX (c1 p hp)) c2 G.T.bmain hobj hints (Nat.le_trans hlen (by decide)) hr
    (fun base hk hgl hTB => hF cs (fun y hy f oc od fd' sl hmy hlk => ?_) base hk hgl fun p hp => ⟨(hTB p hp).code, (hTB p hp).bm, (hTB p hp).gP⟩) hb (fun H hH hS => ⟨a, ns, rfl, hS, fun P hP => ?_, hlen, fun _ => rfl⟩) fun H e s' z => z
  · obtain ⟨f1, o1, fd1, e1, e2, e3, p, hp, e4⟩ := c3 y hy
    rw [hmy] at e1
    cases e1
    have := noTab_in KX _ _ hlk
    rw [e2] at this
    cases this
    cases e3
    exact ⟨p, hp, e4⟩
  · obtain ⟨p, hp, e⟩ := List.mem_map.mp hP
    rw [← e]
    exact @TabI.nil (tabsOf cs) _ _ (hH p hp)
end Mini
end
section
namespace Mini
open PySem PySem.Spec PyProof.Rows L2
def memKey (j : Key) : (l : List Key) → Decidable (j ∈ l)
  | [] => .isFalse (by simp)
  | k :: l => match decEq j k, memKey j l with
    | .isTrue h, _ => .isTrue (h ▸ List.mem_cons_self)
    | .isFalse _, .isTrue h => .isTrue (List.mem_cons_of_mem _ h)
    | .isFalse a, .isFalse b => .isFalse (fun h => (List.mem_cons.mp h).elim a b)
instance memKeyI (j : Key) (l : List Key) : Decidable (j ∈ l) := memKey j l
def kOf (v : Value) : Key := match v with
  | .int k _ => .inl k
  | .str x _ => .inr x
  | _ => .inl 0
def keyX (e : Int × Value) : Key := kOf e.2
theorem kOf_is {k : Key} {v : Value} (h : keyIs k v = true) : kOf v = k := by
  rcases keyIs_shape h with ⟨i, t, rfl, rfl⟩ | ⟨x, t, rfl, rfl⟩ <;> rfl
theorem key_scanX {k : Key} {v : Value} (h : keyIs k v = true) : v.scannable = true := by
  rcases keyIs_shape h with ⟨i, t, rfl, rfl⟩ | ⟨x, t, rfl, rfl⟩ <;> rfl
theorem keyIs_of {k : Key} {v : Value} (hv : ∃ k', keyIs k' v = true) (h : kOf v = k) : keyIs k v = true := by
  obtain ⟨k', h'⟩ := hv
  rw [kOf_is h'] at h
  rw [← h]; exact h'
def GoodX (w : World) (e : Int × Value) : Prop := ∃ k, keyIs k e.2 = true ∧ e.1 = keyH w k
def SetX (w : World) (h : Heap) (a : Addr) (S : Key → Bool) (n : Nat) : Prop :=
  ∃ o es ep t, h.get? a = some o ∧ o.ExactSet ∧ o.data = .set es ep t ∧ (∀ e ∈ es.toList, GoodX w e) ∧ (es.toList.map keyX).Nodup ∧ (∀ k, S k = true ↔ k ∈ es.toList.map keyX) ∧
    es.size < scanBound ∧ t.fits es.size = true ∧ es.size = n ∧ Ris t.place.toList ∧ (w.params.followText "set-order" = true ∨ t.led = true)
inductive KeysAre : List Value → List Key → Prop
  | nil : KeysAre [] []
  | cons {v : Value} {k : Key} {vs : List Value} {ks : List Key} : keyIs k v = true → KeysAre vs ks → KeysAre (v :: vs) (k :: ks)
theorem KeysAre.length : ∀ {vs : List Value} {ks : List Key}, KeysAre vs ks → vs.length = ks.length
  | _, _, .nil => rfl
  | _, _, .cons _ r => congrArg (· + 1) r.length
theorem KeysAre.get : ∀ {vs : List Value} {ks : List Key} {i : Nat} {v : Value}, KeysAre vs ks → vs[i]? = some v → ∃ k, ks[i]? = some k ∧ keyIs k v = true
  | _, _, _, _, .nil, e => by simp at e
  | _, _, 0, _, .cons h _, e => by simp at e; subst e; exact ⟨_, rfl, h⟩
  | _, _, i + 1, v, .cons _ r, e => by
    obtain ⟨k, h1, h2⟩ := r.get (i := i) (v := v) (by simpa using e)
    exact ⟨k, by simpa using h1, h2⟩
section
variable {P : Program} {w : World} {h h' : Heap} {a : Addr} {S : Key → Bool} {n : Nat}
theorem SetX.at (R : SetX w h a S n) (k : ∀ o, h.get? a = some o → h'.get? a = some o) : SetX w h' a S n := by
  obtain ⟨o, es, ep, t, ho, r⟩ := R
  exact ⟨o, es, ep, t, k o ho, r⟩
theorem SetX.congr {S' : Key → Bool} (R : SetX w h a S n) (e : ∀ k, S' k = S k) : SetX w h a S' n := by
  have q : S' = S := funext e
  rw [q]; exact R
theorem goodX_elems {l : List (Int × Value)} (g : ∀ e ∈ l, GoodX w e) : ElemsOf (mixKind P w) l := fun e he => by
  obtain ⟨k, h1, h2⟩ := g e he
  exact ⟨⟨k, h1, h2⟩, key_scanX h1⟩
theorem goodX_mem {l : List (Int × Value)} (g : ∀ e ∈ l, GoodX w e) (k : Key) : k ∈ l.map keyX ↔ ∃ e ∈ l, (mixKind P w).is k e.2 = true := by
  rw [List.mem_map]
  constructor
  · rintro ⟨e, he, q⟩
    obtain ⟨k', h1, _⟩ := g e he
    exact ⟨e, he, keyIs_of ⟨k', h1⟩ q⟩
  · rintro ⟨e, he, q⟩
    exact ⟨e, he, kOf_is q⟩
theorem setX_new_at {ns : List Key} (ho : h.get? a = some { cls := .type "set", dict := none, data := .set #[] 0 (.fresh 0 0 (!w.params.followText "set-order")) }) : SetX w h a (fun j => decide (j ∈ ns.take 0)) 0 :=
  ⟨_, #[], 0, _, ho, ⟨rfl, rfl, rfl⟩, rfl, (fun e he => by simp at he), (by simp), (fun k => by simp), (by decide), (by rfl), rfl, List.Pairwise.nil, by
    show _ ∨ (!w.params.followText "set-order") = true
    cases w.params.followText "set-order"
    · exact .inr rfl
    · exact .inl rfl⟩
end
section
variable {P : Program} {w : World} {A : Around} {E : Value → Shared → Prop} {s : Shared} {a : Addr} {n : Nat}
theorem setX_add_tail {g : Bool → Sem Unit} (hg : ∀ (b : Bool) (s₁ : Shared) (Q' : Unit → Shared → Prop), Q' () s₁ → wpAny (model P w) A (g b) Q' E s₁)
    {o : Obj} {es : Array (Int × Value)} {ep : Nat} {t : SetTable} (ho : s.heap.get? a = some o) (hex : o.ExactSet) (hd : o.data = .set es ep t)
    {es1 : Array (Int × Value)} {t2 : SetTable} {S' : Key → Bool} (g1 : ∀ e ∈ es1.toList, GoodX w e) (nd1 : (es1.toList.map keyX).Nodup) (m1 : ∀ k, S' k = true ↔ k ∈ es1.toList.map keyX)
    (hb1 : es1.size < scanBound) (hf2 : t2.fits es1.size = true) (hr : Ris t2.place.toList) (hl : w.params.followText "set-order" = true ∨ t2.led = true) {wasDummy : Bool} {R : Option Bool → Shared → Prop}
    (hR : ∀ h', Heap.SameBut a s.heap h' → SetX w h' a S' es1.size → R (some true) { s with heap := h' }) :
    wpAny (model P w) A (do
        storeSet a es1 t2
        if (!wasDummy && t2.tooFull) = true then do
            g (relayAll t2 es1 (SetTable.grown es1.size)).2.2
            storeSet a (relayAll t2 es1 (SetTable.grown es1.size)).1 (relayAll t2 es1 (SetTable.grown es1.size)).2.1
            pure (some true)
          else pure (some true)) R E s := by
  refine wpAny_bind (wpAny_storeSet_of ho hd ?_ (fits_of_scanBound hb1))
  have ho1 := store_at (es' := es1) (t' := t2) ho hd
  have sb1 := Heap.SameBut.update s.heap a (Obj.putSet es1 t2)
  split
  · have pm := relayAll_perm t2 es1 (SetTable.grown es1.size)
    have hf3 := relayAll_fits t2 es1 (SetTable.grown es1.size)
    have hr3 := relayAll_ris t2 es1 (SetTable.grown es1.size)
    have hl3 := relayAll_led t2 es1 (SetTable.grown es1.size)
    generalize relayAll t2 es1 (SetTable.grown es1.size) = Z at pm hf3 hr3 hl3 ⊢
    obtain ⟨es2, t3, gave⟩ := Z
    dsimp only at pm hf3 hr3 hl3 ⊢
    have hsz : es2.size = es1.size := by rw [← Array.length_toList, pm.length_eq, Array.length_toList]
    have hb2 : es2.size < scanBound := by rw [hsz]; exact hb1
    refine wpAny_bind (hg _ _ _ ?_)
    refine wpAny_bind (wpAny_storeSet_of ho1 rfl ?_ (fits_of_scanBound hb2))
    have ho2 := store_at (es' := es2) (t' := t3) ho1 rfl
    refine wpAny_pure (hR _ (sb1.trans (Heap.SameBut.update _ a _)) ?_)
    exact ⟨_, es2, _, t3, ho2, hex, rfl, fun e he => g1 e (pm.mem_iff.mp he), (pm.map keyX).nodup_iff.mpr nd1, fun k => (m1 k).trans (pm.map keyX).mem_iff.symm, hb2, hf3, hsz, hr3,
      hl.imp id fun z => by rw [hl3]; exact z⟩
  · exact wpAny_pure (hR _ sb1 ⟨_, es1, _, t2, ho1, hex, rfl, g1, nd1, m1, hb1, hf2, rfl, hr, hl⟩)

theorem setX_add_hashed {S : Key → Bool} {k : Key} {v : Value} {Q : Bool → Shared → Prop} (hkv : keyIs k v = true) (R : SetX w s.heap a S n) (room : n + 1 < scanBound)
    (hQ : ∀ h', Heap.SameBut a s.heap h' → SetX w h' a (fun j => S j || decide (j = k)) (if S k = true then n else n + 1) → Q (!S k) { s with heap := h' }) :
    wpAny (model P w) A (setAddHashed a v ((mixKind P w).hash k)) Q E s := by
  obtain ⟨o, es, ep, t, ho, hex, hd, g, nd, hm, hb, hf, hn, hr, hl⟩ := R
  have hkey : (mixKind P w).is k v = true := hkv
  have hsc : v.scannable = true := key_scanX hkv
  have hel : ElemsOf (mixKind P w) es.toList := goodX_elems g
  unfold setAddHashed setAddHashedIn
  refine wpAny_holding (wpAny_bind (wpAny_setState_of ho hd hf ?_))
  dsimp only
  rw [byScan_of hsc hb hel]
  simp only [↓reduceIte]
  unfold setAddByScan
  refine wpAny_bind ?_
  refine wpAny_bind (wpAny_rule ?_)
  refine wpAny_bind (wpAny_setScan_of hkey ho hd hf hel ?_)
  cases hfi : List.findIdx? (fun e => (mixKind P w).is k e.2) es.toList with
  | some j =>
    dsimp only
    obtain ⟨hj, pj, _⟩ := List.findIdx?_eq_some_iff_getElem.mp hfi
    have hSk : S k = true := (hm k).2 ((goodX_mem (P := P) (w := w) g k).2 ⟨es.toList[j], List.getElem_mem hj, pj⟩)
    refine wpAny_pure (wpAny_pure ?_)
    have q := hQ s.heap (Heap.SameBut.refl a s.heap) ⟨o, es, ep, t, ho, hex, hd, g, nd, fun i => by
      rw [Bool.or_eq_true, decide_eq_true_eq, ← hm i]
      exact ⟨fun z => z.elim id (fun e => e ▸ hSk), .inl⟩, hb, hf, by rw [if_pos hSk]; exact hn, hr, hl⟩
    rw [hSk] at q
    exact q
  | none =>
    dsimp only
    have hnk : k ∉ es.toList.map keyX := fun z => by
      obtain ⟨e, he, q⟩ := (goodX_mem (P := P) (w := w) g k).1 z
      have c := List.findIdx?_eq_none_iff.mp hfi e he
      rw [q] at c
      cases c
    have hSk : S k = false := by
      cases q : S k with
      | false => rfl
      | true => exact absurd ((hm k).1 q) hnk
    have hgw : ∀ (b : Bool) {s₁ : Shared} {Q' : Unit → Shared → Prop}, Q' () s₁ → wpAny (model P w) A (match b with | true => rule "set.scan.the-table-gave-way" | false => pure ()) Q' E s₁ :=
      fun b s₁ Q' q => by cases b <;> first | exact wpAny_pure q | exact wpAny_rule q
    have pm := layNew_perm t es ((mixKind P w).hash k) v
    have hf1 := layNew_fits t es ((mixKind P w).hash k) v
    have hr1 := layNew_ris t es ((mixKind P w).hash k) v hr
    have hl1 := layNew_led t es ((mixKind P w).hash k) v
    generalize layNew t es ((mixKind P w).hash k) v = Z at pm hf1 hr1 hl1 ⊢
    obtain ⟨es1, t1, wasDummy, gave⟩ := Z
    dsimp only at pm hf1 hr1 hl1 ⊢
    rw [Array.toList_push] at pm
    have pc : es1.toList.Perm (((mixKind P w).hash k, v) :: es.toList) := pm.trans (List.perm_append_singleton _ _)
    have pk : (es1.toList.map keyX).Perm (k :: es.toList.map keyX) := by
      have q := pc.map keyX
      have e : keyX ((mixKind P w).hash k, v) = k := kOf_is hkv
      rw [List.map_cons, e] at q
      exact q
    have g1 : ∀ e ∈ es1.toList, GoodX w e := fun e he => by
      rcases List.mem_cons.mp (pc.mem_iff.mp he) with z | z
      · rw [z]; exact ⟨k, hkv, rfl⟩
      · exact g e z
    have nd1 : (es1.toList.map keyX).Nodup := pk.nodup_iff.mpr (List.nodup_cons.mpr ⟨hnk, nd⟩)
    have m1 : ∀ i, (S i || decide (i = k)) = true ↔ i ∈ es1.toList.map keyX := fun i => by
      rw [Bool.or_eq_true, decide_eq_true_eq, hm i, pk.mem_iff, List.mem_cons]
      exact Or.comm
    have hsz : es1.size = n + 1 := by rw [← Array.length_toList, pc.length_eq, List.length_cons, Array.length_toList, hn]
    have hb1 : es1.size < scanBound := by rw [hsz]; exact room
    have hled : w.params.followText "set-order" = true ∨ t1.led = true := hl.imp id fun z => by rw [hl1]; exact z
    have fin : ∀ h', Heap.SameBut a s.heap h' → SetX w h' a (fun j => S j || decide (j = k)) es1.size → Q true { s with heap := h' } := fun h' sb r => by
      have q := hQ h' sb
      rw [hSk] at q
      rw [hsz] at r
      exact q r
    refine wpAny_bind (hgw _ ?_)
    split
    · refine wpAny_bind ?_
      rw [hashByValue_scannable 8 hsc]
      refine wpAny_pure ?_
      refine setX_add_tail ?_ ho hex hd g1 nd1 m1 hb1 ?_ ?_ ?_ ?_
      · intro b s₁ Q' q; cases b <;> first | exact wpAny_pure q | exact wpAny_rule q
      · first | (split <;> first | exact hf1 | exact SetTable.fits_plain_off hf1) | exact hf1
      · first | (split <;> exact hr1) | exact hr1
      · first | (split <;> exact hled) | exact hled
      · intro h' sb r; dsimp only; exact wpAny_pure (fin h' sb r)
    · refine wpAny_bind (wpAny_pure ?_)
      simp only [↓reduceIte]
      refine setX_add_tail ?_ ho hex hd g1 nd1 m1 hb1 hf1 hr1 hled ?_
      · intro b s₁ Q' q; cases b <;> first | exact wpAny_pure q | exact wpAny_rule q
      · intro h' sb r; dsimp only; exact wpAny_pure (fin h' sb r)

theorem set_update_keys {I : Addr} {fp wr : List Addr} {G : Array GenState → Array GenState → Prop} {n : Nat} {Pv : Nat → Value → Prop} {St : Nat → Shared → Prop} {R : Result → Shared → Prop}
    (W : WalksS P w A.in1 I fp wr G n Pv St) (S : Addr) (hSf : S ∉ fp) (ns : List Key) (hn : n = ns.length) (hb : ns.length + 1 < scanBound) (hval : ∀ i v, Pv i v → ∃ k, ns[i]? = some k ∧ keyIs k v = true) :
    ∀ (k i : Nat) (s : Shared), n - i = k → i ≤ n → St i s → (∃ c, c ≤ i ∧ SetX w s.heap S (fun j => decide (j ∈ ns.take i)) c) →
      (∀ s' c, Moved (S :: wr) G s s' → c ≤ n → SetX w s'.heap S (fun j => decide (j ∈ ns)) c → R (.ok (.ret .none)) s') →
      codeAny (model P w) A (.builtin "set.update.loop" ⟨[.ref S, .ref I], []⟩) R s := by
  have hSw : S ∉ wr := fun h => hSf (W.sub _ h)
  have hsub : ∀ b ∈ wr, b ∈ S :: wr := fun b hb => List.mem_cons_of_mem _ hb
  intro k
  induction k with
  | zero =>
    intro i s hk' hi hst ⟨c, hc, hS⟩ hR
    have hin : i = n := by omega
    subst hin
    refine codeAny_builtin F.entry_set_update_loop ?_
    rw [Around.under_plainId F.plain_set_update_loop _]
    show wpAny _ A.in1 (pyNext (.ref I) >>= _) _ _ s
    refine wpAny_bind (W.done s _ _ hst fun s' hm => ?_)
    show wpAny _ A.in1 (ret Value.none) _ _ s'
    have e : ns.take i = ns := List.take_of_length_le (by omega)
    rw [e] at hS
    exact wpAny_pure (hR s' c (hm.mono hsub) hc (hS.at fun o e => hm.heap S o hSw e))
  | succ k ih =>
    intro i s hk' hi hst ⟨c, hc, hS⟩ hR
    have hlt : i < n := by omega
    refine codeAny_builtin F.entry_set_update_loop ?_
    rw [Around.under_plainId F.plain_set_update_loop _]
    show wpAny _ A.in1 (pyNext (.ref I) >>= _) _ _ s
    refine wpAny_bind (W.item i s _ _ hlt hst fun v s' hP hst' hm => ?_)
    obtain ⟨z, hz, hzv⟩ := hval i v hP
    have hS' : SetX w s'.heap S (fun j => decide (j ∈ ns.take i)) c := hS.at fun o e => hm.heap S o hSw e
    show wpAny _ A.in1 (holding [v] (setAdd S v) >>= _) _ _ s'
    refine wpAny_bind (wpAny_holding ?_)
    unfold setAdd
    refine wpAny_holding ?_
    refine wpAny_bind ((mixKind P w).pyHash (k := z) hzv ?_)
    refine setX_add_hashed (P := P) (s := { s' with toks := s'.toks + 1 }) hzv hS' (by omega) fun h' hsb hS2 => ?_
    have hS3 : SetX w h' S (fun j => decide (j ∈ ns.take (i + 1))) (if decide (z ∈ ns.take i) = true then c else c + 1) := hS2.congr fun j => by
      rw [List.take_add_one, hz]
      simp [List.mem_append]
    have hc3 : (if decide (z ∈ ns.take i) = true then c else c + 1) ≤ i + 1 := by
      split <;> omega
    refine wpAny_pure ⟨plainId_quiet F.plain_set_update_loop _, ih (i + 1) _ (by omega) hlt (W.frame _ s' _ _ hst' (Nat.le_succ _) fun b hb o e => ?_) ⟨_, hc3, hS3⟩ fun s'' c2 hm'' hc'' hS'' => ?_⟩
    · rw [hsb.2 b (fun h : b = S => hSf (by rw [← h]; exact hb))]; exact e
    · refine hR s'' c2 (Moved.trans W.gtrans ((hm.mono hsub).then_heap (Nat.le_succ _) fun b o hb e => ?_) hm'') hc'' hS''
      rw [hsb.2 b (fun h : b = S => hb (by rw [h]; exact List.mem_cons_self))]; exact e

set_option maxRecDepth 100000 in
set_option maxHeartbeats 3200000 in
theorem call_set_keys {l : Addr} {items : Array Value} (ks : List Key) {Q : Value → Shared → Prop} (hh : A.handled = none) (hl : s.heap.IsList l items) (hit : KeysAre items.toList ks)
    (hb : ks.length + 1 < scanBound)
    (h : ∀ (h' : Heap) (tk c : Nat), SetX w h' s.heap.objs.size (fun j => decide (j ∈ ks)) c → c ≤ ks.length → (∀ b o, s.heap.get? b = some o → h'.get? b = some o) → Q (.ref s.heap.objs.size) { s with heap := h', toks := tk }) :
    wpAny (model P w) A (call (.type "set") [.ref l]) Q E s := by
  have hisz : items.size = ks.length := by
    have q := hit.length
    rw [Array.length_toList] at q
    exact q
  obtain ⟨c, tl, hmro⟩ := F.called_set.mro
  have hmade := F.called_set.made
  have hsub := F.called_set.sub
  refine wpAny_call (codeAny_of_tree ?_)
  show wpAny _ _ (callAny (.type "set") _) _ _ _
  refine wpAny_pure ⟨Code.quiet_builtin _ (by decide +kernel), codeAny_builtin F.entry_type_call ?_⟩
  rw [Around.under_plain (weight_type_call_type "set" [.ref l] []) rfl]
  have h1 := F.called_set.notType
  have h2 := F.called_set.canCreate
  have hct := F.typeCall_set_1 (.ref l)
  repeat (any_goals (first | assumption | wp_step))

  refine codeAny_mono (code_set_led1 (.ref l) (E := E) (Q₁ := fun obj s₁ => obj = .ref s.heap.objs.size ∧ s₁ = { s with heap := s.heap.push { cls := .type "set", dict := none, data := .set #[] 0 (.fresh 0 0 (!w.params.followText "set-order")) } }) ⟨rfl, rfl⟩) fun r s₁ hr => ?_
  cases r with
  | error e => exact hr
  | ok fl =>
    cases fl with
    | ret obj =>
      obtain ⟨rfl, rfl⟩ := hr
      have hS : (s.heap.push { cls := .type "set", dict := none, data := .set #[] 0 (.fresh 0 0 (!w.params.followText "set-order")) }).get? s.heap.objs.size = some { cls := .type "set", dict := none, data := .set #[] 0 (.fresh 0 0 (!w.params.followText "set-order")) } := Heap.get?_push_size _ rfl
      have hT : Shared.TypeIs { s with heap := s.heap.push { cls := .type "set", dict := none, data := .set #[] 0 (.fresh 0 0 (!w.params.followText "set-order")) } } (.ref s.heap.objs.size) "set" := ⟨_, hS, rfl⟩
      have hli := F.called_set.init.lookup
      have hbi := F.called_set.init.bind (.ref s.heap.objs.size)
      repeat (any_goals (first | assumption | wp_step))

      refine codeAny_mono (codeAny_call_builtin (R := wants (fun r s₂ => r = .none ∧ ∃ h' tk c, s₂ = { s with heap := h', toks := tk } ∧ SetX w h' s.heap.objs.size (fun j => decide (j ∈ ks)) c ∧ c ≤ ks.length ∧
          (∀ b o, s.heap.get? b = some o → h'.get? b = some o)) E) F.called_set.init.plain F.entry_set_init (check_set_init_1 hT ?_)) fun r₂ s₂ hr₂ => ?_
      · obtain ⟨ol, hol, hcl, nl, hdl⟩ := hl
        obtain ⟨ocls, odict, odata, oslots⟩ := ol
        simp only at hcl hdl
        subst hcl; subst hdl
        have hol' : (s.heap.push { cls := .type "set", dict := none, data := .set #[] 0 (.fresh 0 0 (!w.params.followText "set-order")) }).get? l = some { cls := .type "list", dict := odict, data := .seq items nl, slots := oslots } := Heap.get?_push_of_some _ hol
        have hsls := F.sub_list_set
        have hslf := F.sub_list_frozenset
        have hne : (Value.type "list" == Value.type "dict") = false := by decide
        have hl1 : (s.heap.push { cls := .type "set", dict := none, data := .set #[] 0 (.fresh 0 0 (!w.params.followText "set-order")) }).IsList l items := ⟨_, hol', rfl, nl, rfl⟩
        unfold Builtin.«set.__init__» noKeywords Builtin.Frozenset.updateFrom
        generalize hPI : pyIter = PI
        wp_walk
        subst hPI

        refine wpAny_pyIter_list hl1 ?_
        refine wpAny_bind (wpAny_runValue ?_)
        have hlS : l < s.heap.objs.size := Heap.lt_size hol
        have hh3 : A.in1.in1.in1.handled = none := by simp [hh]
        have hz1 : (s.heap.push { cls := .type "set", dict := none, data := .set #[] 0 (.fresh 0 0 (!w.params.followText "set-order")) }).objs.size = s.heap.objs.size + 1 := Heap.size_push ..
        have hneI : l ≠ (s.heap.push { cls := .type "set", dict := none, data := .set #[] 0 (.fresh 0 0 (!w.params.followText "set-order")) }).objs.size := by
          rw [Heap.size_push]; exact Nat.ne_of_lt (Nat.lt_succ_of_lt hlS)
        have hSf : s.heap.objs.size ∉ [(s.heap.push { cls := .type "set", dict := none, data := .set #[] 0 (.fresh 0 0 (!w.params.followText "set-order")) }).objs.size, l] := by
          rw [Heap.size_push]; simp only [List.mem_cons, List.mem_singleton, List.not_mem_nil, or_false, not_or]
          exact ⟨Nat.ne_of_lt (Nat.lt_succ_self _), Nat.ne_of_gt hlS⟩
        have hval : ∀ (i : Nat) (v : Value), items[i]? = some v → ∃ k, ks[i]? = some k ∧ keyIs k v = true := fun i v hv => hit.get (by rw [Array.getElem?_toList]; exact hv)
        refine set_update_keys ((Walks.list hh3 _ l hneI items).toS) s.heap.objs.size
          hSf ks hisz hb hval (items.size - 0) 0 _ (by omega) (Nat.zero_le _)
          ⟨⟨_, Heap.get?_push_size _ rfl, rfl, rfl⟩, (hl1.push _)⟩ ?hS0 ?hR
        case hS0 =>
          have hget : ((s.heap.push { cls := .type "set", dict := none, data := .set #[] 0 (.fresh 0 0 (!w.params.followText "set-order")) }).push { cls := .type "list_iterator", data := .fields #[.ref l, .int 0 0] }).get? s.heap.objs.size
              = some { cls := .type "set", dict := none, data := .set #[] 0 (.fresh 0 0 (!w.params.followText "set-order")) } := Heap.get?_push_of_some _ hS
          exact ⟨0, Nat.le_refl 0, setX_new_at hget⟩
        case hR =>
          intro s' c' hm hc' hS'
          obtain ⟨h', g2, d', tk', os'⟩ := s'
          have eg : g2 = s.gens := hm.gens
          have ed : d' = s.drawn := hm.drawn
          have eo : os' = s.os := hm.os
          subst eg; subst ed; subst eo
          show wpAny _ _ _ _ _ _
          refine wpAny_pure ?_
          show wpAny _ _ (ret Value.none) _ _ _
          rw [hisz] at hc'
          refine wpAny_pure ⟨rfl, h', tk', c', rfl, hS', hc', fun b o e => ?_⟩
          have hb0 : b < s.heap.objs.size := Heap.lt_size e
          have hb1 : b ≠ s.heap.objs.size := Nat.ne_of_lt hb0
          have hb2 : b ≠ (s.heap.push { cls := .type "set", dict := none, data := .set #[] 0 (.fresh 0 0 (!w.params.followText "set-order")) }).objs.size := by
            rw [Heap.size_push]; exact Nat.ne_of_lt (Nat.lt_succ_of_lt hb0)
          exact hm.heap b o (by simp only [List.mem_cons, List.mem_singleton, List.not_mem_nil, or_false, not_or]; exact ⟨hb1, hb2⟩) (Heap.get?_push_of_some _ (Heap.get?_push_of_some _ e))

      · cases r₂ with
        | error e => exact hr₂
        | ok fl₂ =>
          cases fl₂ with
          | ret r =>
            obtain ⟨rfl, h', tk, c', rfl, hS', hc', hk'⟩ := hr₂
            repeat (any_goals (first | assumption | wp_step))
            exact h _ _ _ hS' hc' hk'
          | _ => exact hr₂.elim
    | _ => exact hr.elim
end
end Mini
end
section
namespace Mini
open PySem PySem.Spec PyProof.Rows L2
section
variable {P : Program} {w : World} {A : Around} {E : Value → Shared → Prop} {s : Shared} {a : Addr}
theorem strs_of : ∀ (l : List Value), (∀ v ∈ l, ∃ x tk, v = Value.str x tk) → ∃ ss, StrsAre l ss ∧ ss.map Sum.inr = l.map kOf
  | [], _ => ⟨[], .nil, rfl⟩
  | v :: l, h => by
    obtain ⟨k, tk, rfl⟩ := h v List.mem_cons_self
    obtain ⟨ss, h1, h2⟩ := strs_of l fun u hu => h u (List.mem_cons_of_mem _ hu)
    exact ⟨k :: ss, .cons k tk h1, by rw [List.map_cons, List.map_cons, h2]; rfl⟩
theorem sorted_setS {S : Key → Bool} {n : Nat} {Q : Value → Shared → Prop} (R : SetX w s.heap a S n) (hs : ∀ k, S k = true → ∃ x, k = .inr x) (hh : A.handled = none) (h64 : n < 64)
    (hQ : ∀ s' p (out : Array Value) (c : Nat) (ss : List Str), (∀ b o, s.heap.get? b = some o → s'.heap.get? b = some o) → s'.gens = s.gens → s'.os = s.os → s.heap.objs.size ≤ p →
      s'.heap.get? p = some (seqObj "list" out c) → StrsAre out.toList ss → sortedS ss = true → ss.Nodup → (∀ x, x ∈ ss ↔ S (.inr x) = true) → ss.length = n → Q (.ref p) s') :
    wpAny (model P w) A (call (.builtin "sorted") [.ref a]) Q E s := by
  obtain ⟨o, es, ep, t, ho, hex, hd, g, nd, hm, hb, hf, hn, hr, hl⟩ := R
  refine Calls.call_function_entry kind_sorted plain_sorted entry_sorted (args_sorted1 _) ?_
  unfold Builtin.«sorted»
  refine wpAny_bind (m := checkCount "sorted" 1 1 _) (wpAny_pure ?_)
  refine wpAny_bind (collect_set (A := A.in1) hh ⟨o, ho, hex.1, hd⟩ hf hb hr hl fun s1 vs k1 hz g1 o1 pm => ?_)
  have hvl : vs.length = n := by rw [pm.length_eq, List.length_map, Array.length_toList]; exact hn
  obtain ⟨ss, hS, hss⟩ := strs_of vs fun v hv => by
    obtain ⟨e, he, q⟩ := List.mem_map.mp (pm.mem_iff.mp hv)
    obtain ⟨k, h1, _⟩ := g e he
    obtain ⟨x, hx⟩ := hs k ((hm k).2 (List.mem_map.mpr ⟨e, he, kOf_is h1⟩))
    subst hx
    rcases keyIs_shape h1 with ⟨i, t, z, _⟩ | ⟨y, t, z, e2⟩
    · cases z
    · exact ⟨y, t, by rw [← q]; exact e2⟩
  have pk : (ss.map (Sum.inr : Str → Key)).Perm (es.toList.map keyX) := by
    rw [hss]
    have q := pm.map kOf
    rw [List.map_map] at q
    exact q
  refine wpAny_bind (wpAny_newList ?_ (by rw [hvl, sizeLine_eq]; omega))
  have hoL : (s1.heap.push (seqObj "list" vs.toArray 0)).get? s1.heap.objs.size = some (seqObj "list" vs.toArray 0) := Heap.get?_push_size _ rfl
  refine wpAny_bind (wpAny_holding (wpAny_call_entry slot_list_sort ⟨_, hoL, rfl⟩ entry_list_sort (list_sort_treeK strKind_oneLt hoL hS.keysOf (fun v₁ v₂ rest e => keyKind_strs (by rw [← e]; exact hS)) (by rw [hvl]; exact h64) fun st' hp hsrt => ⟨_, rfl, ?_⟩) (args_list_sort _)))
  obtain ⟨ss', h1, h2, h3⟩ := sorted_out_str hS hp hsrt
  obtain ⟨c, hc⟩ := sortedHeap_at (vs := vs) (out := (arrOf st').map (·.2)) hoL
  have pn : (ss'.map (Sum.inr : Str → Key)).Perm (es.toList.map keyX) := (h2.map _).trans pk
  refine wpAny_pure ⟨_, rfl, hQ _ s1.heap.objs.size _ c ss' (fun b u e => ?_) g1 o1 hz hc h1 h3 ?_ (fun x => ?_) ?_⟩
  · have q := k1 b u e
    have hlt := Heap.lt_size q
    show (sortedHeap (s1.heap.push (seqObj "list" vs.toArray 0)) s1.heap.objs.size vs _).get? b = some u
    rw [sortedHeap_old (Nat.ne_of_lt hlt) (by rw [size_push']; exact Nat.lt_succ_of_lt hlt)]
    exact Heap.get?_push_of_some _ q
  · have q := pn.nodup_iff.mpr nd
    exact List.Pairwise.of_map _ (fun a b hne e => hne (congrArg _ e)) q
  · rw [hm, ← pn.mem_iff, List.mem_map]
    constructor
    · intro h
      exact ⟨x, h, rfl⟩
    · rintro ⟨y, hy, e⟩
      cases e
      exact hy
  · have q := pn.length_eq
    rw [List.length_map, List.length_map] at q
    exact q.trans (Array.length_toList.trans hn)
theorem ints_ofX : ∀ (l : List Value), (∀ v ∈ l, ∃ k tk, v = Value.int k tk) → ∃ ns : List Int, IntsAre l ns ∧ ns.map Sum.inl = l.map kOf
  | [], _ => ⟨[], .nil, rfl⟩
  | v :: l, h => by
    obtain ⟨k, tk, rfl⟩ := h v List.mem_cons_self
    obtain ⟨ss, h1, h2⟩ := ints_ofX l fun u hu => h u (List.mem_cons_of_mem _ hu)
    exact ⟨k :: ss, .cons k tk h1, by rw [List.map_cons, List.map_cons, h2]; rfl⟩
theorem sorted_setI {S : Key → Bool} {n : Nat} {Q : Value → Shared → Prop} (R : SetX w s.heap a S n) (hs : ∀ k, S k = true → ∃ i, k = .inl i) (hh : A.handled = none) (h64 : n < 64)
    (hQ : ∀ s' p (out : Array Value) (c : Nat) (ns : List Int), (∀ b o, s.heap.get? b = some o → s'.heap.get? b = some o) → s'.gens = s.gens → s'.os = s.os → s.heap.objs.size ≤ p →
      s'.heap.get? p = some (seqObj "list" out c) → IntsAre out.toList ns → ns.Pairwise (· < ·) → (∀ x, x ∈ ns ↔ S (.inl x) = true) → ns.length = n → Q (.ref p) s') :
    wpAny (model P w) A (call (.builtin "sorted") [.ref a]) Q E s := by
  obtain ⟨o, es, ep, t, ho, hex, hd, g, nd, hm, hb, hf, hn, hr, hl⟩ := R
  refine Calls.call_function_entry kind_sorted plain_sorted entry_sorted (args_sorted1 _) ?_
  unfold Builtin.«sorted»
  refine wpAny_bind (m := checkCount "sorted" 1 1 _) (wpAny_pure ?_)
  refine wpAny_bind (collect_set (A := A.in1) hh ⟨o, ho, hex.1, hd⟩ hf hb hr hl fun s1 vs k1 hz g1 o1 pm => ?_)
  have hvl : vs.length = n := by rw [pm.length_eq, List.length_map, Array.length_toList]; exact hn
  obtain ⟨ss, hS, hss⟩ := ints_ofX vs fun v hv => by
    obtain ⟨e, he, q⟩ := List.mem_map.mp (pm.mem_iff.mp hv)
    obtain ⟨k, h1, _⟩ := g e he
    obtain ⟨x, hx⟩ := hs k ((hm k).2 (List.mem_map.mpr ⟨e, he, kOf_is h1⟩))
    subst hx
    rcases keyIs_shape h1 with ⟨y, t, z, e2⟩ | ⟨i, t, z, _⟩
    · exact ⟨y, t, by rw [← q]; exact e2⟩
    · cases z
  have pk : (ss.map (Sum.inl : Int → Key)).Perm (es.toList.map keyX) := by
    rw [hss]
    have q := pm.map kOf
    rw [List.map_map] at q
    exact q
  refine wpAny_bind (wpAny_newList ?_ (by rw [hvl, sizeLine_eq]; omega))
  have hoL : (s1.heap.push (seqObj "list" vs.toArray 0)).get? s1.heap.objs.size = some (seqObj "list" vs.toArray 0) := Heap.get?_push_size _ rfl
  refine wpAny_bind (wpAny_holding (wpAny_call_entry slot_list_sort ⟨_, hoL, rfl⟩ entry_list_sort (list_sort_tree hoL hS (by rw [hvl]; exact h64) fun out ss' h1 h2 h3 => ⟨_, rfl, ?_⟩) (args_list_sort _)))
  obtain ⟨c, hc⟩ := sortedHeap_at (vs := vs) (out := out) hoL
  have pn : (ss'.map (Sum.inl : Int → Key)).Perm (es.toList.map keyX) := (h2.map _).trans pk
  have ndp : ss'.Nodup := List.Pairwise.of_map _ (fun a b hne e => hne (congrArg _ e)) (pn.nodup_iff.mpr nd)
  refine wpAny_pure ⟨_, rfl, hQ _ s1.heap.objs.size out c ss' (fun b u e => ?_) g1 o1 hz hc h1 (lt_of_le_nodup ss' h3 ndp) (fun x => ?_) ?_⟩
  · have q := k1 b u e
    have hlt := Heap.lt_size q
    show (sortedHeap (s1.heap.push (seqObj "list" vs.toArray 0)) s1.heap.objs.size vs _).get? b = some u
    rw [sortedHeap_old (Nat.ne_of_lt hlt) (by rw [size_push']; exact Nat.lt_succ_of_lt hlt)]
    exact Heap.get?_push_of_some _ q
  · rw [hm, ← pn.mem_iff, List.mem_map]
    constructor
    · intro h
      exact ⟨x, h, rfl⟩
    · rintro ⟨y, hy, e⟩
      cases e
      exact hy
  · have q := pn.length_eq
    rw [List.length_map, List.length_map] at q
    exact q.trans (Array.length_toList.trans hn)
end
theorem setX_lt {w : World} {h : Heap} {a : Addr} {S : Key → Bool} {n : Nat} (R : SetX w h a S n) : a < h.objs.size := by
  obtain ⟨o, es, ep, t, ho, r⟩ := R
  exact Heap.lt_size ho
theorem inv_eta {X : Cx} {pins : List (Addr × Obj)} {σ : L2.St} {H : Hp} {s s' : Shared} (J : Inv X pins σ H { s with heap := s'.heap, toks := s'.toks }) (g1 : s'.gens = s.gens) (o1 : s'.os = s.os) : Inv X pins σ H s' :=
  ⟨J.ok, o1.trans J.os, by rw [g1]; exact J.bare, J.base, J.loc, J.cell, J.free, J.freeC, J.pin, J.hok, J.len⟩
theorem keys_of_vals : ∀ {ks : List Key} {us : List Value}, Vals (ks.map kV) us → KeysAre us ks
  | [], _, h => by cases h; exact .nil
  | k :: ks, _, h => by
    cases h with
    | cons h r =>
      refine .cons ?_ (keys_of_vals r)
      cases k with
      | inl i => obtain ⟨t, rfl⟩ := h; exact keyIs_int i t
      | inr x => obtain ⟨t, rfl⟩ := h; exact keyIs_str x t
section
variable {X : Cx} {e : Expr} {te : TE} {p p2 pos pos2 : Pos}
end
end Mini
end
section
namespace Mini
open PySem PySem.Spec PyProof.Rows L2
variable [Tabs]
theorem uniq_sorted {α : Type} {lt : α → α → Prop} (irr : ∀ a, ¬ lt a a) (tr : ∀ a b c, lt a b → lt b c → lt a c) : ∀ {l m : List α}, l.Pairwise lt → m.Pairwise lt → (∀ x, x ∈ l ↔ x ∈ m) → l = m
  | [], [], _, _, _ => rfl
  | [], y :: m, _, _, h => absurd ((h y).2 List.mem_cons_self) (by simp)
  | x :: l, [], _, _, h => absurd ((h x).1 List.mem_cons_self) (by simp)
  | x :: l, y :: m, h1, h2, h => by
    obtain ⟨a1, a2⟩ := List.pairwise_cons.mp h1
    obtain ⟨b1, b2⟩ := List.pairwise_cons.mp h2
    have e : x = y := by
      rcases List.mem_cons.mp ((h x).1 List.mem_cons_self) with z | z
      · exact z
      · rcases List.mem_cons.mp ((h y).2 List.mem_cons_self) with u | u
        · exact u.symm
        · exact absurd (tr _ _ _ (b1 x z) (a1 y u)) (irr y)
    subst e
    have e2 : l = m := uniq_sorted irr tr a2 b2 fun z => by
      constructor
      · intro hz
        rcases List.mem_cons.mp ((h z).1 (List.mem_cons_of_mem _ hz)) with u | u
        · subst u; exact absurd (a1 _ hz) (irr _)
        · exact u
      · intro hz
        rcases List.mem_cons.mp ((h z).2 (List.mem_cons_of_mem _ hz)) with u | u
        · subst u; exact absurd (b1 _ hz) (irr _)
        · exact u
    rw [e2]
def insU {α : Type} [DecidableEq α] (lt : α → α → Bool) (i : α) : List α → List α
  | [] => [i]
  | j :: r => if lt i j = true then i :: j :: r else if i = j then j :: r else j :: insU lt i r
def sortU {α : Type} [DecidableEq α] (lt : α → α → Bool) : List α → List α
  | [] => []
  | i :: r => insU lt i (sortU lt r)
section
variable {α : Type} [DecidableEq α] {lt : α → α → Bool}
theorem mem_insU {i x : α} : ∀ {l : List α}, x ∈ insU lt i l ↔ x = i ∨ x ∈ l
  | [] => by simp [insU]
  | j :: r => by
    unfold insU
    split
    · simp
    · split
      · rename_i h; subst h; simp
      · rw [List.mem_cons, mem_insU, List.mem_cons]
        constructor
        · rintro (h | h | h)
          · exact .inr (.inl h)
          · exact .inl h
          · exact .inr (.inr h)
        · rintro (h | h | h)
          · exact .inr (.inl h)
          · exact .inl h
          · exact .inr (.inr h)
theorem mem_sortU {x : α} : ∀ {l : List α}, x ∈ sortU lt l ↔ x ∈ l
  | [] => Iff.rfl
  | i :: r => by unfold sortU; rw [mem_insU, mem_sortU, List.mem_cons]
variable (tr : ∀ a b c, lt a b = true → lt b c = true → lt a c = true) (tot : ∀ a b, lt a b = false → a ≠ b → lt b a = true)
include tr tot
theorem pw_insU {i : α} : ∀ {l : List α}, l.Pairwise (fun a b => lt a b = true) → (insU lt i l).Pairwise (fun a b => lt a b = true)
  | [], _ => by simp [insU]
  | j :: r, h => by
    obtain ⟨h1, h2⟩ := List.pairwise_cons.mp h
    unfold insU
    split
    · rename_i c
      refine List.pairwise_cons.mpr ⟨fun x hx => ?_, h⟩
      rcases List.mem_cons.mp hx with rfl | hx
      · exact c
      · exact tr _ _ _ c (h1 x hx)
    · split
      · exact h
      · rename_i c1 c2
        refine List.pairwise_cons.mpr ⟨fun x hx => ?_, pw_insU h2⟩
        rcases mem_insU.mp hx with rfl | hx
        · exact tot _ _ (by simpa using c1) c2
        · exact h1 x hx
theorem pw_sortU : ∀ (l : List α), (sortU lt l).Pairwise (fun a b => lt a b = true)
  | [] => List.Pairwise.nil
  | i :: r => pw_insU tr tot (pw_sortU r)
end
def ltI (a b : Int) : Bool := decide (a < b)
def ltS (a b : Str) : Bool := decide (a.cps.toList < b.cps.toList)
def usI : List Int → List Int := sortU ltI
def usS : List Str → List Str := sortU ltS
theorem usI_is {ns ns' : List Int} (h1 : ns'.Pairwise (· < ·)) (h2 : ∀ k, k ∈ ns' ↔ k ∈ ns) : ns' = usI ns := by
  refine uniq_sorted (lt := (· < ·)) (fun a => by omega) (fun a b c => by omega) h1 ?_ fun x => by rw [h2]; exact mem_sortU.symm
  refine List.Pairwise.imp (fun h => of_decide_eq_true h) (pw_sortU (lt := ltI) (fun a b c h1 h2 => ?_) (fun a b h1 h2 => ?_) ns)
  · simp only [ltI, decide_eq_true_eq] at *; omega
  · simp only [ltI, decide_eq_true_eq, decide_eq_false_iff_not] at *; omega
theorem str_ext {a b : Str} (h : a.cps.toList = b.cps.toList) : a = b := by
  obtain ⟨a⟩ := a
  obtain ⟨b⟩ := b
  have : a = b := Array.toList_inj.mp h
  rw [this]
theorem ltS_tr (a b c : Str) (h1 : ltS a b = true) (h2 : ltS b c = true) : ltS a c = true := by
  simp only [ltS, decide_eq_true_eq] at *
  exact List.lt_trans h1 h2
theorem ltS_tot (a b : Str) (h1 : ltS a b = false) (h2 : a ≠ b) : ltS b a = true := by
  simp only [ltS, decide_eq_true_eq, decide_eq_false_iff_not] at *
  by_cases h : b.cps.toList < a.cps.toList
  · exact h
  · exact absurd (str_ext (List.le_antisymm h h1)) h2
theorem ltS_irr (a : Str) : ¬ ltS a a = true := by
  simp only [ltS, decide_eq_true_eq]
  exact List.lt_irrefl _
theorem pw_of_sortedS : ∀ {ys : List Str}, sortedS ys = true → ys.Nodup → ys.Pairwise (fun a b => ltS a b = true)
  | [], _, _ => List.Pairwise.nil
  | [x], _, _ => by simp
  | x :: y :: r, h, nd => by
    have h' : (!ltCps y.cps.toList x.cps.toList && risingS y r) = true := h
    rw [Bool.and_eq_true] at h'
    obtain ⟨n1, n2⟩ := List.nodup_cons.mp nd
    have ih : (y :: r).Pairwise (fun a b => ltS a b = true) := pw_of_sortedS (ys := y :: r) h'.2 n2
    have xy : ltS x y = true := by
      have c := h'.1
      rw [ltCps_eq] at c
      refine ltS_tot y x ?_ fun e => n1 (by rw [← e]; exact List.mem_cons_self)
      simpa [ltS] using c
    refine List.pairwise_cons.mpr ⟨fun z hz => ?_, ih⟩
    rcases List.mem_cons.mp hz with rfl | hz
    · exact xy
    · exact ltS_tr _ _ _ xy ((List.pairwise_cons.mp ih).1 z hz)
theorem usS_is {xs ys : List Str} (h1 : sortedS ys = true) (h2 : ys.Nodup) (h3 : ∀ x, x ∈ ys ↔ x ∈ xs) : ys = usS xs :=
  uniq_sorted (lt := fun a b => ltS a b = true) ltS_irr ltS_tr (pw_of_sortedS h1 h2) (pw_sortU ltS_tr ltS_tot xs) fun x => by rw [h3]; exact mem_sortU.symm
def asInts : List D → Option (List Int)
  | [] => some []
  | .int i :: r => (asInts r).map (i :: ·)
  | _ => none
def asStrs : List D → Option (List Str)
  | [] => some []
  | .str i :: r => (asStrs r).map (i :: ·)
  | _ => none
theorem reps_asInts {K : PySem.W.Frag} {ρ : List Addr} {H : Hp} : ∀ {ds : List D} {vs : List V} {ns : List Int}, asInts ds = some ns → Reps K ρ H ds vs → vs = ns.map V.int
  | [], _, _, e, .nil => by cases e; rfl
  | .int i :: r, _, ns, e, .cons h hr => by
    cases h
    cases q : asInts r with
    | none => simp [asInts, q] at e
    | some ms =>
      simp [asInts, q] at e
      subst e
      rw [reps_asInts q hr]; rfl
  | .non :: r, _, ns, e, _ => by simp [asInts] at e
  | .bl _ :: r, _, ns, e, _ => by simp [asInts] at e
  | .str _ :: r, _, ns, e, _ => by simp [asInts] at e
  | .tup _ :: r, _, ns, e, _ => by simp [asInts] at e
  | .loc _ :: r, _, ns, e, _ => by simp [asInts] at e
theorem reps_asStrs {K : PySem.W.Frag} {ρ : List Addr} {H : Hp} : ∀ {ds : List D} {vs : List V} {ns : List Str}, asStrs ds = some ns → Reps K ρ H ds vs → vs = ns.map V.str
  | [], _, _, e, .nil => by cases e; rfl
  | .str i :: r, _, ns, e, .cons h hr => by
    cases h
    cases q : asStrs r with
    | none => simp [asStrs, q] at e
    | some ms =>
      simp [asStrs, q] at e
      subst e
      rw [reps_asStrs q hr]; rfl
  | .non :: r, _, ns, e, _ => by simp [asStrs] at e
  | .bl _ :: r, _, ns, e, _ => by simp [asStrs] at e
  | .int _ :: r, _, ns, e, _ => by simp [asStrs] at e
  | .tup _ :: r, _, ns, e, _ => by simp [asStrs] at e
  | .loc _ :: r, _, ns, e, _ => by simp [asStrs] at e
theorem reps_strs {K : PySem.W.Frag} {ρ : List Addr} {H : Hp} : ∀ ns : List Str, Reps K ρ H (ns.map D.str) (ns.map V.str)
  | [] => .nil
  | i :: r => .cons (.str i) (reps_strs r)
end Mini
end
section
namespace Mini
open PySem PySem.Spec PyProof.Rows L2 GxR He
mutual
/-- the value is the datum, by what the module holds -/
inductive CV (K : PySem.W.Frag) : Value → D → Prop
  | non : CV K .none .non
  | bl (b : Bool) : CV K (.bool b) (.bl b)
  | int (i : Int) (t : Tok) : CV K (.int i t) (.int i)
  | str (x : Str) (t : Tok) : CV K (.str x t) (.str x)
  | tup {a : Addr} {od : Option Addr} {its : Array Value} {n : Nat} {sl : Array (Option Value)} {ds : List D} : K.lookup a = some ⟨.type "tuple", od, .seq its n, sl⟩ → its.size ≤ sizeLine → CVs K its.toList ds → CV K (.ref a) (.tup ds)
inductive CVs (K : PySem.W.Frag) : List Value → List D → Prop
  | nil : CVs K [] []
  | cons {v : Value} {d : D} {vs : List Value} {ds : List D} : CV K v d → CVs K vs ds → CVs K (v :: vs) (d :: ds)
end
variable [Tabs]
end Mini
end
section
namespace Mini
open PySem PySem.Spec PyProof.Rows L2
variable [Tabs]
section
variable {K : PySem.W.Frag}
def fPlus (x y : D) (S : Sto) : Option (D × Sto) := match x, y with
  | .int i, .int j => some (.int (i + j), S)
  | .str i, .str j => if i.length + j.length ≤ 1000000 then some (.str (i ++ j), S) else none
  | .tup xs, .tup ys => if xs.length + ys.length ≤ 1000000 then some (.tup (xs ++ ys), S) else none
  | .loc n, .loc m => match S[n]?, S[m]? with
    | some (.lst xs), some (.lst ys) => if xs.length + ys.length ≤ 1000000 then some (.loc S.length, S ++ [.lst (xs ++ ys)]) else none
    | _, _ => none
  | _, _ => none
def rPlus (K : PySem.W.Frag) : R2 := fun x y H Q => (rI0 fun i j => .int (i + j)) x y H Q ∨ (∃ i j, x = .str i ∧ y = .str j ∧ i.length + j.length ≤ sizeLine ∧ Q (.str (i ++ j)) H) ∨ rCatA K x y H Q ∨ rCat x y H Q
theorem orp_plus {X : Cx} : OpR X (binaryOp .Add) (rPlus X.K) := OpR.or op_add (OpR.or op_add_str (OpR.or op_catA op_cat))
theorem mil {n : Nat} (h : n ≤ 1000000) : n ≤ sizeLine := Nat.le_trans h (by decide)
theorem om_plus : OpM K fPlus (rPlus K) := by
  intro ρ H S x y d S' vx vy Q g hx hy e k
  unfold fPlus at e
  split at e
  · cases e
    cases hx; cases hy
    exact .inl ⟨_, _, rfl, rfl, k ρ H _ .refl g (.int _)⟩
  · split at e
    · rename_i hl
      cases e
      cases hx; cases hy
      exact .inr (.inl ⟨_, _, rfl, rfl, mil hl, k ρ H _ .refl g (.str _)⟩)
    · cases e
  · rename_i xs ys
    split at e
    · rename_i hl
      cases e
      cases hx with
      | tup h1 r1 =>
        cases hy with
        | tup h2 r2 =>
          rename_i a vs b ws
          refine .inr (.inr (.inl ⟨a, b, vs, ws, rfl, rfl, h1, h2, by rw [← r1.length, ← r2.length]; exact mil hl, fun z => ?_, fun z1 z2 => ?_, fun z1 z2 p hp => ?_⟩))
          · subst z
            cases r1
            exact k ρ H _ .refl g (.tup h2 r2)
          · subst z2
            cases r2
            exact k ρ H _ .refl g (by rw [List.append_nil]; exact .tup h1 r1)
          · obtain ⟨x2, g2, r3⟩ := tup_new g (r1.append r2) hp
            exact k ρ _ _ x2 g2 r3
    · cases e
  · rename_i n m
    split at e
    · rename_i xs ys e1 e2
      split at e
      · rename_i hl
        cases e
        cases hx with
        | loc hn =>
          cases hy with
          | loc hm =>
            rename_i a b
            obtain ⟨u1, hu1, ru1⟩ := (RepO.mut_iff rfl).mp (g.ob n a _ hn e1)
            obtain ⟨u2, hu2, ru2⟩ := (RepO.mut_iff rfl).mp (g.ob m b _ hm e2)
            cases u1 with
            | lst v1 =>
              cases u2 with
              | lst v2 =>
                have r1 : Reps K ρ H xs v1 := ru1
                have r2 : Reps K ρ H ys v2 := ru2
                refine .inr (.inr (.inr ⟨a, b, v1, v2, rfl, rfl, hu1, hu2, by rw [← r1.length, ← r2.length]; exact mil hl, fun p hp => ?_⟩))
                obtain ⟨x2, g2, r3⟩ := lst_new g (r1.append r2) hp
                exact k _ _ _ x2 g2 r3
              | _ => exact ru2.elim
            | _ => exact ru1.elim
      · cases e
    · cases e
  · cases e
def itemsOf (S : Sto) : D → Option (List D)
  | .tup ds => some ds
  | .loc n => lstAt S n
  | _ => none
def inB (x : D) (ds : List D) : Bool := ds.any fun y => eqB y x
def fIn (x y : D) (S : Sto) : Option (D × Sto) := match itemsOf S y with
  | some ds => if (D.pub 100 x && D.pubs 100 ds) = true then some (.bl (inB x ds), S) else none
  | none => none
def fNotIn (x y : D) (S : Sto) : Option (D × Sto) := match itemsOf S y with
  | some ds => if (D.pub 100 x && D.pubs 100 ds) = true then some (.bl (!inB x ds), S) else none
  | none => none
def rInX (K : PySem.W.Frag) (f : Bool → Bool) : R2 := fun x y H Q => ∃ (d : PyData) (ds : List PyData), Dp K H x d ∧ (Dp K H y (.list ds) ∨ Dp K H y (.tuple ds)) ∧ d.canLay0 = true ∧ PyData.canLayAll0 ds = true ∧ d.depth ≤ 100 ∧ Q (.bl (f (ds.any fun z => PyData.eqv z d))) H
theorem orp_in {X : Cx} (hu : X.A.units + 250 < cLine) : OpR X (compareOp .In) (rInX X.K id) := by
  intro pins s σ H x y v u Q I rx ry ⟨d, ds, h1, h2, h3, h4, h5, q⟩
  obtain ⟨as, ra⟩ := Dp.reads I d x v h1 rx
  rcases h2 with h2 | h2
  · obtain ⟨bs, rb⟩ := Dp.reads I _ y u h2 ry
    exact SeqAt.in_list_reads rb ra h4 h3 (by have := Nat.min_le_right (PyData.depthAll ds) d.depth; omega) ⟨.bl _, H, I, rfl, q⟩
  · obtain ⟨bs, rb⟩ := Dp.reads I _ y u h2 ry
    exact SeqAt.in_tuple_reads rb ra h4 h3 (by have := Nat.min_le_right (PyData.depthAll ds) d.depth; omega) ⟨.bl _, H, I, rfl, q⟩
theorem orp_notIn {X : Cx} (hu : X.A.units + 250 < cLine) : OpR X (compareOp .NotIn) (rInX X.K not) := by
  intro pins s σ H x y v u Q I rx ry ⟨d, ds, h1, h2, h3, h4, h5, q⟩
  obtain ⟨as, ra⟩ := Dp.reads I d x v h1 rx
  rcases h2 with h2 | h2
  · obtain ⟨bs, rb⟩ := Dp.reads I _ y u h2 ry
    exact SeqAt.notIn_list_reads rb ra h4 h3 (by have := Nat.min_le_right (PyData.depthAll ds) d.depth; omega) ⟨.bl _, H, I, rfl, q⟩
  · obtain ⟨bs, rb⟩ := Dp.reads I _ y u h2 ry
    exact SeqAt.notIn_tuple_reads rb ra h4 h3 (by have := Nat.min_le_right (PyData.depthAll ds) d.depth; omega) ⟨.bl _, H, I, rfl, q⟩
theorem any_py {x : D} (hx : D.pub 100 x = true) : ∀ {ds : List D}, D.pubs 100 ds = true → ((D.pys ds).any fun z => PyData.eqv z x.py) = inB x ds
  | [], _ => rfl
  | d :: ds, h => by
    have a1 : (D.pub 100 d && D.pubs 100 ds) = true := h
    rw [Bool.and_eq_true] at a1
    show (PyData.eqv d.py x.py || (D.pys ds).any fun z => PyData.eqv z x.py) = (eqB d x || inB x ds)
    rw [eqB_py a1.1 hx, any_py hx a1.2]
theorem in_reads {ρ : List Addr} {H : Hp} {S : Sto} {x y : D} {ds : List D} {vx vy : V} (g : G K ρ H S) (hx : Rep K ρ H x vx) (hy : Rep K ρ H y vy) (e : itemsOf S y = some ds) (p1 : D.pub 100 x = true) (p2 : D.pubs 100 ds = true) :
    ∃ (d : PyData) (es : List PyData), Dp K H vx d ∧ (Dp K H vy (.list es) ∨ Dp K H vy (.tuple es)) ∧ d.canLay0 = true ∧ PyData.canLayAll0 es = true ∧ d.depth ≤ 100 ∧ (es.any fun z => PyData.eqv z d) = inB x ds := by
  obtain ⟨a1, a2, a3⟩ := py_dp hx p1
  cases hy with
  | tup h r =>
    cases e
    obtain ⟨b1, b2, b3⟩ := pys_dp r p2
    exact ⟨_, _, a1, .inr (.tup h b1), a2, b2, a3, any_py p1 p2⟩
  | loc hn =>
    obtain ⟨vs, hs, hr⟩ := g.lst hn e
    obtain ⟨b1, b2, b3⟩ := pys_dp hr p2
    exact ⟨_, _, a1, .inl (.lst hs b1), a2, b2, a3, any_py p1 p2⟩
  | _ => cases e
theorem om_in : OpM K fIn (rInX K id) := OpM.pure fun ρ H S x y d S' vx vy Q g hx hy e => by
  unfold fIn at e
  split at e
  · rename_i ds ei
    split at e
    · rename_i c
      cases e
      rw [Bool.and_eq_true] at c
      obtain ⟨d, es, h1, h2, h3, h4, h5, h6⟩ := in_reads g hx hy ei c.1 c.2
      exact ⟨rfl, fun q => ⟨d, es, h1, h2, h3, h4, h5, by rw [h6]; exact q _ (.bl _)⟩⟩
    · cases e
  · cases e
theorem om_notIn : OpM K fNotIn (rInX K not) := OpM.pure fun ρ H S x y d S' vx vy Q g hx hy e => by
  unfold fNotIn at e
  split at e
  · rename_i ds ei
    split at e
    · rename_i c
      cases e
      rw [Bool.and_eq_true] at c
      obtain ⟨d, es, h1, h2, h3, h4, h5, h6⟩ := in_reads g hx hy ei c.1 c.2
      exact ⟨rfl, fun q => ⟨d, es, h1, h2, h3, h4, h5, by rw [h6]; exact q _ (.bl _)⟩⟩
    · cases e
  · cases e
def fList (xs : List D) (S : Sto) : Option (D × Sto) := match xs with
  | [x] => match itemsOf S x with
    | some ds => some (.loc S.length, S ++ [.lst ds])
    | none => none
  | _ => none
theorem am_list : AllM K fList (fun xs H Q => ∃ p ys, xs = [.ref p] ∧ (SqL K H p ys ∨ SqT K H p ys) ∧ ∀ l, H l = none → Q (.ref l) (upd H l (.lst ys))) := by
  intro ρ H S xs d S' vs Q g hx e k
  unfold fList at e
  split at e
  · rename_i x
    split at e
    · rename_i ds ei
      cases e
      cases hx with
      | cons h hn =>
        cases hn
        cases h with
        | tup hs hr =>
          cases ei
          refine ⟨_, _, rfl, .inr hs, fun p hp => ?_⟩
          obtain ⟨x2, g2, r3⟩ := lst_new g hr hp
          exact k _ _ _ x2 g2 r3
        | loc hn =>
          obtain ⟨vs, hs, hr⟩ := g.lst hn ei
          refine ⟨_, _, rfl, .inl hs, fun p hp => ?_⟩
          obtain ⟨x2, g2, r3⟩ := lst_new g hr hp
          exact k _ _ _ x2 g2 r3
        | _ => cases ei
    · cases e
  · cases e
def fTup (xs : List D) (S : Sto) : Option (D × Sto) := match xs with
  | [x] => match itemsOf S x with
    | some ds => some (.tup ds, S)
    | none => none
  | _ => none
theorem am_tup : AllM K fTup (fun xs H Q => ∃ p ys, xs = [.ref p] ∧ ((SqL K H p ys ∧ ∀ l, H l = none → Q (.ref l) (upd H l (.tup ys))) ∨ (SqT K H p ys ∧ Q (.ref p) H))) := by
  intro ρ H S xs d S' vs Q g hx e k
  unfold fTup at e
  split at e
  · rename_i x
    split at e
    · rename_i ds ei
      cases e
      cases hx with
      | cons h hn =>
        cases hn
        cases h with
        | tup hs hr =>
          cases ei
          exact ⟨_, _, rfl, .inr ⟨hs, k ρ H _ .refl g (.tup hs hr)⟩⟩
        | loc hn =>
          obtain ⟨vs, hs, hr⟩ := g.lst hn ei
          refine ⟨_, _, rfl, .inl ⟨hs, fun p hp => ?_⟩⟩
          obtain ⟨x2, g2, r3⟩ := tup_new g hr hp
          exact k ρ _ _ x2 g2 r3
        | _ => cases ei
    · cases e
  · cases e
end
end Mini
end
section
namespace Mini
open PySem PySem.Spec PyProof.Rows L2 GxR He
variable [Tabs]

theorem tb_of {K : PySem.W.Frag} {mg : Str → Option Value} {base : Heap} {x q y : Str} {st : Stmt} {f : Addr} {fd : FuncData} {cs : List (Addr × Addr)} (F : Fun K x q st f fd) (hy : mg y = some (.ref f))
    (hcs : ∀ (f : Addr) (oc : Value) (od : Option Addr) (fd' : FuncData) (sl : Array (Option Value)), mg y = some (.ref f) → K.lookup f = some ⟨oc, od, .func fd', sl⟩ → ∃ p ∈ cs, fd'.code = .ref p.1)
    (hTB : ∀ p ∈ cs, TabB base mg p.1 p.2) : ∃ cc P, fd.code = .ref cc ∧ TabB base mg cc P ∧ (tabsOf cs).ts P := by
  obtain ⟨oc, od, kV, doc, pm, an, cdv, ct, osl, rfl, lk, hcd⟩ := F.ex
  obtain ⟨p, hp, e⟩ := hcs f _ _ _ _ hy lk
  exact ⟨p.1, p.2, e, hTB p hp, List.mem_map.mpr ⟨p, hp, rfl⟩⟩
theorem rs_setLc {X : Cx} {i : Nat} {y : Str} {py : Pos} {elt tg iter : Expr} {ifs : List Expr} {scope : Scope} {pos spos : Pos} {w : XW} {g : XG} {c : XB} {a : XE} (own : List (Str × Nat)) (vs : List Nat) (sc : Scope) {N : List Str} (hc : X.calm = true) (hN : X.N.Nodup) (eN : X.N = N) (esc : X.env.scope = sc) (hv : own.map (·.2) = vs)
    (hok : blkC N sc scope own = true) (hy : X.N[i]? = some y) (hyl : X.env.scope.names.lookup y = some .local) (hsw : swapsWith (.ListComp elt [⟨tg, iter, ifs, 0⟩] scope pos) (some (.Name y py)) spos.line X.env = pure true) (hi : PI X tg iter (rW X.K w))
    (hg : ∀ (s : Shared) (H : Hp) (C : Addr) (cl : List (Str × Addr)) (fp : List Addr), PG (X.blk s H scope (compEnvC scope cl C X.env) fp) tg (rGw X.K vs g))
    (ht : ∀ (s : Shared) (H : Hp) (C : Addr) (cl : List (Str × Addr)) (fp : List Addr), PTs (X.blk s H scope (compEnvC scope cl C X.env) fp) ifs (rB X.K c))
    (he : ∀ (s : Shared) (H : Hp) (C : Addr) (cl : List (Str × Addr)) (fp : List Addr), PE (X.blk s H scope (compEnvC scope cl C X.env) fp) elt (rE X.K a))
    (hs : ∀ x, foldedSetIterable iter X.env x = pure x := by intro _; rfl) : PS X (.Assign [.Name y py] (.ListComp elt [⟨tg, iter, ifs, 0⟩] scope pos) spos) (rS X.K (sAsg (xLc w vs g c a) (gN i))) := by
  subst hv eN esc
  refine PS.imp (ps_setLc hc hN hy hyl hsw hi (blkOk_by hok) hg ht he hs) fun E σ H ⟨ρ, e, S, r, re, gg, h, k⟩ => ?_
  unfold sAsg at h
  split at h
  · cases h
  rename_i d S1 ea
  split at h
  · cases h
  rename_i e1 eg
  cases h
  cases eg
  exact lc_of σ H _ ⟨ρ, e, S, d, S1, re, gg, ea, fun ρ1 H1 v x1 g1 hv => k ρ1 H1 _ x1 g1 ((re.mono x1).set i hv)⟩
end Mini
end
section
namespace Mini
open PySem PySem.Spec PyProof.Rows L2 C8
variable [Tabs]
section
variable {X : Cx}
theorem PO.imp {e : Option Expr} {t t' : TO} (h : PO X e t) (i : ∀ σ H Q, t' σ H Q → t σ H Q) : PO X e t' := ⟨fun pins s σ H Q I q => h.run pins s σ H Q I (i _ _ _ q)⟩
end
end Mini
end
section
namespace Mini
open PySem PyProof.Rows PySem.W PySem.SeqAt PySem.Calls
section
variable {prog : Program} {w : World} {A : Around} {E : Value → Shared → Prop} {s : Shared}
theorem oneLt_tup {xs ys : List PyData} {a b : Value} {as bs : List Addr} {Q : Bool → Shared → Prop} (ra : Reads s.heap a (.tuple xs) as) (rb : Reads s.heap b (.tuple ys) bs) (h : alikeAll xs ys = true)
    (hu : A.units + 2 + min (PyData.depthAll xs) (PyData.depthAll ys) < cLine) (hq : Q (dataLt (.tuple xs) (.tuple ys)) s) : wpAny (model prog w) A (oneLt' true a b) Q E s := by
  rw [dataLt_tuple] at hq
  cases ra with
  | @tuple l o vs n _ _ h1 h2 h3 h4 =>
    cases rb with
    | @tuple l' o' ws n' _ _ k1 k2 k3 k4 =>
      obtain ⟨cls, dd, data, sl⟩ := o
      obtain ⟨cls2, dd2, data2, sl2⟩ := o'
      dsimp only at h2 h3 k2 k3
      subst h2 h3 k2 k3
      have n1 : vs.size = xs.length := by simpa using SeqAt.ReadsAll.length _ _ _ h4
      have n2 : ws.size = ys.length := by simpa using SeqAt.ReadsAll.length _ _ _ k4
      have et := firstLt_toks xs ys h
      rw [oneLt'_eq]
      simp only [if_true]
      refine wpAny_bind (wpAny_cRoomFor (by omega) ?_)
      have ti : s.TypeIs (.ref l) "tuple" := ⟨_, h1, rfl⟩
      refine wpAny_bind (wpAny_callSpecialIfBound?_slot ti F.slot_tuple_lt (call_meets F.slot_tuple_lt ti F.entry_tuple_lt (F.args_tuple_lt_2 _ _) (tuple_ltAt l l' vs ws n n' dd dd2 sl sl2 (pairEq xs ys) fun j => dataLt (xs.getD j .none) (ys.getD j .none)) ⟨h1, k1, fun j j1 j2 => ?_, fun j j1 j2 hj => ?_, ?_⟩))
      · have := eqAt_alikeAll xs ys A.in1 s vs.toList ws.toList _ _ h4 k4 h (by show A.units + 1 + _ < _; omega) j (by simpa using j1) (by simpa using j2)
        simpa using this
      · have := rcLt_alikeAll xs ys A.in1 s vs.toList ws.toList _ _ h4 k4 h (by show A.units + 1 + _ < _; omega) j (by simpa using j1) (by simpa using j2) hj
        simpa using this
      · rw [n1, n2, et]
        exact wpAny_truthy_bool hq
theorem firsts_any : ∀ {vs : List Value} {ds : List PyData} {Q : List (Option Value) → Shared → Prop}, EachIs (fun v d => ∃ as, Reads s.heap v d as) vs ds → (∀ d, d ∈ ds → ∃ xs, d = PyData.tuple xs) →
    (∀ fs : List (Option Value), fs.length = vs.length → (∀ (i : Nat) (xs : List PyData), ds[i]? = some (PyData.tuple xs) → ∃ f, fs[i]? = some f ∧ f.isSome = !xs.isEmpty) → Q fs s) → wpAny (model prog w) A (vs.mapM firstOfTuple') Q E s
  | _, _, _, .nil, _, h => by
    rw [List.mapM_nil]
    exact wpAny_pure (h [] rfl fun i xs q => by simp at q)
  | _, _, Q, .cons (b := d) ⟨as, r⟩ t, ht, h => by
    obtain ⟨xs, rfl⟩ := ht _ (List.mem_cons_self ..)
    cases r with
    | @tuple a o ws n _ _ ho hc hd hr =>
      have hl : ws.size = xs.length := by simpa using SeqAt.ReadsAll.length _ _ _ hr
      rw [List.mapM_cons]
      refine wpAny_bind ?_
      rw [kas_first_eq]
      refine wpAny_bind (Looks.here (show Looks (model prog w) s.heap (typeOf (.ref a)) o.cls from (Looks.ld ho).andThen .now) ?_)
      rw [hc, if_neg (by first | decide | simp)]
      refine wpAny_bind (listItems_at ho hd (wpAny_pure ?_))
      refine wpAny_bind (firsts_any (Q := fun bs s' => wpAny (model prog w) A (pure (ws[0]? :: bs)) Q E s') t (fun d hd => ht d (List.mem_cons_of_mem _ hd)) fun fs h1 h2 => wpAny_pure (h _ (by rw [List.length_cons, List.length_cons, h1]) fun i zs q => ?_))
      cases i with
      | zero =>
        cases q
        refine ⟨_, rfl, ?_⟩
        cases xs with
        | nil => simp [hl]
        | cons x r => simp [hl]
      | succ i => exact h2 i zs (by simpa using q)
theorem sortsAt_tups {vs : List Value} {ds : List PyData} (e : EachIs (fun v d => ∃ as, Reads s.heap v d as) vs ds) (hal : AllAlike ds) (ht : ∀ d, d ∈ ds → ∃ xs, d = PyData.tuple xs) (hu : ∀ d, d ∈ ds → A.units + 2 + d.depth < cLine) : SortsAt prog w A s (dataKind s.heap ds) vs := by
  by_cases hne : ∀ d, d ∈ ds → ∃ x r, d = PyData.tuple (x :: r)
  · exact SortsAt.data e hal (.inl hne) fun d hd => by have := hu d hd; omega
  refine ⟨fun v hv => ?_, ?_⟩
  · obtain ⟨d, hd, as, r⟩ := e.left v hv
    exact ⟨_, dataKind_some hal hd r⟩
  · have hno : ∃ i : Nat, ds[i]? = some (PyData.tuple []) := by
      have : ∃ d, d ∈ ds ∧ ¬ ∃ x r, d = PyData.tuple (x :: r) := by
        refine Classical.byContradiction fun q => hne fun d hd => Classical.byContradiction fun q2 => q ⟨d, hd, q2⟩
      obtain ⟨d, hd, q⟩ := this
      obtain ⟨xs, rfl⟩ := ht d hd
      cases xs with
      | cons x r => exact absurd ⟨x, r, rfl⟩ q
      | nil => exact List.mem_iff_getElem?.mp hd
    obtain ⟨i0, hi0⟩ := hno
    cases ds with
    | nil => simp at hi0
    | cons d₀ ds₀ =>
      obtain ⟨x₀, rfl⟩ := ht d₀ (List.mem_cons_self ..)
      have lenv := e.length
      by_cases h0 : x₀ = []
      · -- the first is empty
        subst h0
        refine ⟨oneType', ?_, fun h2 E Q hq => ?_⟩
        · intro E x y a b Q ha hb hq
          obtain ⟨d, as, hd, ra, rfl⟩ := dataKind_inv ha
          obtain ⟨d', as', hd', rb, rfl⟩ := dataKind_inv hb
          have hdd := hal d hd d' hd'
          have hr := hu d hd
          obtain ⟨xs, rfl⟩ := ht d hd
          obtain ⟨ys, rfl⟩ := ht d' hd'
          rw [keyLt'_oneType]
          refine oneLt_tup ra rb (by simpa [alike] using hdd) ?_ hq
          have : (PyData.tuple xs).depth = PyData.depthAll xs + 1 := rfl
          have := Nat.min_le_left (PyData.depthAll xs) (PyData.depthAll ys)
          omega
        · rw [keyKind'_eq, List.mapM_toArray, map_eq_pure_bind]
          refine wpAny_bind (wpAny_bind (firsts_any e ht fun fs f1 f2 => wpAny_pure ?_))
          obtain ⟨f0, g1, g2⟩ := f2 0 [] rfl
          have nall : ¬ (fs.toArray.all fun x => x.isSome) = true := by
            rw [List.all_toArray, List.all_eq_true]
            intro q
            have := q f0 (List.mem_of_getElem? g1)
            rw [g2] at this
            cases this
          rw [if_neg nall]
          have nf : ¬ (fs.toArray[0]?.bind id).isSome = true := by
            rw [List.getElem?_toArray, g1]
            cases f0 with
            | none => simp
            | some v => simp at g2
          rw [if_neg nf, oneTypeOnly'_eq, List.mapM_toArray, map_eq_pure_bind]
          refine wpAny_bind (wpAny_bind (wpAny_bind (kas_mapM (r := Value.type "tuple") _ (fun v hv Q' hq' => ?_) (wpAny_pure ?_))))
          · obtain ⟨d, hd, as, r⟩ := e.left v hv
            obtain ⟨xs, rfl⟩ := ht d hd
            exact (looks_reads (M := model prog w) r).here hq'
          · have hall : ((List.map (fun _ => Value.type "tuple") vs).toArray.all fun x => x == Value.type "tuple") = true := by
              simp only [List.all_toArray, List.all_map, List.all_eq_true]
              intro _ _
              rfl
            have hh : (List.map (fun _ => Value.type "tuple") vs).toArray[0]? = some (Value.type "tuple") := by
              rw [List.getElem?_toArray, List.getElem?_map]
              cases vs with
              | nil => simp at h2
              | cons v r => rfl
            rw [hh]
            simp only [hall, if_true]
            exact wpAny_pure (wpAny_pure hq)
      · refine ⟨general', ?_, fun h2 E Q hq => ?_⟩
        · intro E x y a b Q ha hb hq
          obtain ⟨d, as, hd, ra, rfl⟩ := dataKind_inv ha
          obtain ⟨d', as', hd', rb, rfl⟩ := dataKind_inv hb
          have hr := hu d hd
          refine (oneLt_alike (f := false) (fun z => by cases z) ra rb (hal d hd d' hd') (fun z => by obtain ⟨xs, rfl⟩ := ht d hd; cases z) (by have := Nat.min_le_left d.depth d'.depth; omega) hq : wpAny (model prog w) A (keyLt' general' x y) Q E s)
        · rw [keyKind'_eq, List.mapM_toArray, map_eq_pure_bind]
          refine wpAny_bind (wpAny_bind (firsts_any e ht fun fs f1 f2 => wpAny_pure ?_))
          obtain ⟨f0, g1, g2⟩ := f2 i0 [] hi0
          have nall : ¬ (fs.toArray.all fun x => x.isSome) = true := by
            rw [List.all_toArray, List.all_eq_true]
            intro q
            have := q f0 (List.mem_of_getElem? g1)
            rw [g2] at this
            cases this
          rw [if_neg nall]
          obtain ⟨f, k1, k2⟩ := f2 0 x₀ rfl
          have yf : (fs.toArray[0]?.bind id).isSome = true := by
            rw [List.getElem?_toArray, k1]
            cases x₀ with
            | nil => exact absurd rfl h0
            | cons x r => simpa using k2
          rw [if_pos yf]
          exact wpAny_pure hq
end
end Mini
end
section
namespace Mini
open PySem PySem.Spec PyProof.Rows L2
def ltD (x y : D) : Bool := PySem.W.dataLt x.py y.py
def leD (x y : D) : Bool := !ltD y x
def isTupD : D → Bool
  | .tup _ => true
  | _ => false
def isAtom : D → Bool
  | .bl _ => true
  | .int _ => true
  | .str _ => true
  | _ => false
def alikeD (x y : D) : Bool := PySem.W.alike x.py y.py
def sortOk (ds : List D) : Bool := (ds.all isTupD || ds.all isAtom) && ds.all (fun x => D.pub 100 x) && ds.all fun x => ds.all fun y => alikeD x y
def insD (x : D) : List D → List D
  | [] => [x]
  | y :: r => if leD x y = true then x :: y :: r else y :: insD x r
def srtD : List D → List D
  | [] => []
  | x :: r => insD x (srtD r)
theorem insD_perm {x : D} : ∀ l : List D, (insD x l).Perm (x :: l)
  | [] => .refl _
  | y :: r => by
    unfold insD
    split
    · exact .refl _
    · exact ((insD_perm r).cons y).trans (.swap x y r)
theorem srtD_perm : ∀ l : List D, (srtD l).Perm l
  | [] => .refl _
  | x :: r => (insD_perm _).trans ((srtD_perm r).cons x)
mutual
theorem eqB_alike : ∀ {x y : D} {m n : Nat}, D.pub m x = true → D.pub n y = true → alikeD x y = true → eqB x y = true → x = y
  | .loc _, _, m, _, h, _, _, _ => by cases m <;> cases h
  | _, .loc _, _, n, _, h, _, _ => by cases n <;> cases h
  | .non, .non, _, _, _, _, _, _ => rfl
  | .bl a, .bl b, _, _, _, _, _, h => by rw [show a = b from of_decide_eq_true h]
  | .int i, .int j, _, _, _, _, _, h => by rw [show i = j from of_decide_eq_true h]
  | .str i, .str j, _, _, _, _, _, h => by rw [show i = j from of_decide_eq_true h]
  | .tup a, .tup b, 0, _, h, _, _, _ => by cases h
  | .tup a, .tup b, _, 0, _, h, _, _ => by cases h
  | .tup a, .tup b, m + 1, n + 1, h1, h2, h3, h4 => by rw [eqBs_alike (m := m) (n := n) h1 h2 h3 h4]
  | .non, .bl _, _, _, _, _, h, _ => by cases h
  | .non, .int _, _, _, _, _, h, _ => by cases h
  | .non, .str _, _, _, _, _, h, _ => by cases h
  | .non, .tup _, _, _, _, _, h, _ => by cases h
  | .bl _, .non, _, _, _, _, h, _ => by cases h
  | .bl _, .int _, _, _, _, _, h, _ => by cases h
  | .bl _, .str _, _, _, _, _, h, _ => by cases h
  | .bl _, .tup _, _, _, _, _, h, _ => by cases h
  | .int _, .non, _, _, _, _, h, _ => by cases h
  | .int _, .bl _, _, _, _, _, h, _ => by cases h
  | .int _, .str _, _, _, _, _, h, _ => by cases h
  | .int _, .tup _, _, _, _, _, h, _ => by cases h
  | .str _, .non, _, _, _, _, h, _ => by cases h
  | .str _, .bl _, _, _, _, _, h, _ => by cases h
  | .str _, .int _, _, _, _, _, h, _ => by cases h
  | .str _, .tup _, _, _, _, _, h, _ => by cases h
  | .tup _, .non, _, _, _, _, h, _ => by cases h
  | .tup _, .bl _, _, _, _, _, h, _ => by cases h
  | .tup _, .int _, _, _, _, _, h, _ => by cases h
  | .tup _, .str _, _, _, _, _, h, _ => by cases h
theorem eqBs_alike : ∀ {xs ys : List D} {m n : Nat}, D.pubs m xs = true → D.pubs n ys = true → PySem.W.alikeAll (D.pys xs) (D.pys ys) = true → eqBs xs ys = true → xs = ys
  | [], [], _, _, _, _, _, _ => rfl
  | [], _ :: _, _, _, _, _, _, h => by cases h
  | _ :: _, [], _, _, _, _, _, h => by cases h
  | x :: xs, y :: ys, m, n, h1, h2, h3, h4 => by
    have a1 : (D.pub m x && D.pubs m xs) = true := h1
    have a2 : (D.pub n y && D.pubs n ys) = true := h2
    have a4 : (eqB x y && eqBs xs ys) = true := h4
    rw [Bool.and_eq_true] at a1 a2 a4
    obtain ⟨b1, b2⟩ := PySem.W.alike_all_cons h3
    rw [eqB_alike a1.1 a2.1 b1 a4.1, eqBs_alike a1.2 a2.2 b2 a4.2]
end
theorem toks_inj {x y : PyData} (h : PySem.W.alike x y = true) (e : PySem.W.keyToks x = PySem.W.keyToks y) : PyData.eqv x y = true := by
  cases q : PyData.eqv x y with
  | true => rfl
  | false =>
    have z := (PySem.W.toks_eqv x y h).2 q [] [.inl 0]
    rw [e, PySem.W.lex_pre, lex_irrefl] at z
    revert z
    decide
theorem leD_total (x y : D) : (leD x y || leD y x) = true := by
  have O := listOrd itemOrd
  unfold leD ltD PySem.W.dataLt
  cases h : PyProof.Rows.lexLt itemOrd (PySem.W.keyToks y.py) (PySem.W.keyToks x.py) with
  | false => rfl
  | true =>
    cases h2 : PyProof.Rows.lexLt itemOrd (PySem.W.keyToks x.py) (PySem.W.keyToks y.py) with
    | false => rfl
    | true =>
      have z := (listOrd itemOrd).trans _ _ _ h h2
      have z2 := (listOrd itemOrd).irrefl (PySem.W.keyToks y.py)
      exact absurd (z.symm.trans z2) (by decide)
theorem leD_trans (x y z : D) (h1 : leD x y = true) (h2 : leD y z = true) : leD x z = true := by
  unfold leD ltD PySem.W.dataLt at *
  rw [Bool.not_eq_true'] at *
  cases h : PyProof.Rows.lexLt itemOrd (PySem.W.keyToks z.py) (PySem.W.keyToks x.py) with
  | false => rfl
  | true =>
    cases c : PyProof.Rows.lexLt itemOrd (PySem.W.keyToks x.py) (PySem.W.keyToks y.py) with
    | true =>
      have q := (listOrd itemOrd).trans _ _ _ h c
      exact absurd (q.symm.trans h2) (by decide)
    | false =>
      have e : PySem.W.keyToks x.py = PySem.W.keyToks y.py := (listOrd itemOrd).total _ _ c h1
      rw [e] at h
      exact absurd (h.symm.trans h2) (by decide)
theorem leD_anti {x y : D} {m n : Nat} (p1 : D.pub m x = true) (p2 : D.pub n y = true) (ha : alikeD x y = true) (h1 : leD x y = true) (h2 : leD y x = true) : x = y := by
  unfold leD ltD PySem.W.dataLt at h1 h2
  rw [Bool.not_eq_true'] at h1 h2
  have e : PySem.W.keyToks x.py = PySem.W.keyToks y.py := (listOrd itemOrd).total _ _ h2 h1
  have q := toks_inj ha e
  haveI : Tabs := ⟨fun _ => False⟩
  rw [eqB_py p1 p2] at q
  exact eqB_alike p1 p2 ha q
theorem insD_pw {x : D} : ∀ {l : List D}, l.Pairwise (fun a b => leD a b = true) → (insD x l).Pairwise (fun a b => leD a b = true)
  | [], _ => by simp [insD]
  | y :: r, h => by
    have h1 := List.pairwise_cons.mp h
    unfold insD
    split
    · rename_i q
      refine List.pairwise_cons.mpr ⟨fun b hb => ?_, h⟩
      rcases List.mem_cons.mp hb with rfl | hb
      · exact q
      · exact leD_trans _ _ _ q (h1.1 b hb)
    · rename_i q
      refine List.pairwise_cons.mpr ⟨fun b hb => ?_, insD_pw h1.2⟩
      rcases List.mem_cons.mp ((insD_perm r).mem_iff.mp hb) with rfl | hb
      · have := leD_total b y
        rw [Bool.or_eq_true] at this
        exact this.resolve_left q
      · exact h1.1 b hb
theorem srtD_pw : ∀ l : List D, (srtD l).Pairwise (fun a b => leD a b = true)
  | [] => .nil
  | x :: r => insD_pw (srtD_pw r)
theorem sortOk_iff {ds : List D} : sortOk ds = true ↔ ((∀ x ∈ ds, isTupD x = true) ∨ ∀ x ∈ ds, isAtom x = true) ∧ (∀ x ∈ ds, D.pub 100 x = true) ∧ ∀ x ∈ ds, ∀ y ∈ ds, alikeD x y = true := by
  unfold sortOk
  simp only [Bool.and_eq_true, Bool.or_eq_true, List.all_eq_true]
  exact ⟨fun h => ⟨h.1.1, h.1.2, h.2⟩, fun h => ⟨⟨h.1, h.2.1⟩, h.2.2⟩⟩
theorem sortOk_perm {ds es : List D} (p : ds.Perm es) (h : sortOk ds = true) : sortOk es = true := by
  rw [sortOk_iff] at h ⊢
  exact ⟨h.1.imp (fun q x hx => q x (p.mem_iff.mpr hx)) (fun q x hx => q x (p.mem_iff.mpr hx)), fun x hx => h.2.1 x (p.mem_iff.mpr hx), fun x hx y hy => h.2.2 x (p.mem_iff.mpr hx) y (p.mem_iff.mpr hy)⟩
theorem srtD_is {ds es : List D} (ok : sortOk ds = true) (h1 : es.Perm ds) (h2 : es.Pairwise (fun a b => leD a b = true)) : es = srtD ds := by
  have q := sortOk_iff.mp ok
  refine (h1.trans (srtD_perm ds).symm).eq_of_pairwise (fun a b ha hb x y => ?_) h2 (srtD_pw ds)
  exact leD_anti (q.2.1 a (h1.mem_iff.mp ha)) (q.2.1 b ((srtD_perm ds).mem_iff.mp hb)) (q.2.2 a (h1.mem_iff.mp ha) b ((srtD_perm ds).mem_iff.mp hb)) x y
theorem srtD_perm_eq {ds es : List D} (ok : sortOk ds = true) (p : es.Perm ds) : srtD es = srtD ds := srtD_is ok ((srtD_perm es).trans p) (srtD_pw es)
theorem srtD_merge {ds : List D} (ok : sortOk ds = true) : ds.mergeSort leD = srtD ds := srtD_is ok (List.mergeSort_perm ds leD) (List.pairwise_mergeSort leD_trans leD_total ds)
theorem each_of_vals {X : Cx} {pins : List (Addr × Obj)} {σ : L2.St} {H : Hp} {s : Shared} (I : Inv X pins σ H s) : ∀ {ps : List (V × D)} {us : List Value}, Vals (ps.map (·.1)) us → (∀ p ∈ ps, Dp X.K H p.1 p.2.py) →
    PySem.W.EachIs (fun u (p : V × D) => RelV p.1 u) us ps ∧ PySem.W.EachIs (fun u (p : V × D) => ∃ as, Reads s.heap u p.2.py as) us ps
  | [], _, r, _ => by cases r; exact ⟨.nil, .nil⟩
  | p :: ps, _, r, h => by
    cases r with
    | cons r rs =>
      obtain ⟨h1, h2⟩ := each_of_vals I rs fun q hq => h q (List.mem_cons_of_mem _ hq)
      exact ⟨.cons r h1, .cons (Dp.reads I _ _ _ (h p (List.mem_cons_self ..)) r) h2⟩
theorem vals_of_each : ∀ {us : List Value} {ps : List (V × D)}, PySem.W.EachIs (fun u (p : V × D) => RelV p.1 u) us ps → Vals (ps.map (·.1)) us
  | _, _, .nil => .nil
  | _, _, .cons h t => .cons h (vals_of_each t)
theorem reps_zip {K : PySem.W.Frag} {ρ : List Addr} {H : Hp} : ∀ {ds : List D} {vs : List V}, Reps K ρ H ds vs → (vs.zip ds).map (·.1) = vs ∧ (vs.zip ds).map (·.2) = ds ∧ ∀ p ∈ vs.zip ds, Rep K ρ H p.2 p.1
  | _, _, .nil => ⟨rfl, rfl, fun p h => by simp at h⟩
  | _, _, .cons h r => by
    obtain ⟨h1, h2, h3⟩ := reps_zip r
    refine ⟨by rw [List.zip_cons_cons, List.map_cons, h1], by rw [List.zip_cons_cons, List.map_cons, h2], fun p hp => ?_⟩
    rw [List.zip_cons_cons] at hp
    rcases List.mem_cons.mp hp with rfl | hp
    · exact h
    · exact h3 p hp
theorem reps_of {K : PySem.W.Frag} {ρ : List Addr} {H : Hp} : ∀ {ps : List (V × D)}, (∀ p ∈ ps, Rep K ρ H p.2 p.1) → Reps K ρ H (ps.map (·.2)) (ps.map (·.1))
  | [], _ => .nil
  | p :: ps, h => .cons (h p (List.mem_cons_self ..)) (reps_of fun q hq => h q (List.mem_cons_of_mem _ hq))
end Mini
end
section
namespace Mini
open PySem PyProof.Rows PySem.W PySem.SeqAt PySem.Calls
section
variable {prog : Program} {w : World} {A : Around} {E : Value → Shared → Prop} {s : Shared}
def Gath (prog : Program) (w : World) (s : Shared) (l : Addr) (vs : List Value) : Prop := ∀ (A : Around) (E : Value → Shared → Prop) (Q : List Value → Shared → Prop),
  Q vs { s with heap := (s.heap.push (seqObj "list" #[] 0)).update s.heap.objs.size (Obj.mapSeq (· ++ vs.toArray)) } → wpAny (model prog w) A (collect (.ref l)) Q E s
theorem gath_list {l : Addr} {vs : List Value} (hl : s.heap.IsList l vs.toArray) (hz : vs.length ≤ sizeLine) : Gath prog w s l vs := fun A E Q h => collect_list hl h hz
theorem gath_tup {l : Addr} {vs : List Value} (ht : s.heap.IsTuple l vs.toArray) (hz : vs.length ≤ sizeLine) : Gath prog w s l vs := fun A E Q h => by
  obtain ⟨ob, hob, hcl, m, hdt⟩ := id ht
  unfold collect
  refine wpAny_bind (wpAny_runValue (codeAny_builtin entry_proto_collect' ?_))
  show wpAny _ _ (do again (.builtin "list.__iadd__" ⟨[← newList [], .ref l], []⟩)) _ _ s
  refine wpAny_bind (wpAny_newList (wpAny_pure ⟨Code.quiet_builtin _ (by decide +kernel), codeAny_builtin entry_list_iadd' ?_⟩))
  show wpAny _ _ (Builtin.List.listExtendWith (.ref s.heap.objs.size) (.ref l) (.ref s.heap.objs.size)) _ _ { s with heap := s.heap.push (seqObj "list" #[] 0) }
  unfold Builtin.List.listExtendWith
  have hob' : (s.heap.push (seqObj "list" #[] 0)).get? l = some ob := Heap.get?_push_of_some _ hob
  refine wpAny_bind (wpAny_typeOf (T := "tuple") ⟨ob, hob', hcl⟩ ?_)
  have tt : (Value.type "tuple" == Value.type "tuple") = true := by rfl
  rw [if_pos (by rw [tt]; simp)]
  refine wpAny_bind (listItems_at hob' hdt ?_)
  refine wpAny_bind (listItems_at (xs := #[]) (n := 0) (Heap.get?_push_size _ rfl) rfl ?_)
  rw [if_neg (by simp)]
  refine wpAny_bind (listUpdate_at (xs := #[]) (n := 0) (Heap.get?_push_size _ rfl) rfl ?_ (Nat.zero_le _) (by show (#[] ++ vs.toArray).size ≤ sizeLine + 1; simp only [Array.size_append, List.size_toArray, List.length_nil]; omega))
  refine wpAny_pure ?_
  show wpAny (model prog w) A (do
      let z ← load s.heap.objs.size
      match z.data with
      | .seq xs _ => pure xs.toList
      | _ => unsupported "internal:collect") Q E { s with heap := (s.heap.push (seqObj "list" #[] 0)).update s.heap.objs.size (Obj.mapSeq (· ++ vs.toArray)) }
  refine wpAny_bind (wpAny_load (get?_update_seq (Heap.get?_push_size _ rfl) _) ?_)
  show wpAny _ _ (pure ((#[] : Array Value) ++ vs.toArray).toList) Q E _
  rw [show ((#[] : Array Value) ++ vs.toArray).toList = vs by simp]
  exact wpAny_pure h
theorem sorted_gath {κ : PyProof.Rows.KeyKind} {l : Addr} {vs : List Value} {Q : Value → Shared → Prop} (hl : Gath prog w s l vs) (S : SortsAt prog w A.in1.in1 { s with heap := sortingHeap (copyHeap s.heap vs) (s.heap.objs.size + 1) vs } κ vs) (hL : vs.length ≤ sizeLine)
    (h : Q (.ref (s.heap.objs.size + 1)) { s with heap := sortedAll s.heap vs (sortVals κ false vs vs).toArray }) : wpAny (model prog w) A (call (.builtin "sorted") [.ref l]) Q E s := by
  refine call_function_entry_kw kind_sorted plain_sorted entry_sorted (args_sorted1 _) ?_
  unfold Builtin.«sorted»
  refine wpAny_bind (m := checkCount "sorted" 1 1 _) (wpAny_pure ?_)
  refine wpAny_bind (hl _ _ _ ?_)
  refine wpAny_bind (wpAny_newList ?_ hL)
  have sz : ((s.heap.push (seqObj "list" #[] 0)).update s.heap.objs.size (Obj.mapSeq (· ++ vs.toArray))).objs.size = s.heap.objs.size + 1 := by rw [Heap.size_update, size_push']
  show wpAny _ _ _ _ _ { s with heap := copyHeap s.heap vs }
  rw [sz]
  refine wpAny_bind (wpAny_holding (wpAny_call_entry_kw slot_list_sort ⟨_, copyHeap_at s.heap vs, rfl⟩ entry_list_sort ?body (args_list_sort _)))
  case body =>
    show wpAny (model prog w) A.in1.in1 (Builtin.«list.sort» ⟨[.ref (s.heap.objs.size + 1)], []⟩) _ _ _
    exact list_sort_vals (s := { s with heap := copyHeap s.heap vs }) (copyHeap_at s.heap vs) S hL ⟨_, rfl, wpAny_pure ⟨_, rfl, h⟩⟩
theorem sorted_gathD {β : Type} {vs : List Value} {bs : List β} {R : Value → β → Prop} {enc : β → PyData} {l : Addr} {Q : Value → Shared → Prop} (hl : Gath prog w s l vs) (e : EachIs R vs bs) (er : EachIs (fun v b => ∃ as, Reads s.heap v (enc b) as) vs bs) (hal : AllAlike (bs.map enc)) (hL : bs.length ≤ sizeLine)
    (hk : (∀ b, b ∈ bs → ∃ xs, enc b = PyData.tuple xs) ∨ Sortable (bs.map enc)) (hu : ∀ b, b ∈ bs → A.units + 4 + (enc b).depth < cLine) (h : ∀ out, out.length = bs.length → EachIs R out (bs.mergeSort (dataLe false enc)) → Q (.ref (s.heap.objs.size + 1)) { s with heap := sortedAll s.heap vs (List.toArray out) }) :
    wpAny (model prog w) A (call (.builtin "sorted") [.ref l]) Q E s := by
  have er' : EachIs (fun v b => ∃ as, Reads (sortingHeap (copyHeap s.heap vs) (s.heap.objs.size + 1) vs) v (enc b) as) vs bs := er.mono fun _ _ ⟨as, r⟩ => ⟨as, PyProof.Rows.Reads.keeps (fun _ _ => sorting_copy_old) r⟩
  rcases hk with ht | hk
  · refine sorted_gath hl (sortsAt_tups (s := { s with heap := sortingHeap (copyHeap s.heap vs) (s.heap.objs.size + 1) vs }) (each_map (R := fun v d => ∃ as, Reads (sortingHeap (copyHeap s.heap vs) (s.heap.objs.size + 1) vs) v d as) enc er') hal (fun d hd => ?_) fun d hd => ?_) (by rw [e.length]; exact hL)
      (h _ (by rw [sortVals_length false rfl]; exact e.length) (sortVals_data false e er' hal))
    · obtain ⟨b, hb, rfl⟩ := List.mem_map.mp hd
      exact ht b hb
    · obtain ⟨b, hb, rfl⟩ := List.mem_map.mp hd
      have := hu b hb
      show A.units + 1 + 1 + 2 + _ < _
      omega
  · exact sorted_gath hl (SortsAt.data (s := { s with heap := sortingHeap (copyHeap s.heap vs) (s.heap.objs.size + 1) vs }) (each_map (R := fun v d => ∃ as, Reads (sortingHeap (copyHeap s.heap vs) (s.heap.objs.size + 1) vs) v d as) enc er') hal hk (bound_map (A := A.in1.in1) fun b hb => by
      have := hu b hb
      show A.units + 1 + 1 + _ < _
      omega)) (by rw [e.length]; exact hL) (h _ (by rw [sortVals_length false rfl]; exact e.length) (sortVals_data false e er' hal))
end
end Mini
namespace Mini
open PySem PySem.Spec PyProof.Rows L2
def rSortedA (K : PySem.W.Frag) : List V → Hp → VK → Prop := fun vs H Q => ∃ (a : Addr) (ps : List (V × D)), vs = [V.ref a] ∧ (SqL K H a (ps.map (·.1)) ∨ SqT K H a (ps.map (·.1))) ∧ (∀ p ∈ ps, Dp K H p.1 p.2.py) ∧ sortOk (ps.map (·.2)) = true ∧ (∀ p ∈ ps, p.2.py.depth ≤ 100) ∧
  ∀ q, H q = none → Q (.ref q) (upd H q (.lst ((ps.mergeSort fun a b => leD a.2 b.2).map (·.1))))
theorem cr_sortedA {X : Cx} (hu : X.A.units + 250 < cLine) : CallR X (.builtin "sorted") (rSortedA X.K) := by
  intro pins s σ H vs us Q I r h
  obtain ⟨a, ps, rfl, hs, hd, ok, dp, q⟩ := h
  rw [Vals.ref1 r]
  have got : ∃ its : List Value, Vals (ps.map (·.1)) its ∧ Gath X.prog X.w s a its ∧ (ps.map (·.1)).length ≤ sizeLine := by
    rcases hs with hs | hs
    · obtain ⟨its, rv, hl, hz⟩ := I.list hs
      exact ⟨its, rv, gath_list hl.isList (by rw [← rv.length]; exact hz), hz⟩
    · obtain ⟨its, rv, hl, hz⟩ := I.tuple hs
      exact ⟨its, rv, gath_tup hl (by rw [← rv.length]; exact hz), hz⟩
  obtain ⟨its, rv, hl, hz⟩ := got
  obtain ⟨e1, e2⟩ := each_of_vals I rv hd
  have okk := sortOk_iff.mp ok
  have hal : PySem.W.AllAlike (ps.map fun p => p.2.py) := fun x hx y hy => by
    obtain ⟨p, hp, rfl⟩ := List.mem_map.mp hx
    obtain ⟨p', hp', rfl⟩ := List.mem_map.mp hy
    exact okk.2.2 p.2 (List.mem_map.mpr ⟨p, hp, rfl⟩) p'.2 (List.mem_map.mpr ⟨p', hp', rfl⟩)
  have hz' : ps.length ≤ sizeLine := by rw [List.length_map] at hz; exact hz
  refine sorted_gathD (enc := fun p : V × D => p.2.py) hl e1 e2 hal hz' ?_ (fun p hp => by have := dp p hp; omega) fun out hl2 eo => ?_
  · rcases okk.1 with ht | ht
    · refine .inl fun p hp => ?_
      have := ht p.2 (List.mem_map.mpr ⟨p, hp, rfl⟩)
      cases hq : p.2 with
      | tup xs => exact ⟨D.pys xs, rfl⟩
      | _ => rw [hq] at this; cases this
    · refine .inr (.inr fun d hd => ?_)
      obtain ⟨p, hp, rfl⟩ := List.mem_map.mp hd
      have := ht p.2 (List.mem_map.mpr ⟨p, hp, rfl⟩)
      cases hq : p.2 with
      | tup xs => rw [hq] at this; cases this
      | non => rw [hq] at this; cases this
      | loc n => rw [hq] at this; cases this
      | bl b => exact ⟨(fun z => nomatch z), fun xs z => nomatch z⟩
      | int b => exact ⟨(fun z => nomatch z), fun xs z => nomatch z⟩
      | str b => exact ⟨(fun z => nomatch z), fun xs z => nomatch z⟩
  · obtain ⟨ep, he'⟩ := PyProof.Rows.sortedAll_at s.heap its out.toArray
    have hlen : ((ps.mergeSort fun a b => leD a.2 b.2).map (·.1)).length ≤ sizeLine := by
      rw [List.length_map, List.length_mergeSort]
      exact hz'
    exact ⟨.ref _, upd H (s.heap.objs.size + 1) (.lst ((ps.mergeSort fun a b => leD a.2 b.2).map (·.1))), I.laid (t' := s.toks) (fun _ _ => PyProof.Rows.sortedAll_old) (Nat.le_succ _) ⟨hlen, out, ep, vals_of_each eo, he'⟩, rfl, q _ (I.hok.fresh (Nat.le_succ _))⟩
def seqD (x : D) (S : Sto) : Option (List D) := match x with
  | .loc n => lstAt S n
  | .tup ds => some ds
  | _ => none
def fSortA (xs : List D) (S : Sto) : Option (D × Sto) := match xs with
  | [x] => match seqD x S with
    | some ds => if sortOk ds = true then some (.loc S.length, S ++ [.lst (srtD ds)]) else none
    | none => none
  | _ => none
theorem am_sortA [Tabs] {K : PySem.W.Frag} : AllM K fSortA (rSortedA K) := by
  intro ρ H S xs d S' vs Q g hx e k
  unfold fSortA at e
  split at e
  rotate_left
  · cases e
  rename_i x
  split at e
  rotate_left
  · cases e
  rename_i ds el
  split at e
  rotate_left
  · cases e
  rename_i ok
  cases e
  cases hx with
  | @cons _ vx _ _ h hn =>
    cases hn
    have got : ∃ (a : Addr) (vs : List V), vx = V.ref a ∧ (SqL K H a vs ∨ SqT K H a vs) ∧ Reps K ρ H ds vs := by
      unfold seqD at el
      split at el
      · cases h with
        | loc hn =>
          obtain ⟨vs, hs, hr⟩ := g.lst hn el
          exact ⟨_, vs, rfl, .inl hs, hr⟩
      · cases el
        cases h with
        | tup hs hr => exact ⟨_, _, rfl, .inr hs, hr⟩
      · cases el
    obtain ⟨a, vs, rfl, hs, hr⟩ := got
    obtain ⟨z1, z2, z3⟩ := reps_zip hr
    have okk := sortOk_iff.mp ok
    have pubs : ∀ p ∈ vs.zip ds, D.pub 100 p.2 = true := fun p hp => okk.2.1 p.2 (by rw [← z2]; exact List.mem_map.mpr ⟨p, hp, rfl⟩)
    refine ⟨_, vs.zip ds, rfl, by rw [z1]; exact hs, fun p hp => (py_dp (z3 p hp) (pubs p hp)).1, by rw [z2]; exact ok, fun p hp => (py_dp (z3 p hp) (pubs p hp)).2.2, fun q hq => ?_⟩
    have pm := List.mergeSort_perm (vs.zip ds) fun a b => leD a.2 b.2
    have es : ((vs.zip ds).mergeSort fun a b => leD a.2 b.2).map (·.2) = srtD ds := by
      rw [List.map_mergeSort (s := leD) (fun a _ b _ => rfl), z2]
      exact srtD_merge ok
    have rr : Reps K ρ H (srtD ds) (((vs.zip ds).mergeSort fun a b => leD a.2 b.2).map (·.1)) := es ▸ reps_of fun p hp => z3 p (pm.mem_iff.mp hp)
    obtain ⟨x2, g2, r3⟩ := lst_new g rr hq
    exact k _ _ _ x2 g2 r3
end Mini
end
section
set_option maxHeartbeats 2000000
namespace Mini
open PySem PySem.Spec PyProof.Rows L2
section
variable {prog : Program} {w : World} {A : Around} {E : Value → Shared → Prop} {s : Shared} {a : Addr} {n : Nat}
end
section
variable {pr : Program} {w : World} {A : Around} {R : Result → Shared → Prop} {s : Shared} {el a0 b0 a1 b1 : Expr} {cs0 cs1 : List Expr} {sco : Scope} {ps : Pos} {itr ac : Value} {en : Env}
end
section
variable {X : Cx}
def SetAt (w : World) (h : Heap) (D : Addr) (ac : List Str) : Prop := ∃ n, n ≤ ac.length ∧ ac.length < 64 ∧ SetX w h D (fun j => decide (j ∈ ac.map Sum.inr)) n
theorem SetAt.keep {w : World} {h h' : Heap} {D : Addr} {ac : List Str} (a : SetAt w h D ac) (k : ∀ o, h.get? D = some o → h'.get? D = some o) : SetAt w h' D ac := by
  obtain ⟨n, h1, h2, R⟩ := a
  exact ⟨n, h1, h2, R.at k⟩
theorem SetAt.obj {w : World} {h : Heap} {D : Addr} {ac : List Str} (a : SetAt w h D ac) : ∃ o, h.get? D = some o ∧ ∀ v, o.data ≠ .cell v := by
  obtain ⟨n, _, _, o, es, ep, t, ho, _, hd, _⟩ := a
  exact ⟨o, ho, fun v e => by rw [hd] at e; cases e⟩
section
variable {pns : List (Addr × Obj)} {σ σ' : L2.St} {H H' : Hp} {s s' : Shared} {D : Addr} {ac : List Str}
end
end
end Mini
end
section
namespace Mini
open PySem PySem.Spec PyProof.Rows L2
variable [Tabs]
section
variable {K : PySem.W.Frag}
end
section
variable {X : Cx}
end
def fExt (x : D) (xs : List D) (S : Sto) : Option (D × Sto) := match x, xs with
  | .loc n, [.loc m] => match S[n]?, S[m]? with
    | some (.lst ds), some (.lst es) => if ds.length + es.length ≤ 1000000 then some (.non, S.set n (.lst (ds ++ es))) else none
    | _, _ => none
  | _, _ => none
theorem mm_ext {K : PySem.W.Frag} : MetM K fExt rExtend := by
  intro ρ H S x xs d S' vx vs Q g hx hxs e k
  unfold fExt at e
  split at e
  rotate_left
  · cases e
  rename_i n m
  split at e
  rotate_left
  · cases e
  rename_i ds es h1 h2
  split at e
  rotate_left
  · cases e
  rename_i hl
  cases e
  cases hx with
  | loc hn =>
    cases hxs with
    | cons hy hnil =>
      cases hnil
      cases hy with
      | loc hm =>
        obtain ⟨vl, ev, rv⟩ := lst_at g hn h1
        obtain ⟨vm, em, rm⟩ := lst_at g hm h2
        obtain ⟨g1, x1⟩ := g.set (q := .lst (ds ++ es)) (o := .lst (vl ++ vm)) hn h1 rfl rfl (rv.append rm)
        exact ⟨_, _, vl, vm, rfl, rfl, ev, em, by rw [← rv.length, ← rm.length]; exact Nat.le_trans hl (by decide), k ρ _ _ x1 g1 .non⟩
end Mini
end
section
namespace Mini
open PySem PySem.Spec PyProof.Rows L2
variable [Tabs]
def valD (kvs : List (Key × D)) (k : Key) : Option D := (kvs.find? fun kv => decide (kv.1 = k)).map (·.2)
def putD (kvs : List (Key × D)) (k : Key) (v : D) : List (Key × D) :=
  if kvs.any (fun kv => decide (kv.1 = k)) = true then kvs.map fun kv => if kv.1 = k then (kv.1, v) else kv else kvs ++ [(k, v)]
section
variable {K : PySem.W.Frag} {ρ : List Addr} {H : Hp}
inductive KR (K : PySem.W.Frag) (ρ : List Addr) (H : Hp) : List (Key × D) → List (Key × V) → Prop
  | nil : KR K ρ H [] []
  | cons {k : Key} {d : D} {v : V} {ks : List (Key × D)} {vs : List (Key × V)} : Rep K ρ H d v → KR K ρ H ks vs → KR K ρ H ((k, d) :: ks) ((k, v) :: vs)
theorem kr_of : ∀ {ks : List (Key × D)} {vs : List (Key × V)}, ks.map (·.1) = vs.map (·.1) → Reps K ρ H (ks.map (·.2)) (vs.map (·.2)) → KR K ρ H ks vs
  | [], [], _, _ => .nil
  | [], _ :: _, e, _ => by simp at e
  | _ :: _, [], e, _ => by simp at e
  | (k, d) :: ks, (j, v) :: vs, e, r => by
    simp only [List.map_cons, List.cons.injEq] at e
    obtain ⟨rfl, e⟩ := e
    cases r with
    | cons h r => exact .cons h (kr_of e r)
theorem KR.to : ∀ {ks : List (Key × D)} {vs : List (Key × V)}, KR K ρ H ks vs → ks.map (·.1) = vs.map (·.1) ∧ Reps K ρ H (ks.map (·.2)) (vs.map (·.2))
  | _, _, .nil => ⟨rfl, .nil⟩
  | _, _, .cons h r => by
    obtain ⟨h1, h2⟩ := r.to
    exact ⟨by simp [h1], .cons h h2⟩
theorem KR.mono {ρ' : List Addr} {H' : Hp} (x : Ext K ρ H ρ' H') : ∀ {ks : List (Key × D)} {vs : List (Key × V)}, KR K ρ H ks vs → KR K ρ' H' ks vs
  | _, _, .nil => .nil
  | _, _, .cons h r => .cons (h.mono x) (r.mono x)
theorem KR.len : ∀ {ks : List (Key × D)} {vs : List (Key × V)}, KR K ρ H ks vs → ks.length = vs.length
  | _, _, .nil => rfl
  | _, _, .cons _ r => congrArg (· + 1) r.len
theorem KR.val {k : Key} : ∀ {ks : List (Key × D)} {vs : List (Key × V)}, KR K ρ H ks vs → (valD ks k = none ∧ valV vs k = none) ∨ ∃ d v, valD ks k = some d ∧ valV vs k = some v ∧ Rep K ρ H d v
  | _, _, .nil => .inl ⟨rfl, rfl⟩
  | _, _, @KR.cons _ _ _ j d v ks vs h r => by
    by_cases e : j = k
    · exact .inr ⟨d, v, by simp [valD, List.find?_cons, e], by rw [valV_pos e], h⟩
    · have a : valD ((j, d) :: ks) k = valD ks k := by simp [valD, List.find?_cons, e]
      have b : valV ((j, v) :: vs) k = valV vs k := valV_neg e
      rw [a, b]
      exact r.val
theorem KR.any {k : Key} : ∀ {ks : List (Key × D)} {vs : List (Key × V)}, KR K ρ H ks vs → (ks.any fun kv => decide (kv.1 = k)) = vs.any fun kv => decide (kv.1 = k)
  | _, _, .nil => rfl
  | _, _, .cons _ r => by simp only [List.any_cons, r.any]
theorem KR.repl {k : Key} {d : D} {v : V} (h : Rep K ρ H d v) : ∀ {ks : List (Key × D)} {vs : List (Key × V)}, KR K ρ H ks vs → KR K ρ H (ks.map fun kv => if kv.1 = k then (kv.1, d) else kv) (vs.map fun kv => if kv.1 = k then (kv.1, v) else kv)
  | _, _, .nil => .nil
  | _, _, @KR.cons _ _ _ j d' v' ks vs h' r => by
    simp only [List.map_cons]
    by_cases e : j = k
    · rw [if_pos e, if_pos e]; exact .cons h (r.repl h)
    · rw [if_neg e, if_neg e]; exact .cons h' (r.repl h)
theorem KR.snoc {k : Key} {d : D} {v : V} (h : Rep K ρ H d v) : ∀ {ks : List (Key × D)} {vs : List (Key × V)}, KR K ρ H ks vs → KR K ρ H (ks ++ [(k, d)]) (vs ++ [(k, v)])
  | _, _, .nil => .cons h .nil
  | _, _, .cons h' r => .cons h' (r.snoc h)
theorem KR.put {k : Key} {d : D} {v : V} {ks : List (Key × D)} {vs : List (Key × V)} (r : KR K ρ H ks vs) (h : Rep K ρ H d v) : KR K ρ H (putD ks k d) (putK vs k v) := by
  unfold putD putK
  rw [r.any]
  split
  · exact r.repl h
  · exact r.snoc h
theorem G.dct {S : Sto} {n : Nat} {a : Addr} {kvs : List (Key × D)} (g : G K ρ H S) (hn : ρ[n]? = some a) (e : S[n]? = some (.dct kvs)) : ∃ vs, H a = some (.dK vs) ∧ KR K ρ H kvs vs := by
  obtain ⟨u, h1, h2⟩ := (RepO.mut_iff rfl).mp (g.ob n a _ hn e)
  cases u with
  | dK vs => exact ⟨vs, h1, kr_of h2.1 h2.2⟩
  | _ => exact h2.elim
end
section
variable {X : Cx} {pos : Pos}
end
end Mini
end
section
namespace Mini
open PySem PySem.Spec PyProof.Rows L2
section
variable {P : Program} {w : World} {A : Around} {E : Value → Shared → Prop} {s : Shared} {a : Addr} {n : Nat}
set_option maxRecDepth 100000 in
set_option maxHeartbeats 3200000 in
theorem call_set_keysT {l : Addr} {items : Array Value} (ks : List Key) {Q : Value → Shared → Prop} (hh : A.handled = none) (hl : s.heap.IsTuple l items) (hit : KeysAre items.toList ks)
    (hb : ks.length + 1 < scanBound)
    (h : ∀ (h' : Heap) (tk c : Nat), SetX w h' s.heap.objs.size (fun j => decide (j ∈ ks)) c → c ≤ ks.length → (∀ b o, s.heap.get? b = some o → h'.get? b = some o) → Q (.ref s.heap.objs.size) { s with heap := h', toks := tk }) :
    wpAny (model P w) A (call (.type "set") [.ref l]) Q E s := by
  have hisz : items.size = ks.length := by
    have q := hit.length
    rw [Array.length_toList] at q
    exact q
  obtain ⟨c, tl, hmro⟩ := F.called_set.mro
  have hmade := F.called_set.made
  have hsub := F.called_set.sub
  refine wpAny_call (codeAny_of_tree ?_)
  show wpAny _ _ (callAny (.type "set") _) _ _ _
  refine wpAny_pure ⟨Code.quiet_builtin _ (by decide +kernel), codeAny_builtin F.entry_type_call ?_⟩
  rw [Around.under_plain (weight_type_call_type "set" [.ref l] []) rfl]
  have h1 := F.called_set.notType
  have h2 := F.called_set.canCreate
  have hct := F.typeCall_set_1 (.ref l)
  repeat (any_goals (first | assumption | wp_step))

  refine codeAny_mono (code_set_led1 (.ref l) (E := E) (Q₁ := fun obj s₁ => obj = .ref s.heap.objs.size ∧ s₁ = { s with heap := s.heap.push { cls := .type "set", dict := none, data := .set #[] 0 (.fresh 0 0 (!w.params.followText "set-order")) } }) ⟨rfl, rfl⟩) fun r s₁ hr => ?_
  cases r with
  | error e => exact hr
  | ok fl =>
    cases fl with
    | ret obj =>
      obtain ⟨rfl, rfl⟩ := hr
      have hS : (s.heap.push { cls := .type "set", dict := none, data := .set #[] 0 (.fresh 0 0 (!w.params.followText "set-order")) }).get? s.heap.objs.size = some { cls := .type "set", dict := none, data := .set #[] 0 (.fresh 0 0 (!w.params.followText "set-order")) } := Heap.get?_push_size _ rfl
      have hT : Shared.TypeIs { s with heap := s.heap.push { cls := .type "set", dict := none, data := .set #[] 0 (.fresh 0 0 (!w.params.followText "set-order")) } } (.ref s.heap.objs.size) "set" := ⟨_, hS, rfl⟩
      have hli := F.called_set.init.lookup
      have hbi := F.called_set.init.bind (.ref s.heap.objs.size)
      repeat (any_goals (first | assumption | wp_step))

      refine codeAny_mono (codeAny_call_builtin (R := wants (fun r s₂ => r = .none ∧ ∃ h' tk c, s₂ = { s with heap := h', toks := tk } ∧ SetX w h' s.heap.objs.size (fun j => decide (j ∈ ks)) c ∧ c ≤ ks.length ∧
          (∀ b o, s.heap.get? b = some o → h'.get? b = some o)) E) F.called_set.init.plain F.entry_set_init (check_set_init_1 hT ?_)) fun r₂ s₂ hr₂ => ?_
      · obtain ⟨ol, hol, hcl, nl, hdl⟩ := hl
        obtain ⟨ocls, odict, odata, oslots⟩ := ol
        simp only at hcl hdl
        subst hcl; subst hdl
        have hol' : (s.heap.push { cls := .type "set", dict := none, data := .set #[] 0 (.fresh 0 0 (!w.params.followText "set-order")) }).get? l = some { cls := .type "tuple", dict := odict, data := .seq items nl, slots := oslots } := Heap.get?_push_of_some _ hol
        have hsls := F.sub_tuple_set
        have hslf := F.sub_tuple_frozenset
        have hne : (Value.type "tuple" == Value.type "dict") = false := by decide
        have hl1 : (s.heap.push { cls := .type "set", dict := none, data := .set #[] 0 (.fresh 0 0 (!w.params.followText "set-order")) }).IsTuple l items := ⟨_, hol', rfl, nl, rfl⟩
        unfold Builtin.«set.__init__» noKeywords Builtin.Frozenset.updateFrom
        generalize hPI : pyIter = PI
        wp_walk
        subst hPI

        refine wpAny_pyIter_tuple hl1 ?_
        refine wpAny_bind (wpAny_runValue ?_)
        have hlS : l < s.heap.objs.size := Heap.lt_size hol
        have hh3 : A.in1.in1.in1.handled = none := by simp [hh]
        have hz1 : (s.heap.push { cls := .type "set", dict := none, data := .set #[] 0 (.fresh 0 0 (!w.params.followText "set-order")) }).objs.size = s.heap.objs.size + 1 := Heap.size_push ..
        have hneI : l ≠ (s.heap.push { cls := .type "set", dict := none, data := .set #[] 0 (.fresh 0 0 (!w.params.followText "set-order")) }).objs.size := by
          rw [Heap.size_push]; exact Nat.ne_of_lt (Nat.lt_succ_of_lt hlS)
        have hSf : s.heap.objs.size ∉ [(s.heap.push { cls := .type "set", dict := none, data := .set #[] 0 (.fresh 0 0 (!w.params.followText "set-order")) }).objs.size, l] := by
          rw [Heap.size_push]; simp only [List.mem_cons, List.mem_singleton, List.not_mem_nil, or_false, not_or]
          exact ⟨Nat.ne_of_lt (Nat.lt_succ_self _), Nat.ne_of_gt hlS⟩
        have hval : ∀ (i : Nat) (v : Value), items[i]? = some v → ∃ k, ks[i]? = some k ∧ keyIs k v = true := fun i v hv => hit.get (by rw [Array.getElem?_toList]; exact hv)
        refine set_update_keys ((Walks.tuple hh3 _ l hneI items).toS) s.heap.objs.size
          hSf ks hisz hb hval (items.size - 0) 0 _ (by omega) (Nat.zero_le _)
          ⟨⟨_, Heap.get?_push_size _ rfl, rfl, rfl⟩, (hl1.push _)⟩ ?hS0 ?hR
        case hS0 =>
          have hget : ((s.heap.push { cls := .type "set", dict := none, data := .set #[] 0 (.fresh 0 0 (!w.params.followText "set-order")) }).push { cls := .type "tuple_iterator", data := .fields #[.ref l, .int 0 0] }).get? s.heap.objs.size
              = some { cls := .type "set", dict := none, data := .set #[] 0 (.fresh 0 0 (!w.params.followText "set-order")) } := Heap.get?_push_of_some _ hS
          exact ⟨0, Nat.le_refl 0, setX_new_at hget⟩
        case hR =>
          intro s' c' hm hc' hS'
          obtain ⟨h', g2, d', tk', os'⟩ := s'
          have eg : g2 = s.gens := hm.gens
          have ed : d' = s.drawn := hm.drawn
          have eo : os' = s.os := hm.os
          subst eg; subst ed; subst eo
          show wpAny _ _ _ _ _ _
          refine wpAny_pure ?_
          show wpAny _ _ (ret Value.none) _ _ _
          rw [hisz] at hc'
          refine wpAny_pure ⟨rfl, h', tk', c', rfl, hS', hc', fun b o e => ?_⟩
          have hb0 : b < s.heap.objs.size := Heap.lt_size e
          have hb1 : b ≠ s.heap.objs.size := Nat.ne_of_lt hb0
          have hb2 : b ≠ (s.heap.push { cls := .type "set", dict := none, data := .set #[] 0 (.fresh 0 0 (!w.params.followText "set-order")) }).objs.size := by
            rw [Heap.size_push]; exact Nat.ne_of_lt (Nat.lt_succ_of_lt hb0)
          exact hm.heap b o (by simp only [List.mem_cons, List.mem_singleton, List.not_mem_nil, or_false, not_or]; exact ⟨hb1, hb2⟩) (Heap.get?_push_of_some _ (Heap.get?_push_of_some _ e))

      · cases r₂ with
        | error e => exact hr₂
        | ok fl₂ =>
          cases fl₂ with
          | ret r =>
            obtain ⟨rfl, h', tk, c', rfl, hS', hc', hk'⟩ := hr₂
            repeat (any_goals (first | assumption | wp_step))
            exact h _ _ _ hS' hc' hk'
          | _ => exact hr₂.elim
    | _ => exact hr.elim
end
end Mini
end
section
namespace Mini
open PySem PySem.Spec PyProof.Rows L2
section
variable {X : Cx} {pins : List (Addr × Obj)} {σ : L2.St} {H : Hp} {s : Shared} {l : Addr} {ks : List Key}
theorem set_any {A : Around} {E : Value → Shared → Prop} {Q : Value → Shared → Prop} (I : Inv X pins σ H s) (hA : A.handled = none) (hs : SqL X.K H l (ks.map kV) ∨ SqT X.K H l (ks.map kV)) (hb : ks.length + 1 < scanBound)
    (h : ∀ (h' : Heap) (tk c : Nat), SetX X.w h' s.heap.objs.size (fun j => decide (j ∈ ks)) c → c ≤ ks.length → (∀ b o, s.heap.get? b = some o → h'.get? b = some o) → Q (.ref s.heap.objs.size) { s with heap := h', toks := tk }) :
    wpAny (model X.prog X.w) A (call (.type "set") [.ref l]) Q E s := by
  rcases hs with hs | hs
  · obtain ⟨its, rv, pl, hz⟩ := I.list hs
    exact call_set_keys ks hA pl.isList (by simpa using keys_of_vals rv) hb h
  · obtain ⟨its, rv, pl, hz⟩ := I.tuple hs
    exact call_set_keysT ks hA pl (by simpa using keys_of_vals rv) hb h
end
def tSortSetA (K : PySem.W.Frag) (te : TE) : TE := fun σ H Q => te σ H fun x H1 => ∃ l, x = V.ref l ∧
  ((∃ ns : List Int, (SqL K H1 l (ns.map V.int) ∨ SqT K H1 l (ns.map V.int)) ∧ ns.length < 64 ∧ ∀ (ns' : List Int) (p : Addr), ns'.Pairwise (· < ·) → (∀ k, k ∈ ns' ↔ k ∈ ns) → H1 p = none → Q (.ref p) (upd H1 p (.lst (ns'.map V.int)))) ∨
   ∃ xs : List Str, (SqL K H1 l (xs.map V.str) ∨ SqT K H1 l (xs.map V.str)) ∧ xs.length < 64 ∧ ∀ (ys : List Str) (p : Addr), sortedS ys = true → ys.Nodup → (∀ x, x ∈ ys ↔ x ∈ xs) → H1 p = none → Q (.ref p) (upd H1 p (.lst (ys.map V.str))))
section
variable {X : Cx} {e : Expr} {te : TE} {p p2 pos pos2 : Pos}
theorem pe_sortSetA (hc : X.calm = true) (hg : Gl X "sorted") (hm : X.mg "sorted" = none) (hg2 : Gl X "set") (hm2 : X.mg "set" = none) (hb : bootBuiltins "sorted" = some (.builtin "sorted")) (hb2 : bootBuiltins "set" = some (.type "set")) (he : PE X e te)
    (n1 : starEach [e] X.env = (false, eval e X.env) :: starEach [] X.env := by rfl) (n2 : starEach [.Call (.Name "set" p2) [e] [] pos2] X.env = (false, eval (.Call (.Name "set" p2) [e] [] pos2) X.env) :: starEach [] X.env := by rfl) :
    PE X (.Call (.Name "sorted" p) [.Call (.Name "set" p2) [e] [] pos2] [] pos) (tSortSetA X.K te) := by
  refine ⟨fun pins s σ H Q I h => ?_⟩
  refine wpAny_Call_Name_kw (ld_blt I hg hm hb ?_)
  refine PyProof.Rows.callWith_builtin1 ?_ n2 (by rfl)
  rw [n2]
  show wpAny _ _ (spliced ((false, eval (.Call (.Name "set" p2) [e] [] pos2) X.env) :: backTo pos (starEach [] X.env))) _ _ s
  refine Calls.spliced_cons ?_
  refine wpAny_Call_Name_kw (ld_blt I hg2 hm2 hb2 ?_)
  refine PyProof.Rows.callWith_type1 ?_ n1 rfl
  rw [n1]
  show wpAny _ _ (spliced ((false, eval e X.env) :: backTo pos2 (starEach [] X.env))) _ _ s
  refine Calls.spliced_cons (thn (he.run pins s σ H _ I h) fun u s1 ⟨x, H1, I1, r1, l, ex, q⟩ => Calls.spliced_nil ?_)
  subst ex
  obtain rfl : u = Value.ref l := r1
  have hA := I1.ok.hd hc
  rcases q with ⟨ns, hs, hl, q⟩ | ⟨xs, hs, hl, q⟩
  · have ek : ns.map V.int = (ns.map (Sum.inl : Int → Key)).map kV := by rw [List.map_map]; rfl
    rw [ek] at hs
    refine set_any (ks := ns.map Sum.inl) I1 hA hs (by rw [List.length_map, show scanBound = 4096 from rfl]; omega) fun h' tk c R hcn hk => ?_
    refine Calls.spliced_nil ?_
    refine sorted_setI (s := { s1 with heap := h', toks := tk }) R (fun k hS => ?_) hA (by rw [List.length_map] at hcn; omega) fun s' pp out c' ss kp g1 o1 hp hget hi hpw hmem hlen => ?_
    · obtain ⟨i, _, e⟩ := List.mem_map.mp (of_decide_eq_true hS)
      exact ⟨i, e.symm⟩
    · have J := I1.laid (a := pp) (o := .lst (ss.map V.int)) (h' := s'.heap) (t' := s'.toks) (fun b u e => kp b u (hk b u e)) (Nat.le_trans (Nat.le_of_lt (setX_lt R)) hp) ⟨by rw [List.length_map, hlen]; exact Nat.le_of_lt (Nat.lt_of_le_of_lt hcn (by rw [List.length_map]; exact Nat.lt_trans hl (by decide))), out.toList, c', vals_of_ints hi, by simpa using hget⟩
      refine ⟨.ref pp, _, inv_eta J g1 o1, rfl, q ss pp hpw (fun k => ?_) (I1.hok.fresh (Nat.le_trans (Nat.le_of_lt (setX_lt R)) hp))⟩
      rw [hmem, decide_eq_true_eq, List.mem_map]
      exact ⟨fun ⟨y, hy, e⟩ => by cases e; exact hy, fun hy => ⟨k, hy, rfl⟩⟩
  · have ek : xs.map V.str = (xs.map (Sum.inr : Str → Key)).map kV := by rw [List.map_map]; rfl
    rw [ek] at hs
    refine set_any (ks := xs.map Sum.inr) I1 hA hs (by rw [List.length_map, show scanBound = 4096 from rfl]; omega) fun h' tk c R hcn hk => ?_
    refine Calls.spliced_nil ?_
    refine sorted_setS (s := { s1 with heap := h', toks := tk }) R (fun k hS => ?_) hA (by rw [List.length_map] at hcn; omega) fun s' pp out c' ss kp g1 o1 hp hget hi hpw hnd hmem hlen => ?_
    · obtain ⟨i, _, e⟩ := List.mem_map.mp (of_decide_eq_true hS)
      exact ⟨i, e.symm⟩
    · have J := I1.laid (a := pp) (o := .lst (ss.map V.str)) (h' := s'.heap) (t' := s'.toks) (fun b u e => kp b u (hk b u e)) (Nat.le_trans (Nat.le_of_lt (setX_lt R)) hp) ⟨by rw [List.length_map, hlen]; exact Nat.le_of_lt (Nat.lt_of_le_of_lt hcn (by rw [List.length_map]; exact Nat.lt_trans hl (by decide))), out.toList, c', vals_of_strs hi, by simpa using hget⟩
      refine ⟨.ref pp, _, inv_eta J g1 o1, rfl, q ss pp hpw hnd (fun k => ?_) (I1.hok.fresh (Nat.le_trans (Nat.le_of_lt (setX_lt R)) hp))⟩
      rw [hmem, decide_eq_true_eq, List.mem_map]
      exact ⟨fun ⟨y, hy, e⟩ => by cases e; exact hy, fun hy => ⟨k, hy, rfl⟩⟩
end
variable [Tabs]
def xSortSetA (a : XE) : XE := fun e S => match a e S with
  | some (x, S1) => match seqD x S1 with
    | some ds => if ds.length < 64 then match asInts ds with
        | some ns => some (.loc S1.length, S1 ++ [.lst ((usI ns).map D.int)])
        | none => match asStrs ds with
          | some xs => some (.loc S1.length, S1 ++ [.lst ((usS xs).map D.str)])
          | none => none
      else none
    | none => none
  | _ => none
theorem seqD_rep {K : PySem.W.Frag} {ρ : List Addr} {H : Hp} {S : Sto} {x : D} {ds : List D} {v : V} (g : G K ρ H S) (e : seqD x S = some ds) (h : Rep K ρ H x v) : ∃ (a : Addr) (vs : List V), v = V.ref a ∧ (SqL K H a vs ∨ SqT K H a vs) ∧ Reps K ρ H ds vs := by
  unfold seqD at e
  split at e
  · cases h with
    | loc hn =>
      obtain ⟨vs, hs, hr⟩ := g.lst hn e
      exact ⟨_, vs, rfl, .inl hs, hr⟩
  · cases e
    cases h with
    | tup hs hr => exact ⟨_, _, rfl, .inr hs, hr⟩
  · cases e
theorem r_sortSetA {X : Cx} {e : Expr} {a : XE} {p p2 pos pos2 : Pos} (hc : X.calm = true) (hg : Gl X "sorted") (hm : X.mg "sorted" = none) (hg2 : Gl X "set") (hm2 : X.mg "set" = none) (hb : bootBuiltins "sorted" = some (.builtin "sorted")) (hb2 : bootBuiltins "set" = some (.type "set")) (he : PE X e (rE X.K a))
    (n1 : starEach [e] X.env = (false, eval e X.env) :: starEach [] X.env := by rfl) (n2 : starEach [.Call (.Name "set" p2) [e] [] pos2] X.env = (false, eval (.Call (.Name "set" p2) [e] [] pos2) X.env) :: starEach [] X.env := by rfl) :
    PE X (.Call (.Name "sorted" p) [.Call (.Name "set" p2) [e] [] pos2] [] pos) (rE X.K (xSortSetA a)) := by
  refine PE.imp (pe_sortSetA hc hg hm hg2 hm2 hb hb2 he n1 n2) fun σ H Q ⟨ρ, en, S, d, S', re, g, h, k⟩ => ?_
  unfold xSortSetA at h
  split at h
  rotate_left
  · cases h
  rename_i x S1 ea
  split at h
  rotate_left
  · cases h
  rename_i ds el
  split at h
  rotate_left
  · cases h
  rename_i hl
  refine ⟨ρ, en, S, _, S1, re, g, ea, fun ρ1 H1 v x1 g1 hv => ?_⟩
  obtain ⟨aa, vs, rfl, hs, hr⟩ := seqD_rep g1 el hv
  refine ⟨_, rfl, ?_⟩
  split at h
  · rename_i ns ei
    cases h
    have ev := reps_asInts ei hr
    subst ev
    have e1 := hr.length
    rw [List.length_map] at e1
    refine .inl ⟨ns, hs, by rw [← e1]; exact hl, fun ns' p h1 h2 hp => ?_⟩
    rw [usI_is h1 h2]
    obtain ⟨x2, g2, r2⟩ := lst_new g1 (reps_ints (usI ns)) hp
    exact k _ _ _ (x1.trans x2) g2 r2
  · split at h
    · rename_i xs es
      cases h
      have ev := reps_asStrs es hr
      subst ev
      have e1 := hr.length
      rw [List.length_map] at e1
      refine .inr ⟨xs, hs, by rw [← e1]; exact hl, fun ys p h1 h2 h3 hp => ?_⟩
      rw [usS_is h1 h2 h3]
      obtain ⟨x2, g2, r2⟩ := lst_new g1 (reps_strs (usS xs)) hp
      exact k _ _ _ (x1.trans x2) g2 r2
    · cases h
end Mini
end
section
namespace Mini
open PySem PySem.Spec PyProof.Rows L2
abbrev NK (h : Heap) (k : NestedKey) (b : Addr) : Prop := NestedIs h k (.ref b) ∧ k.depth ≤ 8
abbrev kh (w : World) (k : NestedKey) : Int := NestedKey.hash w k
theorem NK.ty {s : Shared} {k : NestedKey} {b : Addr} (x : NK s.heap k b) : s.TypeIs (.ref b) "tuple" := by
  obtain ⟨x, _⟩ := x
  cases x with
  | tup e c d r => exact ⟨_, e, c⟩
theorem NK.keep {h h' : Heap} {k : NestedKey} {b : Addr} (x : NK h k b) (m : ∀ c o, h.get? c = some o → h'.get? c = some o) : NK h' k b :=
  ⟨NestedIs.at (fun c o _ _ e _ => m c o e) k _ x.1, x.2⟩
theorem NK.same {h h' : Heap} {k : NestedKey} {a b : Addr} {o : Obj} {es : Array (Int × Value)} {ep : Nat} {t : SetTable} (x : NK h k b) (e : h.get? a = some o) (d : o.data = .set es ep t) (m : Heap.SameBut a h h') : NK h' k b :=
  ⟨NestedIs.at (fun c q vs n e2 d2 => (m.2 c fun z => by rw [z, e] at e2; cases e2; rw [d] at d2; cases d2).trans e2) k _ x.1, x.2⟩
section
variable {P : Program} {w : World}
def Plain8 (P : Program) (w : World) (n : Nat) (s : Shared) (v : Value) : Prop := ∀ (A : Around) (E : Value → Shared → Prop) (Q : Bool → Shared → Prop), Q false s → wpAny (model P w) A (ofAClassStatement n v) Q E s
theorem plain8_tup {n m : Nat} {s : Shared} {a : Addr} {o : Obj} {vs : Array Value} (e : s.heap.get? a = some o) (c : o.cls = .type "tuple") (d : o.data = .seq vs m) (all : ∀ v ∈ vs.toList, Plain8 P w n s v) : Plain8 P w (n + 1) s (.ref a) := fun A E Q h => by
  unfold ofAClassStatement
  refine wpAny_bind (wpAny_typeOf ⟨o, e, c⟩ ?_)
  dsimp only
  have tt : (("tuple" : String) == "tuple") = true := by decide
  simp only [tt, if_true, Bool.not_true, Bool.false_eq_true, if_false]
  try refine wpAny_bind (wpAny_pure ?_)
  try simp only [Bool.not_true, Bool.false_eq_true, if_false]
  show wpAny _ _ (seqItems? (.ref a) >>= _) Q E s
  refine wpAny_bind (wpAny_seqItems e d ?_)
  dsimp only
  refine wpAny_bind ?_
  show wpAny _ _ (forIn vs _ _) _ E s
  rw [← Array.forIn_toList]
  refine wpAny_forIn_list _ (fun l r s2 => r.1 = none ∧ s2 = s ∧ ∀ v ∈ l, Plain8 P w n s v) _ ?_ ?_ _ _ ⟨rfl, rfl, all⟩
  · rintro v l r s2 ⟨r0, rfl, al⟩
    refine wpAny_bind (al v List.mem_cons_self _ _ _ ?_)
    simp only [Bool.false_eq_true, if_false]
    exact wpAny_pure ⟨rfl, rfl, fun u z => al u (List.mem_cons_of_mem _ z)⟩
  · rintro ⟨r1, r2⟩ s2 ⟨r0, rfl, _⟩
    simp only at r0
    subst r0
    exact wpAny_pure h
mutual
theorem plain8_key : ∀ (k : NestedKey) (v : Value) (n : Nat) (s : Shared), NestedIs s.heap k v → k.depth ≤ n → Plain8 P w n s v
  | .none, _, n, s, x, _ => by cases x; exact fun A E Q h => by cases n <;> exact wpAny_pure h
  | .num i, _, n, s, x, _ => by cases x <;> exact fun A E Q h => by cases n <;> exact wpAny_pure h
  | .text y, _, n, s, x, _ => by cases x; exact fun A E Q h => by cases n <;> exact wpAny_pure h
  | .tup ks, _, n, s, x, hn => by
    cases x with
    | tup e c d r =>
      simp only [NestedKey.depth] at hn
      cases n with
      | zero => omega
      | succ n => exact plain8_tup e c d (plain8_keys ks _ n s r (by omega))
theorem plain8_keys : ∀ (ks : List NestedKey) (vs : List Value) (n : Nat) (s : Shared), NestedAll s.heap ks vs → NestedKey.depthAll ks ≤ n → ∀ v ∈ vs, Plain8 P w n s v
  | [], _, n, s, x, _, v, z => by cases x; cases z
  | k :: ks, _, n, s, x, hn, v, z => by
    cases x with
    | cons x1 x2 =>
      simp only [NestedKey.depthAll] at hn
      rcases List.mem_cons.mp z with e | z
      · rw [e]; exact plain8_key k _ n s x1 (by omega)
      · exact plain8_keys ks _ n s x2 (by omega) v z
end
def Told8 (P : Program) (w : World) (n : Nat) (s : Shared) (v : Value) : Prop := ∀ (A : Around) (E : Value → Shared → Prop) (Q : Bool → Shared → Prop), (∀ b, Q b s) → wpAny (model P w) A (hashByValue n v) Q E s
theorem told8_tup {n m : Nat} {s : Shared} {a : Addr} {o : Obj} {vs : Array Value} (e : s.heap.get? a = some o) (c : o.cls = .type "tuple") (d : o.data = .seq vs m) (all : ∀ v ∈ vs.toList, Told8 P w n s v) : Told8 P w (n + 1) s (.ref a) := fun A E Q h => by
  have ti : s.TypeIs (.ref a) "tuple" := ⟨o, e, c⟩
  unfold hashByValue
  refine wpAny_bind (wpAny_specialOf ti F.slot_tuple_hash.lookup ?_)
  show wpAny _ _ (seqItems? (.ref a) >>= _) Q E s
  refine wpAny_bind (wpAny_seqItems e d ?_)
  refine wpAny_bind ?_
  show wpAny _ _ (forIn vs _ _) _ E s
  rw [← Array.forIn_toList]
  refine wpAny_forIn_list _ (fun l r s2 => s2 = s ∧ ∀ v ∈ l, Told8 P w n s v) _ ?_ ?_ _ _ ⟨rfl, all⟩
  · rintro v l r s2 ⟨rfl, al⟩
    refine wpAny_bind (al v List.mem_cons_self _ _ _ fun b => ?_)
    cases b
    · simp only [Bool.not_false, if_true]
      exact wpAny_pure (wpAny_pure (h _))
    · simp only [Bool.not_true, Bool.false_eq_true, if_false]
      exact wpAny_pure ⟨rfl, fun u z => al u (List.mem_cons_of_mem _ z)⟩
  · rintro ⟨r1, r2⟩ s2 ⟨rfl, _⟩
    cases r1
    · exact wpAny_pure (h _)
    · exact wpAny_pure (h _)
mutual
theorem told8_key : ∀ (k : NestedKey) (v : Value) (n : Nat) (s : Shared), NestedIs s.heap k v → k.depth ≤ n → Told8 P w n s v
  | .none, _, n, s, x, _ => by cases x; exact fun A E Q h => by cases n <;> exact wpAny_pure (h _)
  | .num i, _, n, s, x, _ => by cases x <;> exact fun A E Q h => by cases n <;> exact wpAny_pure (h _)
  | .text y, _, n, s, x, _ => by cases x; exact fun A E Q h => by cases n <;> exact wpAny_pure (h _)
  | .tup ks, _, n, s, x, hn => by
    cases x with
    | tup e c d r =>
      simp only [NestedKey.depth] at hn
      cases n with
      | zero => omega
      | succ n => exact told8_tup e c d (told8_keys ks _ n s r (by omega))
theorem told8_keys : ∀ (ks : List NestedKey) (vs : List Value) (n : Nat) (s : Shared), NestedAll s.heap ks vs → NestedKey.depthAll ks ≤ n → ∀ v ∈ vs, Told8 P w n s v
  | [], _, n, s, x, _, v, z => by cases x; cases z
  | k :: ks, _, n, s, x, hn, v, z => by
    cases x with
    | cons x1 x2 =>
      simp only [NestedKey.depthAll] at hn
      rcases List.mem_cons.mp z with e | z
      · rw [e]; exact told8_key k _ n s x1 (by omega)
      · exact told8_keys ks _ n s x2 (by omega) v z
end
end
section
variable {P : Program} {w : World} {A : Around} {E : Value → Shared → Prop} {s : Shared}
theorem seenK {k : NestedKey} {b : Addr} {Q : Bool → Shared → Prop} (x : NK s.heap k b) {ys : List Value} (hy : ∀ y ∈ ys, ∃ j c, y = Value.ref c ∧ NK s.heap j c) (h : Q false s) :
    wpAny (model P w) A (searchCouldBeSeen (.ref b) ys) Q E s := by
  unfold searchCouldBeSeen
  refine wpAny_bind ?_
  refine wpAny_forIn_list _ (fun l r s2 => r.1 = none ∧ s2 = s ∧ ∀ y ∈ l, ∃ j c, y = Value.ref c ∧ NK s.heap j c) _ ?_ ?_ _ _ ⟨rfl, rfl, hy⟩
  · rintro v l r s2 ⟨r0, rfl, al⟩
    obtain ⟨j, c, rfl, y⟩ := al v List.mem_cons_self
    have al2 : ∀ y ∈ l, ∃ j c, y = Value.ref c ∧ NK s2.heap j c := fun u z => al u (List.mem_cons_of_mem _ z)
    dsimp only
    by_cases hv : (b == c || (carriedByValue (.ref b) && carriedByValue (.ref c))) = true
    · exact wp_if_pos hv (wpAny_pure ⟨rfl, rfl, al2⟩)
    · refine wp_if_neg hv (wpAny_bind (quiet_key k _ 8 s2 x.1 x.2 _ _ _ ?_))
      simp only [Bool.not_true, Bool.false_eq_true, if_false]
      refine wpAny_bind (quiet_key j _ 8 s2 y.1 y.2 _ _ _ ?_)
      simp only [Bool.not_true, Bool.false_eq_true, if_false]
      refine wpAny_bind (plain8_key k _ 8 s2 x.1 x.2 _ _ _ ?_)
      simp only [Bool.false_eq_true, if_false]
      refine wpAny_bind (plain8_key j _ 8 s2 y.1 y.2 _ _ _ ?_)
      simp only [Bool.false_eq_true, if_false]
      exact wpAny_pure ⟨rfl, rfl, al2⟩
  · rintro ⟨r1, r2⟩ s2 ⟨r0, rfl, _⟩
    simp only at r0
    subst r0
    exact wpAny_pure h
end
abbrev KRow := Addr × NestedKey
def krow (w : World) (p : KRow) : Int × Value := (kh w p.2, Value.ref p.1)
structure SetK (w : World) (h : Heap) (a : Addr) (L : List KRow) (es : Array (Int × Value)) (ep : Nat) (t : SetTable) : Prop where
  ob : ∃ o, h.get? a = some o ∧ o.ExactSet ∧ o.data = .set es ep t
  rows : es.toList = L.map (krow w)
  tab : TabOk t (L.map fun p => kh w p.2)
  nd : (L.map (·.2)).Nodup
  tup : ∀ p ∈ L, NK h p.2 p.1
  led : w.params.followText "set-order" = true ∨ t.led = true
  room : L.length * 5 < t.mask * 3
  few : L.length ≤ 76
section
variable {P : Program} {w : World} {A : Around} {E : Value → Shared → Prop} {s : Shared} {a : Addr} {L : List KRow} {es : Array (Int × Value)} {ep : Nat} {t : SetTable}
theorem len_of_rows (e : es.toList = L.map (krow w)) : es.size = L.length := by
  rw [← Array.length_toList, e, List.length_map]
theorem fits_of_tab (T : TabOk t (L.map fun p => kh w p.2)) (e : es.size = L.length) (r : L.length ≤ t.mask) : t.fits es.size = true := by
  have z := T.sz
  rw [List.length_map] at z
  unfold SetTable.fits SetTable.fill
  rw [T.dm, Bool.and_eq_true, beq_iff_eq, decide_eq_true_eq]
  show t.place.size = es.size ∧ t.place.size + 0 ≤ t.mask
  omega
theorem SetK.fits (Z : SetK w s.heap a L es ep t) : t.fits es.size = true := fits_of_tab Z.tab (len_of_rows Z.rows) (by have := Z.room; omega)
theorem SetK.entry (Z : SetK w s.heap a L es ep t) {i : Nat} {p : KRow} (h : L[i]? = some p) : es[i]? = some (krow w p) := by
  rw [← Array.getElem?_toList, Z.rows, List.getElem?_map, h]; rfl
theorem SetK.gw (Z : SetK w s.heap a L es ep t) : ¬ t.gaveWay = true := by
  unfold SetTable.gaveWay
  rw [mask_odd Z.tab.mok]
  decide
theorem searchK (Z : SetK w s.heap a L es ep t) {x : Addr} {k : NestedKey} (hx : NK s.heap k x) (hu : A.units + 8 < cLine) {K : Nat} (hKf : K < 10 * SetTable.turns t.mask)
    (hK : way t.mask (kh w k) K ∉ t.place.toList) (hKb : ∀ c, c < K → way t.mask (kh w k) c ∈ t.place.toList) {Q : SetFound → Shared → Prop}
    (hin : k ∈ L.map (·.2) → Q (.there none) s) (hout : k ∉ L.map (·.2) → Q (.free (way t.mask (kh w k) K) false) s) :
    ∀ (f c : Nat) (st : Option SetTable.Probe), st.getD (t.probeStart (kh w k)) = nth t.mask (runAt t.mask (SetTable.bits (kh w k) % (t.mask + 1)) (SetTable.bits (kh w k))) c → c ≤ K → K - c < f →
      (∀ (i : Nat) p, L[i]? = some p → p.2 = k → ∃ c', c ≤ c' ∧ c' < K ∧ t.place.toList[i]? = some (way t.mask (kh w k) c')) →
      wpAny (model P w) A (setSearchFrom a (.ref x) (kh w k) true f st) Q E s
  | 0, c, st, _, _, hf, _ => absurd hf (Nat.not_lt_zero _)
  | f + 1, c, st, hst, hc, hf, hre => by
    obtain ⟨o, go, ex, gd⟩ := Z.ob
    rw [setSearchFrom_succ]
    refine wpAny_bind (wpAny_setState_of go gd Z.fits ?_)
    dsimp only
    refine wp_if_neg Z.gw ?_
    try refine wpAny_bind (wpAny_pure ?_)
    generalize hp0 : runAt t.mask (SetTable.bits (kh w k) % (t.mask + 1)) (SetTable.bits (kh w k)) = p0 at hst
    have wy : ∀ q, way t.mask (kh w k) q = (nth t.mask p0 q).j := fun q => by rw [← hp0]
    have nodm : (nth t.mask p0 c).dummy = none := by
      have key : ∀ (n : Nat) (p : SetTable.Probe), p.dummy = none → (nth t.mask p n).dummy = none := by
        intro n
        induction n with
        | zero => exact fun p h => h
        | succ n ih => exact fun p h => ih (adv t.mask p) (by unfold adv; split <;> exact h)
      exact key c _ (by rw [← hp0]; rfl)
    have e1 : ∀ q, (nth t.mask (nth t.mask p0 c) q).j = way t.mask (kh w k) (c + q) := fun q => by rw [wy, nth_add]
    have spec := go_spec t Z.tab.ris Z.tab.dm (fun i => (es[i]?.map (·.1)).getD 0) (kh w k) (10 * SetTable.turns t.mask) (K - c) (nth t.mask p0 c) nodm (by omega)
      (fun q hq => by rw [e1]; exact hKb (c + q) (by omega)) (by rw [e1, show c + (K - c) = K by omega]; exact hK)
    have hat : ∀ (i : Nat) p, L[i]? = some p → (fun i => (es[i]?.map (·.1)).getD 0) i = kh w p.2 := fun i p hp => by
      show (es[i]?.map (·.1)).getD 0 = _
      rw [Z.entry hp]; rfl
    rcases spec with ⟨q, i, hq, hi, hh, hno, hpr⟩ | ⟨hno, hpr⟩
    · have pr : t.probe (fun i => (es[i]?.map (·.1)).getD 0) (kh w k) (st.getD (t.probeStart (kh w k))) = some (.candidate (way t.mask (kh w k) (c + q)) i (nth t.mask p0 (c + (q + 1)))) := by
        rw [hst, ← e1, nth_add]
        exact hpr
      rw [pr]
      dsimp only
      rw [e1] at hi
      have il : i < L.length := by
        have h1 : i < t.place.toList.length := (List.getElem?_eq_some_iff.mp hi).1
        have h2 := Z.tab.sz
        rw [List.length_map] at h2
        rw [Array.length_toList] at h1
        omega
      have hp : L[i]? = some L[i] := List.getElem?_eq_getElem il
      generalize L[i] = p at hp
      have pm : p ∈ L := List.mem_of_getElem? hp
      have pt := Z.tup p pm
      have rest : wpAny (model P w) A (searchRest a (.ref x) (kh w k) true f es t (way t.mask (kh w k) (c + q)) i (nth t.mask p0 (c + (q + 1)))) Q E s := by
        unfold searchRest
        rw [Z.entry hp]
        unfold krow
        dsimp only
        refine wpAny_bind (wpAny_holding (eqAt_key p.2 k A s _ _ pt.1 hx.1 (by have := pt.2; omega) _ _ _ _ ?_))
        refine wpAny_bind (wpAny_setState_of go gd Z.fits ?_)
        dsimp only
        rw [← NestedKey.decide_eq]
        by_cases kk : p.2 = k
        · refine wp_if_pos (by simp [kk]) (wpAny_pure (hin ?_))
          exact List.mem_map.mpr ⟨p, pm, kk⟩
        · refine wp_if_neg (by simp [kk]) ?_
          try refine wpAny_bind (wpAny_pure ?_)
          rw [sameMem]
          dsimp only
          have sl : t.slot (way t.mask (kh w k) (c + q)) = .live i := slot_live Z.tab.ris hi
          have en := Z.entry hp
          unfold krow at en
          simp only [if_true, sl, en]
          refine wpAny_bind (wpAny_isSame_ref_self (wpAny_bind (wpAny_pure ?_)))
          simp only [if_true]
          refine wp_if_neg (by simp [kk]) ?_
          refine searchK Z hx hu hKf hK hKb hin hout f (c + (q + 1)) _ (by rw [hp0]; rfl) (by omega) (by omega) fun i0 q0 h0 k0 => ?_
          obtain ⟨c', a1, a2, a3⟩ := hre i0 q0 h0 k0
          refine ⟨c', ?_, a2, a3⟩
          rcases Nat.lt_trichotomy c' (c + q) with z | z | z
          · exact absurd ((hat i0 q0 h0).trans (congrArg (kh w) k0)) (hno (c' - c) i0 (by omega) (by rw [e1, show c + (c' - c) = c' by omega]; exact a3))
          · exfalso
            rw [z] at a3
            have s0 := slot_live Z.tab.ris a3
            rw [sl] at s0
            injection s0 with s0
            rw [← s0, hp] at h0
            exact kk ((congrArg Prod.snd (Option.some.inj h0)).trans k0)
          · omega
      by_cases hl : t.led = true
      · refine wp_if_neg (by simp [hl]) ?_
        try refine wpAny_bind (wpAny_pure ?_)
        exact rest
      · refine wp_if_pos (by simp [hl]) ?_
        refine wpAny_bind (seenK hx (fun y hy => ?_) ?_)
        · obtain ⟨e, he, rfl⟩ := List.mem_map.mp hy
          have h1 : e ∈ es ∧ e.1 = kh w k := by simpa using he
          have h2 : e ∈ es.toList := by simpa using h1.1
          rw [Z.rows] at h2
          obtain ⟨p2, m2, rfl⟩ := List.mem_map.mp h2
          exact ⟨p2.2, p2.1, rfl, Z.tup p2 m2⟩
        · refine wp_if_neg (by decide) ?_
          try refine wpAny_bind (wpAny_pure ?_)
          exact rest
    · have pr : t.probe (fun i => (es[i]?.map (·.1)).getD 0) (kh w k) (st.getD (t.probeStart (kh w k))) = some (.empty (way t.mask (kh w k) K) none) := by
        have e2 : way t.mask (kh w k) K = (nth t.mask (nth t.mask p0 c) (K - c)).j := by
          rw [e1, show c + (K - c) = K by omega]
        rw [hst, e2]
        exact hpr
      rw [pr]
      dsimp only
      refine wpAny_pure (hout fun hm => ?_)
      obtain ⟨q0, h0, k0⟩ := List.mem_map.mp hm
      obtain ⟨i0, i1, e0⟩ := List.getElem_of_mem h0
      have h00 : L[i0]? = some q0 := by rw [List.getElem?_eq_getElem i1, e0]
      obtain ⟨c', a1, a2, a3⟩ := hre i0 q0 h00 k0
      exact hno (c' - c) i0 (by omega) (by rw [e1, show c + (c' - c) = c' by omega]; exact a3) ((hat i0 q0 h00).trans (congrArg (kh w) k0))
theorem searchK_at (Z : SetK w s.heap a L es ep t) {x : Addr} {k : NestedKey} (hx : NK s.heap k x) (hu : A.units + 8 < cLine) {Q : SetFound → Shared → Prop}
    (hin : k ∈ L.map (·.2) → Q (.there none) s)
    (hout : ∀ K, k ∉ L.map (·.2) → way t.mask (kh w k) K ∉ t.place.toList → (∀ c, c < K → way t.mask (kh w k) c ∈ t.place.toList) → Q (.free (way t.mask (kh w k) K) false) s) :
    wpAny (model P w) A (setSearch a (.ref x) (kh w k) true) Q E s := by
  have rm := Z.room
  obtain ⟨K, kf, kn, kb⟩ := Z.tab.first (by rw [List.length_map]; omega) (kh w k)
  have big : K < 100000 := by
    have : 10 * SetTable.turns t.mask ≤ 1420 := by
      unfold SetTable.turns
      rcases Z.tab.mok with e | e | e <;> omega
    omega
  unfold setSearch
  refine searchK Z hx hu kf kn kb hin (fun hn => hout K hn kn kb) 100000 0 none rfl (Nat.zero_le _) (by omega) fun i p hp pk => ?_
  have hi : (L.map fun p => kh w p.2)[i]? = some (kh w k) := by rw [List.getElem?_map, hp, ← pk]; rfl
  have il : i < t.place.toList.length := by
    have h1 : i < L.length := (List.getElem?_eq_some_iff.mp hp).1
    have h2 := Z.tab.sz
    rw [List.length_map] at h2
    rw [Array.length_toList]
    omega
  have pj := List.getElem?_eq_getElem il
  obtain ⟨c, cK, e⟩ := Z.tab.before kn hi pj
  exact ⟨c, Nat.zero_le _, cK, by rw [pj, e]⟩
theorem rows_order (order : Array Nat) (e : es.toList = L.map (krow w)) (hp : order.toList.Perm (List.range L.length)) :
    ∃ L2 : List KRow, (order.filterMap (es[·]?)).toList = L2.map (krow w) ∧ L2.Perm L ∧ (L2.map fun p => kh w p.2) = order.toList.map fun i => (es.map (·.1)).getD i 0 := by
  have ent : ∀ i (h : i < L.length), es[i]? = some (krow w L[i]) := fun i h => by
    rw [← Array.getElem?_toList, e, List.getElem?_map, List.getElem?_eq_getElem h]; rfl
  have key : ∀ l : List Nat, (∀ i ∈ l, i < L.length) → l.filterMap (fun i => es[i]?) = (l.filterMap fun i => L[i]?).map (krow w) ∧ ((l.filterMap fun i => L[i]?).map fun p => kh w p.2) = l.map fun i => (es.map (·.1)).getD i 0 := by
    intro l
    induction l with
    | nil => exact fun _ => ⟨rfl, rfl⟩
    | cons i l ih =>
      intro hl
      have hi := hl i List.mem_cons_self
      obtain ⟨h1, h2⟩ := ih fun j z => hl j (List.mem_cons_of_mem _ z)
      rw [List.filterMap_cons_some (ent i hi), List.filterMap_cons_some (List.getElem?_eq_getElem hi), h1, List.map_cons, List.map_cons, h2, List.map_cons]
      refine ⟨rfl, ?_⟩
      have : (es.map (·.1))[i]? = some (kh w L[i].2) := by rw [Array.getElem?_map, ent i hi]; rfl
      simp [Array.getD_eq_getD_getElem?, this]
  obtain ⟨h1, h2⟩ := key order.toList fun i hi => List.mem_range.mp (hp.mem_iff.mp hi)
  refine ⟨order.toList.filterMap fun i => L[i]?, by first | (rw [Array.toList_filterMap]; exact h1) | simpa using h1, ?_, h2⟩
  have full : ∀ n, n ≤ L.length → (List.range n).filterMap (fun i => L[i]?) = L.take n := by
    intro n
    induction n with
    | zero => exact fun _ => rfl
    | succ n ih =>
      intro hn
      rw [List.range_succ, List.filterMap_append, ih (by omega), List.take_succ, List.getElem?_eq_getElem hn, List.filterMap_cons_some (List.getElem?_eq_getElem hn)]
      rfl
  have := hp.filterMap fun i => L[i]?
  rw [full _ (Nat.le_refl _), List.take_length] at this
  exact this
theorem relayK {o : Obj} (go : s.heap.get? a = some o) (ex : o.ExactSet) (gd : o.data = .set es ep t) (er : es.toList = L.map (krow w)) (T : TabOk t (L.map fun p => kh w p.2)) (fl : L.length ≤ t.mask)
    (nd : (L.map (·.2)).Nodup) (tu : ∀ p ∈ L, NK s.heap p.2 p.1) (ld : w.params.followText "set-order" = true ∨ t.led = true) (few : L.length ≤ 76) {wanted M : Nat}
    (hw : SetTable.sizeAbove wanted - 1 = M) (hM : MaskOk M) (hw2 : SetTable.sizeAbove wanted ≤ 128) (hn : L.length * 5 < M * 3) {Q : Unit → Shared → Prop}
    (hQ : ∀ h' L' es' ep' t', Heap.SameBut a s.heap h' → SetK w h' a L' es' ep' t' → L'.Perm L → Q () { s with heap := h' }) : wpAny (model P w) A (setRelay a wanted) Q E s := by
  have sl := len_of_rows er
  have ft := fits_of_tab T sl fl
  obtain ⟨t2, order, e, hp, T2, em, el, ep2, ed⟩ := relaid_ok t (hs := es.map (·.1)) (wanted := wanted) hw hM (by rw [Array.size_map, sl]; omega)
  rw [Array.size_map, sl] at hp
  obtain ⟨L2, r1, r2, r3⟩ := rows_order order er hp
  rw [← r3] at T2
  have s2 := len_of_rows r1
  rw [r2.length_eq] at s2
  rw [setRelay_eq]
  refine wpAny_bind (wpAny_setState_of go gd ft ?_)
  dsimp only
  refine wp_if_neg (by rw [sizeLine_eq]; omega) ?_
  try refine wpAny_bind (wpAny_pure ?_)
  rw [e]
  dsimp only
  refine wpAny_bind (wp_if_neg (by rw [s2, sl]; simp) ?_)
  try refine wpAny_bind (wpAny_pure ?_)
  refine wpAny_pure ?_
  dsimp only
  refine wpAny_storeSet_of go gd ?_ (by rw [s2, sizeLine_eq]; omega)
  have sb : Heap.SameBut a s.heap (s.heap.update a (Obj.putSet (order.filterMap (es[·]?)) t2)) := Heap.SameBut.update ..
  refine hQ _ L2 (order.filterMap (es[·]?)) (ep + 1) t2 sb ⟨⟨_, store_at go gd, ⟨ex.1, ex.2.1, ex.2.2⟩, rfl⟩, r1, T2, (r2.map (·.2)).nodup_iff.mpr nd, fun p z => (tu p (r2.mem_iff.mp z)).same go gd sb, by rw [el]; exact ld, ?_, by rw [r2.length_eq]; exact few⟩ r2
  rw [r2.length_eq, em]
  exact hn
theorem tabOk_plain {hs : List Int} (T : TabOk t hs) : TabOk { t with plain := false } hs := ⟨T.ris, T.dm, T.sz, T.mok, T.bd, T.reach⟩
theorem addK (Z : SetK w s.heap a L es ep t) {x : Addr} {k : NestedKey} (hx : NK s.heap k x) (hu : A.units + 8 < cLine) (hfew : k ∉ L.map (·.2) → L.length + 1 ≤ 76) {Q : Bool → Shared → Prop}
    (hQ : ∀ b h' L' es' ep' t', Heap.SameBut a s.heap h' → SetK w h' a L' es' ep' t' → (k ∈ L.map (·.2) → L' = L) → (k ∉ L.map (·.2) → L'.Perm ((x, k) :: L)) → Q b { s with heap := h' }) :
    wpAny (model P w) A (setAddHashed a (.ref x) (kh w k)) Q E s := by
  obtain ⟨o, go, ex, gd⟩ := Z.ob
  have sl := len_of_rows Z.rows
  have rm := Z.room
  unfold setAddHashed
  refine wpAny_holding ?_
  rw [show (100000 : Nat) = 99999 + 1 from rfl, setAddHashedIn_succ]
  refine wpAny_bind (wpAny_setState_of go gd Z.fits ?_)
  dsimp only
  refine wp_if_neg (by simp [byScan, Value.scannable]) ?_
  try refine wpAny_bind (wpAny_pure ?_)
  refine wpAny_bind (searchK_at Z hx hu (fun hm => ?_) fun K hm kn kb => ?_)
  · dsimp only
    exact wpAny_pure (hQ false s.heap L es ep t (Heap.SameBut.refl a s.heap) Z (fun _ => rfl) fun z => absurd hm z)
  · dsimp only
    have fw := hfew hm
    refine wpAny_bind (wpAny_setState_of go gd Z.fits ?_)
    dsimp only
    obtain ⟨q1, q2, q3, q4, q5, q6, q7, q8, q9⟩ := Z.tab.put kn kb
    generalize t.put (way t.mask (kh w k) K) = pt at q1 q3 q4 q5 q6 q7 q8 q9 ⊢
    obtain ⟨t1, p⟩ := pt
    dsimp only at q1 q3 q4 q5 q6 q7 q8 q9 ⊢
    subst q1
    -- whatever is told of its hash
    have go2 : ∀ t3 : SetTable, (t3 = t1 ∨ t3 = { t1 with plain := false }) → wpAny (model P w) A (do
        storeSet a (SetTable.insertAt es (SetTable.below t.place (way t.mask (kh w k) K)) (kh w k, Value.ref x)) t3
        if (!false && t3.tooFull) = true then do
            setRelay a (SetTable.grown (es.size + 1))
            pure true
          else pure true) Q E s := by
      intro t3 ht3
      have T3 : TabOk t3 ((L.map fun p => kh w p.2).take (SetTable.below t.place (way t.mask (kh w k) K)) ++ kh w k :: (L.map fun p => kh w p.2).drop (SetTable.below t.place (way t.mask (kh w k) K))) := by
        rcases ht3 with rfl | rfl
        · exact q3
        · exact tabOk_plain q3
      have m3 : t3.mask = t.mask := by rcases ht3 with rfl | rfl <;> exact q4
      have l3 : t3.led = t.led := by rcases ht3 with rfl | rfl <;> exact q5
      have f3 : t3.fill = (L.map fun p => kh w p.2).length + 1 := by rcases ht3 with rfl | rfl <;> exact q9
      clear ht3 q3 q4 q5 q6 q7 q8 q9 t1
      have inr : (SetTable.insertAt es (SetTable.below t.place (way t.mask (kh w k) K)) (kh w k, Value.ref x)).toList = (L.take (SetTable.below t.place (way t.mask (kh w k) K)) ++ (x, k) :: L.drop (SetTable.below t.place (way t.mask (kh w k) K))).map (krow w) := by
        rw [SetTable.toList_insertAt, Z.rows, List.map_append, List.map_cons, List.map_take, List.map_drop]; rfl
      generalize SetTable.below t.place (way t.mask (kh w k) K) = p at q2 T3 inr ⊢
      have pm := put_perm L p (x, k)
      have ln : (L.take p ++ (x, k) :: L.drop p).length = L.length + 1 := pm.length_eq
      have hhs : (L.take p ++ (x, k) :: L.drop p).map (fun p => kh w p.2) = (L.map fun p => kh w p.2).take p ++ kh w k :: (L.map fun p => kh w p.2).drop p := by
        rw [List.map_append, List.map_cons, List.map_take, List.map_drop]
      rw [← hhs] at T3
      have nd1 : ((L.take p ++ (x, k) :: L.drop p).map (·.2)).Nodup := by
        refine (pm.map (·.2)).nodup_iff.mpr ?_
        rw [List.map_cons]
        exact List.nodup_cons.mpr ⟨hm, Z.nd⟩
      have s1 := len_of_rows inr
      rw [ln] at s1
      generalize SetTable.insertAt es p (kh w k, Value.ref x) = es1 at inr s1 ⊢
      generalize L.take p ++ (x, k) :: L.drop p = L1 at pm ln T3 nd1 inr
      refine wpAny_bind (wpAny_storeSet_of go gd ?_ (by rw [s1, sizeLine_eq]; omega))
      have sb : Heap.SameBut a s.heap (s.heap.update a (Obj.putSet es1 t3)) := Heap.SameBut.update ..
      have go1 := store_at (es' := es1) (t' := t3) go gd
      generalize s.heap.update a (Obj.putSet es1 t3) = h1 at sb go1 ⊢
      have tu1 : ∀ p ∈ L1, NK h1 p.2 p.1 := fun p hp => by
        rcases List.mem_cons.mp (pm.mem_iff.mp hp) with e | hp
        · rw [e]; exact hx.same go gd sb
        · exact (Z.tup p hp).same go gd sb
      have ld1 : w.params.followText "set-order" = true ∨ t3.led = true := by rw [l3]; exact Z.led
      by_cases hf : t3.tooFull = true
      · refine wp_if_pos (by simp [hf]) (wpAny_bind ?_)
        have full : (L.length + 1) * 5 ≥ t3.mask * 3 := by
          have h := hf
          unfold SetTable.tooFull at h
          rw [decide_eq_true_eq, f3, List.length_map] at h
          exact h
        rw [sl]
        have cs : (t.mask = 7 ∧ L.length = 4) ∨ (t.mask = 31 ∧ L.length = 18) := by
          rcases Z.tab.mok with e | e | e
          · left; rw [m3, e] at full; rw [e] at rm; exact ⟨e, by omega⟩
          · right; rw [m3, e] at full; rw [e] at rm; exact ⟨e, by omega⟩
          · exfalso; rw [m3, e] at full; omega
        have go3 : ∀ M, SetTable.sizeAbove (SetTable.grown (L.length + 1)) - 1 = M → MaskOk M → SetTable.sizeAbove (SetTable.grown (L.length + 1)) ≤ 128 → (L.length + 1) * 5 < M * 3 →
            wpAny (model P w) A (setRelay a (SetTable.grown (L.length + 1))) (fun _ s' => wpAny (model P w) A (pure true) Q E s') E { s with heap := h1 } := fun M z1 z2 z3 z4 =>
          relayK (s := { s with heap := h1 }) go1 ⟨ex.1, ex.2.1, ex.2.2⟩ rfl inr T3 (by rw [ln, m3]; rcases cs with ⟨e, e2⟩ | ⟨e, e2⟩ <;> omega) nd1 tu1 ld1 (by rw [ln]; exact fw) z1 z2 z3 (by rw [ln]; exact z4)
            fun h2 L2 es2 ep2 t2 sb2 R2 pm2 => wpAny_pure (hQ true h2 L2 es2 ep2 t2 (sb.trans sb2) R2 (fun z => absurd z hm) fun _ => pm2.trans pm)
        rcases cs with ⟨_, e2⟩ | ⟨_, e2⟩
        · exact go3 31 (by rw [e2, size_20]) (.inr (.inl rfl)) (by rw [e2, size_20]; decide) (by omega)
        · exact go3 127 (by rw [e2, size_76]) (.inr (.inr rfl)) (by rw [e2, size_76]; decide) (by omega)
      · refine wp_if_neg (by simp [hf]) ?_
        refine wpAny_pure (hQ true h1 L1 es1 (ep + 1) t3 sb ⟨⟨_, go1, ⟨ex.1, ex.2.1, ex.2.2⟩, rfl⟩, inr, T3, nd1, tu1, ld1, ?_, by rw [ln]; exact fw⟩ (fun z => absurd z hm) fun _ => pm)
        have h := hf
        unfold SetTable.tooFull at h
        rw [decide_eq_true_eq, f3, List.length_map] at h
        rw [ln]
        omega
    have told := told8_key (P := P) (w := w) k _ 8 s hx.1 hx.2
    by_cases hpl : t1.plain = true
    · first
        | (refine wpAny_bind ?_; refine wp_if_pos hpl ?_; refine told _ _ _ fun b => ?_)
        | refine wp_if_pos hpl (wpAny_bind (told _ _ _ fun b => ?_))
      cases b
      · simp only [Bool.false_eq_true, if_false]
        exact go2 _ (.inr rfl)
      · simp only [if_true]
        exact go2 _ (.inl rfl)
    · first
        | (refine wpAny_bind ?_; refine wp_if_neg hpl ?_; refine wpAny_pure ?_)
        | refine wp_if_neg hpl ?_
      try simp only [if_true]
      exact go2 _ (.inl rfl)
end
end Mini
end
section
namespace Mini
open PySem PySem.Spec PyProof.Rows L2
def dedK : List NestedKey → List NestedKey
  | [] => []
  | k :: r => if k ∈ r then dedK r else k :: dedK r
theorem mem_dedK {x : NestedKey} : ∀ {l : List NestedKey}, x ∈ dedK l ↔ x ∈ l
  | [] => Iff.rfl
  | k :: r => by
    unfold dedK
    split
    · rename_i h
      rw [mem_dedK, List.mem_cons]
      exact ⟨.inr, fun z => z.elim (fun e => e ▸ h) id⟩
    · rw [List.mem_cons, List.mem_cons, mem_dedK]
theorem nodup_dedK : ∀ {l : List NestedKey}, (dedK l).Nodup
  | [] => List.nodup_nil
  | k :: r => by
    unfold dedK
    split
    · exact nodup_dedK
    · rename_i h
      exact List.nodup_cons.mpr ⟨fun z => h (mem_dedK.mp z), nodup_dedK⟩
theorem len_sub {α : Type} : ∀ {l m : List α}, l.Nodup → (∀ x ∈ l, x ∈ m) → l.length ≤ m.length
  | [], _, _, _ => Nat.zero_le _
  | x :: l, m, nd, h => by
    obtain ⟨n1, n2⟩ := List.nodup_cons.mp nd
    obtain ⟨m1, m2, rfl⟩ := List.append_of_mem (h x List.mem_cons_self)
    have := len_sub (l := l) (m := m1 ++ m2) n2 fun y hy => by
      have q := h y (List.mem_cons_of_mem _ hy)
      rw [List.mem_append, List.mem_cons] at q
      rw [List.mem_append]
      rcases q with q | rfl | q
      · exact .inl q
      · exact absurd hy n1
      · exact .inr q
    rw [List.length_append] at this ⊢
    rw [List.length_cons, List.length_cons]
    omega
structure GotK (ks : List KRow) (i : Nat) (L : List KRow) : Prop where
  sub : ∀ p ∈ L, p ∈ ks.take i
  all : ∀ p ∈ ks.take i, p.2 ∈ L.map (·.2)
theorem GotK.zero (ks : List KRow) : GotK ks 0 [] := ⟨fun p h => (by cases h), fun p h => (by simp at h)⟩
theorem GotK.same {ks L : List KRow} {i : Nat} {x : KRow} (g : GotK ks i L) (h : ks[i]? = some x) (hm : x.2 ∈ L.map (·.2)) : GotK ks (i + 1) L := by
  refine ⟨fun p hp => ?_, fun p hp => ?_⟩
  · rw [take_next h]; exact List.mem_append_left _ (g.sub p hp)
  · rw [take_next h] at hp
    rcases List.mem_append.mp hp with z | z
    · exact g.all p z
    · rw [List.mem_singleton.mp z]; exact hm
theorem GotK.more {ks L L2 : List KRow} {i : Nat} {x : KRow} (g : GotK ks i L) (h : ks[i]? = some x) (pm : L2.Perm (x :: L)) : GotK ks (i + 1) L2 := by
  refine ⟨fun p hp => ?_, fun p hp => ?_⟩
  · rw [take_next h]
    rcases List.mem_cons.mp (pm.mem_iff.mp hp) with e | z
    · rw [e]; exact List.mem_append_right _ (List.mem_singleton.mpr rfl)
    · exact List.mem_append_left _ (g.sub p z)
  · rw [(pm.map (·.2)).mem_iff, List.map_cons]
    rw [take_next h] at hp
    rcases List.mem_append.mp hp with z | z
    · exact List.mem_cons_of_mem _ (g.all p z)
    · rw [List.mem_singleton.mp z]; exact List.mem_cons_self
section
variable {P : Program} {w : World} {A : Around} {E : Value → Shared → Prop} {s : Shared}
theorem SetK.keep {h h' : Heap} {a : Addr} {L : List KRow} {es : Array (Int × Value)} {ep : Nat} {t : SetTable} (Z : SetK w h a L es ep t) (ha : ∀ o, h.get? a = some o → h'.get? a = some o) (ht : ∀ p ∈ L, NK h' p.2 p.1) : SetK w h' a L es ep t := by
  obtain ⟨o, e, r⟩ := Z.ob
  exact ⟨⟨o, ha o e, r⟩, Z.rows, Z.tab, Z.nd, ht, Z.led, Z.room, Z.few⟩
theorem setK_fresh {h : Heap} {a : Addr} (e : h.get? a = some { cls := .type "set", dict := none, data := .set #[] 0 (.fresh 0 0 (!w.params.followText "set-order")) }) : SetK w h a [] #[] 0 (.fresh 0 0 (!w.params.followText "set-order")) where
  ob := ⟨_, e, ⟨rfl, rfl, rfl⟩, rfl⟩
  rows := rfl
  tab := ⟨List.Pairwise.nil, rfl, rfl, .inl rfl, fun x z => (by cases z), fun i h j z => (by simp at z)⟩
  nd := List.nodup_nil
  tup := fun p z => by cases z
  led := by
    show _ ∨ (!w.params.followText "set-order") = true
    cases w.params.followText "set-order"
    · exact .inr rfl
    · exact .inl rfl
  room := by show 0 * 5 < 7 * 3; decide
  few := by show 0 ≤ 76; decide
theorem upd_loopK {I : Addr} {fp wr : List Addr} {G : Array GenState → Array GenState → Prop} {n : Nat} {Pv : Nat → Value → Prop} {St : Nat → Shared → Prop} {R : Result → Shared → Prop}
    (W : WalksS P w A.in1 I fp wr G n Pv St) (S : Addr) (nf : S ∉ fp) (ks : List KRow) (hn : n = ks.length) (few : (dedK (ks.map (·.2))).length ≤ 76) (hval : ∀ i v, Pv i v → ∃ p, ks[i]? = some p ∧ v = .ref p.1)
    (h0 : Heap) (hk : ∀ p ∈ ks, NK h0 p.2 p.1) (hS0 : h0.get? S = none) (hw0 : ∀ b ∈ wr, h0.get? b = none) (hu : A.in1.units + 9 < cLine) :
    ∀ (k i : Nat) (s : Shared), n - i = k → i ≤ n → St i s → (∀ b o, h0.get? b = some o → s.heap.get? b = some o) → (∃ L es ep t, SetK w s.heap S L es ep t ∧ GotK ks i L) →
      (∀ s' L es ep t, Moved (S :: wr) G s s' → SetK w s'.heap S L es ep t → GotK ks n L → (∀ b o, h0.get? b = some o → s'.heap.get? b = some o) → R (.ok (.ret .none)) s') →
      codeAny (model P w) A (.builtin "set.update.loop" ⟨[.ref S, .ref I], []⟩) R s := by
  have nw : S ∉ wr := fun h => nf (W.sub _ h)
  have wid : ∀ b ∈ wr, b ∈ S :: wr := fun b hb => List.mem_cons_of_mem _ hb
  have kM : ∀ {s s' : Shared}, Moved wr G s s' → (∀ b o, h0.get? b = some o → s.heap.get? b = some o) → ∀ b o, h0.get? b = some o → s'.heap.get? b = some o := fun hm kp b o e =>
    hm.heap b o (fun hb => by rw [hw0 b hb] at e; cases e) (kp b o e)
  intro k
  induction k with
  | zero =>
    intro i s hk2 hi hst kp ⟨L, es, ep, t, hS, g⟩ hR
    obtain rfl : i = n := by omega
    refine codeAny_builtin F.entry_set_update_loop ?_
    rw [Around.under_plainId F.plain_set_update_loop _]
    show wpAny _ A.in1 (pyNext (.ref I) >>= _) _ _ s
    refine wpAny_bind (W.done s _ _ hst fun s2 hm => ?_)
    show wpAny _ A.in1 (ret Value.none) _ _ s2
    have kp2 := kM hm kp
    exact wpAny_pure (hR s2 L es ep t (hm.mono wid) (hS.keep (fun o e => hm.heap S o nw e) fun p hp => (hk p (List.mem_of_mem_take (g.sub p hp))).keep kp2) g kp2)
  | succ k ih =>
    intro i s hk2 hi hst kp ⟨L, es, ep, t, hS, g⟩ hR
    have lt : i < n := by omega
    refine codeAny_builtin F.entry_set_update_loop ?_
    rw [Around.under_plainId F.plain_set_update_loop _]
    show wpAny _ A.in1 (pyNext (.ref I) >>= _) _ _ s
    refine wpAny_bind (W.item i s _ _ lt hst fun v s2 hP hst2 hm => ?_)
    obtain ⟨p, hp, rfl⟩ := hval i v hP
    have kp2 := kM hm kp
    have hS2 : SetK w s2.heap S L es ep t := hS.keep (fun o e => hm.heap S o nw e) fun q hq => (hk q (List.mem_of_mem_take (g.sub q hq))).keep kp2
    have hx : NK s2.heap p.2 p.1 := (hk p (List.mem_of_getElem? hp)).keep kp2
    show wpAny _ A.in1 (holding [Value.ref p.1] (setAdd S (.ref p.1)) >>= _) _ _ s2
    refine wpAny_bind (wpAny_holding ?_)
    unfold setAdd
    refine wpAny_holding ?_
    refine wpAny_bind (pyHash_key p.2 _ _ _ _ hx.1 (by have := hx.2; omega) ?_)
    refine addK (s := { s2 with toks := s2.toks + p.2.draws }) hS2 hx (by omega) (fun nm => ?_) fun b h3 L2 es2 ep2 t2 hsb hS3 c1 c2 => ?_
    · have nd2 : ((p :: L).map (·.2)).Nodup := by rw [List.map_cons]; exact List.nodup_cons.mpr ⟨nm, hS.nd⟩
      have := len_sub nd2 (m := dedK (ks.map (·.2))) fun y hy => by
        obtain ⟨q, hq, rfl⟩ := List.mem_map.mp hy
        refine mem_dedK.mpr (List.mem_map.mpr ⟨q, ?_, rfl⟩)
        rcases List.mem_cons.mp hq with rfl | hq
        · exact List.mem_of_getElem? hp
        · exact List.mem_of_mem_take (g.sub q hq)
      rw [List.length_map, List.length_cons] at this
      omega
    have g2 : GotK ks (i + 1) L2 := by
      rcases Classical.em (p.2 ∈ L.map (·.2)) with c | c
      · rw [c1 c]; exact g.same hp c
      · exact g.more hp (c2 c)
    have kp3 : ∀ b o, h0.get? b = some o → h3.get? b = some o := fun b o e => (hsb.2 b (fun z => by rw [z, hS0] at e; cases e)).trans (kp2 b o e)
    refine wpAny_pure ⟨plainId_quiet F.plain_set_update_loop _, ih (i + 1) _ (by omega) lt (W.frame _ s2 _ _ hst2 (Nat.le_add_right _ _) fun b hb o e => ?_) kp3 ⟨L2, es2, ep2, t2, hS3, g2⟩ fun s4 L4 es4 ep4 t4 hm4 hS4 g4 kp4 => ?_⟩
    · rw [hsb.2 b (fun h : b = S => nf (by rw [← h]; exact hb))]; exact e
    · refine hR s4 L4 es4 ep4 t4 (Moved.trans W.gtrans ((hm.mono wid).then_heap (Nat.le_add_right _ _) fun b o hb e => ?_) hm4) hS4 g4 kp4
      rw [hsb.2 b (fun h : b = S => hb (by rw [h]; exact List.mem_cons_self))]; exact e

set_option maxRecDepth 100000 in
set_option maxHeartbeats 3200000 in
theorem callSetK_l {l : Addr} {items : Array Value} (ks : List KRow) {Q : Value → Shared → Prop} (hh : A.handled = none) (hl : s.heap.IsList l items) (hit : items.toList = ks.map fun p => Value.ref p.1)
    (hk : ∀ p ∈ ks, NK s.heap p.2 p.1) (few : (dedK (ks.map (·.2))).length ≤ 76) (hu : A.units + 13 < cLine)
    (h : ∀ (h2 : Heap) (tk : Nat) L es ep t, SetK w h2 s.heap.objs.size L es ep t → GotK ks ks.length L → (∀ b o, s.heap.get? b = some o → h2.get? b = some o) → Q (.ref s.heap.objs.size) { s with heap := h2, toks := tk }) :
    wpAny (model P w) A (call (.type "set") [.ref l]) Q E s := by
  have isz : items.size = ks.length := by
    have q := congrArg List.length hit
    rw [Array.length_toList, List.length_map] at q
    exact q
  obtain ⟨c, tl, hmro⟩ := F.called_set.mro
  have m1 := F.called_set.made
  have m2 := F.called_set.sub
  refine wpAny_call (codeAny_of_tree ?_)
  show wpAny _ _ (callAny (.type "set") _) _ _ _
  refine wpAny_pure ⟨Code.quiet_builtin _ (by decide +kernel), codeAny_builtin F.entry_type_call ?_⟩
  rw [Around.under_plain (weight_type_call_type "set" [.ref l] []) rfl]
  have m3 := F.called_set.notType
  have m4 := F.called_set.canCreate
  have m5 := F.typeCall_set_1 (.ref l)
  repeat (any_goals (first | assumption | wp_step))
  refine codeAny_mono (code_set_led1 (.ref l) (E := E) (Q₁ := fun obj s1 => obj = .ref s.heap.objs.size ∧ s1 = { s with heap := s.heap.push { cls := .type "set", dict := none, data := .set #[] 0 (.fresh 0 0 (!w.params.followText "set-order")) } }) ⟨rfl, rfl⟩) fun r s1 hr => ?_
  cases r with
  | error e => exact hr
  | ok fl =>
    cases fl with
    | ret obj =>
      obtain ⟨rfl, rfl⟩ := hr
      have hS : (s.heap.push { cls := .type "set", dict := none, data := .set #[] 0 (.fresh 0 0 (!w.params.followText "set-order")) }).get? s.heap.objs.size = some { cls := .type "set", dict := none, data := .set #[] 0 (.fresh 0 0 (!w.params.followText "set-order")) } := Heap.get?_push_size _ rfl
      have hT : Shared.TypeIs { s with heap := s.heap.push { cls := .type "set", dict := none, data := .set #[] 0 (.fresh 0 0 (!w.params.followText "set-order")) } } (.ref s.heap.objs.size) "set" := ⟨_, hS, rfl⟩
      have m6 := F.called_set.init.lookup
      have m7 := F.called_set.init.bind (.ref s.heap.objs.size)
      repeat (any_goals (first | assumption | wp_step))
      refine codeAny_mono (codeAny_call_builtin (R := wants (fun r s3 => r = .none ∧ ∃ h2 tk L es ep t, s3 = { s with heap := h2, toks := tk } ∧ SetK w h2 s.heap.objs.size L es ep t ∧ GotK ks ks.length L ∧
          (∀ b o, s.heap.get? b = some o → h2.get? b = some o)) E) F.called_set.init.plain F.entry_set_init (check_set_init_1 hT ?_)) fun r3 s3 hr3 => ?_
      · obtain ⟨ol, hol, hcl, nl, hdl⟩ := hl
        obtain ⟨ocls, odict, odata, oslots⟩ := ol
        simp only at hcl hdl
        subst hcl; subst hdl
        have hol2 : (s.heap.push { cls := .type "set", dict := none, data := .set #[] 0 (.fresh 0 0 (!w.params.followText "set-order")) }).get? l = some { cls := .type "list", dict := odict, data := .seq items nl, slots := oslots } := Heap.get?_push_of_some _ hol
        have m8 := F.sub_list_set
        have m9 := F.sub_list_frozenset
        have hne : (Value.type "list" == Value.type "dict") = false := by decide
        have hl1 : (s.heap.push { cls := .type "set", dict := none, data := .set #[] 0 (.fresh 0 0 (!w.params.followText "set-order")) }).IsList l items := ⟨_, hol2, rfl, nl, rfl⟩
        unfold Builtin.«set.__init__» noKeywords Builtin.Frozenset.updateFrom
        generalize hPI : pyIter = PI
        wp_walk
        subst hPI
        refine wpAny_pyIter_list hl1 ?_
        refine wpAny_bind (wpAny_runValue ?_)
        have lS : l < s.heap.objs.size := Heap.lt_size hol
        have hh3 : A.in1.in1.in1.handled = none := by simp [hh]
        have z1 : (s.heap.push { cls := .type "set", dict := none, data := .set #[] 0 (.fresh 0 0 (!w.params.followText "set-order")) }).objs.size = s.heap.objs.size + 1 := Heap.size_push ..
        have neI : l ≠ (s.heap.push { cls := .type "set", dict := none, data := .set #[] 0 (.fresh 0 0 (!w.params.followText "set-order")) }).objs.size := by
          rw [z1]; exact Nat.ne_of_lt (Nat.lt_succ_of_lt lS)
        have nf : s.heap.objs.size ∉ [(s.heap.push { cls := .type "set", dict := none, data := .set #[] 0 (.fresh 0 0 (!w.params.followText "set-order")) }).objs.size, l] := by
          rw [z1]; simp only [List.mem_cons, List.mem_singleton, List.not_mem_nil, or_false, not_or]
          exact ⟨Nat.ne_of_lt (Nat.lt_succ_self _), Nat.ne_of_gt lS⟩
        have hval : ∀ (i : Nat) (v : Value), items[i]? = some v → ∃ p, ks[i]? = some p ∧ v = .ref p.1 := fun i v hv => by
          have q : items.toList[i]? = some v := by rw [Array.getElem?_toList]; exact hv
          rw [hit, List.getElem?_map] at q
          cases hq : ks[i]? with
          | none => rw [hq] at q; cases q
          | some p => rw [hq] at q; exact ⟨p, rfl, (Option.some.inj q).symm⟩
        have noneof : ∀ b, s.heap.objs.size ≤ b → s.heap.get? b = none := fun b hb => by
          cases q : s.heap.get? b with
          | none => rfl
          | some o => exact absurd (Nat.lt_of_lt_of_le (Heap.lt_size q) hb) (Nat.lt_irrefl _)
        refine upd_loopK ((Walks.list hh3 _ l neI items).toS) s.heap.objs.size
          nf ks isz few hval s.heap hk (noneof _ (Nat.le_refl _)) (fun b hb => noneof b (by
            rw [List.mem_singleton.mp hb, z1]
            exact Nat.le_succ _)) (by show A.units + 1 + 1 + 1 + 9 < _; omega) (items.size - 0) 0 _ (by omega) (Nat.zero_le _)
          ⟨⟨_, Heap.get?_push_size _ rfl, rfl, rfl⟩, (hl1.push _)⟩ (fun b o e => Heap.get?_push_of_some _ (Heap.get?_push_of_some _ e)) ?first ?last
        case first =>
          have hget : ((s.heap.push { cls := .type "set", dict := none, data := .set #[] 0 (.fresh 0 0 (!w.params.followText "set-order")) }).push { cls := .type "list_iterator", data := .fields #[.ref l, .int 0 0] }).get? s.heap.objs.size = some { cls := .type "set", dict := none, data := .set #[] 0 (.fresh 0 0 (!w.params.followText "set-order")) } := Heap.get?_push_of_some _ hS
          exact ⟨[], #[], 0, _, setK_fresh hget, GotK.zero ks⟩
        case last =>
          intro s4 L es ep t hm hS4 g4 kp
          obtain ⟨h4, g5, d5, tk5, os5⟩ := s4
          have eg : g5 = s.gens := hm.gens
          have ed : d5 = s.drawn := hm.drawn
          have eo : os5 = s.os := hm.os
          subst eg; subst ed; subst eo
          show wpAny _ _ _ _ _ _
          refine wpAny_pure ?_
          show wpAny _ _ (ret Value.none) _ _ _
          rw [isz] at g4
          exact wpAny_pure ⟨rfl, h4, tk5, L, es, ep, t, rfl, hS4, g4, kp⟩
      · cases r3 with
        | error e => exact hr3
        | ok fl3 =>
          cases fl3 with
          | ret r =>
            obtain ⟨rfl, h2, tk, L, es, ep, t, rfl, hS4, g4, kp⟩ := hr3
            repeat (any_goals (first | assumption | wp_step))
            exact h _ _ _ _ _ _ hS4 g4 kp
          | _ => exact hr3.elim
    | _ => exact hr.elim

set_option maxRecDepth 100000 in
set_option maxHeartbeats 3200000 in
theorem callSetK_t {l : Addr} {items : Array Value} (ks : List KRow) {Q : Value → Shared → Prop} (hh : A.handled = none) (hl : s.heap.IsTuple l items) (hit : items.toList = ks.map fun p => Value.ref p.1)
    (hk : ∀ p ∈ ks, NK s.heap p.2 p.1) (few : (dedK (ks.map (·.2))).length ≤ 76) (hu : A.units + 13 < cLine)
    (h : ∀ (h2 : Heap) (tk : Nat) L es ep t, SetK w h2 s.heap.objs.size L es ep t → GotK ks ks.length L → (∀ b o, s.heap.get? b = some o → h2.get? b = some o) → Q (.ref s.heap.objs.size) { s with heap := h2, toks := tk }) :
    wpAny (model P w) A (call (.type "set") [.ref l]) Q E s := by
  have isz : items.size = ks.length := by
    have q := congrArg List.length hit
    rw [Array.length_toList, List.length_map] at q
    exact q
  obtain ⟨c, tl, hmro⟩ := F.called_set.mro
  have m1 := F.called_set.made
  have m2 := F.called_set.sub
  refine wpAny_call (codeAny_of_tree ?_)
  show wpAny _ _ (callAny (.type "set") _) _ _ _
  refine wpAny_pure ⟨Code.quiet_builtin _ (by decide +kernel), codeAny_builtin F.entry_type_call ?_⟩
  rw [Around.under_plain (weight_type_call_type "set" [.ref l] []) rfl]
  have m3 := F.called_set.notType
  have m4 := F.called_set.canCreate
  have m5 := F.typeCall_set_1 (.ref l)
  repeat (any_goals (first | assumption | wp_step))
  refine codeAny_mono (code_set_led1 (.ref l) (E := E) (Q₁ := fun obj s1 => obj = .ref s.heap.objs.size ∧ s1 = { s with heap := s.heap.push { cls := .type "set", dict := none, data := .set #[] 0 (.fresh 0 0 (!w.params.followText "set-order")) } }) ⟨rfl, rfl⟩) fun r s1 hr => ?_
  cases r with
  | error e => exact hr
  | ok fl =>
    cases fl with
    | ret obj =>
      obtain ⟨rfl, rfl⟩ := hr
      have hS : (s.heap.push { cls := .type "set", dict := none, data := .set #[] 0 (.fresh 0 0 (!w.params.followText "set-order")) }).get? s.heap.objs.size = some { cls := .type "set", dict := none, data := .set #[] 0 (.fresh 0 0 (!w.params.followText "set-order")) } := Heap.get?_push_size _ rfl
      have hT : Shared.TypeIs { s with heap := s.heap.push { cls := .type "set", dict := none, data := .set #[] 0 (.fresh 0 0 (!w.params.followText "set-order")) } } (.ref s.heap.objs.size) "set" := ⟨_, hS, rfl⟩
      have m6 := F.called_set.init.lookup
      have m7 := F.called_set.init.bind (.ref s.heap.objs.size)
      repeat (any_goals (first | assumption | wp_step))
      refine codeAny_mono (codeAny_call_builtin (R := wants (fun r s3 => r = .none ∧ ∃ h2 tk L es ep t, s3 = { s with heap := h2, toks := tk } ∧ SetK w h2 s.heap.objs.size L es ep t ∧ GotK ks ks.length L ∧
          (∀ b o, s.heap.get? b = some o → h2.get? b = some o)) E) F.called_set.init.plain F.entry_set_init (check_set_init_1 hT ?_)) fun r3 s3 hr3 => ?_
      · obtain ⟨ol, hol, hcl, nl, hdl⟩ := hl
        obtain ⟨ocls, odict, odata, oslots⟩ := ol
        simp only at hcl hdl
        subst hcl; subst hdl
        have hol2 : (s.heap.push { cls := .type "set", dict := none, data := .set #[] 0 (.fresh 0 0 (!w.params.followText "set-order")) }).get? l = some { cls := .type "tuple", dict := odict, data := .seq items nl, slots := oslots } := Heap.get?_push_of_some _ hol
        have m8 := F.sub_tuple_set
        have m9 := F.sub_tuple_frozenset
        have hne : (Value.type "tuple" == Value.type "dict") = false := by decide
        have hl1 : (s.heap.push { cls := .type "set", dict := none, data := .set #[] 0 (.fresh 0 0 (!w.params.followText "set-order")) }).IsTuple l items := ⟨_, hol2, rfl, nl, rfl⟩
        unfold Builtin.«set.__init__» noKeywords Builtin.Frozenset.updateFrom
        generalize hPI : pyIter = PI
        wp_walk
        subst hPI
        refine wpAny_pyIter_tuple hl1 ?_
        refine wpAny_bind (wpAny_runValue ?_)
        have lS : l < s.heap.objs.size := Heap.lt_size hol
        have hh3 : A.in1.in1.in1.handled = none := by simp [hh]
        have z1 : (s.heap.push { cls := .type "set", dict := none, data := .set #[] 0 (.fresh 0 0 (!w.params.followText "set-order")) }).objs.size = s.heap.objs.size + 1 := Heap.size_push ..
        have neI : l ≠ (s.heap.push { cls := .type "set", dict := none, data := .set #[] 0 (.fresh 0 0 (!w.params.followText "set-order")) }).objs.size := by
          rw [z1]; exact Nat.ne_of_lt (Nat.lt_succ_of_lt lS)
        have nf : s.heap.objs.size ∉ [(s.heap.push { cls := .type "set", dict := none, data := .set #[] 0 (.fresh 0 0 (!w.params.followText "set-order")) }).objs.size, l] := by
          rw [z1]; simp only [List.mem_cons, List.mem_singleton, List.not_mem_nil, or_false, not_or]
          exact ⟨Nat.ne_of_lt (Nat.lt_succ_self _), Nat.ne_of_gt lS⟩
        have hval : ∀ (i : Nat) (v : Value), items[i]? = some v → ∃ p, ks[i]? = some p ∧ v = .ref p.1 := fun i v hv => by
          have q : items.toList[i]? = some v := by rw [Array.getElem?_toList]; exact hv
          rw [hit, List.getElem?_map] at q
          cases hq : ks[i]? with
          | none => rw [hq] at q; cases q
          | some p => rw [hq] at q; exact ⟨p, rfl, (Option.some.inj q).symm⟩
        have noneof : ∀ b, s.heap.objs.size ≤ b → s.heap.get? b = none := fun b hb => by
          cases q : s.heap.get? b with
          | none => rfl
          | some o => exact absurd (Nat.lt_of_lt_of_le (Heap.lt_size q) hb) (Nat.lt_irrefl _)
        refine upd_loopK ((Walks.tuple hh3 _ l neI items).toS) s.heap.objs.size
          nf ks isz few hval s.heap hk (noneof _ (Nat.le_refl _)) (fun b hb => noneof b (by
            rw [List.mem_singleton.mp hb, z1]
            exact Nat.le_succ _)) (by show A.units + 1 + 1 + 1 + 9 < _; omega) (items.size - 0) 0 _ (by omega) (Nat.zero_le _)
          ⟨⟨_, Heap.get?_push_size _ rfl, rfl, rfl⟩, (hl1.push _)⟩ (fun b o e => Heap.get?_push_of_some _ (Heap.get?_push_of_some _ e)) ?first ?last
        case first =>
          have hget : ((s.heap.push { cls := .type "set", dict := none, data := .set #[] 0 (.fresh 0 0 (!w.params.followText "set-order")) }).push { cls := .type "tuple_iterator", data := .fields #[.ref l, .int 0 0] }).get? s.heap.objs.size = some { cls := .type "set", dict := none, data := .set #[] 0 (.fresh 0 0 (!w.params.followText "set-order")) } := Heap.get?_push_of_some _ hS
          exact ⟨[], #[], 0, _, setK_fresh hget, GotK.zero ks⟩
        case last =>
          intro s4 L es ep t hm hS4 g4 kp
          obtain ⟨h4, g5, d5, tk5, os5⟩ := s4
          have eg : g5 = s.gens := hm.gens
          have ed : d5 = s.drawn := hm.drawn
          have eo : os5 = s.os := hm.os
          subst eg; subst ed; subst eo
          show wpAny _ _ _ _ _ _
          refine wpAny_pure ?_
          show wpAny _ _ (ret Value.none) _ _ _
          rw [isz] at g4
          exact wpAny_pure ⟨rfl, h4, tk5, L, es, ep, t, rfl, hS4, g4, kp⟩
      · cases r3 with
        | error e => exact hr3
        | ok fl3 =>
          cases fl3 with
          | ret r =>
            obtain ⟨rfl, h2, tk, L, es, ep, t, rfl, hS4, g4, kp⟩ := hr3
            repeat (any_goals (first | assumption | wp_step))
            exact h _ _ _ _ _ _ hS4 g4 kp
          | _ => exact hr3.elim
    | _ => exact hr.elim
end
end Mini
end
section
namespace Mini
open PySem PySem.Spec PyProof.Rows L2
section
variable {P : Program} {w : World} {A : Around} {E : Value → Shared → Prop} {s : Shared}
theorem len_setK {a : Addr} {L : List KRow} {es : Array (Int × Value)} {ep : Nat} {t : SetTable} {Q : Value → Shared → Prop} (Z : SetK w s.heap a L es ep t) (h : Q (.int L.length (s.toks + 1)) { s with toks := s.toks + 1 + 1 }) :
    wpAny (model P w) A (call (.builtin "len") [.ref a]) Q E s := by
  obtain ⟨o, e, ex, d⟩ := Z.ob
  have sl := len_of_rows Z.rows
  refine call_len_set e ex d Z.fits (by rw [sl]; have := Z.few; omega) ?_
  rw [sl]; exact h
end
theorem perm_of_map {α β : Type} {f : α → β} {l k : List β} (p : l.Perm k) : ∀ {m : List α}, k = m.map f → ∃ m2 : List α, m2.Perm m ∧ l = m2.map f := by
  induction p with
  | nil =>
    intro m e
    cases m with
    | nil => exact ⟨[], .refl _, rfl⟩
    | cons a r => cases e
  | cons x _ ih =>
    intro m e
    cases m with
    | nil => cases e
    | cons a r =>
      rw [List.map_cons] at e
      injection e with e1 e2
      obtain ⟨m2, p2, rfl⟩ := ih e2
      exact ⟨a :: m2, p2.cons a, by rw [List.map_cons, e1]⟩
  | swap x y l =>
    intro m e
    cases m with
    | nil => cases e
    | cons a r =>
      cases r with
      | nil => injection e with e1 e2; cases e2
      | cons b r =>
        injection e with e1 e2
        injection e2 with e2 e3
        exact ⟨b :: a :: r, .swap a b r, by rw [List.map_cons, List.map_cons, e1, e2, e3]⟩
  | trans _ _ ih1 ih2 =>
    intro m e
    obtain ⟨m2, p2, e2⟩ := ih2 e
    obtain ⟨m3, p3, e3⟩ := ih1 e2
    exact ⟨m3, p3.trans p2, e3⟩
mutual
def D.nk : D → NestedKey
  | .non => .none
  | .bl b => .num (if b = true then 1 else 0)
  | .int i => .num i
  | .str x => .text x
  | .tup ds => .tup (D.nks ds)
  | .loc _ => .none
def D.nks : List D → List NestedKey
  | [] => []
  | d :: ds => D.nk d :: D.nks ds
end
mutual
theorem nk_is {h : Heap} : ∀ {d : D} {n : Nat} {u : Value} {as : List Addr}, D.pub n d = true → Reads h u d.py as → NestedIs h d.nk u ∧ d.nk.depth ≤ n
  | .non, n, u, as, _, r => by cases r; exact ⟨.none, Nat.zero_le _⟩
  | .bl b, n, u, as, _, r => by cases r; exact ⟨.bool rfl, Nat.zero_le _⟩
  | .int i, n, u, as, _, r => by cases r; exact ⟨.int _ _, Nat.zero_le _⟩
  | .str x, n, u, as, _, r => by cases r; exact ⟨.text _ _, Nat.zero_le _⟩
  | .tup ds, 0, u, as, p, _ => by cases p
  | .tup ds, n + 1, u, as, p, r => by
    cases r with
    | tuple e c d r =>
      obtain ⟨h1, h2⟩ := nks_is (n := n) p r
      exact ⟨.tup e c d h1, Nat.succ_le_succ h2⟩
  | .loc _, n, u, as, p, _ => by cases n <;> cases p
theorem nks_is {h : Heap} : ∀ {ds : List D} {n : Nat} {us : List Value} {as : List Addr}, D.pubs n ds = true → ReadsAll h us (D.pys ds) as → NestedAll h (D.nks ds) us ∧ NestedKey.depthAll (D.nks ds) ≤ n
  | [], n, us, as, _, r => by cases r; exact ⟨.nil, Nat.zero_le _⟩
  | d :: ds, n, us, as, p, r => by
    have a : (D.pub n d && D.pubs n ds) = true := p
    rw [Bool.and_eq_true] at a
    cases r with
    | cons r1 r2 =>
      obtain ⟨h1, h2⟩ := nk_is a.1 r1
      obtain ⟨h3, h4⟩ := nks_is a.2 r2
      exact ⟨.cons h1 h3, Nat.max_le.mpr ⟨h2, h4⟩⟩
end
mutual
theorem nk_eq : ∀ {x y : D} {m n : Nat}, D.pub m x = true → D.pub n y = true → x.nk = y.nk → eqB x y = true
  | .loc _, _, m, _, h, _, _ => by cases m <;> cases h
  | _, .loc _, _, n, _, h, _ => by cases n <;> cases h
  | .non, .non, _, _, _, _, _ => rfl
  | .non, .bl _, _, _, _, _, h => by cases h
  | .non, .int _, _, _, _, _, h => by cases h
  | .non, .str _, _, _, _, _, h => by cases h
  | .non, .tup _, _, _, _, _, h => by cases h
  | .bl _, .non, _, _, _, _, h => by cases h
  | .bl a, .bl b, _, _, _, _, h => by cases a <;> cases b <;> first | rfl | (injection h with h; revert h; decide)
  | .bl a, .int j, _, _, _, _, h => by injection h with h; show decide _ = true; rw [h]; exact decide_eq_true rfl
  | .bl _, .str _, _, _, _, _, h => by cases h
  | .bl _, .tup _, _, _, _, _, h => by cases h
  | .int _, .non, _, _, _, _, h => by cases h
  | .int i, .bl b, _, _, _, _, h => by injection h with h; show decide _ = true; rw [h]; exact decide_eq_true rfl
  | .int i, .int j, _, _, _, _, h => by injection h with h; show decide _ = true; rw [h]; exact decide_eq_true rfl
  | .int _, .str _, _, _, _, _, h => by cases h
  | .int _, .tup _, _, _, _, _, h => by cases h
  | .str _, .non, _, _, _, _, h => by cases h
  | .str _, .bl _, _, _, _, _, h => by cases h
  | .str _, .int _, _, _, _, _, h => by cases h
  | .str x, .str y, _, _, _, _, h => by injection h with h; show decide _ = true; rw [h]; exact decide_eq_true rfl
  | .str _, .tup _, _, _, _, _, h => by cases h
  | .tup _, .non, _, _, _, _, h => by cases h
  | .tup _, .bl _, _, _, _, _, h => by cases h
  | .tup _, .int _, _, _, _, _, h => by cases h
  | .tup _, .str _, _, _, _, _, h => by cases h
  | .tup a, .tup b, 0, _, h, _, _ => by cases h
  | .tup a, .tup b, _, 0, _, h, _ => by cases h
  | .tup a, .tup b, m + 1, n + 1, h1, h2, h => by injection h with h; exact nks_eq (m := m) (n := n) h1 h2 h
theorem nks_eq : ∀ {xs ys : List D} {m n : Nat}, D.pubs m xs = true → D.pubs n ys = true → D.nks xs = D.nks ys → eqBs xs ys = true
  | [], [], _, _, _, _, _ => rfl
  | [], _ :: _, _, _, _, _, h => by cases h
  | _ :: _, [], _, _, _, _, h => by cases h
  | x :: xs, y :: ys, m, n, h1, h2, h => by
    have a1 : (D.pub m x && D.pubs m xs) = true := h1
    have a2 : (D.pub n y && D.pubs n ys) = true := h2
    rw [Bool.and_eq_true] at a1 a2
    injection h with e1 e2
    show (eqB x y && eqBs xs ys) = true
    rw [nk_eq a1.1 a2.1 e1, nks_eq a1.2 a2.2 e2]; rfl
end
mutual
theorem py_depth : ∀ {d : D} {n : Nat}, D.pub n d = true → d.py.depth ≤ n
  | .non, n, _ => Nat.zero_le _
  | .bl _, n, _ => Nat.zero_le _
  | .int _, n, _ => Nat.zero_le _
  | .str _, n, _ => Nat.zero_le _
  | .loc _, n, _ => Nat.zero_le _
  | .tup ds, 0, p => by cases p
  | .tup ds, n + 1, p => Nat.succ_le_succ (pys_depth (n := n) p)
theorem pys_depth : ∀ {ds : List D} {n : Nat}, D.pubs n ds = true → PyData.depthAll (D.pys ds) ≤ n
  | [], n, _ => Nat.zero_le _
  | d :: ds, n, p => by
    have a : (D.pub n d && D.pubs n ds) = true := p
    rw [Bool.and_eq_true] at a
    exact Nat.max_le.mpr ⟨py_depth a.1, pys_depth a.2⟩
end
mutual
theorem pub_up : ∀ {d : D} {m n : Nat}, m ≤ n → D.pub m d = true → D.pub n d = true
  | .non, m, n, _, _ => by cases n <;> rfl
  | .bl _, m, n, _, _ => by cases n <;> rfl
  | .int _, m, n, _, _ => by cases n <;> rfl
  | .str _, m, n, _, p => by cases m <;> cases n <;> exact p
  | .loc _, m, n, _, p => by cases m <;> cases p
  | .tup ds, 0, n, _, p => by cases p
  | .tup ds, m + 1, 0, h, p => by omega
  | .tup ds, m + 1, n + 1, h, p => pubs_up (m := m) (n := n) (by omega) p
theorem pubs_up : ∀ {ds : List D} {m n : Nat}, m ≤ n → D.pubs m ds = true → D.pubs n ds = true
  | [], m, n, _, _ => by cases n <;> rfl
  | d :: ds, m, n, h, p => by
    have a : (D.pub m d && D.pubs m ds) = true := p
    rw [Bool.and_eq_true] at a
    show (D.pub n d && D.pubs n ds) = true
    rw [pub_up h a.1, pubs_up h a.2]; rfl
end
def dedD : List D → List D
  | [] => []
  | x :: r => if (r.any fun y => eqB x y) = true then dedD r else x :: dedD r
def setOk (ds : List D) : Bool := ds.all isTupD && ds.all (fun x => D.pub 8 x) && (ds.all fun x => ds.all fun y => alikeD x y) && decide ((dedD ds).length ≤ 76)
theorem dedD_sub {x : D} : ∀ {l : List D}, x ∈ dedD l → x ∈ l
  | [], h => h
  | y :: r, h => by
    unfold dedD at h
    split at h
    · exact List.mem_cons_of_mem _ (dedD_sub h)
    · rcases List.mem_cons.mp h with rfl | h
      · exact List.mem_cons_self
      · exact List.mem_cons_of_mem _ (dedD_sub h)
mutual
theorem eqB_self : ∀ {x : D} {n : Nat}, D.pub n x = true → eqB x x = true
  | .loc _, n, h => by cases n <;> cases h
  | .non, _, _ => rfl
  | .bl a, _, _ => decide_eq_true rfl
  | .int a, _, _ => decide_eq_true rfl
  | .str a, _, _ => decide_eq_true rfl
  | .tup a, 0, h => by cases h
  | .tup a, n + 1, h => eqBs_self (n := n) h
theorem eqBs_self : ∀ {x : List D} {n : Nat}, D.pubs n x = true → eqBs x x = true
  | [], _, _ => rfl
  | x :: xs, n, h => by
    have a : (D.pub n x && D.pubs n xs) = true := h
    rw [Bool.and_eq_true] at a
    show (eqB x x && eqBs xs xs) = true
    rw [eqB_self a.1, eqBs_self a.2]; rfl
end
structure Alk (ds : List D) (n : Nat) : Prop where
  pub : ∀ x ∈ ds, D.pub n x = true
  al : ∀ x ∈ ds, ∀ y ∈ ds, alikeD x y = true
theorem Alk.tl {x : D} {r : List D} {n : Nat} (a : Alk (x :: r) n) : Alk r n := ⟨fun y h => a.pub y (List.mem_cons_of_mem _ h), fun y h z k => a.al y (List.mem_cons_of_mem _ h) z (List.mem_cons_of_mem _ k)⟩
theorem Alk.any {x : D} {r : List D} {n : Nat} (a : Alk (x :: r) n) : (r.any fun y => eqB x y) = true ↔ x ∈ r := by
  rw [List.any_eq_true]
  constructor
  · rintro ⟨y, hy, e⟩
    have := eqB_alike (a.pub x List.mem_cons_self) (a.pub y (List.mem_cons_of_mem _ hy)) (a.al x List.mem_cons_self y (List.mem_cons_of_mem _ hy)) e
    rw [this]; exact hy
  · exact fun h => ⟨x, h, eqB_self (a.pub x List.mem_cons_self)⟩
theorem mem_dedD {x : D} {n : Nat} : ∀ {l : List D}, Alk l n → (x ∈ dedD l ↔ x ∈ l)
  | [], _ => Iff.rfl
  | y :: r, a => by
    unfold dedD
    split
    · rename_i h
      rw [mem_dedD a.tl, List.mem_cons]
      exact ⟨.inr, fun z => z.elim (fun e => e ▸ a.any.mp h) id⟩
    · rw [List.mem_cons, List.mem_cons, mem_dedD a.tl]
theorem nodup_dedD {n : Nat} : ∀ {l : List D}, Alk l n → (dedD l).Nodup
  | [], _ => List.nodup_nil
  | y :: r, a => by
    unfold dedD
    split
    · exact nodup_dedD a.tl
    · rename_i h
      exact List.nodup_cons.mpr ⟨fun z => h (a.any.mpr ((mem_dedD a.tl).mp z)), nodup_dedD a.tl⟩
theorem Alk.nk_inj {ds : List D} {n : Nat} (a : Alk ds n) {x y : D} (hx : x ∈ ds) (hy : y ∈ ds) (e : x.nk = y.nk) : x = y :=
  eqB_alike (a.pub x hx) (a.pub y hy) (a.al x hx y hy) (nk_eq (a.pub x hx) (a.pub y hy) e)
theorem len_dedD {ds : List D} {n : Nat} (a : Alk ds n) : (dedK (ds.map D.nk)).length ≤ (dedD ds).length := by
  have : (dedK (ds.map D.nk)).length ≤ ((dedD ds).map D.nk).length := len_sub nodup_dedK fun k hk => by
    obtain ⟨d, hd, rfl⟩ := List.mem_map.mp (mem_dedK.mp hk)
    exact List.mem_map.mpr ⟨d, (mem_dedD a).mpr hd, rfl⟩
  rwa [List.length_map] at this
theorem setOk_iff {ds : List D} (h : setOk ds = true) : (∀ x ∈ ds, isTupD x = true) ∧ Alk ds 8 ∧ (dedD ds).length ≤ 76 := by
  unfold setOk at h
  simp only [Bool.and_eq_true, List.all_eq_true, decide_eq_true_eq] at h
  exact ⟨h.1.1.1, ⟨h.1.1.2, h.1.2⟩, h.2⟩
structure SetD (w : World) (h : Heap) (a : Addr) (L : List (Addr × D)) : Prop where
  set : ∃ es ep t, SetK w h a (L.map fun p => (p.1, p.2.nk)) es ep t
  rd : ∀ p ∈ L, ∃ as, Reads h (.ref p.1) p.2.py as
section
variable {P : Program} {w : World} {A : Around} {E : Value → Shared → Prop} {s : Shared}
theorem callSetD {l : Addr} {items : Array Value} (ks : List (Addr × D)) {Q : Value → Shared → Prop} (hh : A.handled = none) (hl : s.heap.IsList l items ∨ s.heap.IsTuple l items) (hit : items.toList = ks.map fun p => Value.ref p.1)
    (hk : ∀ p ∈ ks, ∃ as, Reads s.heap (.ref p.1) p.2.py as) (ok : setOk (ks.map (·.2)) = true) (hu : A.units + 13 < cLine)
    (h : ∀ (h2 : Heap) (tk : Nat) (L : List (Addr × D)), SetD w h2 s.heap.objs.size L → (L.map (·.2)).Perm (dedD (ks.map (·.2))) → (∀ p ∈ L, p ∈ ks) → (∀ b o, s.heap.get? b = some o → h2.get? b = some o) → Q (.ref s.heap.objs.size) { s with heap := h2, toks := tk }) :
    wpAny (model P w) A (call (.type "set") [.ref l]) Q E s := by
  obtain ⟨tu, al, fw⟩ := setOk_iff ok
  have pub : ∀ p ∈ ks, D.pub 8 p.2 = true := fun p hp => al.pub _ (List.mem_map.mpr ⟨p, hp, rfl⟩)
  have nk : ∀ p ∈ ks.map (fun p : Addr × D => ((p.1, p.2.nk) : KRow)), NK s.heap p.2 p.1 := fun p hp => by
    obtain ⟨q, hq, rfl⟩ := List.mem_map.mp hp
    obtain ⟨as, r⟩ := hk q hq
    exact nk_is (pub q hq) r
  have e2 : (ks.map fun p : Addr × D => ((p.1, p.2.nk) : KRow)).map (·.2) = (ks.map (·.2)).map D.nk := by
    rw [List.map_map, List.map_map]; rfl
  have fin : ∀ (h2 : Heap) (tk : Nat) L es ep t, SetK w h2 s.heap.objs.size L es ep t → GotK (ks.map fun p : Addr × D => ((p.1, p.2.nk) : KRow)) (ks.map fun p : Addr × D => ((p.1, p.2.nk) : KRow)).length L →
      (∀ b o, s.heap.get? b = some o → h2.get? b = some o) → Q (.ref s.heap.objs.size) { s with heap := h2, toks := tk } := fun h2 tk L es ep t Z g kp => by
    have pick : ∀ L : List KRow, (∀ p ∈ L, p ∈ ks.map fun p : Addr × D => ((p.1, p.2.nk) : KRow)) → ∃ M : List (Addr × D), L = M.map (fun p => (p.1, p.2.nk)) ∧ ∀ p ∈ M, p ∈ ks := by
      intro L
      induction L with
      | nil => exact fun _ => ⟨[], rfl, fun p z => by cases z⟩
      | cons x L ih =>
        intro hL
        obtain ⟨q, hq, e⟩ := List.mem_map.mp (hL x List.mem_cons_self)
        obtain ⟨M, e1, e2⟩ := ih fun p z => hL p (List.mem_cons_of_mem _ z)
        exact ⟨q :: M, by rw [List.map_cons, e1, e], fun p z => (List.mem_cons.mp z).elim (fun e => e ▸ hq) (e2 p)⟩
    obtain ⟨M, rfl, sub⟩ := pick L fun p hp => List.mem_of_mem_take (g.sub p hp)
    refine h h2 tk M ⟨⟨es, ep, t, Z⟩, fun p hp => ?_⟩ ?_ sub kp
    · obtain ⟨as, r⟩ := hk p (sub p hp)
      exact ⟨as, PyProof.Rows.Reads.keeps (fun b o e => kp b o e) r⟩
    · have nd : (M.map (·.2)).Nodup := by
        have := Z.nd
        rw [List.map_map] at this
        exact nodup_of_map (f := D.nk) (by rw [List.map_map]; exact this)
      refine (List.perm_ext_iff_of_nodup nd (nodup_dedD al)).mpr fun d => ?_
      rw [mem_dedD al]
      constructor
      · intro hd
        obtain ⟨p, hp, rfl⟩ := List.mem_map.mp hd
        exact List.mem_map.mpr ⟨p, sub p hp, rfl⟩
      · intro hd
        obtain ⟨p, hp, rfl⟩ := List.mem_map.mp hd
        have z := g.all (p.1, p.2.nk) (by rw [List.take_length]; exact List.mem_map.mpr ⟨p, hp, rfl⟩)
        rw [List.map_map] at z
        obtain ⟨q, hq, e⟩ := List.mem_map.mp z
        have := al.nk_inj (List.mem_map.mpr ⟨q, sub q hq, rfl⟩) (List.mem_map.mpr ⟨p, hp, rfl⟩) e
        exact List.mem_map.mpr ⟨q, hq, this⟩
  have it2 : items.toList = (ks.map fun p : Addr × D => ((p.1, p.2.nk) : KRow)).map fun p => Value.ref p.1 := by rw [hit, List.map_map]; rfl
  have fw2 : (dedK ((ks.map fun p : Addr × D => ((p.1, p.2.nk) : KRow)).map (·.2))).length ≤ 76 := by rw [e2]; exact Nat.le_trans (len_dedD al) fw
  rcases hl with hl | hl
  · exact callSetK_l _ hh hl it2 nk fw2 hu fin
  · exact callSetK_t _ hh hl it2 nk fw2 hu fin
theorem len_setD {a : Addr} {L : List (Addr × D)} {Q : Value → Shared → Prop} (Z : SetD w s.heap a L) (h : Q (.int L.length (s.toks + 1)) { s with toks := s.toks + 1 + 1 }) :
    wpAny (model P w) A (call (.builtin "len") [.ref a]) Q E s := by
  obtain ⟨⟨es, ep, t, Y⟩, _⟩ := Z
  refine len_setK Y ?_
  rw [List.length_map]; exact h
theorem sorted_setD {a : Addr} {L : List (Addr × D)} {Q : Value → Shared → Prop} (Z : SetD w s.heap a L) (hh : A.handled = none) (tu : ∀ p ∈ L, isTupD p.2 = true) (al : Alk (L.map (·.2)) 8) (hu : A.units + 40 < cLine)
    (hQ : ∀ s2 p (out : Array Value) (c : Nat) (L2 : List (Addr × D)), (∀ b o, s.heap.get? b = some o → s2.heap.get? b = some o) → s2.gens = s.gens → s2.os = s.os → s.heap.objs.size ≤ p →
      s2.heap.get? p = some (seqObj "list" out c) → out.toList = L2.map (fun q => Value.ref q.1) → L2.Perm L → L2.map (·.2) = srtD (L.map (·.2)) → Q (.ref p) s2) :
    wpAny (model P w) A (call (.builtin "sorted") [.ref a]) Q E s := by
  obtain ⟨⟨es, ep, t, Y⟩, rd⟩ := Z
  obtain ⟨o, e, ex, d⟩ := Y.ob
  have sl := len_of_rows Y.rows
  have fw := Y.few
  refine Calls.call_function_entry kind_sorted plain_sorted entry_sorted (args_sorted1 _) ?_
  unfold Builtin.«sorted»
  refine wpAny_bind (m := checkCount "sorted" 1 1 _) (wpAny_pure ?_)
  refine wpAny_bind (collect_set (A := A.in1) hh ⟨o, e, ex.1, d⟩ Y.fits (by unfold scanBound; omega) Y.tab.ris Y.led fun s1 vs k1 z1 g1 o1 pm => ?_)
  have er : es.toList.map (·.2) = L.map fun q => Value.ref q.1 := by
    rw [Y.rows, List.map_map, List.map_map]; rfl
  rw [er] at pm
  obtain ⟨L1, p1, rfl⟩ := perm_of_map pm rfl
  have ln1 : L1.length = L.length := p1.length_eq
  rw [List.length_map] at fw
  refine wpAny_bind (wpAny_newList ?_ (by rw [List.length_map, ln1, sizeLine_eq]; omega))
  have hoL : (s1.heap.push (seqObj "list" (L1.map fun q => Value.ref q.1).toArray 0)).get? s1.heap.objs.size = some (seqObj "list" (L1.map fun q => Value.ref q.1).toArray 0) := Heap.get?_push_size _ rfl
  generalize hhp : s1.heap.push (seqObj "list" (L1.map fun q => Value.ref q.1).toArray 0) = hp at hoL ⊢
  have kp : ∀ b u, s.heap.get? b = some u → hp.get? b = some u := fun b u z => by rw [← hhp]; exact Heap.get?_push_of_some _ (k1 b u z)
  have e0 : PySem.W.EachIs (fun u (q : Addr × D) => u = Value.ref q.1) (L1.map fun q => Value.ref q.1) L1 := by
    clear ln1 hhp hoL p1 pm
    induction L1 with
    | nil => exact .nil
    | cons q r ih => exact .cons rfl ih
  have e1 : ∀ h3 : Heap, (∀ b u, hp.get? b = some u → b ≠ s1.heap.objs.size → h3.get? b = some u) → PySem.W.EachIs (fun u (q : Addr × D) => ∃ as, Reads h3 u q.2.py as) (L1.map fun q => Value.ref q.1) L1 := fun h3 k3 => by
    have sub : ∀ q ∈ L1, q ∈ L := fun q hq => p1.mem_iff.mp hq
    clear ln1 hhp hoL p1 pm e0
    induction L1 with
    | nil => exact .nil
    | cons q r ih =>
      obtain ⟨as, rr⟩ := rd q (sub q List.mem_cons_self)
      exact .cons ⟨as, PyProof.Rows.Reads.keeps (fun b u z => k3 b u (kp b u z) (Nat.ne_of_lt (Nat.lt_of_lt_of_le (Heap.lt_size z) z1))) rr⟩ (ih fun q hq => sub q (List.mem_cons_of_mem _ hq))
  have ay : PySem.W.AllAlike (L1.map fun q => q.2.py) := fun x hx y hy => by
    obtain ⟨q, hq, rfl⟩ := List.mem_map.mp hx
    obtain ⟨q2, hq2, rfl⟩ := List.mem_map.mp hy
    exact al.al q.2 (List.mem_map.mpr ⟨q, p1.mem_iff.mp hq, rfl⟩) q2.2 (List.mem_map.mpr ⟨q2, p1.mem_iff.mp hq2, rfl⟩)
  have keep3 : ∀ b u, hp.get? b = some u → b ≠ s1.heap.objs.size → (PySem.W.sortingHeap hp s1.heap.objs.size (L1.map fun q => Value.ref q.1)).get? b = some u := fun b u z ne => by
    exact PySem.W.sortingHeap_old ne z
  refine wpAny_bind (wpAny_holding (wpAny_call_entry slot_list_sort ⟨_, hoL, rfl⟩ entry_list_sort (PySem.W.list_sort_vals (s := { s1 with heap := hp }) (κ := PySem.W.dataKind (PySem.W.sortingHeap hp s1.heap.objs.size (L1.map fun q => Value.ref q.1)) (L1.map fun q => q.2.py)) hoL
    (sortsAt_tups (s := { s1 with heap := PySem.W.sortingHeap hp s1.heap.objs.size (L1.map fun q => Value.ref q.1) }) (PySem.W.each_map (R := fun v d => ∃ as, Reads (PySem.W.sortingHeap hp s1.heap.objs.size (L1.map fun q => Value.ref q.1)) v d as) (fun q : Addr × D => q.2.py) (e1 _ keep3)) ay (fun y hy => ?_) fun y hy => ?_)
    (by rw [List.length_map, ln1, sizeLine_eq]; omega) ⟨_, rfl, ?_⟩) (args_list_sort _)))
  · obtain ⟨q, hq, rfl⟩ := List.mem_map.mp hy
    have := tu q (p1.mem_iff.mp hq)
    cases h : q.2 with
    | tup xs => exact ⟨D.pys xs, rfl⟩
    | _ => rw [h] at this; cases this
  · obtain ⟨q, hq, rfl⟩ := List.mem_map.mp hy
    have dp : q.2.py.depth ≤ 8 := py_depth (al.pub q.2 (List.mem_map.mpr ⟨q, p1.mem_iff.mp hq, rfl⟩))
    show A.units + 1 + 1 + 2 + _ < _
    omega
  have eo := PySem.W.sortVals_data (h' := PySem.W.sortingHeap hp s1.heap.objs.size (L1.map fun q => Value.ref q.1)) (enc := fun q : Addr × D => q.2.py) false e0 (e1 _ keep3) ay
  generalize hout : PySem.W.sortVals _ false (L1.map fun q => Value.ref q.1) (L1.map fun q => Value.ref q.1) = out at eo ⊢
  obtain ⟨c, hc⟩ := sortedHeap_at (vs := L1.map fun q => Value.ref q.1) (out := out.toArray) hoL
  have pm2 := List.mergeSort_perm L1 (PySem.W.dataLe false fun q : Addr × D => q.2.py)
  have oute : out = (L1.mergeSort (PySem.W.dataLe false fun q : Addr × D => q.2.py)).map fun q => Value.ref q.1 := by
    generalize L1.mergeSort (PySem.W.dataLe false fun q : Addr × D => q.2.py) = M at eo
    clear hout hc pm2
    induction eo with
    | nil => rfl
    | cons h _ ih => rw [List.map_cons, h, ih]
  have ok : sortOk (L.map (·.2)) = true := sortOk_iff.mpr ⟨.inl fun x hx => by
    obtain ⟨q, hq, rfl⟩ := List.mem_map.mp hx
    exact tu q hq, fun x hx => pub_up (by decide) (al.pub x hx), al.al⟩
  refine wpAny_pure ⟨_, rfl, hQ _ s1.heap.objs.size out.toArray c (L1.mergeSort (PySem.W.dataLe false fun q : Addr × D => q.2.py)) (fun b u z => ?_) g1 o1 z1 hc (by rw [List.toList_toArray]; exact oute) (pm2.trans p1) ?_⟩
  · have q := k1 b u z
    have lt := Heap.lt_size q
    have q2 := kp b u z
    show (sortedHeap hp s1.heap.objs.size _ _).get? b = some u
    rw [sortedHeap_old (Nat.ne_of_lt lt) (by rw [← hhp, size_push']; exact Nat.lt_succ_of_lt lt)]
    exact q2
  · have : (L1.mergeSort (PySem.W.dataLe false fun q : Addr × D => q.2.py)).map (·.2) = (L1.map (·.2)).mergeSort leD := List.map_mergeSort fun a _ b _ => rfl
    rw [this, srtD_merge (sortOk_perm (p1.map (·.2)).symm ok)]
    exact srtD_perm_eq ok (p1.map (·.2))
end
end Mini
end
section
namespace Mini
open PySem PySem.Spec PyProof.Rows L2
theorem rows_of_vals {X : Cx} {pins : List (Addr × Obj)} {σ : L2.St} {H : Hp} {s : Shared} (I : Inv X pins σ H s) : ∀ {ps : List (V × D)} {us : List Value}, Vals (ps.map (·.1)) us → (∀ p ∈ ps, Dp X.K H p.1 p.2.py) → (∀ p ∈ ps, isTupD p.2 = true) →
    ∃ ks : List (Addr × D), us = ks.map (fun q => Value.ref q.1) ∧ ps = ks.map (fun q => (V.ref q.1, q.2)) ∧ ∀ q ∈ ks, ∃ as, Reads s.heap (.ref q.1) q.2.py as
  | [], _, r, _, _ => by cases r; exact ⟨[], rfl, rfl, fun q h => by cases h⟩
  | (v, d) :: ps, _, r, h, t => by
    cases r with
    | cons r rs =>
      obtain ⟨ks, e1, e2, e3⟩ := rows_of_vals I rs (fun q hq => h q (List.mem_cons_of_mem _ hq)) fun q hq => t q (List.mem_cons_of_mem _ hq)
      have hd := h (v, d) List.mem_cons_self
      have td := t (v, d) List.mem_cons_self
      have rd := Dp.reads I _ _ _ hd r
      cases d with
      | tup ds =>
        dsimp only at hd r rd
        cases hd with
        | @tup a xs _ hs ha =>
          cases r
          exact ⟨(a, .tup ds) :: ks, by rw [e1]; rfl, by rw [e2]; rfl, fun q hq => (List.mem_cons.mp hq).elim (fun e => by rw [e]; exact rd) (e3 q)⟩
      | _ => cases td
def tSortSetD (K : PySem.W.Frag) (te : TE) : TE := fun σ H Q => te σ H fun x H1 => ∃ (l : Addr) (ps : List (V × D)), x = V.ref l ∧ (SqL K H1 l (ps.map (·.1)) ∨ SqT K H1 l (ps.map (·.1))) ∧ (∀ p ∈ ps, Dp K H1 p.1 p.2.py) ∧ setOk (ps.map (·.2)) = true ∧
  ∀ (p : Addr) (qs : List (V × D)), (∀ q ∈ qs, q ∈ ps) → qs.map (·.2) = srtD (dedD (ps.map (·.2))) → H1 p = none → Q (.ref p) (upd H1 p (.lst (qs.map (·.1))))
theorem vals_of_rows : ∀ ks : List (Addr × D), Vals (ks.map fun q => V.ref q.1) (ks.map fun q => Value.ref q.1)
  | [] => .nil
  | q :: ks => .cons rfl (vals_of_rows ks)
theorem setD_lt {w : World} {h : Heap} {a : Addr} {L : List (Addr × D)} (Z : SetD w h a L) : a < h.objs.size := by
  obtain ⟨⟨es, ep, t, Y⟩, _⟩ := Z
  obtain ⟨o, e, _⟩ := Y.ob
  exact Heap.lt_size e
section
variable {X : Cx} {e : Expr} {te : TE} {p p2 pos pos2 : Pos}
theorem pe_sortSetD (hc : X.calm = true) (hu : X.A.units + 60 < cLine) (hg : Gl X "sorted") (hm : X.mg "sorted" = none) (hg2 : Gl X "set") (hm2 : X.mg "set" = none) (hb : bootBuiltins "sorted" = some (.builtin "sorted")) (hb2 : bootBuiltins "set" = some (.type "set")) (he : PE X e te)
    (n1 : starEach [e] X.env = (false, eval e X.env) :: starEach [] X.env := by rfl) (n2 : starEach [.Call (.Name "set" p2) [e] [] pos2] X.env = (false, eval (.Call (.Name "set" p2) [e] [] pos2) X.env) :: starEach [] X.env := by rfl) :
    PE X (.Call (.Name "sorted" p) [.Call (.Name "set" p2) [e] [] pos2] [] pos) (tSortSetD X.K te) := by
  refine ⟨fun pins s σ H Q I h => ?_⟩
  refine wpAny_Call_Name_kw (ld_blt I hg hm hb ?_)
  refine PyProof.Rows.callWith_builtin1 ?_ n2 (by rfl)
  rw [n2]
  show wpAny _ _ (spliced ((false, eval (.Call (.Name "set" p2) [e] [] pos2) X.env) :: backTo pos (starEach [] X.env))) _ _ s
  refine Calls.spliced_cons ?_
  refine wpAny_Call_Name_kw (ld_blt I hg2 hm2 hb2 ?_)
  refine PyProof.Rows.callWith_type1 ?_ n1 rfl
  rw [n1]
  show wpAny _ _ (spliced ((false, eval e X.env) :: backTo pos2 (starEach [] X.env))) _ _ s
  refine Calls.spliced_cons (thn (he.run pins s σ H _ I h) fun u s1 ⟨x, H1, I1, r1, l, ps, ex, hs, hd, ok, q⟩ => Calls.spliced_nil ?_)
  subst ex
  obtain rfl : u = Value.ref l := r1
  have hA := I1.ok.hd hc
  obtain ⟨tu, al, few⟩ := setOk_iff ok
  have tu2 : ∀ p ∈ ps, isTupD p.2 = true := fun p hp => tu _ (List.mem_map.mpr ⟨p, hp, rfl⟩)
  obtain ⟨its, rv, hl⟩ : ∃ its : List Value, Vals (ps.map (·.1)) its ∧ (s1.heap.IsList l its.toArray ∨ s1.heap.IsTuple l its.toArray) := by
    rcases hs with hs | hs
    · obtain ⟨its, rv, pl, hz⟩ := I1.list hs
      exact ⟨its, rv, .inl pl.isList⟩
    · obtain ⟨its, rv, pl, hz⟩ := I1.tuple hs
      exact ⟨its, rv, .inr pl⟩
  obtain ⟨ks, e1, e2, e3⟩ := rows_of_vals I1 rv hd tu2
  subst e2
  have em : (ks.map fun q => (V.ref q.1, q.2)).map (·.2) = ks.map (·.2) := by rw [List.map_map]; rfl
  rw [em] at ok al few tu q
  subst e1
  refine callSetD ks hA (items := (ks.map fun q => Value.ref q.1).toArray) hl (by simp) e3 ok (by omega) fun h2 tk L Z pm sub kp => ?_
  refine Calls.spliced_nil ?_
  have subd : ∀ d ∈ L.map (·.2), d ∈ ks.map (·.2) := fun d z => dedD_sub (pm.mem_iff.mp z)
  have al2 : Alk (L.map (·.2)) 8 := ⟨fun d z => al.pub d (subd d z), fun d z e y => al.al d (subd d z) e (subd e y)⟩
  have ln : L.length ≤ 76 := by
    have := pm.length_eq
    rw [List.length_map] at this
    omega
  refine sorted_setD (s := { s1 with heap := h2, toks := tk }) Z hA (fun p hp => tu p.2 (subd _ (List.mem_map.mpr ⟨p, hp, rfl⟩))) al2 (by omega) fun s2 pp out c L2 kp2 g2 o2 lt hget eo p2 es => ?_
  have lo : s1.heap.objs.size ≤ pp := Nat.le_trans (Nat.le_of_lt (setD_lt Z)) lt
  have J := I1.laid (a := pp) (o := .lst (L2.map fun q => V.ref q.1)) (h' := s2.heap) (t' := s2.toks) (fun b u e => kp2 b u (kp b u e)) lo ⟨by rw [List.length_map, p2.length_eq, sizeLine_eq]; omega, out.toList, c, by rw [eo]; exact vals_of_rows L2, by simpa using hget⟩
  have sok : sortOk (dedD (ks.map (·.2))) = true := sortOk_iff.mpr ⟨.inl fun x hx => tu x (dedD_sub hx), fun x hx => pub_up (by decide) (al.pub x (dedD_sub hx)), fun x hx y hy => al.al x (dedD_sub hx) y (dedD_sub hy)⟩
  have qq := q pp (L2.map fun q => (V.ref q.1, q.2)) (fun r hr => by
    obtain ⟨r0, h0, rfl⟩ := List.mem_map.mp hr
    exact List.mem_map.mpr ⟨r0, sub r0 (p2.mem_iff.mp h0), rfl⟩) (by rw [List.map_map]; exact es.trans (srtD_perm_eq sok pm)) (I1.hok.fresh lo)
  rw [List.map_map] at qq
  exact ⟨.ref pp, _, inv_eta J g2 o2, rfl, qq⟩
def tLenSetD (K : PySem.W.Frag) (te : TE) : TE := fun σ H Q => te σ H fun x H1 => ∃ (l : Addr) (ps : List (V × D)), x = V.ref l ∧ (SqL K H1 l (ps.map (·.1)) ∨ SqT K H1 l (ps.map (·.1))) ∧ (∀ p ∈ ps, Dp K H1 p.1 p.2.py) ∧ setOk (ps.map (·.2)) = true ∧
  Q (.int (dedD (ps.map (·.2))).length) H1
theorem pe_lenSetD (hc : X.calm = true) (hu : X.A.units + 60 < cLine) (hg : Gl X "len") (hm : X.mg "len" = none) (hg2 : Gl X "set") (hm2 : X.mg "set" = none) (hb : bootBuiltins "len" = some (.builtin "len")) (hb2 : bootBuiltins "set" = some (.type "set")) (he : PE X e te)
    (n1 : starEach [e] X.env = (false, eval e X.env) :: starEach [] X.env := by rfl) (n2 : starEach [.Call (.Name "set" p2) [e] [] pos2] X.env = (false, eval (.Call (.Name "set" p2) [e] [] pos2) X.env) :: starEach [] X.env := by rfl) :
    PE X (.Call (.Name "len" p) [.Call (.Name "set" p2) [e] [] pos2] [] pos) (tLenSetD X.K te) := by
  refine ⟨fun pins s σ H Q I h => ?_⟩
  refine wpAny_Call_Name_kw (ld_blt I hg hm hb ?_)
  refine PyProof.Rows.callWith_builtin1 ?_ n2 (by rfl)
  rw [n2]
  show wpAny _ _ (spliced ((false, eval (.Call (.Name "set" p2) [e] [] pos2) X.env) :: backTo pos (starEach [] X.env))) _ _ s
  refine Calls.spliced_cons ?_
  refine wpAny_Call_Name_kw (ld_blt I hg2 hm2 hb2 ?_)
  refine PyProof.Rows.callWith_type1 ?_ n1 rfl
  rw [n1]
  show wpAny _ _ (spliced ((false, eval e X.env) :: backTo pos2 (starEach [] X.env))) _ _ s
  refine Calls.spliced_cons (thn (he.run pins s σ H _ I h) fun u s1 ⟨x, H1, I1, r1, l, ps, ex, hs, hd, ok, q⟩ => Calls.spliced_nil ?_)
  subst ex
  obtain rfl : u = Value.ref l := r1
  have hA := I1.ok.hd hc
  obtain ⟨tu, al, few⟩ := setOk_iff ok
  have tu2 : ∀ p ∈ ps, isTupD p.2 = true := fun p hp => tu _ (List.mem_map.mpr ⟨p, hp, rfl⟩)
  obtain ⟨its, rv, hl⟩ : ∃ its : List Value, Vals (ps.map (·.1)) its ∧ (s1.heap.IsList l its.toArray ∨ s1.heap.IsTuple l its.toArray) := by
    rcases hs with hs | hs
    · obtain ⟨its, rv, pl, hz⟩ := I1.list hs
      exact ⟨its, rv, .inl pl.isList⟩
    · obtain ⟨its, rv, pl, hz⟩ := I1.tuple hs
      exact ⟨its, rv, .inr pl⟩
  obtain ⟨ks, e1, e2, e3⟩ := rows_of_vals I1 rv hd tu2
  subst e2
  have em : (ks.map fun q => (V.ref q.1, q.2)).map (·.2) = ks.map (·.2) := by rw [List.map_map]; rfl
  rw [em] at ok al few tu q
  subst e1
  refine callSetD ks hA (items := (ks.map fun q => Value.ref q.1).toArray) hl (by simp) e3 ok (by omega) fun h2 tk L Z pm sub kp => ?_
  refine Calls.spliced_nil ?_
  have ln := pm.length_eq
  rw [List.length_map] at ln
  have I2 : Inv X pins σ H1 { s1 with heap := h2, toks := tk } := I1.kept fun b o e => kp b o e
  refine len_setD (s := { s1 with heap := h2, toks := tk }) Z ⟨.int L.length, H1, I2.tok _, ⟨_, rfl⟩, by rw [ln]; exact q⟩
def tLenSetA (K : PySem.W.Frag) (te : TE) : TE := fun σ H Q => te σ H fun x H1 => ∃ (l : Addr) (ks : List Key), x = V.ref l ∧ (SqL K H1 l (ks.map kV) ∨ SqT K H1 l (ks.map kV)) ∧ ks.length < 4000 ∧ ∀ n : Nat, (∃ ms : List Key, ms.Nodup ∧ (∀ k, k ∈ ms ↔ k ∈ ks) ∧ ms.length = n) → Q (.int n) H1
theorem pe_lenSetA (hc : X.calm = true) (hg : Gl X "len") (hm : X.mg "len" = none) (hg2 : Gl X "set") (hm2 : X.mg "set" = none) (hb : bootBuiltins "len" = some (.builtin "len")) (hb2 : bootBuiltins "set" = some (.type "set")) (he : PE X e te)
    (n1 : starEach [e] X.env = (false, eval e X.env) :: starEach [] X.env := by rfl) (n2 : starEach [.Call (.Name "set" p2) [e] [] pos2] X.env = (false, eval (.Call (.Name "set" p2) [e] [] pos2) X.env) :: starEach [] X.env := by rfl) :
    PE X (.Call (.Name "len" p) [.Call (.Name "set" p2) [e] [] pos2] [] pos) (tLenSetA X.K te) := by
  refine ⟨fun pins s σ H Q I h => ?_⟩
  refine wpAny_Call_Name_kw (ld_blt I hg hm hb ?_)
  refine PyProof.Rows.callWith_builtin1 ?_ n2 (by rfl)
  rw [n2]
  show wpAny _ _ (spliced ((false, eval (.Call (.Name "set" p2) [e] [] pos2) X.env) :: backTo pos (starEach [] X.env))) _ _ s
  refine Calls.spliced_cons ?_
  refine wpAny_Call_Name_kw (ld_blt I hg2 hm2 hb2 ?_)
  refine PyProof.Rows.callWith_type1 ?_ n1 rfl
  rw [n1]
  show wpAny _ _ (spliced ((false, eval e X.env) :: backTo pos2 (starEach [] X.env))) _ _ s
  refine Calls.spliced_cons (thn (he.run pins s σ H _ I h) fun u s1 ⟨x, H1, I1, r1, l, ks, ex, hs, hl, q⟩ => Calls.spliced_nil ?_)
  subst ex
  obtain rfl : u = Value.ref l := r1
  have hA := I1.ok.hd hc
  refine set_any (ks := ks) I1 hA hs (by rw [show scanBound = 4096 from rfl]; omega) fun h' tk c R hcn hk => ?_
  refine Calls.spliced_nil ?_
  obtain ⟨o, es, ep, t, ho, hex, hd, g, nd, hm, hb, hf, hn, hr, hl2⟩ := R
  have I2 : Inv X pins σ H1 { s1 with heap := h', toks := tk } := I1.kept fun b o e => hk b o e
  refine call_len_set (s := { s1 with heap := h', toks := tk }) ho hex hd hf (by rw [hn]; omega) ⟨.int es.size, H1, I2.tok _, ⟨_, rfl⟩, q es.size ⟨es.toList.map keyX, nd, fun k => ?_, by rw [List.length_map, Array.length_toList]⟩⟩
  rw [← hm, decide_eq_true_eq]
end
variable [Tabs]
def fSetSort (ds : List D) : Option (List D) := match asInts ds, asStrs ds with
  | some ns, _ => if ds.length < 64 then some ((usI ns).map D.int) else none
  | none, some xs => if ds.length < 64 then some ((usS xs).map D.str) else none
  | none, none => if setOk ds = true then some (srtD (dedD ds)) else none
def xSortSetC (a : XE) : XE := fun e S => match a e S with
  | some (x, S1) => match seqD x S1 with
    | some ds => match fSetSort ds with
      | some es => some (.loc S1.length, S1 ++ [.lst es])
      | none => none
    | none => none
  | _ => none
def xSortSetD (a : XE) : XE := fun e S => match a e S with
  | some (x, S1) => match seqD x S1 with
    | some ds => if setOk ds = true then some (.loc S1.length, S1 ++ [.lst (srtD (dedD ds))]) else none
    | none => none
  | _ => none
theorem xC_cases {a : XE} {e : EnvD} {S : Sto} {r : D × Sto} (h : xSortSetC a e S = some r) : xSortSetA a e S = some r ∨ xSortSetD a e S = some r := by
  unfold xSortSetC at h
  split at h
  rotate_left
  · cases h
  rename_i x S1 e1
  split at h
  rotate_left
  · cases h
  rename_i ds e2
  split at h
  rotate_left
  · cases h
  rename_i es e3
  cases h
  unfold fSetSort at e3
  split at e3
  · rename_i ns q
    split at e3
    · rename_i c
      cases e3
      left
      unfold xSortSetA
      rw [e1]; dsimp only; rw [e2]; dsimp only; rw [if_pos c, q]
    · cases e3
  · rename_i xs q1 q2
    split at e3
    · rename_i c
      cases e3
      left
      unfold xSortSetA
      rw [e1]; dsimp only; rw [e2]; dsimp only; rw [if_pos c, q1]; dsimp only; rw [q2]
    · cases e3
  · split at e3
    · rename_i c
      cases e3
      right
      unfold xSortSetD
      rw [e1]; dsimp only; rw [e2]; dsimp only; rw [if_pos c]
    · cases e3
theorem reps_pick {K : PySem.W.Frag} {ρ : List Addr} {H : Hp} {ps qs : List (V × D)} (h : ∀ p ∈ ps, Rep K ρ H p.2 p.1) (s : ∀ q ∈ qs, q ∈ ps) : Reps K ρ H (qs.map (·.2)) (qs.map (·.1)) := reps_of fun q hq => h q (s q hq)
theorem r_sortSetD {X : Cx} {e : Expr} {a : XE} {p p2 pos pos2 : Pos} (hc : X.calm = true) (hu : X.A.units + 250 < cLine) (hg : Gl X "sorted") (hm : X.mg "sorted" = none) (hg2 : Gl X "set") (hm2 : X.mg "set" = none) (hb : bootBuiltins "sorted" = some (.builtin "sorted")) (hb2 : bootBuiltins "set" = some (.type "set")) (he : PE X e (rE X.K a))
    (n1 : starEach [e] X.env = (false, eval e X.env) :: starEach [] X.env := by rfl) (n2 : starEach [.Call (.Name "set" p2) [e] [] pos2] X.env = (false, eval (.Call (.Name "set" p2) [e] [] pos2) X.env) :: starEach [] X.env := by rfl) :
    PE X (.Call (.Name "sorted" p) [.Call (.Name "set" p2) [e] [] pos2] [] pos) (rE X.K (xSortSetD a)) := by
  refine PE.imp (pe_sortSetD hc (by omega) hg hm hg2 hm2 hb hb2 he n1 n2) fun σ H Q ⟨ρ, en, S, d, S', re, g, h, k⟩ => ?_
  unfold xSortSetD at h
  split at h
  rotate_left
  · cases h
  rename_i x S1 ea
  split at h
  rotate_left
  · cases h
  rename_i ds el
  split at h
  rotate_left
  · cases h
  rename_i ok
  cases h
  refine ⟨ρ, en, S, _, S1, re, g, ea, fun ρ1 H1 v x1 g1 hv => ?_⟩
  obtain ⟨aa, vs, rfl, hs, hr⟩ := seqD_rep g1 el hv
  obtain ⟨z1, z2, z3⟩ := reps_zip hr
  obtain ⟨tu, al, few⟩ := setOk_iff ok
  refine ⟨_, vs.zip ds, rfl, by rw [z1]; exact hs, fun p hp => (py_dp (z3 p hp) (al.pub p.2 (by rw [← z2]; exact List.mem_map.mpr ⟨p, hp, rfl⟩))).1, by rw [z2]; exact ok, fun p qs sub eq hp => ?_⟩
  have rr := reps_pick z3 sub
  rw [eq, z2] at rr
  obtain ⟨x2, g2, r2⟩ := lst_new g1 rr hp
  exact k _ _ _ (x1.trans x2) g2 r2
theorem r_sortSetC {X : Cx} {e : Expr} {a : XE} {p p2 pos pos2 : Pos} (hc : X.calm = true) (hu : X.A.units + 250 < cLine) (hg : Gl X "sorted") (hm : X.mg "sorted" = none) (hg2 : Gl X "set") (hm2 : X.mg "set" = none) (hb : bootBuiltins "sorted" = some (.builtin "sorted")) (hb2 : bootBuiltins "set" = some (.type "set")) (he : PE X e (rE X.K a))
    (n1 : starEach [e] X.env = (false, eval e X.env) :: starEach [] X.env := by rfl) (n2 : starEach [.Call (.Name "set" p2) [e] [] pos2] X.env = (false, eval (.Call (.Name "set" p2) [e] [] pos2) X.env) :: starEach [] X.env := by rfl) :
    PE X (.Call (.Name "sorted" p) [.Call (.Name "set" p2) [e] [] pos2] [] pos) (rE X.K (xSortSetC a)) :=
  ⟨fun pins s σ H Q I ⟨ρ, en, S, d, S', re, g, h, k⟩ => (xC_cases h).elim
    (fun h => (r_sortSetA hc hg hm hg2 hm2 hb hb2 he n1 n2).run pins s σ H Q I ⟨ρ, en, S, d, S', re, g, h, k⟩)
    fun h => (r_sortSetD hc hu hg hm hg2 hm2 hb hb2 he n1 n2).run pins s σ H Q I ⟨ρ, en, S, d, S', re, g, h, k⟩⟩
def fSetLen (ds : List D) : Option Nat := match asInts ds, asStrs ds with
  | some ns, _ => if ds.length < 4000 then some (usI ns).length else none
  | none, some xs => if ds.length < 4000 then some (usS xs).length else none
  | none, none => if setOk ds = true then some (dedD ds).length else none
def xLenSet (a : XE) : XE := fun e S => match a e S with
  | some (x, S1) => match seqD x S1 with
    | some ds => match fSetLen ds with
      | some n => some (.int n, S1)
      | none => none
    | none => none
  | _ => none
theorem len_same {α : Type} {l m : List α} (h1 : l.Nodup) (h2 : m.Nodup) (h : ∀ x, x ∈ l ↔ x ∈ m) : l.length = m.length :=
  Nat.le_antisymm (len_sub h1 fun x z => (h x).1 z) (len_sub h2 fun x z => (h x).2 z)
theorem nodup_usI (ns : List Int) : (usI ns).Nodup :=
  List.Pairwise.imp (fun h e => by rw [e] at h; simp [ltI] at h) (pw_sortU (lt := ltI) (fun a b c h1 h2 => by simp only [ltI, decide_eq_true_eq] at *; omega) (fun a b h1 h2 => by simp only [ltI, decide_eq_true_eq, decide_eq_false_iff_not] at *; omega) ns)
theorem nodup_usS (ns : List Str) : (usS ns).Nodup :=
  List.Pairwise.imp (fun h e => by rw [e] at h; exact ltS_irr _ h) (pw_sortU ltS_tr ltS_tot ns)
theorem r_lenSet {X : Cx} {e : Expr} {a : XE} {p p2 pos pos2 : Pos} (hc : X.calm = true) (hu : X.A.units + 250 < cLine) (hg : Gl X "len") (hm : X.mg "len" = none) (hg2 : Gl X "set") (hm2 : X.mg "set" = none) (hb : bootBuiltins "len" = some (.builtin "len")) (hb2 : bootBuiltins "set" = some (.type "set")) (he : PE X e (rE X.K a))
    (n1 : starEach [e] X.env = (false, eval e X.env) :: starEach [] X.env := by rfl) (n2 : starEach [.Call (.Name "set" p2) [e] [] pos2] X.env = (false, eval (.Call (.Name "set" p2) [e] [] pos2) X.env) :: starEach [] X.env := by rfl) :
    PE X (.Call (.Name "len" p) [.Call (.Name "set" p2) [e] [] pos2] [] pos) (rE X.K (xLenSet a)) := by
  refine ⟨fun pins s σ H Q I ⟨ρ, en, S, d, S', re, g, h, k⟩ => ?_⟩
  unfold xLenSet at h
  split at h
  rotate_left
  · cases h
  rename_i x S1 ea
  split at h
  rotate_left
  · cases h
  rename_i ds el
  split at h
  rotate_left
  · cases h
  rename_i n e3
  cases h
  have atoms : ∀ ks : List Key, ds.length < 4000 → (∀ vs, Reps X.K ρ H ds vs → True) → (∀ ρ1 H1 vs, Reps X.K ρ1 H1 ds vs → vs = ks.map kV) → ks.length = ds.length → (∀ m : Nat, (∃ ms : List Key, ms.Nodup ∧ (∀ k, k ∈ ms ↔ k ∈ ks) ∧ ms.length = m) → m = n) →
      tLenSetA X.K (rE X.K a) σ H Q := fun ks hl _ hv hk hn =>
    ⟨ρ, en, S, _, S', re, g, ea, fun ρ1 H1 v x1 g1 hv1 => by
      obtain ⟨aa, vs, rfl, hs, hr⟩ := seqD_rep g1 el hv1
      obtain rfl := hv _ _ _ hr
      exact ⟨aa, ks, rfl, hs, by omega, fun m hm => by rw [hn m hm]; exact k _ _ _ x1 g1 (.int _)⟩⟩
  unfold fSetLen at e3
  split at e3
  · rename_i ns q
    split at e3
    · rename_i c
      cases e3
      refine (pe_lenSetA hc hg hm hg2 hm2 hb hb2 he n1 n2).run pins s σ H Q I (atoms (ns.map Sum.inl) c (fun _ _ => trivial) (fun ρ1 H1 vs hr => by rw [reps_asInts q hr, List.map_map]; rfl) ?_ fun m ⟨ms, nd, hm, ln⟩ => ?_)
      · rw [List.length_map]
        have : ∀ (ds : List D) (ns : List Int), asInts ds = some ns → ns.length = ds.length := by
          intro ds
          induction ds with
          | nil => intro ns h; cases h; rfl
          | cons d r ih =>
            intro ns h
            cases d with
            | int i =>
              cases q : asInts r with
              | none => simp [asInts, q] at h
              | some ms => simp [asInts, q] at h; subst h; rw [List.length_cons, List.length_cons, ih _ q]
            | _ => simp [asInts] at h
        exact this _ _ q
      · rw [← ln]
        have : ms.length = ((usI ns).map (Sum.inl : Int → Key)).length := len_same nd ((List.pairwise_map.mpr (List.Pairwise.imp (fun h e => h (by injection e)) (nodup_usI ns)))) fun k => by
          rw [hm, List.mem_map, List.mem_map]
          exact ⟨fun ⟨y, hy, e⟩ => ⟨y, mem_sortU.mpr hy, e⟩, fun ⟨y, hy, e⟩ => ⟨y, mem_sortU.mp hy, e⟩⟩
        rw [this, List.length_map]
    · cases e3
  · rename_i xs _ q
    split at e3
    · rename_i c
      cases e3
      refine (pe_lenSetA hc hg hm hg2 hm2 hb hb2 he n1 n2).run pins s σ H Q I (atoms (xs.map Sum.inr) c (fun _ _ => trivial) (fun ρ1 H1 vs hr => by rw [reps_asStrs q hr, List.map_map]; rfl) ?_ fun m ⟨ms, nd, hm, ln⟩ => ?_)
      · rw [List.length_map]
        have : ∀ (ds : List D) (ns : List Str), asStrs ds = some ns → ns.length = ds.length := by
          intro ds
          induction ds with
          | nil => intro ns h; cases h; rfl
          | cons d r ih =>
            intro ns h
            cases d with
            | str i =>
              cases q : asStrs r with
              | none => simp [asStrs, q] at h
              | some ms => simp [asStrs, q] at h; subst h; rw [List.length_cons, List.length_cons, ih _ q]
            | _ => simp [asStrs] at h
        exact this _ _ q
      · rw [← ln]
        have : ms.length = ((usS xs).map (Sum.inr : Str → Key)).length := len_same nd ((List.pairwise_map.mpr (List.Pairwise.imp (fun h e => h (by injection e)) (nodup_usS xs)))) fun k => by
          rw [hm, List.mem_map, List.mem_map]
          exact ⟨fun ⟨y, hy, e⟩ => ⟨y, mem_sortU.mpr hy, e⟩, fun ⟨y, hy, e⟩ => ⟨y, mem_sortU.mp hy, e⟩⟩
        rw [this, List.length_map]
    · cases e3
  · split at e3
    · rename_i ok
      cases e3
      refine (pe_lenSetD hc (by omega) hg hm hg2 hm2 hb hb2 he n1 n2).run pins s σ H Q I ⟨ρ, en, S, _, S', re, g, ea, fun ρ1 H1 v x1 g1 hv1 => ?_⟩
      obtain ⟨aa, vs, rfl, hs, hr⟩ := seqD_rep g1 el hv1
      obtain ⟨z1, z2, z3⟩ := reps_zip hr
      obtain ⟨tu, al, few⟩ := setOk_iff ok
      refine ⟨_, vs.zip ds, rfl, by rw [z1]; exact hs, fun p hp => (py_dp (z3 p hp) (al.pub p.2 (by rw [← z2]; exact List.mem_map.mpr ⟨p, hp, rfl⟩))).1, by rw [z2]; exact ok, ?_⟩
      rw [z2]
      exact k _ _ _ x1 g1 (.int _)
    · cases e3
end Mini
end
section
namespace Mini
open PySem PySem.Spec PyProof.Rows L2
variable [Tabs]
def rLtA : R2 := fun x y H Q => rI0 (fun i j => .bl (decide (i < j))) x y H Q ∨ ∃ i j, x = V.str i ∧ y = V.str j ∧ Q (.bl (decide (i.cps.toList < j.cps.toList))) H
theorem orp_ltA {X : Cx} : OpR X (compareOp .Lt) rLtA := OpR.or op_lt op_lt_str
def fLtA (x y : D) (S : Sto) : Option (D × Sto) := match x, y with
  | .str a, .str b => some (.bl (ltS a b), S)
  | x, y => fLt x y S
theorem om_ltA {K : PySem.W.Frag} : OpM K fLtA rLtA := by
  intro ρ H S x y d S' vx vy Q g hx hy e k
  unfold fLtA at e
  split at e
  · cases e
    cases hx
    cases hy
    exact .inr ⟨_, _, rfl, rfl, k ρ H _ .refl g (.bl _)⟩
  · exact .inl (om_lt ρ H S x y d S' vx vy Q g hx hy e k)
section
variable {X : Cx} {pos pos' : Pos}
end
end Mini
end
section
namespace Mini
open PySem L2
variable [Tabs]
section
variable {K : PySem.W.Frag}
end
section
variable {K : PySem.W.Frag}
def T2 (K : PySem.W.Frag) (g : XG) (c : XB) (w1 : XW) (vs1 : List Nat) (g1 : XG) (c1 : XB) (a : XE) (D0 : Addr) (vs : List Nat) (σ : L2.St) (x : V) (H : Hp) (Nx : Hp → Prop) : Prop :=
  rGw K vs g x (L2.wipe σ vs) H fun σ2 H2 => L2.wipe σ2 vs = L2.wipe σ vs ∧ rB K c σ2 H2 fun b H3 =>
    if b = true then rW K w1 σ2 H3 fun J1 H4 => ∃ W1 : Nat → Nat → Hp → Prop, (∃ m, W1 0 m H4) ∧ ∀ j k H, W1 j k H →
      (J1.stop j H ∧ Nx H) ∨ (J1.go j H ∧ ∃ Nx1 : Hp → Prop, (∀ H', Nx1 H' → ∃ k', k' < k ∧ W1 (j + 1) k' H') ∧ ∀ x H', J1.yld j H x H' → rGw K vs1 g1 x (L2.wipe σ2 vs1) H' fun σ3 H5 => L2.wipe σ3 vs1 = L2.wipe σ2 vs1 ∧ rB K c1 σ3 H5 fun b H6 =>
        if b = true then rE K a σ3 H6 fun y H7 => ∃ acc, H7 D0 = some (.lst acc) ∧ acc.length < sizeLine ∧ Nx1 (upd H7 D0 (.lst (acc ++ [y]))) else Nx1 H6)
    else Nx H3
end
section
variable {X : Cx}
end
end Mini
end
section
namespace Mini
open PySem PySem.Spec PyProof.Rows L2
set_option maxHeartbeats 1000000 in
theorem meets_enumerate_one {v : Value} {o : Obj} {Hs : Heap → Prop} (B : Begins v o Hs) :
    Meets (Builtin.«enumerate.__new__» ⟨[.type "enumerate", v], []⟩) (fun _ R s => Hs s.heap ∧
      R (.ok (.ret (.ref (s.heap.push o).objs.size))) { s with heap := (s.heap.push o).push { cls := .type "enumerate", data := .fields #[.none, .bool false, .ref s.heap.objs.size, rawInt 0, .none, .none] } }) :=
  .of_wp fun prog w A R s h => by
    obtain ⟨hp, g, d, tk, os⟩ := s; obtain ⟨h1, h⟩ := h
    have hsub := sub_enumerate
    have q1 : ∀ {A' : Around} {E : Value → Shared → Prop} {Q : Value → Shared → Prop}, Q (.ref hp.objs.size) ⟨hp.push o, g, d, tk, os⟩ → wpAny (model prog w) A' (pyIter v) Q E ⟨hp, g, d, tk, os⟩ :=
      fun q => B.iter prog w _ _ ⟨hp, g, d, tk, os⟩ _ h1 q
    wp_walk using q1
    refine wpAny_stack_any fun st => wpAny_pure ?_
    split
    · rename_i c _ _ _ _ _
      cases (c == Value.type "enumerate")
      · wp_walk using q1
        exact ⟨_, rfl, h⟩
      · wp_walk using q1
        exact ⟨_, rfl, h⟩
    · wp_walk using q1
      exact ⟨_, rfl, h⟩
section
variable {prog : Program} {w : World} {A : Around} {E : Value → Shared → Prop} {s : Shared}
theorem enum_one {v : Value} {o : Obj} {Hs : Heap → Prop} {Q : Value → Shared → Prop} (B : Begins v o Hs) (h1 : Hs s.heap)
    (h : ∀ h', IsEnum h' (s.heap.objs.size + 1) s.heap.objs.size 0 .none → h'.get? s.heap.objs.size = some o → h'.objs.size = s.heap.objs.size + 2 →
      (∀ b o, s.heap.get? b = some o → h'.get? b = some o) → Q (.ref (s.heap.objs.size + 1)) { s with heap := h' }) :
    wpAny (model prog w) A (call (.type "enumerate") [v]) Q E s := by
  refine callType_new PySem.F.called_enumerate (by decide) (PySem.F.typeCall_enumerate_1 _) (PySem.F.newCall_enumerate_1 _) (fun obj => PySem.F.args_object_init_2 obj _) PySem.F.entry_enumerate_new
    (meets_enumerate_one B) ⟨h1, ?_⟩
  have hz : (s.heap.push o).objs.size = s.heap.objs.size + 1 := Heap.size_push ..
  show _ ∧ _
  rw [hz]
  have he : IsEnum ((s.heap.push o).push { cls := .type "enumerate", data := .fields #[.none, .bool false, .ref s.heap.objs.size, rawInt 0, .none, .none] }) (s.heap.objs.size + 1) s.heap.objs.size 0 .none := by
    have := Heap.get?_push_size (s.heap.push o) (o := { cls := .type "enumerate", data := .fields #[.none, .bool false, .ref s.heap.objs.size, rawInt 0, .none, .none] }) rfl
    rw [hz] at this; exact this
  exact ⟨⟨_, he, rfl⟩, h _ he (Heap.get?_push_of_some _ (Heap.get?_push_size _ B.free)) (by rw [Heap.size_push, hz]) fun b o x => Heap.get?_push_of_some _ (Heap.get?_push_of_some _ x)⟩
end
def Iet (K : PySem.W.Frag) (a : Addr) : It :=
  ⟨fun i H => ∃ xs : List V, SqT K H a xs ∧ i < xs.length, fun i H v H' => ∃ T x, v = .ref T ∧ H T = none ∧ H' = upd H T (.tup [.int (i : Nat), x]) ∧ ∀ xs, SqT K H a xs → xs[i]? = some x, fun i H => ∃ xs : List V, SqT K H a xs ∧ xs.length ≤ i⟩
theorem turn_enumT {P : Program} {w : World} {K : PySem.W.Frag} {elts : List Expr} {kk : Nat} {tpos : Pos} (a e it : Addr) (hne : e ≠ it) (hai : a ≠ it) :
    Turn P w K (.Tuple elts kk tpos) (Iet K a) [e, it] e (fun i h => (∃ old, IsEnum h e it ((i : Nat) : Int) old) ∧ h.IsTupleIter it a i) where
  mem := by simp
  obj := fun i h st b hb => by
    obtain ⟨⟨old, he⟩, ⟨o, ho, hc, hd⟩⟩ := st
    have e' : b = e ∨ b = it := by simpa using hb
    rcases e' with z | z
    · rw [z]; exact ⟨_, he, fun v q => nomatch q⟩
    · rw [z]; exact ⟨o, ho, fun v q => by rw [hd] at q; cases q⟩
  keep := fun i h h' st k => let ⟨⟨old, he⟩, hi⟩ := st; ⟨⟨old, k e (by simp) _ he⟩, hi.at fun o q => k it (by simp) o q⟩
  item := by
    intro X hP hw hK hc i pins s σ H E I hf st hg
    subst hP hw hK
    obtain ⟨⟨old, he⟩, hit⟩ := st
    obtain ⟨xs, hq, hx⟩ := hg
    obtain ⟨its, rv, p, hz⟩ := I.tuple hq
    obtain ⟨u, hu, ru⟩ := rv.get (List.getElem?_eq_getElem hx)
    have hel : e < s.heap.objs.size := Heap.lt_size he
    have hil : it < s.heap.objs.size := by obtain ⟨_, q, _⟩ := hit; exact Heap.lt_size q
    have hae : a ≠ e := fun z => by
      obtain ⟨o, ho, hcl, _⟩ := p
      rw [z] at ho
      have q : o = _ := Option.some.inj (ho.symm.trans he)
      rw [q] at hcl
      exact absurd (Value.type.inj hcl) (by decide)
    have hl := rv.length
    refine wpAny_pyNext_enum_itemD (Draws.tuple (A := X.A.in1) (I.ok.hd hc) it a hai its.toArray) he ⟨hit, p⟩ (by simp; omega) hne (by simp; exact ⟨hne, fun z => hae z.symm⟩) fun x h' tk hPx ho hit' hT hsz hk => ?_
    obtain rfl : x = u := by
      have q : its[i]? = some x := by simpa using hPx
      rw [hu] at q; exact (Option.some.inj q).symm
    refine ⟨_, rfl, wpAny_letOwnedTupleGo_enum (s := { s with heap := h', toks := tk + 1 }) ho fun h'' he' sb => ?_⟩
    have hT2 : h''.get? s.heap.objs.size = some { cls := .type "tuple", data := .seq #[.int i tk, x] } := (sb.2 _ (Nat.ne_of_gt hel)).trans hT
    have new : ObjOk X.prog X.w (upd H s.heap.objs.size (.tup [.int (i : Nat), xs[i]])) h'' s.heap.objs.size (.tup [.int (i : Nat), xs[i]]) :=
      ⟨by show 2 ≤ sizeLine; decide, [.int i tk, x], .cons ⟨_, rfl⟩ (.cons ru .nil), ⟨_, hT2, rfl, _, rfl⟩⟩
    have I1 : Inv X pins σ (upd H s.heap.objs.size (.tup [.int (i : Nat), xs[i]])) { s with heap := h'', toks := tk + 1 } :=
      I.turnedNew (ch := [e, it]) (fun b ob hb q => (sb.2 b (fun z => hb (by simp [z]))).trans (hk b ob (fun z => hb (by simp [z])) (fun z => hb (by simp [z])) q)) hf (Nat.le_refl _) new
    refine ⟨.ref s.heap.objs.size, _, I1, rfl, ⟨_, xs[i], rfl, I.hok.fresh (Nat.le_refl _), rfl, fun ys hy => by rw [I.tuple_inj hy hq]; exact List.getElem?_eq_getElem hx⟩, ⟨⟨x, ?_⟩, hit'.1.at fun o q => (sb.2 it (Ne.symm hne)).trans q⟩, fun b hb => ?_⟩
    · have e1 : ((i + 1 : Nat) : Int) = (i : Int) + 1 := by omega
      rw [e1]; exact he'
    · have hb' : b < s.heap.objs.size := by
        have e' : b = e ∨ b = it := by simpa using hb
        rcases e' with z | z
        · rw [z]; exact hel
        · rw [z]; exact hil
      rw [upd_ne (Nat.ne_of_lt hb')]
      exact (hf b hb).1
  done := by
    intro X hP hw hK hc i pins s σ H E I hf st hg
    subst hP hw hK
    obtain ⟨⟨old, he⟩, hit⟩ := st
    obtain ⟨xs, hq, hx⟩ := hg
    obtain ⟨its, rv, p, hz⟩ := I.tuple hq
    obtain ⟨f0, f1, f2, f3, f4, f5⟩ := hf it (by simp)
    have hl := rv.length
    have hT : s.TypeIs (.ref e) "enumerate" := ⟨_, he, rfl⟩
    unfold pyNext
    refine wpAny_bind (wpAny_attempt (wpAny_callSpecial?_slot (name := Str.ofString "__next__") hT PySem.F.slot_enumerate_next
      (wpAny_call_entry PySem.F.slot_enumerate_next hT PySem.F.entry_enumerate_next ?_ (PySem.F.args_enumerate_next_1 _))))
    show wpAny _ _ (field (.ref e) 2 >>= _) _ _ _
    refine wpAny_bind (wpAny_field he rfl (x := .ref it) rfl ?_)
    refine wpAny_bind (wpAny_nextOf_tuple_end (A := X.A.in1) (I.ok.hd hc) hit p (by simp; omega) fun h' x he' hx' => ?_)
    obtain ⟨o, ho, hcc⟩ := hx'
    refine wpAny_bind (wpAny_isInstance (T := "StopIteration") (b := true) ⟨o, ho, hcc⟩ isSubtype_stop ?_)
    exact wpAny_pure ⟨rfl, I.turned (t' := s.toks) (fun b o hb q => he' b o hb q) f0 f1 f3 f4 f5⟩
  self := fun A i s Q E st h => let ⟨⟨_, he⟩, _⟩ := st; wpAny_pyIter_enum he h
def iEnumT (K : PySem.W.Frag) (ta : TA) : TI := fun σ H R => ta σ H fun vs H1 => ∃ a xs, vs = [.ref a] ∧ SqT K H1 a xs ∧ R (Iet K a) H1
theorem pi_enumT {X : Cx} {e : Expr} {ta : TA} {p pos tpos : Pos} {elts : List Expr} {kk : Nat} (hg : Gl X "enumerate") (hm : X.mg "enumerate" = none) (ha : PA X [e] ta) (hs : starEach [e] X.env = [(false, eval e X.env)] := by rfl) :
    PI X (.Tuple elts kk tpos) (.Call (.Name "enumerate" p) [e] [] pos) (iEnumT X.K ta) := by
  refine ⟨fun pins s σ H R I h => ?_⟩
  refine Call_ (ld_blt I hg hm boot_enumerate (PyProof.Rows.callWith_type1 (thn (ha.run pos pins s σ H _ I h) fun us s1 ⟨vs, H1, I1, r1, q1⟩ => ?_) hs rfl))
  obtain ⟨a, xs, ex, hq, q⟩ := q1
  subst ex
  cases r1 with
  | cons r rr =>
    cases rr
    cases r
    obtain ⟨its, rv, p', hz⟩ := I1.tuple hq
    have hal : a < s1.heap.objs.size := by obtain ⟨o, ho, _⟩ := p'; exact Heap.lt_size ho
    refine enum_one (begins_tuple a its.toArray) p' fun h' he hit hsz hk => wpAny_pyIter_enum he ?_
    have I2 : Inv X pins σ H1 { s1 with heap := h' } := I1.kept (t' := s1.toks) hk
    refine ⟨s1.heap.objs.size + 1, [s1.heap.objs.size + 1, s1.heap.objs.size], _, _, H1, rfl, I2, turn_enumT a (s1.heap.objs.size + 1) s1.heap.objs.size (Nat.succ_ne_self _) (Nat.ne_of_lt hal), ⟨⟨.none, he⟩, _, hit, rfl, rfl⟩, fun b hb => ?_, q⟩
    have e' : b = s1.heap.objs.size + 1 ∨ b = s1.heap.objs.size := by simpa using hb
    have hle : s1.heap.objs.size ≤ b := by
      rcases e' with z | z
      · rw [z]; exact Nat.le_add_right _ _
      · rw [z]; exact Nat.le_refl _
    exact I1.fpOk hle (I1.hok.fresh hle)
def enD : Nat → List D → List D
  | _, [] => []
  | n, d :: ds => .tup [.int (n : Int), d] :: enD (n + 1) ds
theorem enD_len : ∀ (n : Nat) (ds : List D), (enD n ds).length = ds.length
  | _, [] => rfl
  | n, d :: ds => congrArg (· + 1) (enD_len (n + 1) ds)
theorem enD_get : ∀ (n : Nat) (ds : List D) (i : Nat) (x : D), (enD n ds)[i]? = some x → ∃ d, ds[i]? = some d ∧ x = .tup [.int ((n + i : Nat) : Int), d]
  | _, [], i, x, h => by simp [enD] at h
  | n, d :: ds, 0, x, h => by simp [enD] at h; exact ⟨d, rfl, h.symm⟩
  | n, d :: ds, i + 1, x, h => by
    have h' : (enD (n + 1) ds)[i]? = some x := by simpa [enD] using h
    obtain ⟨d', h1, h2⟩ := enD_get (n + 1) ds i x h'
    exact ⟨d', by simpa using h1, by rw [h2, show n + 1 + i = n + (i + 1) by omega]⟩
variable [Tabs]
def wEnum (a : XE) : XW := fun e S => match a e S with
  | some (.tup ds, S1) => some (.fix (enD 0 ds), S1)
  | _ => none
theorem rw_enum {X : Cx} {e : Expr} {m : XE} {p pos tpos : Pos} {elts : List Expr} {kk : Nat} (hg : Gl X "enumerate") (hm : X.mg "enumerate" = none) (he : PE X e (rE X.K m)) (hs : starEach [e] X.env = [(false, eval e X.env)] := by rfl) (hs1 : starEach [e] X.env = (false, eval e X.env) :: starEach [] X.env := by rfl) :
    PI X (.Tuple elts kk tpos) (.Call (.Name "enumerate" p) [e] [] pos) (rW X.K (wEnum m)) := by
  refine PI.imp (pi_enumT hg hm (ra_cons he ra_nil hs1) hs) fun σ H R ⟨ρ, en, S, wk, S', re, g, h, k⟩ => ?_
  unfold wEnum at h
  split at h
  rotate_left
  · cases h
  rename_i ds S1 em
  cases h
  refine ⟨ρ, en, S, [.tup ds], _, re, g, by unfold xCons xNil; rw [em], fun ρ1 H1 vs x1 g1 hv => ?_⟩
  cases hv with
  | cons h1 hn =>
    cases hn
    cases h1 with
    | tup hq hr =>
      refine ⟨_, _, rfl, hq, k ρ1 H1 _ x1 g1 ⟨fun ρ2 H2 x2 => ⟨_, x2.tup _ _ hq, by rw [enD_len, hr.length]; exact Nat.le_refl _⟩, fun i d hd ρ2 H2 x2 => ?_⟩⟩
      obtain ⟨d', hd', rfl⟩ := enD_get 0 ds i d hd
      obtain ⟨v, hv, rv⟩ := hr.get hd'
      have hq2 := x2.tup _ _ hq
      refine ⟨⟨_, hq2, (List.getElem?_eq_some_iff.mp hv).1⟩, fun x H3 y S3 g3 => ?_⟩
      obtain ⟨T, z, rfl, hT, rfl, hz⟩ := y
      have ez := hz _ hq2
      rw [hv] at ez
      cases ez
      have x3 : Ext X.K ρ2 H2 ρ2 (upd H2 T (.tup [.int (i : Nat), v])) := ext_new hT
      refine ⟨x3, g3.grow x3 (upd_new hT), ?_⟩
      rw [Nat.zero_add]
      exact .tup (.inl (.inl upd_same)) (.cons (.int _) (.cons ((rv.mono x2).mono x3) .nil))
end Mini
end
section
namespace Mini
open PySem PySem.Spec PyProof.Rows L2 GenW GxR
section
variable {elt tg iter tg1 iter1 : Expr} {ifs ifs1 : List Expr} {scope : Scope} {pos : Pos} {gens : List Comprehension} {d : Nat}
end
inductive Fs (E : Expr) (env : Env) : Nat → List Frame → Prop
  | base : Fs E env 0 []
  | step {d : Nat} {fs : List Frame} {k : Result → Sem Fin} {l : List Value} {it acc : Value} {p : Pos} : Fs E env d fs → Fs E env (d + 1) (.ret k none false l (.compLoop E d it acc env) p [] :: fs)
theorem Fs.over {A : Around} {elt : Expr} {gens : List Comprehension} {scope : Scope} {pos : Pos} {env : Env} : ∀ {d : Nat} {fs : List Frame}, Fs (.GeneratorExp elt gens scope pos) env d fs → ∀ it acc,
    A.over (.compLoop (.GeneratorExp elt gens scope pos) d it acc env) fs = A.deeper env ∧ A.over (.compStart (.GeneratorExp elt gens scope pos) d it acc env) fs = A.deeper env
  | _, _, .base => fun it acc => by
    constructor <;>
    first
    | rfl
    | (obtain ⟨hd, d, fr, gs, u⟩ := A; simp [Around.over, Around.deeper, marksOver, frameCount, unitsOf, envsOf, guardsOf, pushEnvs, pushGuards, Code.envs, Code.env?, Code.isFrame, Code.guards, Code.isGuard, Code.weight, Code.frames, Code.isCreation, Code.isCaller, Code.cUnits])
  | _, _, .step (d := d) (fs := fs) (it := it0) (acc := acc0) (k := k) (l := l) (p := p) h => fun it acc => by
    have ih := (h.over (A := A) it0 acc0).1
    have key : ∀ c : Code, c.isFrame = false → c.weight = 0 → c.cUnits = 0 → c.isGuard = false → A.over c (.ret k none false l (.compLoop (.GeneratorExp elt gens scope pos) d it0 acc0 env) p [] :: fs) = A.over (.compLoop (.GeneratorExp elt gens scope pos) d it0 acc0 env) fs := fun c h1 h2 h3 h4 => by
      unfold Around.over
      have e1 : (marksOver (.ret k none false l (.compLoop (.GeneratorExp elt gens scope pos) d it0 acc0 env) p [] :: fs) (A.handled, A.handled)).1 = (marksOver fs (A.handled, A.handled)).1 := rfl
      have e2 : c.envs = [] := by unfold Code.envs; rw [h1]; rfl
      have e3 : c.guards = [] := by unfold Code.guards; rw [h4]; rfl
      rw [e1, e2, e3, h2, h3]
      simp only [List.map_cons, Frame.where_, frameCount_cons, unitsOf_cons, envsOf_cons, guardsOf_cons, pushEnvs_eq, pushGuards_eq]
      congr 1
      all_goals first
        | omega
        | (cases A.frames <;> simp)
        | (cases A.guards <;> simp)
    exact ⟨(key _ rfl rfl rfl rfl).trans ih, (key _ rfl rfl rfl rfl).trans ih⟩

structure Cl where
  tg : Expr
  iter : Expr
  ifs : List Expr
  wi : TI
  g : TG
  tt : TT
  vs : List Nat
def Cl.c (c : Cl) : Comprehension := ⟨c.tg, c.iter, c.ifs, 0⟩
def ClOk (X' : Cx) (c : Cl) : Prop := PG X' c.tg c.g ∧ PTs X' c.ifs c.tt
def ClIn (X' : Cx) (c : Cl) : Prop := ClOk X' c ∧ PI X' c.tg c.iter c.wi ∧ ∀ env x, foldedSetIterable c.iter env x = pure x
def SubVs : Cl → List Cl → Prop
  | _, [] => True
  | c, d :: ds => (∀ i ∈ d.vs, i ∈ c.vs) ∧ SubVs d ds
section
variable {X' : Cx} {elt : Expr} {scope : Scope} {pos : Pos} {te : TE} {Cons : Nat → V → Hp → (Hp → Prop) → Prop} {A : Around} {gens : List Comprehension} {R : GenEnd} {pinsY : List (Addr × Obj)}
end
end Mini
end
section
namespace Mini
open PySem PySem.Spec PyProof.Rows L2 GenW GxR
section
variable {elt target iter : Expr} {ifs : List Expr} {rest : List Comprehension} {scope : Scope} {pos : Pos} {env : Env}
end
variable [Tabs]
section
variable {X : Cx} {pins : List (Addr × Obj)} {σ : L2.St} {H : Hp} {s : Shared} {elt tg iter : Expr} {ifs : List Expr} {rest : List Comprehension} {scope : Scope} {pos : Pos} {wi : TI}
end


section
variable {X' : Cx} {Cons : Nat → V → Hp → (Hp → Prop) → Prop} {Qd : Nat → Hp → Prop} {B : Around} {a gn n : Nat} {nm qn : Value} {s : Shared}
end
structure GxOkN (X : Cx) (c P : Addr) (elt : Expr) (c0 : Cl) (cs : List Cl) (scope : Scope) (own : List (Str × Nat)) (te : TE) : Prop where
  ck : CK X c P
  code : X.env.code = .ref c
  hd : X.A.handled = none
  room : X.A.depth < recursionLimit
  calm : X.calm = true
  co : scope.isCoroutine = false
  dot : scope.names.lookup (".0" : Str) = some NameKind.local
  ok : BlkOk X.N X.env.scope scope own
  nd : X.N.Nodup
  it : PI X c0.tg c0.iter c0.wi
  fold : ∀ x, genFold c0.iter X.env x = pure x
  own : c0.vs = own.map (·.2)
  sub : SubVs c0 cs
  cls : ∀ (A' : Around), Near X A' → ∀ (s : Shared) (H : Hp) (C : Addr) (code : Value) (cl : List (Str × Addr)) (fp : List Addr) (cc Q : Addr), code = .ref cc → CK (gxC X A' s H scope (gxEnv scope cl C code builtinsNs X.env) fp) cc Q →
    ClOk (gxC X A' s H scope (gxEnv scope cl C code builtinsNs X.env) fp) c0 ∧ ∀ e ∈ cs, ClIn (gxC X A' s H scope (gxEnv scope cl C code builtinsNs X.env) fp) e
  elt : ∀ (A' : Around), Near X A' → ∀ (s : Shared) (H : Hp) (C : Addr) (code : Value) (cl : List (Str × Addr)) (fp : List Addr) (cc Q : Addr), code = .ref cc → CK (gxC X A' s H scope (gxEnv scope cl C code builtinsNs X.env) fp) cc Q → PE (gxC X A' s H scope (gxEnv scope cl C code builtinsNs X.env) fp) elt te
section
variable {X : Cx} {elt : Expr} {c0 : Cl} {cs : List Cl} {scope : Scope} {gpos p pos : Pos} {te : TE}
end
end Mini
end
section
namespace Mini
open PySem L2
variable [Tabs]
structure XCl where
  w : XW
  vs : List Nat
  g : XG
  c : XB
abbrev NA (T : Type) := T → D → Sto → Option (Bool × T × Sto)
section
variable {T : Type}
end
inductive Clx (K : PySem.W.Frag) : List Cl → List XCl → Prop
  | nil : Clx K [] []
  | cons {c : Cl} {x : XCl} {cs : List Cl} {xs : List XCl} : c.wi = rW K x.w → c.g = rGw K x.vs x.g → c.tt = rB K x.c → c.vs = x.vs → Clx K cs xs → Clx K (c :: cs) (x :: xs)
section
variable {T : Type} {K : PySem.W.Frag} {act : NA T} {a : XE} {Cons : Nat → V → Hp → (Hp → Prop) → Prop} {t0 : T} {all : List T} {Fin : Sto → Prop} {ρ0 : List Addr} {H0 : Hp}
def Cur (t0 : T) (done : List T) (t : T) : Prop := (t0 :: done).getLast? = some t
theorem Cur.snoc {done : List T} {t : T} : Cur t0 (done ++ [t]) t := by
  show ((t0 :: done) ++ [t]).getLast? = some t
  exact List.getLast?_concat ..
structure Takes (K : PySem.W.Frag) (act : NA T) (Cons : Nat → V → Hp → (Hp → Prop) → Prop) (t0 : T) (all : List T) (Fin : Sto → Prop) (ρ0 : List Addr) (H0 : Hp) : Prop where
  go : ∀ (done : List T) (t1 : T) (rest : List T) (t : T) (d : D) (ρ : List Addr) (H : Hp) (S S1 : Sto) (y : V) (Nx : Hp → Prop), all = done ++ t1 :: rest → Cur t0 done t → act t d S = some (false, t1, S1) → Ext K ρ0 H0 ρ H → G K ρ H S → Rep K ρ H d y →
    (∀ H5, Ext K ρ H ρ H5 → G K ρ H5 S1 → Nx H5) → Cons rest.length y H Nx
  out : ∀ (n : Nat) (t1 t : T) (d : D) (ρ : List Addr) (H : Hp) (S S1 : Sto) (y : V) (Nx : Hp → Prop), act t d S = some (true, t1, S1) → Fin S1 → Ext K ρ0 H0 ρ H → G K ρ H S → Rep K ρ H d y → Cons n y H Nx
section
variable {cs : List Cl} {xs : List XCl} {c : Cl} {x : XCl}
end
end
end Mini
end
section
namespace Mini
open PySem L2
variable [Tabs]
theorem WalkOk.mono {K : PySem.W.Frag} {ρ ρ' : List Addr} {H H' : Hp} {J : It} {wk : Walk} (x : Ext K ρ H ρ' H') (w : WalkOk K ρ H J wk) : WalkOk K ρ' H' J wk := by
  cases wk with
  | fix ds => exact ⟨fun ρ1 H1 x1 => w.1 ρ1 H1 (x.trans x1), fun i d hd ρ1 H1 x1 => w.2 i d hd ρ1 H1 (x.trans x1)⟩
  | live l =>
    obtain ⟨a, ha, e⟩ := w
    exact ⟨a, pre_get x.pre ha, e⟩
section
variable {X : Cx} {elt : Expr} {c0 : Cl} {cs : List Cl} {x : XCl} {xs : List XCl} {scope : Scope} {gpos p pos : Pos} {a : XE} {cc P : Addr} {own : List (Str × Nat)}
end
end Mini
end
section
namespace Mini
open PySem PySem.Spec PyProof.Rows L2 GenW GxR
section
variable {K : PySem.W.Frag} [Tabs]
def fEqL (y : Bool) (a b : D) (S : Sto) : Option (D × Sto) := match a, b with
  | .loc m, .loc n => match lstAt S m, lstAt S n with
    | some xs, some ys => if (D.pubs 100 xs && D.pubs 100 ys) = true then some (.bl (eqBs xs ys == y), S) else none
    | _, _ => none
  | _, _ => none
theorem eqL_reads {ρ : List Addr} {H : Hp} {S : Sto} {m n : Nat} {xs ys : List D} {vx vy : V} (g : G K ρ H S) (hx : Rep K ρ H (.loc m) vx) (hy : Rep K ρ H (.loc n) vy) (e1 : lstAt S m = some xs) (e2 : lstAt S n = some ys) (p1 : D.pubs 100 xs = true) (p2 : D.pubs 100 ys = true) :
    ∃ d e, Dp K H vx d ∧ Dp K H vy e ∧ d.canLay0 = true ∧ e.canLay0 = true ∧ d.depth ≤ 200 ∧ PyData.eqv d e = eqBs xs ys := by
  cases hx with
  | loc hm =>
    cases hy with
    | loc hn =>
      obtain ⟨vs, hs, hr⟩ := g.lst hm e1
      obtain ⟨us, ht, hu⟩ := g.lst hn e2
      obtain ⟨a1, a2, a3⟩ := pys_dp hr p1
      obtain ⟨b1, b2, b3⟩ := pys_dp hu p2
      refine ⟨.list (D.pys xs), .list (D.pys ys), .lst hs a1, .lst ht b1, a2, b2, ?_, eqBs_py p1 p2⟩
      show PyData.depthAll (D.pys xs) + 1 ≤ 200
      omega
theorem om_neL : OpM K (fEqL false) (rNeV K) := OpM.pure fun ρ H S x y d S' vx vy Q g hx hy e => by
  unfold fEqL at e
  split at e
  · split at e
    · rename_i e1 e2
      split at e
      · rename_i c
        cases e
        rw [Bool.and_eq_true] at c
        obtain ⟨d, e, h1, h2, h3, h4, h5, h6⟩ := eqL_reads g hx hy e1 e2 c.1 c.2
        exact ⟨rfl, fun q => .inr ⟨d, e, h1, h2, h3, h4, h5, by rw [h6]; have := q _ (.bl _); rwa [beq_false] at this⟩⟩
      · cases e
    · cases e
  · cases e
def rGtA (K : PySem.W.Frag) : R2 := fun x y H Q => rI0 (fun i j => .bl (decide (j < i))) x y H Q ∨ ∃ d e, Dp K H x d ∧ Dp K H y e ∧ PySem.W.alike d e = true ∧ d ≠ .none ∧ d.depth ≤ 100 ∧ Q (.bl (PySem.W.dataLt e d)) H
theorem orp_gtA {X : Cx} (hu : X.A.units + 250 < cLine) : OpR X (compareOp .Gt) (rGtA X.K) := OpR.or op_gt (by
  intro pins s σ H x y v u Q I rx ry ⟨d, e, h1, h2, h3, h4, h5, q⟩
  obtain ⟨as, ra⟩ := Dp.reads I d x v h1 rx
  obtain ⟨bs, rb⟩ := Dp.reads I e y u h2 ry
  exact PySem.W.gt_data ra rb h3 h4 (by have := Nat.min_le_left d.depth e.depth; omega) ⟨.bl _, H, I, rfl, q⟩)
def fGtA (x y : D) (S : Sto) : Option (D × Sto) := match x, y with
  | .tup a, .tup b => if (D.pub 100 (.tup a) && D.pub 100 (.tup b) && alikeD (.tup a) (.tup b)) = true then some (.bl (ltD (.tup b) (.tup a)), S) else none
  | x, y => fGt x y S
theorem om_gtA : OpM K fGtA (rGtA K) := by
  intro ρ H S x y d S' vx vy Q g hx hy e k
  unfold fGtA at e
  split at e
  · rename_i a b
    split at e
    · rename_i c
      cases e
      simp only [Bool.and_eq_true] at c
      obtain ⟨a1, a2, a3⟩ := py_dp hx c.1.1
      obtain ⟨b1, b2, b3⟩ := py_dp hy c.1.2
      exact .inr ⟨_, _, a1, b1, c.2, (fun z => by cases z), a3, k ρ H _ .refl g (.bl _)⟩
    · cases e
  · exact .inl (om_gt ρ H S x y d S' vx vy Q g hx hy e k)
end
end Mini
end
section
namespace Mini
open PySem PySem.Spec PyProof.Rows L2
def numT (i : Int) : Str := (toString i)
theorem small_log {i : Int} (h : 0 ≤ i ∧ i < 1000) : i.natAbs.log2 < 1920 := by
  have h1 : i.natAbs < 1000 := by omega
  by_cases z : i.natAbs = 0
  · rw [z]; decide
  · have : i.natAbs.log2 < 10 := (Nat.log2_lt z).mpr (Nat.lt_of_lt_of_le h1 (by decide))
    omega
def fStr (xs : List D) (S : Sto) : Option (D × Sto) := match xs with
  | [.int i] => if 0 ≤ i ∧ i < 1000 then some (.str (numT i), S) else none
  | _ => none
variable [Tabs]
theorem am_str {K : PySem.W.Frag} : AllM K fStr (fun xs H Q => ∃ i, xs = [.int i] ∧ i.natAbs.log2 < 1920 ∧ Q (.str (toString i)) H) := by
  intro ρ H S xs d S' vs Q g hx e k
  unfold fStr at e
  split at e
  · split at e
    · rename_i c
      cases e
      cases hx with
      | cons h hn =>
        cases h; cases hn
        exact ⟨_, rfl, small_log c, k ρ H _ .refl g (.str _)⟩
    · cases e
  · cases e
end Mini
end
section
namespace Mini
open PySem PySem.Spec PyProof.Rows L2 GenW GxR
variable [Tabs]
def rLtB (K : PySem.W.Frag) : R2 := fun x y H Q => rLtA x y H Q ∨ ∃ d e, Dp K H x d ∧ Dp K H y e ∧ PySem.W.alike d e = true ∧ d ≠ .none ∧ d.depth ≤ 100 ∧ Q (.bl (PySem.W.dataLt d e)) H
theorem orp_ltB {X : Cx} (hu : X.A.units + 250 < cLine) : OpR X (compareOp .Lt) (rLtB X.K) := OpR.or orp_ltA (by
  intro pins s σ H x y v u Q I rx ry ⟨d, e, h1, h2, h3, h4, h5, q⟩
  obtain ⟨as, ra⟩ := Dp.reads I d x v h1 rx
  obtain ⟨bs, rb⟩ := Dp.reads I e y u h2 ry
  exact PySem.W.lt_data ra rb h3 h4 (by have := Nat.min_le_left d.depth e.depth; omega) ⟨.bl _, H, I, rfl, q⟩)
def fLtB (x y : D) (S : Sto) : Option (D × Sto) := match x, y with
  | .tup a, .tup b => if (D.pub 100 (.tup a) && D.pub 100 (.tup b) && alikeD (.tup a) (.tup b)) = true then some (.bl (ltD (.tup a) (.tup b)), S) else none
  | x, y => fLtA x y S

theorem om_ltB {K : PySem.W.Frag} : OpM K fLtB (rLtB K) := by
  intro ρ H S x y d S' vx vy Q g hx hy e k
  unfold fLtB at e
  split at e
  · rename_i a b
    split at e
    · rename_i c
      cases e
      simp only [Bool.and_eq_true] at c
      obtain ⟨a1, a2, a3⟩ := py_dp hx c.1.1
      obtain ⟨b1, b2, b3⟩ := py_dp hy c.1.2
      exact .inr ⟨_, _, a1, b1, c.2, (fun z => by cases z), a3, k ρ H _ .refl g (.bl _)⟩
    · cases e
  · exact .inl (om_ltA ρ H S x y d S' vx vy Q g hx hy e k)
end Mini
end
section
namespace Mini
open PySem PySem.Spec PyProof.Rows L2
structure Inj (ds : List D) (n : Nat) : Prop where
  pub : ∀ x ∈ ds, D.pub n x = true
  inj : ∀ x ∈ ds, ∀ y ∈ ds, eqB x y = true → x = y
theorem Inj.tl {x : D} {r : List D} {n : Nat} (a : Inj (x :: r) n) : Inj r n := ⟨fun y h => a.pub y (List.mem_cons_of_mem _ h), fun y h z k => a.inj y (List.mem_cons_of_mem _ h) z (List.mem_cons_of_mem _ k)⟩
theorem Inj.any {x : D} {r : List D} {n : Nat} (a : Inj (x :: r) n) : (r.any fun y => eqB x y) = true ↔ x ∈ r := by
  rw [List.any_eq_true]
  constructor
  · rintro ⟨y, hy, e⟩
    have := a.inj x List.mem_cons_self y (List.mem_cons_of_mem _ hy) e
    rw [this]; exact hy
  · exact fun h => ⟨x, h, eqB_self (a.pub x List.mem_cons_self)⟩
theorem Inj.nk_inj {ds : List D} {n : Nat} (a : Inj ds n) {x y : D} (hx : x ∈ ds) (hy : y ∈ ds) (e : x.nk = y.nk) : x = y :=
  a.inj x hx y hy (nk_eq (a.pub x hx) (a.pub y hy) e)
section
variable {P : Program} {w : World} {A : Around} {E : Value → Shared → Prop} {s : Shared}
end
end Mini
end
section
namespace Mini
open PySem PySem.Spec PyProof.Rows L2 GxR He
inductive DE (K : PySem.W.Frag) : List DictEntry → List (Int × D) → Prop
  | nil : DE K [] []
  | cons {k : Int} {t : Tok} {v : Value} {d : D} {es : List DictEntry} {kvs : List (Int × D)} : CV K v d → DE K es kvs → DE K (⟨hashInt k, .int k t, v⟩ :: es) ((k, d) :: kvs)
def DCst (K : PySem.W.Frag) (mg : Str → Option Value) (x : Str) (kvs : List (Int × D)) : Prop := ∃ a od es ep sl, mg x = some (.ref a) ∧ K.lookup a = some ⟨.type "dict", od, .dict es ep, sl⟩ ∧ DE K es.toList kvs
def cget (kvs : List (Int × D)) (k : Int) : Option D := (kvs.find? fun p => decide (p.1 = k)).map (·.2)
theorem DE.keys {K : PySem.W.Frag} : ∀ {es : List DictEntry} {kvs : List (Int × D)}, DE K es kvs → ∀ e ∈ es, ∃ k t, e.key = .int k t ∧ e.hash = hashInt k
  | _, _, .nil, e, h => by cases h
  | _, _, .cons c r, e, h => by
    rcases List.mem_cons.mp h with rfl | h
    · exact ⟨_, _, rfl, rfl⟩
    · exact r.keys e h
theorem DE.get {K : PySem.W.Frag} (k : Int) : ∀ {es : List DictEntry} {kvs : List (Int × D)}, DE K es kvs → match cget kvs k with
    | some d => ∃ v, (es.find? fun e => Value.isInt k e.key).map (·.val) = some v ∧ CV K v d
    | none => (es.find? fun e => Value.isInt k e.key).map (·.val) = none
  | _, _, .nil => rfl
  | _, _, .cons (k := j) (d := d) c r => by
    have ih := r.get k
    unfold cget
    rw [List.find?_cons, List.find?_cons]
    have e : Value.isInt k (.int j ‹Tok›) = decide (j = k) := by
      first | rfl | (unfold Value.isInt; simp [eq_comm])
    dsimp only
    rw [e]
    by_cases q : j = k
    · rw [decide_eq_true q]
      exact ⟨_, rfl, c⟩
    · rw [decide_eq_false q]
      exact ih
variable [Tabs]
theorem DCst.map {X : Cx} {pins : List (Addr × Obj)} {σ : L2.St} {H : Hp} {s : Shared} {x : Str} {kvs : List (Int × D)} {a : Addr} {od : Option Addr} {es : Array DictEntry} {ep : Nat} {sl : Array (Option Value)} (I : Inv X pins σ H s) (e : X.K.lookup a = some ⟨.type "dict", od, .dict es ep, sl⟩) (h : DE X.K es.toList kvs) : s.heap.IntMap a (fun k => findBy Value.isInt es k) :=
  ⟨_, es, ep, I.kIn a _ e, rfl, rfl, fun e he => h.keys e (by simpa using he), fun _ => rfl⟩
theorem DE.some {K : PySem.W.Frag} {es : List DictEntry} {kvs : List (Int × D)} (h : DE K es kvs) (k : Int) : ((es.find? fun e => Value.isInt k e.key).map (·.val)).isSome = (cget kvs k).isSome := by
  have := h.get k
  cases q : cget kvs k with
  | some d =>
    rw [q] at this
    obtain ⟨v, hv, _⟩ := this
    rw [hv]; rfl
  | none =>
    rw [q] at this
    rw [this]; rfl
end Mini
end
section
namespace Mini
open PySem PySem.Spec PyProof.Rows L2
variable [Tabs] {K : PySem.W.Frag}
def fIntS (xs : List D) (S : Sto) : Option (D × Sto) := match xs with
  | [.str a] => match PySem.intText? a with
    | some n => if a.length ≤ 640 then some (.int n, S) else none
    | none => none
  | _ => none
theorem am_intS : AllM K fIntS (fun xs H Q => ∃ a n, xs = [.str a] ∧ PySem.intText? a = some n ∧ a.length ≤ 640 ∧ Q (.int n) H) := by
  intro ρ H S xs d S' vs Q g hx e k
  unfold fIntS at e
  split at e
  · split at e
    · rename_i a n hn
      split at e
      · rename_i hl
        cases e
        cases hx with
        | cons h r =>
          cases h; cases r
          exact ⟨_, _, rfl, hn, hl, k ρ H _ .refl g (.int _)⟩
      · cases e
    · cases e
  · cases e
end Mini
end
section
namespace Mini
open PySem L2
local macro_rules | `(tactic| walk_at "fact") => `(tactic| with_reducible assumption)
local macro_rules | `(tactic| walk_at "yes") => `(tactic| first | with_reducible assumption | (refine decide_eq_true ?_; first | with_reducible assumption | with_reducible rfl | omega))
local macro_rules | `(tactic| walk_at "no") => `(tactic| first | with_reducible exact Bool.false_ne_true | (refine Bool.eq_false_iff.mp ?_; first | with_reducible assumption | (refine decide_eq_false ?_; first | with_reducible assumption | omega)))
local macro_rules | `(tactic| walk_at "bool") => `(tactic| first | rfl | decide | (simp; done) | (simp; omega) | (simp at *; done) | (simp at *; omega))
local macro_rules | `(tactic| walk_at "bool not") => `(tactic| first | exact Bool.eq_false_iff.mp (by first | rfl | decide) | (simp; done) | (simp; omega) | (simp at *; done) | (simp at *; omega))
local macro_rules | `(tactic| walk_at "pick") => `(tactic| first | rw [if_pos (by walk_at "yes")] | rw [if_neg (by walk_at "no")] | rw [if_pos (by walk_at "bool")] | rw [if_neg (by walk_at "bool not")])
local macro_rules | `(tactic| walk_at "target") => `(tactic| first | ((simp only [gN, List.set_cons_zero, List.set_cons_succ]); rfl) | rfl)
local macro_rules | `(tactic| walk_at "prim") => `(tactic| first | walk_at "fact" | rfl)
local macro_rules | `(tactic| walk_at "ev") => `(tactic| (first
  | with_reducible exact v_c
  | with_reducible exact v_nil
  | ((with_reducible show xVar _ _ _ = _); rfl)
  | ((with_reducible apply v_op); (· walk_at "ev"); (· walk_at "ev"); (· walk_at "prim"))
  | ((with_reducible apply v_cons); (· walk_at "ev"); (· walk_at "ev"))
  | ((with_reducible apply v_call); (· walk_at "ev"); (· rfl); (· walk_at "fact"))
  | ((with_reducible apply v_all); (· walk_at "ev"); (· walk_at "prim"))
  | ((with_reducible apply v_un); (· walk_at "ev"); (· walk_at "prim"))
  | ((with_reducible apply v_if); (· walk_at "ev"); (· (walk_at "pick" <;> walk_at "ev")))
  | ((with_reducible apply v_and); (· walk_at "ev"); (· (walk_at "pick" <;> first | rfl | walk_at "ev")))
  | ((with_reducible apply v_or); (· walk_at "ev"); (· (walk_at "pick" <;> first | rfl | walk_at "ev")))
  | ((with_reducible apply v_not); (· walk_at "ev"); (· rfl))
  | ((with_reducible apply v_isi); (· walk_at "ev"); (· walk_at "prim"))
  | ((with_reducible apply v_met); (· walk_at "ev"); (· walk_at "prim"); (· walk_at "ev"); (· walk_at "prim"))
  | ((with_reducible apply t_tru); (· walk_at "ev"); (· walk_at "prim"))
  | ((with_reducible apply t_val); walk_at "ev")
  | ((with_reducible apply t_not); walk_at "ev")
  | ((with_reducible apply t_and); (· walk_at "ev"); (· (walk_at "pick" <;> first | rfl | walk_at "ev")))
  | ((with_reducible apply t_or); (· walk_at "ev"); (· (walk_at "pick" <;> first | rfl | walk_at "ev")))))
local macro_rules | `(tactic| walk_at "st") => `(tactic| (first
  | with_reducible exact s_nil
  | ((with_reducible apply s_ifs); (· walk_at "ev"); (walk_at "pick"))
  | ((with_reducible apply s_rets); walk_at "ev")
  | with_reducible apply s_seqs
  | with_reducible apply s_nils
  | ((with_reducible apply s_asgs); (· walk_at "ev"); (· walk_at "target"))
  | ((with_reducible apply s_exprs); (· walk_at "ev"))
  | ((with_reducible apply s_puts); (· walk_at "ev"); (· walk_at "ev"); (· walk_at "ev"); (· walk_at "prim"))))
local macro_rules | `(tactic| walk_at "sts") => `(tactic| (repeat walk_at "st"))
mutual
def D.dp : D → Nat
  | .tup ds => D.dps ds + 1
  | _ => 0
def D.dps : List D → Nat
  | [] => 0
  | d :: ds => max (D.dp d) (D.dps ds)
end
theorem wRng1_run {e : EnvD} {S S1 : Sto} {m : XE} {j : Int} (h : m e S = some (.int j, S1)) (hs : smallI j = true) : wRng1 m e S = some (.fix (rngD 0 j), S1) := by
  unfold wRng1
  rw [h]
  dsimp only
  rw [if_pos hs]
theorem wRng2_run {e : EnvD} {S S1 S2 : Sto} {m n : XE} {i j : Int} (h : m e S = some (.int i, S1)) (h2 : n e S1 = some (.int j, S2)) (hs : (smallI i && smallI j) = true) : wRng2 m n e S = some (.fix (rngD i j), S2) := by
  unfold wRng2
  rw [h]
  dsimp only
  rw [h2]
  dsimp only
  rw [if_pos hs]
theorem rng_get {i j : Int} {k : Nat} {d : D} (h : (rngD i j)[k]? = some d) : d = .int (i + k) ∧ k < (j - i).toNat := by
  unfold rngD at h
  rw [List.getElem?_map] at h
  by_cases c : k < (j - i).toNat
  · rw [List.getElem?_range c] at h
    cases h
    exact ⟨rfl, c⟩
  · rw [List.getElem?_eq_none_iff.mpr (by simpa using c)] at h
    cases h
theorem rng_len {i j : Int} : (rngD i j).length = (j - i).toNat := by simp [rngD]
theorem small_i {i : Int} (h0 : -1000000 ≤ i) (h1 : i ≤ 1000000) : smallI i = true := by
  unfold smallI
  simp [h0, h1]
def sCell : XS := (sSeq (sIf (bVal (xOp fLt (xVar 1) (xAll fLen (xCons (xVar 0) xNil)))) (sSeq (sRet (xOp fIx (xVar 0) (xVar 1))) sNil) sNil) (sSeq (sRet (xC (.int 0))) sNil))
def sDigits (f : List D → Sto → Option (D × Sto)) : XS := (sSeq (sAsg (xAll mkLst xNil) (gN 3)) (sSeq (sFor (wRng2 (xVar 1) (xVar 2)) (gN 4) (sSeq (sAsg (xCall 2 f (xCons (xVar 0) (xCons (xVar 4) xNil))) (gN 5)) (sSeq (sIf (bVal (xOp fLt (xVar 5) (xC (.int 0)))) (sSeq (sAsg (xOp fSub (xC (.int 1)) (xOp fMul (xC (.int 2)) (xVar 5))) (gN 5)) sNil) sNil) (sSeq (sIf (bVal (xOp fGe (xVar 5) (xOp fPow (xC (.int 10)) (xC (.int 18))))) (sSeq (sFor (wRng1 (xC (.int 60))) (gN 6) (sSeq (sIf (bVal (xOp fGt (xVar 5) (xC (.int 0)))) (sSeq (sExpr (xMet okList fApp (xVar 3) (xCons (xOp fMod (xAll fInt (xCons (xVar 5) xNil)) (xC (.int 1000))) xNil))) (sSeq (sAsg (xOp fDiv (xVar 5) (xC (.int 1000))) (gN 5)) sNil)) sNil) sNil)) sNil) (sSeq (sAsg (xOp fMod (xAll fInt (xCons (xOp fAdd (xOp fAdd (xOp fMul (xVar 5) (xC (.int 48271))) (xOp fMul (xVar 4) (xC (.int 69621)))) (xC (.int 11))) xNil)) (xC (.int 2147483647))) (gN 7)) (sSeq (sFor (wRng1 (xC (.int 12))) (gN 6) (sSeq (sAsg (xOp fMod (xAll fInt (xCons (xOp fAdd (xOp fAdd (xOp fMul (xVar 7) (xC (.int 16807))) (xOp fMul (xC (.int 7)) (xVar 6))) (xC (.int 1))) xNil)) (xC (.int 2147483647))) (gN 7)) (sSeq (sExpr (xMet okList fApp (xVar 3) (xCons (xOp fMod (xAll fInt (xCons (xOp fDiv (xVar 7) (xC (.int 997))) xNil)) (xC (.int 1000))) xNil))) sNil))) sNil))) sNil)))) (sSeq (sRet (xVar 3)) sNil)))
def sBox (f : List D → Sto → Option (D × Sto)) : XS := (sSeq (sRet (xAll mkLst (xCons (xCall 3 f (xCons (xVar 0) (xCons (xVar 1) (xCons (xVar 2) xNil)))) (xCons (xC (.int 0)) xNil)))) sNil)
def sDraw : XS := (sSeq (sAsg (xOp fIx (xVar 0) (xC (.int 1))) (gN 2)) (sSeq (sPut fPut (xOp fAdd (xVar 2) (xC (.int 1))) (xVar 0) (xC (.int 1))) (sSeq (sIf (bVal (xOp fLt (xVar 2) (xAll fLen (xCons (xOp fIx (xVar 0) (xC (.int 0))) xNil)))) (sSeq (sRet (xOp fMod (xAll fInt (xCons (xOp fIx (xOp fIx (xVar 0) (xC (.int 0))) (xVar 2)) xNil)) (xVar 1))) sNil) sNil) (sSeq (sRet (xC (.int 0))) sNil))))
theorem cell_run {S : Sto} {s : Nat} {ns : List Int} (h : lstAt S s = some (ns.map D.int)) (hl : ns.length ≤ 1000) (k : Nat) : ∃ i : Int, ends (sCell [some (.loc s), some (.int (k : Int))] S) = some (.int i, S) := by
  have q1 : fLen [.loc s] S = some (.int (ns.length : Int), S) := by
    have q := len_lst h
    rw [List.length_map] at q
    exact q
  by_cases c : (k : Int) < ns.length
  · have hk : k < ns.length := by omega
    have q2 : fIx (.loc s) (.int (k : Int)) S = some (.int ns[k], S) := ix_lst h (by rw [List.getElem?_map, List.getElem?_eq_getElem hk]; rfl)
    refine ⟨ns[k], ?_⟩
    apply e_rt
    unfold sCell
    walk_at "sts"
  · refine ⟨0, ?_⟩
    apply e_rt
    unfold sCell
    walk_at "sts"
theorem mul_l (i j : Int) (S : Sto) (h : small64 i = true) : fMul (.int i) (.int j) S = some (.int (i * j), S) := by
  show (match (if (small64 i || small64 j) = true then some (D.int (i * j)) else none) with | some d => some (d, S) | none => none) = _
  rw [h, Bool.true_or, if_pos rfl]
theorem mul_r (i j : Int) (S : Sto) (h : small64 j = true) : fMul (.int i) (.int j) S = some (.int (i * j), S) := by
  show (match (if (small64 i || small64 j) = true then some (D.int (i * j)) else none) with | some d => some (d, S) | none => none) = _
  rw [h, Bool.or_true, if_pos rfl]
theorem pow_18 (S : Sto) : fPow (.int 10) (.int 18) S = some (.int 1000000000000000000, S) := by
  unfold fPow fI
  simp
theorem wRng1_c {e : EnvD} {S : Sto} {j : Int} (hs : smallI j = true) : wRng1 (xC (.int j)) e S = some (.fix (rngD 0 j), S) := wRng1_run rfl hs
def IntsAt (S : Sto) (n : Nat) (b : Nat) : Prop := ∃ ms : List Int, S[n]? = some (.lst (ms.map D.int)) ∧ ms.length ≤ b
def Keeps (n : Nat) (S S' : Sto) : Prop := S'.length = S.length ∧ ∀ i, i ≠ n → S'[i]? = S[i]?
theorem Keeps.refl {n : Nat} {S : Sto} : Keeps n S S := ⟨rfl, fun _ _ => rfl⟩
theorem Keeps.trans {n : Nat} {S S1 S2 : Sto} (a : Keeps n S S1) (b : Keeps n S1 S2) : Keeps n S S2 := ⟨b.1.trans a.1, fun i h => (b.2 i h).trans (a.2 i h)⟩
theorem Keeps.set {n : Nat} {S : Sto} {o : O} : Keeps n S (S.set n o) := ⟨List.length_set, fun i h => List.getElem?_set_ne (Ne.symm h)⟩
theorem Keeps.lst {n m : Nat} {S S' : Sto} {ds : List D} (k : Keeps n S S') (h : m ≠ n) (e : lstAt S m = some ds) : lstAt S' m = some ds := by
  unfold lstAt at e ⊢
  rw [k.2 m h]
  exact e
theorem IntsAt.app {S : Sto} {n b : Nat} (h : IntsAt S n b) (hb : b < 1000000) (i : Int) : ∃ S', fApp (.loc n) [.int i] S = some (.non, S') ∧ IntsAt S' n (b + 1) ∧ Keeps n S S' ∧ okList (.loc n) S = true := by
  obtain ⟨ms, h1, h2⟩ := h
  refine ⟨_, app_run h1 (by rw [List.length_map]; omega), ⟨ms ++ [i], ?_, by simp; omega⟩, .set, okl_run h1⟩
  rw [List.getElem?_set_self (List.getElem?_eq_some_iff.mp h1).1]
  simp
theorem IntsAt.mono {S : Sto} {n b c : Nat} (h : IntsAt S n b) (hb : b ≤ c) : IntsAt S n c := let ⟨ms, h1, h2⟩ := h; ⟨ms, h1, Nat.le_trans h2 hb⟩
theorem dig1 {S : Sto} {L b : Nat} {w : Int} {x0 x1 x2 x4 x6 x7 : Option D} (h : IntsAt S L b) (hb : b + 60 < 1000000) :
    ∃ e' S', sFor (wRng1 (xC (.int 60))) (gN 6) (sSeq (sIf (bVal (xOp fGt (xVar 5) (xC (.int 0)))) (sSeq (sExpr (xMet okList fApp (xVar 3) (xCons (xOp fMod (xAll fInt (xCons (xVar 5) xNil)) (xC (.int 1000))) xNil))) (sSeq (sAsg (xOp fDiv (xVar 5) (xC (.int 1000))) (gN 5)) sNil)) sNil) sNil) [x0, x1, x2, some (.loc L), x4, some (.int w), x6, x7] S = some (.nx e' S') ∧ IntsAt S' L (b + 60) ∧ Keeps L S S' ∧ ∃ w' x6', e' = [x0, x1, x2, some (.loc L), x4, some (.int w'), x6', x7] := by
  have loop := forL_all (g := gN 6) (s := (sSeq (sIf (bVal (xOp fGt (xVar 5) (xC (.int 0)))) (sSeq (sExpr (xMet okList fApp (xVar 3) (xCons (xOp fMod (xAll fInt (xCons (xVar 5) xNil)) (xC (.int 1000))) xNil))) (sSeq (sAsg (xOp fDiv (xVar 5) (xC (.int 1000))) (gN 5)) sNil)) sNil) sNil)) (ds := rngD 0 60) (e := [x0, x1, x2, some (.loc L), x4, some (.int w), x6, x7]) (S := S)
    (P := fun j e' S' => IntsAt S' L (b + j) ∧ Keeps L S S' ∧ ∃ w' x6', e' = [x0, x1, x2, some (.loc L), x4, some (.int w'), x6', x7]) ⟨h, .refl, _, _, rfl⟩ (fun i d hd e' S' ⟨p1, p2, w', x6', p3⟩ => by
      obtain ⟨rfl, hi⟩ := rng_get hd
      subst p3
      have hi : i < 60 := hi
      by_cases c : 0 < w'
      · obtain ⟨S2, q1, q2, q3, q4⟩ := p1.app (by omega) (w' % 1000)
        refine ⟨_, [x0, x1, x2, some (.loc L), x4, some (.int (w' / 1000)), some (.int (0 + (i : Int))), x7], S2, rfl, .inl ?_, q2, p2.trans q3, _, _, rfl⟩
        simp only [List.set_cons_zero, List.set_cons_succ]
        walk_at "sts"
      · refine ⟨_, [x0, x1, x2, some (.loc L), x4, some (.int w'), some (.int (0 + (i : Int))), x7], S', rfl, .inl ?_, p1.mono (by omega), p2, _, _, rfl⟩
        simp only [List.set_cons_zero, List.set_cons_succ]
        walk_at "sts")
  obtain ⟨e', S', h1, h2, h3, h4⟩ := loop
  exact ⟨e', S', s_for_fix (wRng1_c rfl) h1, h2, h3, h4⟩
theorem dig2 {S : Sto} {L b : Nat} {w : Int} {x0 x1 x2 x4 x5 x6 : Option D} (h : IntsAt S L b) (hb : b + 12 < 1000000) :
    ∃ e' S', sFor (wRng1 (xC (.int 12))) (gN 6) (sSeq (sAsg (xOp fMod (xAll fInt (xCons (xOp fAdd (xOp fAdd (xOp fMul (xVar 7) (xC (.int 16807))) (xOp fMul (xC (.int 7)) (xVar 6))) (xC (.int 1))) xNil)) (xC (.int 2147483647))) (gN 7)) (sSeq (sExpr (xMet okList fApp (xVar 3) (xCons (xOp fMod (xAll fInt (xCons (xOp fDiv (xVar 7) (xC (.int 997))) xNil)) (xC (.int 1000))) xNil))) sNil)) [x0, x1, x2, some (.loc L), x4, x5, x6, some (.int w)] S = some (.nx e' S') ∧ IntsAt S' L (b + 12) ∧ Keeps L S S' ∧ ∃ w' x6', e' = [x0, x1, x2, some (.loc L), x4, x5, x6', some (.int w')] := by
  have loop := forL_all (g := gN 6) (s := (sSeq (sAsg (xOp fMod (xAll fInt (xCons (xOp fAdd (xOp fAdd (xOp fMul (xVar 7) (xC (.int 16807))) (xOp fMul (xC (.int 7)) (xVar 6))) (xC (.int 1))) xNil)) (xC (.int 2147483647))) (gN 7)) (sSeq (sExpr (xMet okList fApp (xVar 3) (xCons (xOp fMod (xAll fInt (xCons (xOp fDiv (xVar 7) (xC (.int 997))) xNil)) (xC (.int 1000))) xNil))) sNil))) (ds := rngD 0 12) (e := [x0, x1, x2, some (.loc L), x4, x5, x6, some (.int w)]) (S := S)
    (P := fun j e' S' => IntsAt S' L (b + j) ∧ Keeps L S S' ∧ ∃ w' x6', e' = [x0, x1, x2, some (.loc L), x4, x5, x6', some (.int w')]) ⟨h, .refl, _, _, rfl⟩ (fun i d hd e' S' ⟨p1, p2, w', x6', p3⟩ => by
      obtain ⟨rfl, hi⟩ := rng_get hd
      subst p3
      have hi : i < 12 := hi
      have m1 := mul_r w' 16807 S' rfl
      have m2 := mul_l 7 (0 + (i : Int)) S' rfl
      obtain ⟨S2, q1, q2, q3, q4⟩ := p1.app (by omega) (((w' * 16807 + 7 * (0 + (i : Int)) + 1) % 2147483647) / 997 % 1000)
      refine ⟨_, [x0, x1, x2, some (.loc L), x4, x5, some (.int (0 + (i : Int))), some (.int ((w' * 16807 + 7 * (0 + (i : Int)) + 1) % 2147483647))], S2, rfl, .inl ?_, q2, p2.trans q3, _, _, rfl⟩
      simp only [List.set_cons_zero, List.set_cons_succ]
      walk_at "sts")
  obtain ⟨e', S', h1, h2, h3, h4⟩ := loop
  exact ⟨e', S', s_for_fix (wRng1_c rfl) h1, h2, h3, h4⟩
theorem digits_run (f : List D → Sto → Option (D × Sto)) {S : Sto} {s : Nat} {ns : List Int} (hf : ∀ (S' : Sto) (k : Nat), lstAt S' s = some (ns.map D.int) → ∃ i : Int, f [.loc s, .int (k : Int)] S' = some (.int i, S')) (h : lstAt S s = some (ns.map D.int)) (last : Nat) (hlast : last ≤ 100) :
    ∃ ms : List Int, ms.length ≤ 6000 ∧ ends (sDigits f [some (.loc s), some (.int 0), some (.int (last : Int)), none, none, none, none, none] S) = some (.loc S.length, S ++ [.lst (ms.map D.int)]) := by
  have hs : s < S.length := by
    unfold lstAt at h
    cases q : S[s]? with
    | none => rw [q] at h; cases h
    | some o => exact (List.getElem?_eq_some_iff.mp q).1
  have hne : s ≠ S.length := Nat.ne_of_lt hs
  have h0 : lstAt (S ++ [.lst []]) s = some (ns.map D.int) := by
    unfold lstAt at h ⊢
    rw [List.getElem?_append_left hs]
    exact h
  have loop := forL_all (g := gN 4) (s := (sSeq (sAsg (xCall 2 f (xCons (xVar 0) (xCons (xVar 4) xNil))) (gN 5)) (sSeq (sIf (bVal (xOp fLt (xVar 5) (xC (.int 0)))) (sSeq (sAsg (xOp fSub (xC (.int 1)) (xOp fMul (xC (.int 2)) (xVar 5))) (gN 5)) sNil) sNil) (sSeq (sIf (bVal (xOp fGe (xVar 5) (xOp fPow (xC (.int 10)) (xC (.int 18))))) (sSeq (sFor (wRng1 (xC (.int 60))) (gN 6) (sSeq (sIf (bVal (xOp fGt (xVar 5) (xC (.int 0)))) (sSeq (sExpr (xMet okList fApp (xVar 3) (xCons (xOp fMod (xAll fInt (xCons (xVar 5) xNil)) (xC (.int 1000))) xNil))) (sSeq (sAsg (xOp fDiv (xVar 5) (xC (.int 1000))) (gN 5)) sNil)) sNil) sNil)) sNil) (sSeq (sAsg (xOp fMod (xAll fInt (xCons (xOp fAdd (xOp fAdd (xOp fMul (xVar 5) (xC (.int 48271))) (xOp fMul (xVar 4) (xC (.int 69621)))) (xC (.int 11))) xNil)) (xC (.int 2147483647))) (gN 7)) (sSeq (sFor (wRng1 (xC (.int 12))) (gN 6) (sSeq (sAsg (xOp fMod (xAll fInt (xCons (xOp fAdd (xOp fAdd (xOp fMul (xVar 7) (xC (.int 16807))) (xOp fMul (xC (.int 7)) (xVar 6))) (xC (.int 1))) xNil)) (xC (.int 2147483647))) (gN 7)) (sSeq (sExpr (xMet okList fApp (xVar 3) (xCons (xOp fMod (xAll fInt (xCons (xOp fDiv (xVar 7) (xC (.int 997))) xNil)) (xC (.int 1000))) xNil))) sNil))) sNil))) sNil))))
    (ds := rngD 0 (last : Int)) (e := [some (.loc s), some (.int 0), some (.int (last : Int)), some (.loc S.length), none, none, none, none]) (S := S ++ [.lst []])
    (P := fun j e' S' => IntsAt S' S.length (60 * j) ∧ Keeps S.length (S ++ [.lst []]) S' ∧ ∃ a b c d, e' = [some (.loc s), some (.int 0), some (.int (last : Int)), some (.loc S.length), a, b, c, d]) ⟨⟨[], by simp⟩, .refl, _, _, _, _, rfl⟩ ?_
  · obtain ⟨e', S', h1, ⟨ms, h2, h3⟩, hk, a, b, c, d, rfl⟩ := loop
    rw [rng_len] at h3
    refine ⟨ms, by omega, ?_⟩
    have eS : S' = S ++ [.lst (ms.map D.int)] := by
      apply List.ext_getElem?
      intro i
      by_cases hi : i = S.length
      · subst hi
        rw [h2]
        simp
      · rw [hk.2 i hi]
        by_cases hi2 : i < S.length
        · rw [List.getElem?_append_left hi2, List.getElem?_append_left hi2]
        · rw [List.getElem?_eq_none_iff.mpr (by simp; omega), List.getElem?_eq_none_iff.mpr (by simp; omega)]
    subst eS
    have hw : wRng2 (xVar 1) (xVar 2) [some (.loc s), some (.int 0), some (.int (last : Int)), some (.loc S.length), none, none, none, none] (S ++ [.lst []]) = some (.fix (rngD 0 (last : Int)), S ++ [.lst []]) :=
      wRng2_run rfl rfl (by rw [small_i (by omega) (by omega), small_i (by omega) (by omega)]; rfl)
    have q9 := s_for_fix hw h1
    apply e_rt
    unfold sDigits
    walk_at "st"
    apply s_seq
    · exact q9
    · walk_at "sts"
  · intro i d hd e' S' ⟨p1, p2, a, b, c, dd, p3⟩
    obtain ⟨rfl, hi⟩ := rng_get hd
    subst p3
    rw [Int.zero_add]
    have hi : i < last := by omega
    obtain ⟨v, hv⟩ := hf S' i (p2.lst hne h0)
    -- the cell, made positive
    have rest : ∀ (w : Int), ∃ e2 S2, sSeq (sIf (bVal (xOp fGe (xVar 5) (xOp fPow (xC (.int 10)) (xC (.int 18))))) (sSeq (sFor (wRng1 (xC (.int 60))) (gN 6) (sSeq (sIf (bVal (xOp fGt (xVar 5) (xC (.int 0)))) (sSeq (sExpr (xMet okList fApp (xVar 3) (xCons (xOp fMod (xAll fInt (xCons (xVar 5) xNil)) (xC (.int 1000))) xNil))) (sSeq (sAsg (xOp fDiv (xVar 5) (xC (.int 1000))) (gN 5)) sNil)) sNil) sNil)) sNil) (sSeq (sAsg (xOp fMod (xAll fInt (xCons (xOp fAdd (xOp fAdd (xOp fMul (xVar 5) (xC (.int 48271))) (xOp fMul (xVar 4) (xC (.int 69621)))) (xC (.int 11))) xNil)) (xC (.int 2147483647))) (gN 7)) (sSeq (sFor (wRng1 (xC (.int 12))) (gN 6) (sSeq (sAsg (xOp fMod (xAll fInt (xCons (xOp fAdd (xOp fAdd (xOp fMul (xVar 7) (xC (.int 16807))) (xOp fMul (xC (.int 7)) (xVar 6))) (xC (.int 1))) xNil)) (xC (.int 2147483647))) (gN 7)) (sSeq (sExpr (xMet okList fApp (xVar 3) (xCons (xOp fMod (xAll fInt (xCons (xOp fDiv (xVar 7) (xC (.int 997))) xNil)) (xC (.int 1000))) xNil))) sNil))) sNil))) sNil
        [some (.loc s), some (.int 0), some (.int (last : Int)), some (.loc S.length), some (.int (i : Int)), some (.int w), c, dd] S' = some (.nx e2 S2) ∧ IntsAt S2 S.length (60 * (i + 1)) ∧ Keeps S.length (S ++ [.lst []]) S2 ∧ ∃ a b c d, e2 = [some (.loc s), some (.int 0), some (.int (last : Int)), some (.loc S.length), a, b, c, d] := by
      intro w
      have hp : fPow (.int 10) (.int 18) S' = some (.int 1000000000000000000, S') := pow_18 S'
      by_cases hc : (1000000000000000000 : Int) ≤ w
      · obtain ⟨e2, S2, r1, r2, r3, w', x6', rfl⟩ := dig1 (x0 := some (.loc s)) (x1 := some (.int 0)) (x2 := some (.int (last : Int))) (x4 := some (.int (i : Int))) (x6 := c) (x7 := dd) (w := w) p1 (by omega)
        refine ⟨[some (.loc s), some (.int 0), some (.int (last : Int)), some (.loc S.length), some (.int (i : Int)), some (.int w'), x6', dd], S2, ?_, r2.mono (by omega), p2.trans r3, _, _, _, _, rfl⟩
        walk_at "st"
        apply s_seqs
        apply s_seq
        · exact r1
        · walk_at "sts"
      · have m1 := mul_r w 48271 S' rfl
        have m2 := mul_r (i : Int) 69621 S' rfl
        obtain ⟨e2, S2, r1, r2, r3, w', x6', rfl⟩ := dig2 (x0 := some (.loc s)) (x1 := some (.int 0)) (x2 := some (.int (last : Int))) (x4 := some (.int (i : Int))) (x5 := some (.int w)) (x6 := c) (w := (w * 48271 + (i : Int) * 69621 + 11) % 2147483647) p1 (by omega)
        refine ⟨[some (.loc s), some (.int 0), some (.int (last : Int)), some (.loc S.length), some (.int (i : Int)), some (.int w), x6', some (.int w')], S2, ?_, r2.mono (by omega), p2.trans r3, _, _, _, _, rfl⟩
        walk_at "st"
        walk_at "st"
        walk_at "st"
        walk_at "st"
        apply s_seq
        · exact r1
        · walk_at "sts"
    by_cases hc : v < 0
    · have m1 := mul_l 2 v S' rfl
      obtain ⟨e2, S2, r1, r2, r3, r4⟩ := rest (1 - 2 * v)
      refine ⟨_, e2, S2, rfl, .inl ?_, r2, r3, r4⟩
      simp only [List.set_cons_zero, List.set_cons_succ]
      walk_at "st"
      walk_at "st"
      walk_at "st"
      walk_at "st"
      walk_at "st"
      exact r1
    · obtain ⟨e2, S2, r1, r2, r3, r4⟩ := rest v
      refine ⟨_, e2, S2, rfl, .inl ?_, r2, r3, r4⟩
      simp only [List.set_cons_zero, List.set_cons_succ]
      walk_at "st"
      walk_at "st"
      walk_at "st"
      exact r1
def Box (S : Sto) (b : Nat) : Prop := ∃ (l : Nat) (ms : List Int) (i : Int), S[b]? = some (.lst [.loc l, .int i]) ∧ l ≠ b ∧ S[l]? = some (.lst (ms.map D.int)) ∧ 0 ≤ i ∧ ms.length ≤ 100000
theorem Box.keeps {S S' : Sto} {b n : Nat} (k : Keeps n S S') (h : Box S b) (h1 : b ≠ n) (h2 : ∀ (l : Nat) (ms : List Int) (i : Int), S[b]? = some (.lst [.loc l, .int i]) → S[l]? = some (.lst (ms.map D.int)) → l ≠ n) : Box S' b := by
  obtain ⟨l, ms, i, a1, a2, a3, a4⟩ := h
  exact ⟨l, ms, i, by rw [k.2 b h1]; exact a1, a2, by rw [k.2 l (h2 l ms i a1 a3)]; exact a3, a4⟩
theorem Box.more {S : Sto} {b : Nat} (h : Box S b) (T : Sto) : Box (S ++ T) b := by
  obtain ⟨l, ms, i, a1, a2, a3, a4⟩ := h
  refine ⟨l, ms, i, ?_, a2, ?_, a4⟩
  · rw [List.getElem?_append_left (List.getElem?_eq_some_iff.mp a1).1]; exact a1
  · rw [List.getElem?_append_left (List.getElem?_eq_some_iff.mp a3).1]; exact a3
theorem Box.lt {S : Sto} {b : Nat} (h : Box S b) : b < S.length := by
  obtain ⟨l, ms, i, a1, _⟩ := h
  exact (List.getElem?_eq_some_iff.mp a1).1
theorem box_run (f : List D → Sto → Option (D × Sto)) {S : Sto} {s : Nat} {last : Nat} (hf : ∃ ms : List Int, ms.length ≤ 6000 ∧ f [.loc s, .int 0, .int (last : Int)] S = some (.loc S.length, S ++ [.lst (ms.map D.int)])) :
    ∃ S', ends (sBox f [some (.loc s), some (.int 0), some (.int (last : Int))] S) = some (.loc (S.length + 1), S') ∧ Box S' (S.length + 1) ∧ S'.length = S.length + 2 ∧ S <+: S' := by
  obtain ⟨ms, h1, h2⟩ := hf
  refine ⟨S ++ [.lst (ms.map D.int)] ++ [.lst [.loc S.length, .int 0]], ?_, ⟨S.length, ms, 0, ?_, by omega, ?_, by omega, by omega⟩, by simp, ?_⟩
  · apply fin_eq
    · apply e_rt
      unfold sBox
      walk_at "sts"
    · simp
  · rw [List.getElem?_append_right (by simp)]
    simp
  · rw [List.append_assoc, List.getElem?_append_right (Nat.le_refl _)]
    simp
  · rw [List.append_assoc]
    exact List.prefix_append _ _
end Mini
end
section
namespace Mini
open PySem L2

inductive W where
  | p (d : D) | l (ds : List D) | n (ws : List W) | bx | dk (kvs : List (Key × D)) | m (a ds b : List D)
  deriving Inhabited
abbrev Tape := Option (List Int)
abbrev VEnv := List (Option W)
abbrev UE := VEnv → Tape → Option (W × Tape)
abbrev UL := VEnv → Tape → Option (List W × Tape)
abbrev UB := VEnv → Tape → Option (Bool × Tape)
abbrev UW := VEnv → Tape → Option (List D × Tape)
inductive URes where
  | nx (e : VEnv) (t : Tape) | rt (w : W) (t : Tape) | bk (e : VEnv) (t : Tape) | ct (e : VEnv) (t : Tape)
  deriving Inhabited
abbrev US := VEnv → Tape → Option URes

mutual
def W.nobx : W → Bool
  | .bx => false
  | .n ws => W.nobxs ws
  | _ => true
def W.nobxs : List W → Bool
  | [] => true
  | w :: ws => W.nobx w && W.nobxs ws
end
mutual
def D.np : D → Prop
  | .tup ds => ds.length ≤ 1000000 ∧ D.nps ds
  | .loc _ => False
  | .str x => PyData.strOk x = true
  | _ => True
def D.nps : List D → Prop
  | [] => True
  | d :: ds => D.np d ∧ D.nps ds
end
theorem D.nps_iff : ∀ {ds : List D}, D.nps ds ↔ ∀ d ∈ ds, D.np d
  | [] => by simp [D.nps]
  | d :: ds => by simp [D.nps, D.nps_iff (ds := ds)]
theorem D.nps_get {ds : List D} {i : Nat} {d : D} (h : D.nps ds) (e : ds[i]? = some d) : D.np d := D.nps_iff.mp h d (List.mem_of_getElem? e)
theorem D.nps_app {xs ys : List D} (h : D.nps xs) (k : D.nps ys) : D.nps (xs ++ ys) := D.nps_iff.mpr fun d hd => by
  rcases List.mem_append.mp hd with z | z
  · exact D.nps_iff.mp h d z
  · exact D.nps_iff.mp k d z

mutual
def D.dok : Nat → D → Bool
  | 0, .tup _ => false
  | n + 1, .tup ds => D.doks n ds
  | _, _ => true
def D.doks : Nat → List D → Bool
  | _, [] => true
  | n, d :: ds => D.dok n d && D.doks n ds
end
theorem strOk_app {x y : Str} (h : PyData.strOk x = true) (k : PyData.strOk y = true) : PyData.strOk (x ++ y) = true := by
  unfold PyData.strOk at *
  rw [show (x ++ y).cps = x.cps ++ y.cps from rfl]
  rw [Array.all_append, h, k]; rfl
mutual
theorem D.pub_of : ∀ {d : D} {n : Nat}, D.np d → D.dok n d = true → D.pub n d = true
  | .non, n, _, _ => by cases n <;> rfl
  | .bl _, n, _, _ => by cases n <;> rfl
  | .int _, n, _, _ => by cases n <;> rfl
  | .str x, n, h, _ => by
    have h' : PyData.strOk x = true := h
    cases n <;> exact h'
  | .loc _, _, h, _ => h.elim
  | .tup ds, 0, _, k => by cases k
  | .tup ds, n + 1, h, k => D.pubs_of (ds := ds) (n := n) h.2 k
theorem D.pubs_of : ∀ {ds : List D} {n : Nat}, D.nps ds → D.doks n ds = true → D.pubs n ds = true
  | [], _, _, _ => by unfold D.pubs; rfl
  | d :: ds, n, h, k => by
    have k' : (D.dok n d && D.doks n ds) = true := k
    rw [Bool.and_eq_true] at k'
    show (D.pub n d && D.pubs n ds) = true
    rw [D.pub_of h.1 k'.1, D.pubs_of h.2 k'.2]; rfl
end

abbrev Bxs := Option (Nat × Nat)
def Off (β : Bxs) (k : Nat) : Prop := ∀ b l, β = some (b, l) → k ≠ b ∧ k ≠ l
mutual
inductive Vw (β : Bxs) (S : Sto) : D → W → List Nat → Prop
  | p {d : D} : d.np → Vw β S d (.p d) []
  | l {k : Nat} {ds : List D} : S[k]? = some (.lst ds) → D.nps ds → ds.length ≤ 1000000 → Vw β S (.loc k) (.l ds) [k]
  | n {k : Nat} {ds : List D} {ws : List W} {fs : List (List Nat)} : S[k]? = some (.lst ds) → Vws β S ds ws fs → ds.length ≤ 1000000 → Vw β S (.loc k) (.n ws) (k :: fs.flatten)
  | bx {b l : Nat} : β = some (b, l) → Vw β S (.loc b) .bx []
  | dk {k : Nat} {kvs : List (Key × D)} : S[k]? = some (.dct kvs) → D.nps (kvs.map (·.2)) → Vw β S (.loc k) (.dk kvs) [k]
  | m {k : Nat} {d : D} {a ds b : List D} : d = .tup (a ++ .loc k :: b) → D.nps a → D.nps b → S[k]? = some (.lst ds) → D.nps ds → ds.length ≤ 1000000 → Vw β S d (.m a ds b) [k]
inductive Vws (β : Bxs) (S : Sto) : List D → List W → List (List Nat) → Prop
  | nil : Vws β S [] [] []
  | cons {d : D} {w : W} {f : List Nat} {ds : List D} {ws : List W} {fs : List (List Nat)} : Vw β S d w f → Vws β S ds ws fs → Vws β S (d :: ds) (w :: ws) (f :: fs)
end
def Kn (β : Bxs) (S S' : Sto) : Prop := S.length ≤ S'.length ∧ ∀ i, i < S.length → (∀ b l, β = some (b, l) → i ≠ b) → S'[i]? = S[i]?
def Bx (β : Bxs) (S : Sto) (τ : Tape) : Prop := match β with
  | none => τ = none
  | some (b, l) => ∃ (ms : List Int) (a : Nat), S[b]? = some (.lst [.loc l, .int (a : Int)]) ∧ l ≠ b ∧ S[l]? = some (.lst (ms.map D.int)) ∧ ms.length ≤ 100000 ∧ τ = some (ms.drop a)
theorem Kn.refl {β : Bxs} {S : Sto} : Kn β S S := ⟨Nat.le_refl _, fun _ _ _ => rfl⟩
theorem Kn.trans {β : Bxs} {S S1 S2 : Sto} (a : Kn β S S1) (b : Kn β S1 S2) : Kn β S S2 :=
  ⟨Nat.le_trans a.1 b.1, fun i h k => (b.2 i (Nat.lt_of_lt_of_le h a.1) k).trans (a.2 i h k)⟩
theorem Kn.more {β : Bxs} {S T : Sto} : Kn β S (S ++ T) := ⟨by simp, fun i h _ => List.getElem?_append_left h⟩
theorem Kn.get {β : Bxs} {S S' : Sto} (a : Kn β S S') {i : Nat} {o : O} (h : Off β i) (e : S[i]? = some o) : S'[i]? = some o :=
  (a.2 i (List.getElem?_eq_some_iff.mp e).1 fun b l z => (h b l z).1).trans e
mutual
theorem Vw.kn {β : Bxs} {S S' : Sto} (a : Kn β S S') : ∀ {d : D} {w : W} {f : List Nat}, (∀ k ∈ f, Off β k) → Vw β S d w f → Vw β S' d w f
  | _, _, _, _, .p h => .p h
  | _, _, _, o, .l h k z => .l (a.get (o _ (List.mem_cons_self ..)) h) k z
  | _, _, _, o, .n h k z => .n (a.get (o _ (List.mem_cons_self ..)) h) (Vws.kn a (fun f hf k hk => o k (List.mem_cons_of_mem _ (List.mem_flatten.mpr ⟨f, hf, hk⟩))) k) z
  | _, _, _, _, .bx h => .bx h
  | _, _, _, o, .dk h k => .dk (a.get (o _ (List.mem_cons_self ..)) h) k
  | _, _, _, o, .m e h1 h2 h k z => .m e h1 h2 (a.get (o _ (List.mem_cons_self ..)) h) k z
theorem Vws.kn {β : Bxs} {S S' : Sto} (a : Kn β S S') : ∀ {ds : List D} {ws : List W} {fs : List (List Nat)}, (∀ f ∈ fs, ∀ k ∈ f, Off β k) → Vws β S ds ws fs → Vws β S' ds ws fs
  | _, _, _, _, .nil => .nil
  | _, _, _, o, .cons h k => .cons (Vw.kn a (o _ (List.mem_cons_self ..)) h) (Vws.kn a (fun f hf => o f (List.mem_cons_of_mem _ hf)) k)
end
mutual
theorem Vw.lt {β : Bxs} {S : Sto} : ∀ {d : D} {w : W} {f : List Nat}, Vw β S d w f → ∀ k ∈ f, k < S.length
  | _, _, _, .p _, k, h => by simp at h
  | _, _, _, .l e _ _, k, h => by
    rw [List.mem_singleton] at h; subst h
    exact (List.getElem?_eq_some_iff.mp e).1
  | _, _, _, .n e q _, k, h => by
    rcases List.mem_cons.mp h with rfl | h
    · exact (List.getElem?_eq_some_iff.mp e).1
    · obtain ⟨f, hf, hk⟩ := List.mem_flatten.mp h
      exact Vws.lt q f hf k hk
  | _, _, _, .bx _, k, h => by simp at h
  | _, _, _, .dk e _, k, h => by
    rw [List.mem_singleton] at h; subst h
    exact (List.getElem?_eq_some_iff.mp e).1
  | _, _, _, .m _ _ _ e _ _, k, h => by
    rw [List.mem_singleton] at h; subst h
    exact (List.getElem?_eq_some_iff.mp e).1
theorem Vws.lt {β : Bxs} {S : Sto} : ∀ {ds : List D} {ws : List W} {fs : List (List Nat)}, Vws β S ds ws fs → ∀ f ∈ fs, ∀ k ∈ f, k < S.length
  | _, _, _, .nil, f, hf, _, _ => by simp at hf
  | _, _, _, .cons h q, f, hf, k, hk => by
    rcases List.mem_cons.mp hf with rfl | hf
    · exact Vw.lt h k hk
    · exact Vws.lt q f hf k hk
end
theorem Vws.len {β : Bxs} {S : Sto} : ∀ {ds : List D} {ws : List W} {fs : List (List Nat)}, Vws β S ds ws fs → ds.length = ws.length ∧ fs.length = ws.length
  | _, _, _, .nil => ⟨rfl, rfl⟩
  | _, _, _, .cons _ q => ⟨congrArg (· + 1) (Vws.len q).1, congrArg (· + 1) (Vws.len q).2⟩
theorem Vws.get {β : Bxs} {S : Sto} : ∀ {ds : List D} {ws : List W} {fs : List (List Nat)} {i : Nat} {w : W}, Vws β S ds ws fs → ws[i]? = some w → ∃ d f, ds[i]? = some d ∧ fs[i]? = some f ∧ Vw β S d w f
  | _, _, _, i, w, .nil, e => by simp at e
  | _, _, _, 0, w, .cons h _, e => by simp at e; subst e; exact ⟨_, _, rfl, rfl, h⟩
  | _, _, _, i + 1, w, .cons _ q, e => by
    obtain ⟨d, f, h1, h2, h3⟩ := Vws.get (i := i) q (by simpa using e)
    exact ⟨d, f, by simpa using h1, by simpa using h2, h3⟩
theorem tru_app {S : Sto} {a b : List D} {x : D} : truth S (.tup (a ++ x :: b)) = some true := by cases a <;> rfl
theorem Vws.plain {β : Bxs} {S : Sto} : ∀ {b : List D}, D.nps b → Vws β S b (b.map .p) (b.map fun _ => [])
  | [], _ => .nil
  | _ :: _, h => .cons (.p h.1) (Vws.plain h.2)
theorem Vws.mid {β : Bxs} {S : Sto} {k : Nat} {ds b : List D} (h : S[k]? = some (.lst ds)) (n : D.nps ds) (z : ds.length ≤ 1000000) (hb : D.nps b) : ∀ {a : List D}, D.nps a → Vws β S (a ++ .loc k :: b) (a.map .p ++ .l ds :: b.map .p) (a.map (fun _ => []) ++ [k] :: b.map fun _ => [])
  | [], _ => .cons (.l h n z) (Vws.plain hb)
  | _ :: _, ha => .cons (.p ha.1) (Vws.mid h n z hb ha.2)
theorem flat_mid {k : Nat} {a b : List D} : (a.map (fun _ => ([] : List Nat)) ++ [k] :: b.map fun _ => []).flatten = [k] := by
  induction a with
  | nil =>
    induction b with
    | nil => rfl
    | cons x b ih => simpa using ih
  | cons x a ih => simpa using ih
theorem Bx.kn {β : Bxs} {S S' : Sto} {τ : Tape} (a : Kn β S S') (h : Bx β S τ) (e : ∀ b l, β = some (b, l) → S'[b]? = S[b]?) : Bx β S' τ := by
  cases β with
  | none => exact h
  | some q =>
    obtain ⟨b, l⟩ := q
    obtain ⟨ms, c, h1, h2, h3, h4⟩ := h
    exact ⟨ms, c, (e b l rfl).trans h1, h2, (a.2 l (List.getElem?_eq_some_iff.mp h3).1 fun b' l' z => by cases z; exact h2).trans h3, h4⟩
theorem Bx.more {β : Bxs} {S T : Sto} {τ : Tape} (h : Bx β S τ) : Bx β (S ++ T) τ := h.kn Kn.more fun b l z => by
  subst z
  obtain ⟨ms, c, h1, _⟩ := h
  exact List.getElem?_append_left (List.getElem?_eq_some_iff.mp h1).1
theorem Bx.off {β : Bxs} {S : Sto} {τ : Tape} (h : Bx β S τ) {k : Nat} (hk : S.length ≤ k) : Off β k := fun b l z => by
  subst z
  obtain ⟨ms, c, h1, _, h3, _⟩ := h
  have := (List.getElem?_eq_some_iff.mp h1).1
  have := (List.getElem?_eq_some_iff.mp h3).1
  omega

structure Sit (β : Bxs) (S : Sto) (e : EnvD) (ε : VEnv) (fp : Nat → List Nat) (τ : Tape) : Prop where
  len : e.length = ε.length
  at_ : ∀ (i : Nat) (w : W), ε[i]? = some (some w) → ∃ d, e[i]? = some (some d) ∧ Vw β S d w (fp i)
  off : ∀ i, ∀ k ∈ fp i, Off β k
  nd : ∀ i, (fp i).Nodup
  bx : Bx β S τ
theorem Sit.kn {β : Bxs} {S S' : Sto} {e : EnvD} {ε : VEnv} {fp : Nat → List Nat} {τ τ' : Tape} (s : Sit β S e ε fp τ) (a : Kn β S S') (b : Bx β S' τ') : Sit β S' e ε fp τ' :=
  ⟨s.len, fun i w h => let ⟨d, h1, h2⟩ := s.at_ i w h; ⟨d, h1, h2.kn a (s.off i)⟩, s.off, s.nd, b⟩
def From (β : Bxs) (S : Sto) (us : List Nat) (fp : Nat → List Nat) (fo : List Nat) : Prop := fo.Nodup ∧ ∀ k ∈ fo, Off β k ∧ (S.length ≤ k ∨ ∃ i ∈ us, k ∈ fp i)
theorem From.nil {β : Bxs} {S : Sto} {us : List Nat} {fp : Nat → List Nat} : From β S us fp [] := ⟨.nil, fun k h => by simp at h⟩
theorem From.kn {β : Bxs} {S S1 : Sto} {us : List Nat} {fp : Nat → List Nat} {fo : List Nat} (h : S.length ≤ S1.length) (f : From β S1 us fp fo) : From β S us fp fo :=
  ⟨f.1, fun k hk => ⟨(f.2 k hk).1, (f.2 k hk).2.imp (fun z => Nat.le_trans h z) id⟩⟩
theorem From.sub {β : Bxs} {S : Sto} {us vs : List Nat} {fp : Nat → List Nat} {fo : List Nat} (h : ∀ i ∈ us, i ∈ vs) (f : From β S us fp fo) : From β S vs fp fo :=
  ⟨f.1, fun k hk => ⟨(f.2 k hk).1, (f.2 k hk).2.imp id fun ⟨i, h1, h2⟩ => ⟨i, h i h1, h2⟩⟩⟩

def SE (us : List Nat) (m : XE) (v : UE) : Prop := ∀ β S e ε fp τ w τ', Sit β S e ε fp τ → v ε τ = some (w, τ') → ∃ d S' fo, m e S = some (d, S') ∧ Kn β S S' ∧ Bx β S' τ' ∧ Vw β S' d w fo ∧ From β S us fp fo
def SB (m : XB) (v : UB) : Prop := ∀ β S e ε fp τ k τ', Sit β S e ε fp τ → v ε τ = some (k, τ') → ∃ S', m e S = some (k, S') ∧ Kn β S S' ∧ Bx β S' τ'
def SL (us : List Nat) (m : XL) (v : UL) : Prop := ∀ β S e ε fp τ ws τ', Sit β S e ε fp τ → v ε τ = some (ws, τ') → ∃ ds S' fs, m e S = some (ds, S') ∧ Kn β S S' ∧ Bx β S' τ' ∧ Vws β S' ds ws fs ∧ ∀ fo ∈ fs, From β S us fp fo
def SW (us : List Nat) (m : XW) (v : UW) : Prop := ∀ β S e ε fp τ ds τ', Sit β S e ε fp τ → v ε τ = some (ds, τ') → ∃ wk S', m e S = some (wk, S') ∧ Kn β S S' ∧ Bx β S' τ' ∧ D.nps ds ∧ ds.length ≤ 1000000 ∧
  (wk = .fix ds ∨ ∃ k, wk = .live k ∧ S'[k]? = some (.lst ds) ∧ From β S us fp [k])

def uVar (i : Nat) : UE := fun ε τ => match ε[i]? with
  | some (some w) => some (w, τ)
  | _ => none
def uC (d : D) : UE := fun _ τ => some (.p d, τ)
def uOp (f : W → W → Option W) (a b : UE) : UE := fun ε τ => match a ε τ with
  | none => none
  | some (x, τ1) => match b ε τ1 with
    | none => none
    | some (y, τ2) => match f x y with
      | none => none
      | some z => some (z, τ2)
def uNil : UL := fun _ τ => some ([], τ)
def uCons (a : UE) (l : UL) : UL := fun ε τ => match a ε τ with
  | none => none
  | some (x, τ1) => match l ε τ1 with
    | none => none
    | some (xs, τ2) => some (x :: xs, τ2)
def uAll (f : List W → Option W) (l : UL) : UE := fun ε τ => match l ε τ with
  | none => none
  | some (xs, τ1) => match f xs with
    | none => none
    | some z => some (z, τ1)
def uCall (k : Nat) (F : List W → Tape → Option (W × Tape)) (l : UL) : UE := fun ε τ => match l ε τ with
  | none => none
  | some (ws, τ1) => if ws.length = k then F ws τ1 else none
def uCallP (k : Nat) (F : List W → Tape → Option (W × Tape)) (l : UL) : UE := fun ε τ => match l ε τ with
  | none => none
  | some (ws, τ1) => if (decide (ws.length = k) && W.nobxs ws) = true then match F ws none with
      | some (w, none) => some (w, τ1)
      | _ => none
    else none
def uAnd (a b : UE) : UE := fun ε τ => match a ε τ with
  | some (.p (.bl true), τ1) => b ε τ1
  | some (.p (.bl false), τ1) => some (.p (.bl false), τ1)
  | _ => none
def truthW : W → Option Bool
  | .p d => truth [] d
  | .l ds => some (!ds.isEmpty)
  | .n ws => some (!ws.isEmpty)
  | .bx => none
  | .dk _ => none
  | .m _ _ _ => some true
def uNot (a : UE) : UE := fun ε τ => match a ε τ with
  | none => none
  | some (x, τ1) => match truthW x with
    | none => none
    | some k => some (.p (.bl (!k)), τ1)
def tyW : W → Option Ty
  | .p d => tyD [] d
  | .l _ => some .list
  | .n _ => some .list
  | .bx => none
  | .dk _ => none
  | .m _ _ _ => some .tuple
def uIsi (T : Ty) (a : UE) : UE := fun ε τ => match a ε τ with
  | none => none
  | some (x, τ1) => match tyW x with
    | none => none
    | some t => some (.p (.bl (isTy t T)), τ1)
def cTru (a : UE) : UB := fun ε τ => match a ε τ with
  | none => none
  | some (x, τ1) => match truthW x with
    | none => none
    | some k => some (k, τ1)
def cVal (a : UE) : UB := fun ε τ => match a ε τ with
  | some (.p (.bl t), τ1) => some (t, τ1)
  | _ => none
def cAnd (a b : UB) : UB := fun ε τ => match a ε τ with
  | none => none
  | some (true, τ1) => b ε τ1
  | some (false, τ1) => some (false, τ1)
def cOr (a b : UB) : UB := fun ε τ => match a ε τ with
  | none => none
  | some (true, τ1) => some (true, τ1)
  | some (false, τ1) => b ε τ1
def cNot (a : UB) : UB := fun ε τ => match a ε τ with
  | none => none
  | some (k, τ1) => some (!k, τ1)
def cYes : UB := fun _ τ => some (true, τ)

def OpP (f : D → D → Sto → Option (D × Sto)) (g : W → W → Option W) : Prop := ∀ β S x y w1 w2 p1 p2 w, Vw β S x w1 p1 → Vw β S y w2 p2 → g w1 w2 = some w → ∃ d, w = .p d ∧ d.np ∧ f x y S = some (d, S)
def OpV (u : Bool) (f : D → D → Sto → Option (D × Sto)) (g : W → W → Option W) : Prop := ∀ β S x y w1 w2 p1 p2 w, Vw β S x w1 p1 → Vw β S y w2 p2 → p1.Nodup → g w1 w2 = some w →
  ∃ d T fo, f x y S = some (d, S ++ T) ∧ Vw β (S ++ T) d w fo ∧ fo.Nodup ∧ ∀ k ∈ fo, S.length ≤ k ∨ (u = true ∧ k ∈ p1)
theorem OpP.v {f : D → D → Sto → Option (D × Sto)} {g : W → W → Option W} (h : OpP f g) : OpV false f g := fun β S x y w1 w2 p1 p2 w h1 h2 _ e => by
  obtain ⟨d, rfl, q, r⟩ := h β S x y w1 w2 p1 p2 w h1 h2 e
  exact ⟨d, [], [], by rw [List.append_nil]; exact r, .p q, .nil, fun k hk => by simp at hk⟩
def AllV (u : Bool) (f : List D → Sto → Option (D × Sto)) (g : List W → Option W) : Prop := ∀ β S ds ws fs w, Vws β S ds ws fs → g ws = some w →
  ∃ d T fo, f ds S = some (d, S ++ T) ∧ Vw β (S ++ T) d w fo ∧ fo.Nodup ∧ ∀ k ∈ fo, S.length ≤ k ∨ (u = true ∧ ∃ p ∈ fs, k ∈ p)
def SFn (fr : Bool) (f : List D → Sto → Option (D × Sto)) (F : List W → Tape → Option (W × Tape)) : Prop := ∀ β S ds ws fs τ w τ', Vws β S ds ws fs → (∀ f ∈ fs, f.Nodup ∧ ∀ k ∈ f, Off β k) → Bx β S τ → F ws τ = some (w, τ') →
  ∃ d S' fo, f ds S = some (d, S') ∧ Kn β S S' ∧ Bx β S' τ' ∧ Vw β S' d w fo ∧ fo.Nodup ∧ ∀ k ∈ fo, Off β k ∧ (S.length ≤ k ∨ (fr = false ∧ ∃ p ∈ fs, k ∈ p))
theorem SFn.none {fr : Bool} {f : List D → Sto → Option (D × Sto)} : SFn fr f fun _ _ => none := fun _ _ _ _ _ _ _ _ _ _ _ h => nomatch h

section
variable {us vs : List Nat} {a b : XE} {ua ub : UE} {l : XL} {ul : UL} {p q : XB} {up uq : UB}
theorem se_var (i : Nat) : SE [i] (xVar i) (uVar i) := fun β S e ε fp τ w τ' s h => by
  unfold uVar at h
  split at h
  · rename_i w' q
    cases h
    obtain ⟨d, h1, h2⟩ := s.at_ i _ q
    refine ⟨d, S, fp i, ?_, .refl, s.bx, h2, s.nd i, fun k hk => ⟨s.off i k hk, .inr ⟨i, List.mem_singleton.mpr rfl, hk⟩⟩⟩
    unfold xVar
    rw [h1]
  · cases h
theorem se_c {d : D} (hd : d.np := by first | trivial | exact (by decide +kernel : PyData.strOk _ = true)) : SE [] (xC d) (uC d) := fun β S e ε fp τ w τ' s h => by
  cases h
  exact ⟨d, S, [], rfl, .refl, s.bx, .p hd, .nil⟩
theorem se_op {f : D → D → Sto → Option (D × Sto)} {g : W → W → Option W} {u : Bool} (o : OpV u f g) (ha : SE us a ua) (hb : SE vs b ub) : SE (if u then us else []) (xOp f a b) (uOp g ua ub) := fun β S e ε fp τ w τ' s h => by
  unfold uOp at h
  split at h
  · cases h
  rename_i x τ1 e1
  split at h
  · cases h
  rename_i y τ2 e2
  split at h
  · cases h
  rename_i z e3
  cases h
  obtain ⟨d1, S1, f1, a1, a2, a3, a4, a5⟩ := ha β S e ε fp τ x τ1 s e1
  obtain ⟨d2, S2, f2, b1, b2, b3, b4, b5⟩ := hb β S1 e ε fp τ1 y _ (s.kn a2 a3) e2
  obtain ⟨d, T, fo, c1, c2, c3, c4⟩ := o β S2 d1 d2 x y f1 f2 w (a4.kn b2 fun k hk => (a5.2 k hk).1) b4 a5.1 e3
  refine ⟨d, S2 ++ T, fo, ?_, (a2.trans b2).trans .more, b3.more, c2, c3, fun k hk => ?_⟩
  · unfold xOp
    rw [a1]
    dsimp only
    rw [b1]
    exact c1
  · rcases c4 k hk with z | ⟨rfl, z⟩
    · exact ⟨b3.off z, .inl (Nat.le_trans (a2.trans b2).1 z)⟩
    · exact a5.2 k z
theorem sl_nil : SL [] xNil uNil := fun β S e ε fp τ w τ' s h => by
  cases h
  exact ⟨[], S, [], rfl, .refl, s.bx, .nil, fun f hf => by simp at hf⟩
theorem sl_cons (ha : SE us a ua) (hl : SL vs l ul) : SL (us ++ vs) (xCons a l) (uCons ua ul) := fun β S e ε fp τ w τ' s h => by
  unfold uCons at h
  split at h
  · cases h
  rename_i x τ1 e1
  split at h
  · cases h
  rename_i xs τ2 e2
  cases h
  obtain ⟨d1, S1, f1, a1, a2, a3, a4, a5⟩ := ha β S e ε fp τ x τ1 s e1
  obtain ⟨ds, S2, fs, b1, b2, b3, b4, b5⟩ := hl β S1 e ε fp τ1 xs _ (s.kn a2 a3) e2
  refine ⟨d1 :: ds, S2, f1 :: fs, ?_, a2.trans b2, b3, .cons (a4.kn b2 fun k hk => (a5.2 k hk).1) b4, fun f hf => ?_⟩
  · unfold xCons
    rw [a1]
    dsimp only
    rw [b1]
  · rcases List.mem_cons.mp hf with rfl | hf
    · exact a5.sub fun i hi => List.mem_append_left _ hi
    · exact ((b5 f hf).kn a2.1).sub fun i hi => List.mem_append_right _ hi
theorem se_all {f : List D → Sto → Option (D × Sto)} {g : List W → Option W} {u : Bool} (o : AllV u f g) (hl : SL us l ul) : SE (if u then us else []) (xAll f l) (uAll g ul) := fun β S e ε fp τ w τ' s h => by
  unfold uAll at h
  split at h
  · cases h
  rename_i xs τ1 e1
  split at h
  · cases h
  rename_i z e3
  cases h
  obtain ⟨ds, S1, fs, b1, b2, b3, b4, b5⟩ := hl β S e ε fp τ xs _ s e1
  obtain ⟨d, T, fo, c1, c2, c3, c4⟩ := o β S1 ds xs fs w b4 e3
  refine ⟨d, S1 ++ T, fo, ?_, b2.trans .more, b3.more, c2, c3, fun k hk => ?_⟩
  · unfold xAll
    rw [b1]
    exact c1
  · rcases c4 k hk with z | ⟨rfl, p, hp, z⟩
    · exact ⟨b3.off z, .inl (Nat.le_trans b2.1 z)⟩
    · exact (b5 p hp).2 k z
theorem se_call {f : List D → Sto → Option (D × Sto)} {F : List W → Tape → Option (W × Tape)} {fr : Bool} (k : Nat) (o : SFn fr f F) (hl : SL us l ul) : SE (if fr then [] else us) (xCall k f l) (uCall k F ul) := fun β S e ε fp τ w τ' s h => by
  unfold uCall at h
  split at h
  · cases h
  rename_i xs τ1 e1
  split at h
  rotate_left
  · cases h
  rename_i hk
  obtain ⟨ds, S1, fs, b1, b2, b3, b4, b5⟩ := hl β S e ε fp τ xs _ s e1
  obtain ⟨d, S2, fo, c1, c2, c3, c4, c5, c6⟩ := o β S1 ds xs fs τ1 w τ' b4 (fun f hf => ⟨(b5 f hf).1, fun k hk => ((b5 f hf).2 k hk).1⟩) b3 h
  refine ⟨d, S2, fo, ?_, b2.trans c2, c3, c4, c5, fun k hk => ?_⟩
  · unfold xCall
    rw [b1]
    dsimp only
    rw [if_pos (b4.len.1.trans hk)]
    exact c1
  · obtain ⟨q1, q2⟩ := c6 k hk
    rcases q2 with z | ⟨rfl, p, hp, z⟩
    · exact ⟨q1, .inl (Nat.le_trans b2.1 z)⟩
    · exact (b5 p hp).2 k z
theorem Kn.none {β : Bxs} {S S' : Sto} (h : Kn none S S') : Kn β S S' := ⟨h.1, fun i hi _ => h.2 i hi fun _ _ z => by cases z⟩
mutual
theorem Vw.un {β : Bxs} {S : Sto} : ∀ {d : D} {w : W} {f : List Nat}, Vw none S d w f → Vw β S d w f
  | _, _, _, .p h => .p h
  | _, _, _, .l h k z => .l h k z
  | _, _, _, .n h k z => .n h (Vws.un k) z
  | _, _, _, .bx h => by cases h
  | _, _, _, .dk h k => .dk h k
  | _, _, _, .m e h1 h2 h k z => .m e h1 h2 h k z
theorem Vws.un {β : Bxs} {S : Sto} : ∀ {ds : List D} {ws : List W} {fs : List (List Nat)}, Vws none S ds ws fs → Vws β S ds ws fs
  | _, _, _, .nil => .nil
  | _, _, _, .cons h k => .cons (Vw.un h) (Vws.un k)
end
mutual
theorem Vw.to {β : Bxs} {S : Sto} : ∀ {d : D} {w : W} {f : List Nat}, W.nobx w = true → Vw β S d w f → Vw none S d w f
  | _, _, _, _, .p h => .p h
  | _, _, _, _, .l h k z => .l h k z
  | _, _, _, n, .n h k z => .n h (Vws.to n k) z
  | _, _, _, n, .bx h => by cases n
  | _, _, _, n, .dk h k => .dk h k
  | _, _, _, n, .m e h1 h2 h k z => .m e h1 h2 h k z
theorem Vws.to {β : Bxs} {S : Sto} : ∀ {ds : List D} {ws : List W} {fs : List (List Nat)}, W.nobxs ws = true → Vws β S ds ws fs → Vws none S ds ws fs
  | _, _, _, _, .nil => .nil
  | _, w :: ws, _, n, .cons h k => by
    have n' : (W.nobx w && W.nobxs ws) = true := n
    rw [Bool.and_eq_true] at n'
    exact .cons (Vw.to n'.1 h) (Vws.to n'.2 k)
end
theorem se_callP {f : List D → Sto → Option (D × Sto)} {F : List W → Tape → Option (W × Tape)} {fr : Bool} (k : Nat) (o : SFn fr f F) (hl : SL us l ul) : SE (if fr then [] else us) (xCall k f l) (uCallP k F ul) := fun β S e ε fp τ w τ' s h => by
  unfold uCallP at h
  split at h
  · cases h
  rename_i xs τ1 e1
  split at h
  rotate_left
  · cases h
  rename_i hk
  rw [Bool.and_eq_true, decide_eq_true_eq] at hk
  split at h
  rotate_left
  · cases h
  rename_i w' e2
  cases h
  obtain ⟨ds, S1, fs, b1, b2, b3, b4, b5⟩ := hl β S e ε fp τ xs _ s e1
  obtain ⟨d, S2, fo, c1, c2, c3, c4, c5, c6⟩ := o none S1 ds xs fs none w none (b4.to hk.2) (fun f hf => ⟨(b5 f hf).1, fun k hk b l z => by cases z⟩) rfl e2
  have kn : Kn β S1 S2 := c2.none
  refine ⟨d, S2, fo, ?_, b2.trans kn, ?_, c4.un, c5, fun k hk => ?_⟩
  · unfold xCall
    rw [b1]
    dsimp only
    rw [if_pos (b4.len.1.trans hk.1)]
    exact c1
  · refine b3.kn kn fun b l z => ?_
    subst z
    obtain ⟨ms, c, h1, _⟩ := b3
    exact c2.2 b (List.getElem?_eq_some_iff.mp h1).1 fun _ _ z => by cases z
  · obtain ⟨_, q2⟩ := c6 k hk
    rcases q2 with z | ⟨rfl, p, hp, z⟩
    · exact ⟨b3.off z, .inl (Nat.le_trans b2.1 z)⟩
    · exact (b5 p hp).2 k z
theorem Vw.bl {β : Bxs} {S : Sto} {d : D} {k : Bool} {f : List Nat} (h : Vw β S d (.p (.bl k)) f) : d = .bl k := by cases h; rfl
theorem se_and (ha : SE us a ua) (hb : SE vs b ub) : SE vs (xAnd a b) (uAnd ua ub) := fun β S e ε fp τ w τ' s h => by
  unfold uAnd at h
  split at h
  · rename_i τ1 e1
    obtain ⟨d, S1, f1, a1, a2, a3, a4, a5⟩ := ha β S e ε fp τ _ _ s e1
    cases a4.bl
    obtain ⟨d2, S2, fo, b1, b2, b3, b4, b5⟩ := hb β S1 e ε fp _ w τ' (s.kn a2 a3) h
    exact ⟨d2, S2, fo, by unfold xAnd; rw [a1]; exact b1, a2.trans b2, b3, b4, b5.kn a2.1⟩
  · rename_i τ1 e1
    cases h
    obtain ⟨d, S1, f1, a1, a2, a3, a4, a5⟩ := ha β S e ε fp τ _ _ s e1
    cases a4.bl
    exact ⟨.bl false, S1, [], by unfold xAnd; rw [a1], a2, a3, .p trivial, .nil⟩
  · cases h
theorem truthW_of {β : Bxs} {S : Sto} {d : D} {w : W} {f : List Nat} {k : Bool} (h : Vw β S d w f) (e : truthW w = some k) : truth S d = some k := by
  have go : ∀ {n : Nat} {ds : List D}, S[n]? = some (.lst ds) → truth S (.loc n) = some (!ds.isEmpty) := fun {n ds} h1 => by
    show (match S[n]? with | some (O.lst ds) => some (!ds.isEmpty) | some (O.frz ds) => some (!ds.isEmpty) | _ => none) = _
    rw [h1]
  cases h with
  | p hd =>
    cases d with
    | loc n => exact hd.elim
    | _ => exact e
  | l h1 h2 =>
    cases e
    exact go h1
  | n h1 h2 =>
    cases e
    rw [go h1]
    cases h2 <;> rfl
  | bx _ => cases e
  | dk _ _ => cases e
  | m z _ _ _ _ _ => cases e; subst z; exact tru_app
theorem tyW_of {β : Bxs} {S : Sto} {d : D} {w : W} {f : List Nat} {k : Ty} (h : Vw β S d w f) (e : tyW w = some k) : tyD S d = some k := by
  have go : ∀ {n : Nat} {ds : List D}, S[n]? = some (.lst ds) → tyD S (.loc n) = some .list := fun {n ds} h1 => by
    show (match lstAt S n with | some _ => some Ty.list | none => none) = _
    unfold lstAt
    rw [h1]
  cases h with
  | p hd =>
    cases d with
    | loc n => exact hd.elim
    | _ => exact e
  | l h1 h2 => cases e; exact go h1
  | n h1 h2 => cases e; exact go h1
  | bx _ => cases e
  | dk _ _ => cases e
  | m z _ _ _ _ _ => cases e; subst z; rfl
theorem se_not (ha : SE us a ua) : SE [] (xNot a) (uNot ua) := fun β S e ε fp τ w τ' s h => by
  unfold uNot at h
  split at h
  · cases h
  rename_i x τ1 e1
  split at h
  · cases h
  rename_i k e2
  cases h
  obtain ⟨d, S1, fo, a1, a2, a3, a4, a5⟩ := ha β S e ε fp τ x _ s e1
  exact ⟨.bl (!k), S1, [], by unfold xNot; rw [a1]; dsimp only; rw [truthW_of a4 e2], a2, a3, .p trivial, .nil⟩
theorem se_isi (T : Ty) (ha : SE us a ua) : SE [] (xIsi T a) (uIsi T ua) := fun β S e ε fp τ w τ' s h => by
  unfold uIsi at h
  split at h
  · cases h
  rename_i x τ1 e1
  split at h
  · cases h
  rename_i k e2
  cases h
  obtain ⟨d, S1, fo, a1, a2, a3, a4, a5⟩ := ha β S e ε fp τ x _ s e1
  exact ⟨.bl (isTy k T), S1, [], by unfold xIsi; rw [a1]; dsimp only; rw [tyW_of a4 e2], a2, a3, .p trivial, .nil⟩
theorem sb_tru (ha : SE us a ua) : SB (bTru a) (cTru ua) := fun β S e ε fp τ w τ' s h => by
  unfold cTru at h
  split at h
  · cases h
  rename_i x τ1 e1
  split at h
  · cases h
  rename_i k e2
  cases h
  obtain ⟨d, S1, fo, a1, a2, a3, a4, a5⟩ := ha β S e ε fp τ x _ s e1
  exact ⟨S1, by unfold bTru; rw [a1]; dsimp only; rw [truthW_of a4 e2], a2, a3⟩
theorem sb_val (ha : SE us a ua) : SB (bVal a) (cVal ua) := fun β S e ε fp τ w τ' s h => by
  unfold cVal at h
  split at h
  rotate_left
  · cases h
  rename_i t τ1 e1
  cases h
  obtain ⟨d, S1, fo, a1, a2, a3, a4, a5⟩ := ha β S e ε fp τ _ _ s e1
  cases a4.bl
  exact ⟨S1, by unfold bVal; rw [a1], a2, a3⟩
theorem sb_and (ha : SB p up) (hb : SB q uq) : SB (bAnd p q) (cAnd up uq) := fun β S e ε fp τ w τ' s h => by
  unfold cAnd at h
  split at h
  · cases h
  · rename_i τ1 e1
    obtain ⟨S1, a1, a2, a3⟩ := ha β S e ε fp τ _ _ s e1
    obtain ⟨S2, b1, b2, b3⟩ := hb β S1 e ε fp _ w τ' (s.kn a2 a3) h
    exact ⟨S2, by unfold bAnd; rw [a1]; exact b1, a2.trans b2, b3⟩
  · rename_i τ1 e1
    cases h
    obtain ⟨S1, a1, a2, a3⟩ := ha β S e ε fp τ _ _ s e1
    exact ⟨S1, by unfold bAnd; rw [a1], a2, a3⟩
theorem sb_or (ha : SB p up) (hb : SB q uq) : SB (bOr p q) (cOr up uq) := fun β S e ε fp τ w τ' s h => by
  unfold cOr at h
  split at h
  · cases h
  · rename_i τ1 e1
    cases h
    obtain ⟨S1, a1, a2, a3⟩ := ha β S e ε fp τ _ _ s e1
    exact ⟨S1, by unfold bOr; rw [a1], a2, a3⟩
  · rename_i τ1 e1
    obtain ⟨S1, a1, a2, a3⟩ := ha β S e ε fp τ _ _ s e1
    obtain ⟨S2, b1, b2, b3⟩ := hb β S1 e ε fp _ w τ' (s.kn a2 a3) h
    exact ⟨S2, by unfold bOr; rw [a1]; exact b1, a2.trans b2, b3⟩
theorem sb_not (ha : SB p up) : SB (bNot p) (cNot up) := fun β S e ε fp τ w τ' s h => by
  unfold cNot at h
  split at h
  · cases h
  rename_i k τ1 e1
  cases h
  obtain ⟨S1, a1, a2, a3⟩ := ha β S e ε fp τ _ _ s e1
  exact ⟨S1, by unfold bNot; rw [a1], a2, a3⟩
theorem sb_yes : SB bYes cYes := fun β S e ε fp τ w τ' s h => by
  cases h
  exact ⟨S, rfl, .refl, s.bx⟩
end
end Mini
end
section
namespace Mini
open PySem L2

def wI (g : Int → Int → Option D) : W → W → Option W
  | .p (.int i), .p (.int j) => match g i j with
    | some d => some (.p d)
    | none => none
  | _, _ => none
theorem opP_I {g : Int → Int → Option D} (h : ∀ i j d, g i j = some d → d.np) : OpP (fI g) (wI g) := fun β S x y w1 w2 p1 p2 w h1 h2 e => by
  unfold wI at e
  split at e
  · rename_i i j
    split at e
    · rename_i d eg
      cases e
      cases h1; cases h2
      exact ⟨d, rfl, h i j d eg, by unfold fI; dsimp only; rw [eg]⟩
    · cases e
  · cases e
def wSub : W → W → Option W := wI fun i j => some (.int (i - j))
def wMul : W → W → Option W := wI fun i j => if (small64 i || small64 j) = true then some (.int (i * j)) else none
def wDiv : W → W → Option W := wI fun i j => if (decide (0 < j) && decide (j < 1073741824)) = true then some (.int (i / j)) else none
def wMod : W → W → Option W := wI fun i j => if decide (0 < j) = true then some (.int (i % j)) else none
def wLt : W → W → Option W := wI fun i j => some (.bl (decide (i < j)))
def wGt : W → W → Option W := wI fun i j => some (.bl (decide (j < i)))
def wGe : W → W → Option W := wI fun i j => some (.bl (decide (j ≤ i)))
theorem op_sub' : OpP fSub wSub := opP_I fun i j d h => by cases h; trivial
theorem op_mul' : OpP fMul wMul := opP_I fun i j d h => by split at h <;> cases h; trivial
theorem op_div' : OpP fDiv wDiv := opP_I fun i j d h => by split at h <;> cases h; trivial
theorem op_mod' : OpP fMod wMod := opP_I fun i j d h => by split at h <;> cases h; trivial
theorem op_lt' : OpP fLt wLt := opP_I fun i j d h => by cases h; trivial
theorem op_gt' : OpP fGt wGt := opP_I fun i j d h => by cases h; trivial
theorem op_ge' : OpP fGe wGe := opP_I fun i j d h => by cases h; trivial
def wAdd : W → W → Option W := wI fun i j => some (.int (i + j))
theorem op_add' : OpP fAdd wAdd := fun β S x y w1 w2 p1 p2 w h1 h2 e => by
  unfold wAdd wI at e
  split at e
  · cases e
    cases h1; cases h2
    exact ⟨_, rfl, trivial, rfl⟩
  · cases e
def wPlus : W → W → Option W
  | .p (.int i), .p (.int j) => some (.p (.int (i + j)))
  | .p (.str i), .p (.str j) => if i.length + j.length ≤ 1000000 then some (.p (.str (i ++ j))) else none
  | .p (.tup xs), .p (.tup ys) => if xs.length + ys.length ≤ 1000000 then some (.p (.tup (xs ++ ys))) else none
  | .l xs, .l ys => if xs.length + ys.length ≤ 1000000 then some (.l (xs ++ ys)) else none
  | _, _ => none
theorem op_plus' : OpV false fPlus wPlus := fun β S x y w1 w2 p1 p2 w h1 h2 _ e => by
  unfold wPlus at e
  split at e
  · cases e; cases h1; cases h2
    exact ⟨_, [], [], by rw [List.append_nil]; rfl, .p trivial, .nil, fun k hk => by simp at hk⟩
  · split at e
    · rename_i c
      cases e; cases h1; cases h2
      rename_i n2 _ n1
      exact ⟨_, [], [], by rw [List.append_nil]; unfold fPlus; dsimp only; rw [if_pos c], .p (strOk_app n2 n1), .nil, fun k hk => by simp at hk⟩
    · cases e
  · split at e
    · rename_i c
      cases e
      cases h1 with
      | p n1 =>
        cases h2 with
        | p n2 =>
          exact ⟨_, [], [], by rw [List.append_nil]; unfold fPlus; dsimp only; rw [if_pos c], .p ⟨by rw [List.length_append]; exact c, D.nps_app n1.2 n2.2⟩, .nil, fun k hk => by simp at hk⟩
    · cases e
  · rename_i xs ys
    split at e
    · rename_i c
      cases e
      cases h1 with
      | l a1 a2 a3 =>
        cases h2 with
        | l b1 b2 b3 =>
          refine ⟨.loc S.length, [.lst (xs ++ ys)], [S.length], ?_, .l (by simp) (D.nps_app a2 b2) (by rw [List.length_append]; exact c), by simp, fun k hk => .inl (by simp at hk; omega)⟩
          unfold fPlus
          dsimp only
          rw [a1, b1]
          dsimp only
          rw [if_pos c]
    · cases e
  · cases e
def eqV (x y : D) : Option Bool := match eqS x y with
  | some b => some b
  | none => if (D.dok 200 x && D.dok 200 y) = true then some (eqB x y) else none
theorem eqV_F {x y : D} {b : Bool} (hx : x.np) (hy : y.np) (h : eqV x y = some b) : eqF x y = some b := by
  unfold eqV at h
  unfold eqF
  cases q : eqS x y with
  | some b1 => rw [q] at h; exact h
  | none =>
    rw [q] at h
    dsimp only at h ⊢
    by_cases c : (D.dok 200 x && D.dok 200 y) = true
    · rw [if_pos c] at h
      rw [Bool.and_eq_true] at c
      rw [D.pub_of hx c.1, D.pub_of hy c.2]
      exact h
    · rw [if_neg c] at h
      cases h
def wEq : W → W → Option W
  | .p x, .p y => match eqV x y with
    | some b => some (.p (.bl b))
    | none => none
  | _, _ => none
def wNe : W → W → Option W
  | .p x, .p y => match eqV x y with
    | some b => some (.p (.bl (!b)))
    | none => none
  | _, _ => none
theorem Vw.pd {β : Bxs} {S : Sto} {d d' : D} {f : List Nat} (h : Vw β S d (.p d') f) : d = d' ∧ d'.np ∧ f = [] := by
  cases h with
  | p q => exact ⟨rfl, q, rfl⟩
theorem op_eq' : OpP fEq wEq := fun β S x y w1 w2 p1 p2 w h1 h2 e => by
  unfold wEq at e
  split at e
  · split at e
    · rename_i b eb
      cases e
      obtain ⟨rfl, n1, _⟩ := h1.pd
      obtain ⟨rfl, n2, _⟩ := h2.pd
      exact ⟨_, rfl, trivial, by unfold fEq; rw [eqV_F n1 n2 eb]⟩
    · cases e
  · cases e
theorem op_ne' : OpP fNe wNe := fun β S x y w1 w2 p1 p2 w h1 h2 e => by
  unfold wNe at e
  split at e
  · split at e
    · rename_i b eb
      cases e
      obtain ⟨rfl, n1, _⟩ := h1.pd
      obtain ⟨rfl, n2, _⟩ := h2.pd
      exact ⟨_, rfl, trivial, by unfold fNe; rw [eqV_F n1 n2 eb]⟩
    · cases e
  · cases e
def isW : W → W → Option Bool
  | .p x, .p y => isF x y
  | .l _, .p .non => some false
  | .n _, .p .non => some false
  | _, _ => none
def wIs (x y : W) : Option W := match isW x y with
  | some b => some (.p (.bl b))
  | none => none
def wIsNot (x y : W) : Option W := match isW x y with
  | some b => some (.p (.bl (!b)))
  | none => none
theorem isW_of {β : Bxs} {S : Sto} {x y : D} {w1 w2 : W} {p1 p2 : List Nat} {b : Bool} (h1 : Vw β S x w1 p1) (h2 : Vw β S y w2 p2) (e : isW w1 w2 = some b) : isF x y = some b := by
  unfold isW at e
  split at e
  · obtain ⟨rfl, _, _⟩ := h1.pd
    obtain ⟨rfl, _, _⟩ := h2.pd
    exact e
  · cases e
    obtain ⟨rfl, _, _⟩ := h2.pd
    cases h1
    rfl
  · cases e
    obtain ⟨rfl, _, _⟩ := h2.pd
    cases h1
    rfl
  · cases e
theorem op_is' : OpP fIs wIs := fun β S x y w1 w2 p1 p2 w h1 h2 e => by
  unfold wIs at e
  split at e
  · rename_i b eb
    cases e
    exact ⟨_, rfl, trivial, by unfold fIs; rw [isW_of h1 h2 eb]⟩
  · cases e
theorem op_isNot' : OpP fIsNot wIsNot := fun β S x y w1 w2 p1 p2 w h1 h2 e => by
  unfold wIsNot at e
  split at e
  · rename_i b eb
    cases e
    exact ⟨_, rfl, trivial, by unfold fIsNot; rw [isW_of h1 h2 eb]⟩
  · cases e
def wIx : W → W → Option W
  | .p (.tup ds), .p (.int i) => match atI ds i with
    | some d => some (.p d)
    | none => none
  | .p (.str z), .p (.int i) => if z.length ≤ 100000 then match atI z.cps.toList i with
      | some c => some (.p (.str ⟨#[c]⟩))
      | none => none
    else none
  | .l ds, .p (.int i) => match atI ds i with
    | some d => some (.p d)
    | none => none
  | .n ws, .p (.int i) => atI ws i
  | .m a ds b, .p (.int i) => atI (a.map W.p ++ W.l ds :: b.map W.p) i
  | _, _ => none
theorem atI_mem {α : Type} {l : List α} {i : Int} {x : α} (h : atI l i = some x) : ∃ j : Nat, l[j]? = some x := by
  unfold atI at h
  cases q : ixN l.length i with
  | none => rw [q] at h; cases h
  | some j => rw [q] at h; exact ⟨j, h⟩
theorem atI_view {β : Bxs} {S : Sto} {ds : List D} {ws : List W} {fs : List (List Nat)} {i : Int} {w : W} (v : Vws β S ds ws fs) (h : atI ws i = some w) : ∃ d f, atI ds i = some d ∧ f ∈ fs ∧ Vw β S d w f := by
  unfold atI at h ⊢
  rw [v.len.1]
  cases q : ixN ws.length i with
  | none => rw [q] at h; cases h
  | some j =>
    rw [q] at h
    obtain ⟨d, f, h1, h2, h3⟩ := v.get (i := j) h
    exact ⟨d, f, h1, List.mem_of_getElem? h2, h3⟩
theorem nodup_flatten {fs : List (List Nat)} (h : fs.flatten.Nodup) {f : List Nat} (hf : f ∈ fs) : f.Nodup := (List.pairwise_flatten.mp h).1 f hf
theorem op_ix' : OpV true fIx wIx := fun β S x y w1 w2 p1 p2 w h1 h2 nd e => by
  unfold wIx at e
  split at e
  · split at e
    · rename_i d ed
      cases e
      obtain ⟨rfl, n1, _⟩ := h1.pd
      obtain ⟨rfl, _, _⟩ := h2.pd
      obtain ⟨j, hj⟩ := atI_mem ed
      exact ⟨d, [], [], by rw [List.append_nil]; unfold fIx; dsimp only; rw [ed], .p (D.nps_get n1.2 hj), .nil, fun k hk => by simp at hk⟩
    · cases e
  · split at e
    · rename_i c
      split at e
      · rename_i cc ec
        cases e
        obtain ⟨rfl, n1, _⟩ := h1.pd
        obtain ⟨rfl, _, _⟩ := h2.pd
        refine ⟨_, [], [], by rw [List.append_nil]; unfold fIx; dsimp only; rw [if_pos c, ec], .p ?_, .nil, fun k hk => by simp at hk⟩
        obtain ⟨j, hj⟩ := atI_mem ec
        have n1' : PyData.strOk _ = true := n1
        unfold PyData.strOk at n1'
        rw [← Array.all_toList, List.all_eq_true] at n1'
        have := n1' _ (List.mem_of_getElem? hj)
        show PyData.strOk _ = true
        unfold PyData.strOk
        simpa using this
      · cases e
    · cases e
  · split at e
    · rename_i d ed
      cases e
      obtain ⟨rfl, _, _⟩ := h2.pd
      cases h1 with
      | l a1 a2 a3 =>
        obtain ⟨j, hj⟩ := atI_mem ed
        refine ⟨d, [], [], ?_, .p (D.nps_get a2 hj), .nil, fun k hk => by simp at hk⟩
        rw [List.append_nil]
        unfold fIx lstAt
        dsimp only
        rw [a1]
        dsimp only
        rw [ed]
    · cases e
  · obtain ⟨rfl, _, _⟩ := h2.pd
    cases h1 with
    | n a1 a2 a3 =>
      obtain ⟨d, f, ed, hf, v⟩ := atI_view a2 e
      refine ⟨d, [], f, ?_, by rw [List.append_nil]; exact v, nodup_flatten (List.nodup_cons.mp nd).2 hf, fun k hk => .inr ⟨rfl, List.mem_cons_of_mem _ (List.mem_flatten.mpr ⟨f, hf, hk⟩)⟩⟩
      rw [List.append_nil]
      unfold fIx lstAt
      dsimp only
      rw [a1]
      dsimp only
      rw [ed]
  · obtain ⟨rfl, _, _⟩ := h2.pd
    cases h1 with
    | m z n1 n2 q1 q2 q3 =>
      subst z
      rename_i k0
      obtain ⟨d, f, ed, hf, v⟩ := atI_view (Vws.mid (β := β) q1 q2 q3 n2 n1) e
      have hk : ∀ k ∈ f, k ∈ [k0] := fun k hk => by rw [← flat_mid (k := k0)]; exact List.mem_flatten.mpr ⟨f, hf, hk⟩
      refine ⟨d, [], f, ?_, by rw [List.append_nil]; exact v, ?_, fun k h => .inr ⟨rfl, hk k h⟩⟩
      · rw [List.append_nil]
        unfold fIx
        dsimp only
        rw [ed]
      · rcases List.mem_append.mp hf with h | h
        · obtain ⟨_, _, rfl⟩ := List.mem_map.mp h; exact .nil
        · rcases List.mem_cons.mp h with rfl | h
          · simp
          · obtain ⟨_, _, rfl⟩ := List.mem_map.mp h; exact .nil
  · cases e
def itemsW : W → Option (List D)
  | .p (.tup ds) => some ds
  | .l ds => some ds
  | _ => none
theorem itemsW_of {β : Bxs} {S : Sto} {x : D} {w : W} {p : List Nat} {ds : List D} (h : Vw β S x w p) (e : itemsW w = some ds) : itemsOf S x = some ds ∧ D.nps ds ∧ ds.length ≤ 1000000 := by
  unfold itemsW at e
  split at e
  · cases e
    obtain ⟨rfl, n1, _⟩ := h.pd
    exact ⟨rfl, n1.2, n1.1⟩
  · cases e
    cases h with
    | l a1 a2 a3 =>
      refine ⟨?_, a2, a3⟩
      unfold itemsOf lstAt
      dsimp only
      rw [a1]
  · cases e
def inW (f : Bool → Bool) : W → W → Option W
  | .p x, y => match itemsW y with
    | some ds => if (D.dok 100 x && D.doks 100 ds) = true then some (.p (.bl (f (inB x ds)))) else none
    | none => none
  | _, _ => none
def wIn : W → W → Option W := inW id
def wNotIn : W → W → Option W := inW not
theorem op_in' : OpP fIn wIn := fun β S x y w1 w2 p1 p2 w h1 h2 e => by
  unfold wIn inW at e
  split at e
  · split at e
    · rename_i ds ed
      split at e
      · rename_i c
        cases e
        obtain ⟨rfl, n1, _⟩ := h1.pd
        refine ⟨_, rfl, trivial, ?_⟩
        unfold fIn
        rw [(itemsW_of h2 ed).1]
        dsimp only
        rw [Bool.and_eq_true] at c
        rw [D.pub_of n1 c.1, D.pubs_of (itemsW_of h2 ed).2.1 c.2, if_pos (by rfl)]
        rfl
      · cases e
    · cases e
  · cases e
theorem op_notIn' : OpP fNotIn wNotIn := fun β S x y w1 w2 p1 p2 w h1 h2 e => by
  unfold wNotIn inW at e
  split at e
  · split at e
    · rename_i ds ed
      split at e
      · rename_i c
        cases e
        obtain ⟨rfl, n1, _⟩ := h1.pd
        refine ⟨_, rfl, trivial, ?_⟩
        unfold fNotIn
        rw [(itemsW_of h2 ed).1]
        dsimp only
        rw [Bool.and_eq_true] at c
        rw [D.pub_of n1 c.1, D.pubs_of (itemsW_of h2 ed).2.1 c.2, if_pos (by rfl)]
      · cases e
    · cases e
  · cases e

def lenW : W → Option Int
  | .p (.str z) => if z.length ≤ 100000 then some z.length else none
  | .p (.tup ds) => some ds.length
  | .l ds => some ds.length
  | .n ws => some ws.length
  | .m a _ b => some ((a.length + (b.length + 1) : Nat) : Int)
  | _ => none
def wLen : List W → Option W
  | [x] => match lenW x with
    | some n => some (.p (.int n))
    | none => none
  | _ => none
theorem pureV {f : List D → Sto → Option (D × Sto)} {g : List W → Option W} (h : ∀ β S ds ws fs w, Vws β S ds ws fs → g ws = some w → ∃ d, w = .p d ∧ d.np ∧ f ds S = some (d, S)) : AllV false f g := fun β S ds ws fs w v e => by
  obtain ⟨d, rfl, h1, h2⟩ := h β S ds ws fs w v e
  exact ⟨d, [], [], by rw [List.append_nil]; exact h2, .p h1, .nil, fun k hk => by simp at hk⟩
theorem av_len : AllV false fLen wLen := pureV fun β S ds ws fs w v e => by
  unfold wLen at e
  split at e
  · rename_i x
    split at e
    · rename_i n en
      cases e
      cases v with
      | @cons d0 _ _ _ _ _ h q =>
        cases q
        refine ⟨_, rfl, trivial, ?_⟩
        have : lenF S d0 = some n := by
          unfold lenW at en
          split at en
          · obtain ⟨rfl, _, _⟩ := h.pd; exact en
          · obtain ⟨rfl, _, _⟩ := h.pd; exact en
          · cases en
            cases h with
            | l a1 a2 a3 => unfold lenF lstAt; dsimp only; rw [a1]
          · cases en
            cases h with
            | n a1 a2 a3 => unfold lenF lstAt; dsimp only; rw [a1]; dsimp only; rw [a2.len.1]
          · cases en
            cases h with
            | m z _ _ _ _ _ => subst z; show some (((_ ++ _ :: _ : List D).length : Nat) : Int) = _; rw [List.length_append, List.length_cons]
          · cases en
        unfold fLen
        dsimp only
        rw [this]
    · cases e
  · cases e
def asP : List W → Option (List D)
  | [] => some []
  | .p d :: r => match asP r with
    | some ds => some (d :: ds)
    | none => none
  | _ => none
theorem asP_of {β : Bxs} {S : Sto} : ∀ {ds : List D} {ws : List W} {fs : List (List Nat)} {es : List D}, Vws β S ds ws fs → asP ws = some es → ds = es ∧ D.nps es
  | _, _, _, es, .nil, e => by cases e; exact ⟨rfl, trivial⟩
  | _, .p d' :: ws, _, es, .cons h q, e => by
    unfold asP at e
    split at e
    · rename_i es' e'
      cases e
      obtain ⟨rfl, n1, _⟩ := h.pd
      obtain ⟨rfl, n2⟩ := asP_of q e'
      exact ⟨rfl, n1, n2⟩
    · cases e
  | _, .l _ :: _, _, _, _, e => by cases e
  | _, .n _ :: _, _, _, _, e => by cases e
  | _, .bx :: _, _, _, _, e => by cases e
  | _, .dk _ :: _, _, _, _, e => by cases e
  | _, .m _ _ _ :: _, _, _, _, e => by cases e
def wTupL (ws : List W) : Option W := match asP ws with
  | some ds => if ds.length ≤ 100000 then some (.p (.tup ds)) else none
  | none => none
def wLstL (ws : List W) : Option W := match asP ws with
  | some ds => if ds.length ≤ 100000 then some (.l ds) else none
  | none => none
theorem av_tupL : AllV false mkTup wTupL := pureV fun β S ds ws fs w v e => by
  unfold wTupL at e
  split at e
  · rename_i es ee
    split at e
    · rename_i c
      cases e
      obtain ⟨rfl, n⟩ := asP_of v ee
      exact ⟨_, rfl, ⟨by omega, n⟩, by unfold mkTup; rw [if_pos c]⟩
    · cases e
  · cases e
theorem av_lstL : AllV false mkLst wLstL := fun β S ds ws fs w v e => by
  unfold wLstL at e
  split at e
  · rename_i es ee
    split at e
    · rename_i c
      cases e
      obtain ⟨rfl, n⟩ := asP_of v ee
      exact ⟨.loc S.length, [.lst ds], [S.length], by unfold mkLst; rw [if_pos c], .l (by simp) n (by omega), by simp, fun k hk => .inl (by simp at hk; omega)⟩
    · cases e
  · cases e
def wList : List W → Option W
  | [x] => match itemsW x with
    | some ds => some (.l ds)
    | none => none
  | _ => none
theorem av_list : AllV false fList wList := fun β S ds ws fs w v e => by
  unfold wList at e
  split at e
  · split at e
    · rename_i es ee
      cases e
      cases v with
      | cons h q =>
        cases q
        obtain ⟨i1, i2, i3⟩ := itemsW_of h ee
        exact ⟨.loc S.length, [.lst es], [S.length], by unfold fList; dsimp only; rw [i1], .l (by simp) i2 i3, by simp, fun k hk => .inl (by simp at hk; omega)⟩
    · cases e
  · cases e
def wTupC : List W → Option W
  | [x] => match itemsW x with
    | some ds => some (.p (.tup ds))
    | none => none
  | _ => none
theorem av_tup : AllV false fTup wTupC := pureV fun β S ds ws fs w v e => by
  unfold wTupC at e
  split at e
  · split at e
    · rename_i es ee
      cases e
      cases v with
      | cons h q =>
        cases q
        obtain ⟨i1, i2, i3⟩ := itemsW_of h ee
        exact ⟨_, rfl, ⟨i3, i2⟩, by unfold fTup; dsimp only; rw [i1]⟩
    · cases e
  · cases e
theorem nps_ints : ∀ ns : List Int, D.nps (ns.map D.int)
  | [] => trivial
  | _ :: r => ⟨trivial, nps_ints r⟩
theorem nps_strs {ns : List Str} (h : ∀ x ∈ ns, PyData.strOk x = true) : D.nps (ns.map D.str) := D.nps_iff.mpr fun d hd => by
  obtain ⟨x, hx, rfl⟩ := List.mem_map.mp hd
  exact h x hx
theorem asStrs_np : ∀ {ds : List D} {xs : List Str}, asStrs ds = some xs → D.nps ds → ∀ x ∈ xs, PyData.strOk x = true
  | [], xs, e, _, x, hx => by cases e; simp at hx
  | .str i :: r, xs, e, n, x, hx => by
    have h' : (asStrs r).map (i :: ·) = some xs := e
    cases q : asStrs r with
    | none => rw [q] at h'; cases h'
    | some ms =>
      rw [q] at h'
      cases h'
      rcases List.mem_cons.mp hx with rfl | hx
      · exact n.1
      · exact asStrs_np q n.2 x hx
  | .non :: r, _, h, _, _, _ => by cases h
  | .bl _ :: r, _, h, _, _, _ => by cases h
  | .int _ :: r, _, h, _, _, _ => by cases h
  | .tup _ :: r, _, h, _, _, _ => by cases h
  | .loc _ :: r, _, h, _, _, _ => by cases h
theorem nps_usS {ds : List D} {xs : List Str} (e : asStrs ds = some xs) (n : D.nps ds) : D.nps ((usS xs).map D.str) := by
  haveI : Tabs := ⟨fun _ => False⟩
  exact nps_strs fun x hx => asStrs_np e n x (mem_sortU.mp hx)
theorem asInts_len : ∀ {ds : List D} {ns : List Int}, asInts ds = some ns → ns.length = ds.length
  | [], ns, e => by cases e; rfl
  | .int i :: r, ns, e => by
    cases q : asInts r with
    | none => simp [asInts, q] at e
    | some ms =>
      simp [asInts, q] at e
      subst e
      rw [List.length_cons, List.length_cons, asInts_len q]
  | .non :: r, ns, e => by simp [asInts] at e
  | .bl _ :: r, ns, e => by simp [asInts] at e
  | .str _ :: r, ns, e => by simp [asInts] at e
  | .tup _ :: r, ns, e => by simp [asInts] at e
  | .loc _ :: r, ns, e => by simp [asInts] at e
theorem len_insU {α : Type} [DecidableEq α] {lt : α → α → Bool} {i : α} : ∀ {l : List α}, (insU lt i l).length ≤ l.length + 1
  | [] => by simp [insU]
  | j :: r => by
    unfold insU
    split
    · simp
    · split
      · simp
      · have := len_insU (lt := lt) (i := i) (l := r)
        simp
        omega
theorem len_sortU {α : Type} [DecidableEq α] {lt : α → α → Bool} : ∀ {l : List α}, (sortU lt l).length ≤ l.length
  | [] => by simp [sortU]
  | i :: r => by
    unfold sortU
    have h1 := len_insU (lt := lt) (i := i) (l := sortU lt r)
    have h2 := len_sortU (lt := lt) (l := r)
    simp
    omega
theorem asStrs_len : ∀ {ds : List D} {ns : List Str}, asStrs ds = some ns → ns.length = ds.length
  | [], ns, e => by cases e; rfl
  | .str i :: r, ns, e => by
    cases q : asStrs r with
    | none => simp [asStrs, q] at e
    | some ms =>
      simp [asStrs, q] at e
      subst e
      rw [List.length_cons, List.length_cons, asStrs_len q]
  | .non :: r, ns, e => by simp [asStrs] at e
  | .bl _ :: r, ns, e => by simp [asStrs] at e
  | .int _ :: r, ns, e => by simp [asStrs] at e
  | .tup _ :: r, ns, e => by simp [asStrs] at e
  | .loc _ :: r, ns, e => by simp [asStrs] at e
end Mini
end
section
namespace Mini
open PySem L2

mutual
theorem Vw.fr {β : Bxs} {S S' : Sto} : ∀ {d : D} {w : W} {f : List Nat}, (∀ k ∈ f, S'[k]? = S[k]?) → Vw β S d w f → Vw β S' d w f
  | _, _, _, _, .p h => .p h
  | _, _, _, o, .l h k z => .l ((o _ (List.mem_cons_self ..)).trans h) k z
  | _, _, _, o, .n h k z => .n ((o _ (List.mem_cons_self ..)).trans h) (Vws.fr (fun f hf k hk => o k (List.mem_cons_of_mem _ (List.mem_flatten.mpr ⟨f, hf, hk⟩))) k) z
  | _, _, _, _, .bx h => .bx h
  | _, _, _, o, .dk h k => .dk ((o _ (List.mem_cons_self ..)).trans h) k
  | _, _, _, o, .m e h1 h2 h k z => .m e h1 h2 ((o _ (List.mem_cons_self ..)).trans h) k z
theorem Vws.fr {β : Bxs} {S S' : Sto} : ∀ {ds : List D} {ws : List W} {fs : List (List Nat)}, (∀ f ∈ fs, ∀ k ∈ f, S'[k]? = S[k]?) → Vws β S ds ws fs → Vws β S' ds ws fs
  | _, _, _, _, .nil => .nil
  | _, _, _, o, .cons h k => .cons (Vw.fr (o _ (List.mem_cons_self ..)) h) (Vws.fr (fun f hf => o f (List.mem_cons_of_mem _ hf)) k)
end
theorem Vws.app {β : Bxs} {S : Sto} : ∀ {ds es : List D} {ws us : List W} {fs gs : List (List Nat)}, Vws β S ds ws fs → Vws β S es us gs → Vws β S (ds ++ es) (ws ++ us) (fs ++ gs)
  | _, _, _, _, _, _, .nil, k => k
  | _, _, _, _, _, _, .cons h q, k => .cons h (Vws.app q k)
theorem Vws.set {β : Bxs} {S : Sto} {d : D} {w : W} {f : List Nat} (h : Vw β S d w f) : ∀ {ds : List D} {ws : List W} {fs : List (List Nat)} (j : Nat), Vws β S ds ws fs → Vws β S (ds.set j d) (ws.set j w) (fs.set j f)
  | _, _, _, _, .nil => .nil
  | _, _, _, 0, .cons _ q => .cons h q
  | _, _, _, j + 1, .cons x q => .cons x (Vws.set h j q)
theorem Vws.pure {β : Bxs} {S : Sto} : ∀ {ds : List D}, D.nps ds → Vws β S ds (ds.map .p) (ds.map fun _ => [])
  | [], _ => .nil
  | _ :: _, h => .cons (.p h.1) (Vws.pure h.2)
structure Stt (br : List Nat) (A : Nat → Prop) (β : Bxs) (n0 : Nat) (S : Sto) (e : EnvD) (ε : VEnv) (fp : Nat → List Nat) (τ : Tape) : Prop where
  sit : Sit β S e ε fp τ
  nl : n0 ≤ S.length
  bn : ∀ b l, β = some (b, l) → b < n0 ∧ l < n0
  lt : ∀ i, ∀ k ∈ fp i, k < S.length
  ow : ∀ i, i ∉ br → ∀ k ∈ fp i, n0 ≤ k
  bo : ∀ i, i ∈ br → ∀ k ∈ fp i, A k
  dj : ∀ i j, i ∉ br → j ∉ br → i ≠ j → ∀ k ∈ fp i, k ∉ fp j
theorem Stt.kn {br : List Nat} {A : Nat → Prop} {β : Bxs} {n0 : Nat} {S S' : Sto} {e : EnvD} {ε : VEnv} {fp : Nat → List Nat} {τ τ' : Tape} (s : Stt br A β n0 S e ε fp τ) (a : Kn β S S') (b : Bx β S' τ') : Stt br A β n0 S' e ε fp τ' :=
  ⟨s.sit.kn a b, Nat.le_trans s.nl a.1, s.bn, fun i k hk => Nat.lt_of_lt_of_le (s.lt i k hk) a.1, s.ow, s.bo, s.dj⟩
def Frm (br kp : List Nat) (β : Bxs) (S : Sto) (fp : Nat → List Nat) (S' : Sto) : Prop := S.length ≤ S'.length ∧ ∀ i, i < S.length → (∀ b l, β = some (b, l) → i ≠ b) → (∀ j, j ∉ br → j ∉ kp → i ∉ fp j) → S'[i]? = S[i]?
structure NxF (br kp : List Nat) (A : Nat → Prop) (β : Bxs) (n0 : Nat) (S : Sto) (e : EnvD) (ε : VEnv) (fp : Nat → List Nat) (S' : Sto) (e' : EnvD) (ε' : VEnv) (fp' : Nat → List Nat) (τ' : Tape) : Prop where
  st : Stt br A β n0 S' e' ε' fp' τ'
  fr : Frm br kp β S fp S'
  kq : ∀ j ∈ kp, fp' j = fp j
  sub : ∀ j, j ∉ br → j ∉ kp → ∀ k ∈ fp' j, S.length ≤ k ∨ ∃ j', j' ∉ br ∧ j' ∉ kp ∧ k ∈ fp j'
structure RtF (br kp : List Nat) (fh : Bool) (A : Nat → Prop) (β : Bxs) (n0 : Nat) (S : Sto) (fp : Nat → List Nat) (S' : Sto) (d : D) (w : W) (fo : List Nat) (τ' : Tape) : Prop where
  fr : Frm br kp β S fp S'
  bx : Bx β S' τ'
  vw : Vw β S' d w fo
  nd : fo.Nodup
  src : ∀ k ∈ fo, Off β k ∧ (n0 ≤ k ∨ (fh = false ∧ A k))
def Aft (br kp : List Nat) (fh : Bool) (A : Nat → Prop) (β : Bxs) (n0 : Nat) (S : Sto) (e : EnvD) (ε : VEnv) (fp : Nat → List Nat) : URes → Res → Prop
  | .nx ε' τ', .nx e' S' => ∃ fp', NxF br kp A β n0 S e ε fp S' e' ε' fp' τ'
  | .bk ε' τ', .bk e' S' => ∃ fp', NxF br kp A β n0 S e ε fp S' e' ε' fp' τ'
  | .ct ε' τ', .ct e' S' => ∃ fp', NxF br kp A β n0 S e ε fp S' e' ε' fp' τ'
  | .rt w τ', .rt d S' => ∃ fo, RtF br kp fh A β n0 S fp S' d w fo τ'
  | _, _ => False
def SS (br kp : List Nat) (fh : Bool) (m : XS) (v : US) : Prop := ∀ A β n0 S e ε fp τ r, (∀ k, A k → k < n0 ∧ Off β k) → Stt br A β n0 S e ε fp τ → v ε τ = some r → ∃ q, m e S = some q ∧ Aft br kp fh A β n0 S e ε fp r q
section
variable {br kp : List Nat} {fh : Bool} {A : Nat → Prop} {β : Bxs} {n0 : Nat} {S S1 S2 : Sto} {e e1 e2 : EnvD} {ε ε1 ε2 : VEnv} {fp fp1 fp2 : Nat → List Nat} {τ τ1 τ2 : Tape} {r : URes} {q : Res}
theorem Frm.refl : Frm br kp β S fp S := ⟨Nat.le_refl _, fun _ _ _ _ => rfl⟩
theorem Frm.kn (a : Kn β S S1) : Frm br kp β S fp S1 := ⟨a.1, fun i h k _ => a.2 i h k⟩
theorem NxF.refl (s : Stt br A β n0 S e ε fp τ) : NxF br kp A β n0 S e ε fp S e ε fp τ := ⟨s, .refl, fun _ _ => rfl, fun j h1 h2 _ h => .inr ⟨j, h1, h2, h⟩⟩
theorem NxF.kn (s : Stt br A β n0 S e ε fp τ) (a : Kn β S S1) (b : Bx β S1 τ1) : NxF br kp A β n0 S e ε fp S1 e ε fp τ1 := ⟨s.kn a b, .kn a, fun _ _ => rfl, fun j h1 h2 _ h => .inr ⟨j, h1, h2, h⟩⟩
theorem Frm.trans (a : Frm br kp β S fp S1) (sub : ∀ j, j ∉ br → j ∉ kp → ∀ k ∈ fp1 j, S.length ≤ k ∨ ∃ j', j' ∉ br ∧ j' ∉ kp ∧ k ∈ fp j') (b : Frm br kp β S1 fp1 S2) : Frm br kp β S fp S2 :=
  ⟨Nat.le_trans a.1 b.1, fun i h k n => (b.2 i (Nat.lt_of_lt_of_le h a.1) k fun j h1 h2 h3 => by
    rcases sub j h1 h2 i h3 with z | ⟨j', z1, z2, z⟩
    · omega
    · exact n j' z1 z2 z).trans (a.2 i h k n)⟩
theorem NxF.trans (a : NxF br kp A β n0 S e ε fp S1 e1 ε1 fp1 τ1) (b : NxF br kp A β n0 S1 e1 ε1 fp1 S2 e2 ε2 fp2 τ2) : NxF br kp A β n0 S e ε fp S2 e2 ε2 fp2 τ2 :=
  ⟨b.st, a.fr.trans a.sub b.fr, fun j h => (b.kq j h).trans (a.kq j h), fun j h1 h2 k h3 => by
    rcases b.sub j h1 h2 k h3 with z | ⟨j', z1, z2, z⟩
    · exact .inl (Nat.le_trans a.fr.1 z)
    · exact a.sub j' z1 z2 k z⟩
theorem Aft.trans (a : NxF br kp A β n0 S e ε fp S1 e1 ε1 fp1 τ1) (b : Aft br kp fh A β n0 S1 e1 ε1 fp1 r q) : Aft br kp fh A β n0 S e ε fp r q := by
  cases r <;> cases q <;> first
    | exact b.elim
    | exact let ⟨f, h⟩ := b; ⟨f, a.trans h⟩
    | exact let ⟨f, h⟩ := b; ⟨f, a.fr.trans a.sub h.fr, h.bx, h.vw, h.nd, h.src⟩
theorem Frm.wide {kq : List Nat} (h : ∀ i ∈ kp, i ∈ kq) (a : Frm br kq β S fp S1) : Frm br kp β S fp S1 := ⟨a.1, fun i h1 h2 h3 => a.2 i h1 h2 fun j k1 k2 => h3 j k1 fun z => k2 (h j z)⟩
theorem NxF.wide {kq : List Nat} (h : ∀ i ∈ kp, i ∈ kq) (a : NxF br kq A β n0 S e ε fp S1 e1 ε1 fp1 τ1) : NxF br kp A β n0 S e ε fp S1 e1 ε1 fp1 τ1 :=
  ⟨a.st, a.fr.wide h, fun j hj => a.kq j (h j hj), fun j h1 h2 k h3 => by
    by_cases z : j ∈ kq
    · rw [a.kq j z] at h3; exact .inr ⟨j, h1, h2, h3⟩
    · rcases a.sub j h1 z k h3 with q | ⟨j', z1, z2, q⟩
      · exact .inl q
      · exact .inr ⟨j', z1, fun y => z2 (h j' y), q⟩⟩
theorem Aft.wide {kq : List Nat} (h : ∀ i ∈ kp, i ∈ kq) (b : Aft br kq fh A β n0 S e ε fp r q) : Aft br kp fh A β n0 S e ε fp r q := by
  cases r <;> cases q <;> first
    | exact b.elim
    | exact let ⟨f, k⟩ := b; ⟨f, k.wide h⟩
    | exact let ⟨f, k⟩ := b; ⟨f, k.fr.wide h, k.bx, k.vw, k.nd, k.src⟩
theorem Bx.len {β : Bxs} {S : Sto} {τ : Tape} (h : Bx β S τ) {b l : Nat} (z : β = some (b, l)) : b < S.length ∧ l < S.length := by
  subst z
  obtain ⟨ms, c, h1, _, h3, _⟩ := h
  exact ⟨(List.getElem?_eq_some_iff.mp h1).1, (List.getElem?_eq_some_iff.mp h3).1⟩
def fset (fp : Nat → List Nat) (i : Nat) (fo : List Nat) : Nat → List Nat := fun j => if j = i then fo else fp j
theorem fset_self {fp : Nat → List Nat} {i : Nat} {fo : List Nat} : fset fp i fo i = fo := if_pos rfl
theorem fset_ne {fp : Nat → List Nat} {i j : Nat} {fo : List Nat} (h : j ≠ i) : fset fp i fo j = fp j := if_neg h
theorem nx_own {i : Nat} {d : D} {w : W} {fo : List Nat} (s : Stt br A β n0 S e ε fp τ) (hA : ∀ k, A k → k < n0 ∧ Off β k) (hb : i ∉ br) (hk : i ∉ kp) (le : S.length ≤ S1.length) (fr : ∀ k, k < S.length → (∀ b l, β = some (b, l) → k ≠ b) → k ∉ fp i → S1[k]? = S[k]?)
    (bx : Bx β S1 τ1) (vw : Vw β S1 d w fo) (nd : fo.Nodup) (src : ∀ k ∈ fo, Off β k ∧ (S.length ≤ k ∨ k ∈ fp i)) : NxF br kp A β n0 S e ε fp S1 (e.set i (some d)) (ε.set i (some w)) (fset fp i fo) τ1 := by
  have off : ∀ j, ∀ k ∈ fset fp i fo j, Off β k := fun j k hk => by
    by_cases z : j = i
    · subst z; rw [fset_self] at hk; exact (src k hk).1
    · rw [fset_ne z] at hk; exact s.sit.off j k hk
  have apart : ∀ j, j ≠ i → ∀ k ∈ fp j, k ∉ fp i := fun j hj k hk hi => by
    by_cases z : j ∈ br
    · have h1 := (hA k (s.bo j z k hk)).1
      have h2 := s.ow i hb k hi
      omega
    · exact s.dj j i z hb hj k hk hi
  refine ⟨⟨⟨?_, fun j u hu => ?_, off, fun j => ?_, bx⟩, Nat.le_trans s.nl le, s.bn, fun j k hk => ?_, fun j hj k hk => ?_, fun j hj k hk => ?_, fun j1 j2 h1 h2 h3 k hk1 hk2 => ?_⟩, ⟨le, fun k h1 h2 h3 => fr k h1 h2 (h3 i hb hk)⟩, fun j hj => ?_, fun j h1 h2 k h3 => ?_⟩
  · rw [List.length_set, List.length_set]; exact s.sit.len
  · by_cases z : j = i
    · subst z
      have hl := (List.getElem?_eq_some_iff.mp hu).1
      rw [List.length_set] at hl
      rw [List.getElem?_set_self hl] at hu
      cases hu
      exact ⟨d, List.getElem?_set_self (by rw [s.sit.len]; exact hl), by rw [fset_self]; exact vw⟩
    · rw [List.getElem?_set_ne (Ne.symm z)] at hu
      obtain ⟨d', h1, h2⟩ := s.sit.at_ j u hu
      exact ⟨d', by rw [List.getElem?_set_ne (Ne.symm z)]; exact h1, by
        rw [fset_ne z]
        exact h2.fr fun k hk => fr k (s.lt j k hk) (fun b l q => (s.sit.off j k hk b l q).1) (apart j z k hk)⟩
  · by_cases z : j = i
    · subst z; rw [fset_self]; exact nd
    · rw [fset_ne z]; exact s.sit.nd j
  · by_cases z : j = i
    · subst z; rw [fset_self] at hk; exact vw.lt k hk
    · rw [fset_ne z] at hk; exact Nat.lt_of_lt_of_le (s.lt j k hk) le
  · by_cases z : j = i
    · subst z; rw [fset_self] at hk
      rcases (src k hk).2 with q | q
      · exact Nat.le_trans s.nl q
      · exact s.ow j hj k q
    · rw [fset_ne z] at hk; exact s.ow j hj k hk
  · have z : j ≠ i := fun z => hb (z ▸ hj)
    rw [fset_ne z] at hk; exact s.bo j hj k hk
  · by_cases z1 : j1 = i
    · subst z1
      rw [fset_self] at hk1
      rw [fset_ne (Ne.symm h3)] at hk2
      rcases (src k hk1).2 with q | q
      · have := s.lt j2 k hk2; omega
      · exact s.dj j1 j2 h1 h2 h3 k q hk2
    · rw [fset_ne z1] at hk1
      by_cases z2 : j2 = i
      · subst z2
        rw [fset_self] at hk2
        rcases (src k hk2).2 with q | q
        · have := s.lt j1 k hk1; omega
        · exact s.dj j1 j2 h1 h2 h3 k hk1 q
      · rw [fset_ne z2] at hk2
        exact s.dj j1 j2 h1 h2 h3 k hk1 hk2
  · exact fset_ne fun z => hk (z ▸ hj)
  · by_cases z : j = i
    · subst z; rw [fset_self] at h3; exact (src k h3).2.imp id fun q => ⟨j, h1, h2, q⟩
    · rw [fset_ne z] at h3; exact .inr ⟨j, h1, h2, h3⟩
theorem nx_pure {i : Nat} {d : D} (s : Stt br A β n0 S e ε fp τ) (hk : i ∉ kp) (a : Kn β S S1) (bx : Bx β S1 τ1) (hd : d.np) : NxF br kp A β n0 S e ε fp S1 (e.set i (some d)) (ε.set i (some (.p d))) (fset fp i []) τ1 := by
  have s1 := s.kn a bx
  have sub : ∀ j, ∀ k ∈ fset fp i [] j, k ∈ fp j := fun j k hk => by
    by_cases z : j = i
    · subst z; rw [fset_self] at hk; simp at hk
    · rw [fset_ne z] at hk; exact hk
  refine ⟨⟨⟨?_, fun j u hu => ?_, fun j k h => s1.sit.off j k (sub j k h), fun j => ?_, bx⟩, s1.nl, s1.bn, fun j k h => s1.lt j k (sub j k h), fun j hj k h => s1.ow j hj k (sub j k h), fun j hj k h => s1.bo j hj k (sub j k h), fun j1 j2 h1 h2 h3 k k1 k2 => s1.dj j1 j2 h1 h2 h3 k (sub j1 k k1) (sub j2 k k2)⟩, .kn a, fun j hj => fset_ne fun z => hk (z ▸ hj), fun j h1 h2 k h3 => .inr ⟨j, h1, h2, sub j k h3⟩⟩
  · rw [List.length_set, List.length_set]; exact s.sit.len
  · by_cases z : j = i
    · subst z
      have hl := (List.getElem?_eq_some_iff.mp hu).1
      rw [List.length_set] at hl
      rw [List.getElem?_set_self hl] at hu
      cases hu
      exact ⟨d, List.getElem?_set_self (by rw [s.sit.len]; exact hl), by rw [fset_self]; exact .p hd⟩
    · rw [List.getElem?_set_ne (Ne.symm z)] at hu
      obtain ⟨d', h1, h2⟩ := s1.sit.at_ j u hu
      exact ⟨d', by rw [List.getElem?_set_ne (Ne.symm z)]; exact h1, by rw [fset_ne z]; exact h2⟩
  · by_cases z : j = i
    · subst z; rw [fset_self]; exact .nil
    · rw [fset_ne z]; exact s.sit.nd j
end

def tNil : US := fun ε τ => some (.nx ε τ)
def tSeq (a b : US) : US := fun ε τ => match a ε τ with
  | some (.nx ε1 τ1) => b ε1 τ1
  | r => r
def tRet (m : UE) : US := fun ε τ => match m ε τ with
  | none => none
  | some (w, τ1) => some (.rt w τ1)
def tIf (c : UB) (a b : US) : US := fun ε τ => match c ε τ with
  | none => none
  | some (true, τ1) => a ε τ1
  | some (false, τ1) => b ε τ1
def tSet (i : Nat) (m : UE) : US := fun ε τ => match m ε τ with
  | none => none
  | some (w, τ1) => some (.nx (ε.set i (some w)) τ1)
abbrev VG := D → VEnv → Option VEnv
abbrev VGs := List D → VEnv → Option VEnv
def vgN (i : Nat) : VG := fun d ε => some (ε.set i (some (.p d)))
def vgsN : VGs := fun ds ε => match ds with
  | [] => some ε
  | _ => none
def vgsC (g : VG) (u : VGs) : VGs := fun ds ε => match ds with
  | [] => none
  | d :: r => match g d ε with
    | none => none
    | some ε1 => u r ε1
def vgT (n : Nat) (u : VGs) : VG := fun d ε => match d with
  | .tup ds => if ds.length = n then u ds ε else none
  | _ => none
def tAsg (m : UE) (g : VG) : US := fun ε τ => match m ε τ with
  | some (.p d, τ1) => match g d ε with
    | none => none
    | some ε1 => some (.nx ε1 τ1)
  | _ => none
def appW (w : W) (d : D) : Option W := match w with
  | .l ds => if ds.length < 1000000 then some (.l (ds ++ [d])) else none
  | .n ws => if ws.length < 1000000 then some (.n (ws ++ [.p d])) else none
  | _ => none
def tApp (i : Nat) (a : UE) : US := fun ε τ => match ε[i]? with
  | some (some w) => match a ε τ with
    | some (.p d, τ1) => match appW w d with
      | none => none
      | some w' => some (.nx (ε.set i (some w')) τ1)
    | _ => none
  | _ => none
def uForL (g : VG) (b : US) : List D → VEnv → Tape → Option URes
  | [], ε, τ => some (.nx ε τ)
  | d :: ds, ε, τ => match g d ε with
    | none => none
    | some ε1 => match b ε1 τ with
      | none => none
      | some (.nx ε2 τ2) => uForL g b ds ε2 τ2
      | some (.ct ε2 τ2) => uForL g b ds ε2 τ2
      | some (.bk ε2 τ2) => some (.nx ε2 τ2)
      | some (.rt w τ2) => some (.rt w τ2)
def tFor (w : UW) (g : VG) (b : US) : US := fun ε τ => match w ε τ with
  | none => none
  | some (ds, τ1) => uForL g b ds ε τ1
def SG (br kp : List Nat) (g : XG) (v : VG) : Prop := ∀ A β n0 S e ε fp τ d ε', D.np d → Stt br A β n0 S e ε fp τ → v d ε = some ε' → ∃ e' fp', g d e = some e' ∧ NxF br kp A β n0 S e ε fp S e' ε' fp' τ
def SGs (br kp : List Nat) (g : XGs) (v : VGs) : Prop := ∀ A β n0 S e ε fp τ d ε', D.nps d → Stt br A β n0 S e ε fp τ → v d ε = some ε' → ∃ e' fp', g d e = some e' ∧ NxF br kp A β n0 S e ε fp S e' ε' fp' τ
section
variable {br kp us vs : List Nat} {fh : Bool}
theorem sg_n (i : Nat) (hk : kp.contains i = false := by rfl) : SG br kp (gN i) (vgN i) := fun A β n0 S e ε fp τ d ε' hd s h => by
  cases h
  exact ⟨_, _, rfl, nx_pure s (by simpa using hk) .refl s.sit.bx hd⟩
theorem sgs_n : SGs br kp gsN vgsN := fun A β n0 S e ε fp τ ds ε' hd s h => by
  unfold vgsN at h
  split at h
  · cases h
    exact ⟨e, fp, rfl, .refl s⟩
  · cases h
theorem sgs_c {g : XG} {u : XGs} {vg : VG} {vu : VGs} (h1 : SG br kp g vg) (h2 : SGs br kp u vu) : SGs br kp (gsC g u) (vgsC vg vu) := fun A β n0 S e ε fp τ ds ε' hd s h => by
  cases ds with
  | nil => cases h
  | cons d r =>
  unfold vgsC at h
  dsimp only at h
  split at h
  · cases h
  rename_i ε1 e1
  obtain ⟨ea, fa, a1, a2⟩ := h1 A β n0 S e ε fp τ d ε1 hd.1 s e1
  obtain ⟨eb, fb, b1, b2⟩ := h2 A β n0 S ea ε1 fa τ r ε' hd.2 a2.st h
  exact ⟨eb, fb, by unfold gsC; dsimp only; rw [a1]; exact b1, a2.trans b2⟩
theorem sg_t {u : XGs} {vu : VGs} (n : Nat) (h1 : SGs br kp u vu) : SG br kp (gT n u) (vgT n vu) := fun A β n0 S e ε fp τ d ε' hd s h => by
  unfold vgT at h
  split at h
  rotate_left
  · cases h
  rename_i ds
  split at h
  rotate_left
  · cases h
  rename_i hl
  obtain ⟨ea, fa, a1, a2⟩ := h1 A β n0 S e ε fp τ ds ε' hd.2 s h
  exact ⟨ea, fa, by unfold gT; dsimp only; rw [if_pos hl]; exact a1, a2⟩
theorem ss_nil : SS br kp fh sNil tNil := fun A β n0 S e ε fp τ r hA s h => by
  cases h
  exact ⟨_, rfl, fp, .refl s⟩
theorem ss_seq {a b : XS} {ua ub : US} (ha : SS br kp fh a ua) (hb : SS br kp fh b ub) : SS br kp fh (sSeq a b) (tSeq ua ub) := fun A β n0 S e ε fp τ r hA s h => by
  unfold tSeq at h
  split at h
  · rename_i ε1 τ1 e1
    obtain ⟨q, h1, h2⟩ := ha A β n0 S e ε fp τ _ hA s e1
    cases q with
    | nx ea Sa =>
      obtain ⟨fa, n1⟩ := h2
      obtain ⟨q2, k1, k2⟩ := hb A β n0 Sa ea ε1 fa τ1 r hA n1.st h
      exact ⟨q2, by unfold sSeq; rw [h1]; exact k1, k2.trans n1⟩
    | _ => exact h2.elim
  · rename_i o no
    obtain ⟨q, h1, h2⟩ := ha A β n0 S e ε fp τ _ hA s h
    refine ⟨q, ?_, h2⟩
    unfold sSeq
    rw [h1]
    cases r with
    | nx x y => exact absurd h (no x y)
    | _ => cases q <;> first | exact h2.elim | rfl
theorem ss_ret {m : XE} {v : UE} (h : SE us m v) (hf : (!fh || us.all fun i => !br.contains i) = true := by rfl) : SS br kp fh (sRet m) (tRet v) := fun A β n0 S e ε fp τ r hA s h9 => by
  unfold tRet at h9
  split at h9
  · cases h9
  rename_i w τ1 e1
  cases h9
  obtain ⟨d, S1, fo, a1, a2, a3, a4, a5⟩ := h β S e ε fp τ w τ1 s.sit e1
  refine ⟨.rt d S1, by unfold sRet; rw [a1], fo, .kn a2, a3, a4, a5.1, fun k hk => ⟨(a5.2 k hk).1, ?_⟩⟩
  rcases (a5.2 k hk).2 with z | ⟨i, hi, z⟩
  · exact .inl (Nat.le_trans s.nl z)
  · by_cases q : i ∈ br
    · refine .inr ⟨?_, s.bo i q k z⟩
      cases fh with
      | false => rfl
      | true =>
        have hf' : (us.all fun i => !br.contains i) = true := hf
        rw [List.all_eq_true] at hf'
        have := hf' i hi
        simp [q] at this
    · exact .inl (s.ow i q k z)
theorem ss_if {c : XB} {a b : XS} {uc : UB} {ua ub : US} (hc : SB c uc) (ha : SS br kp fh a ua) (hb : SS br kp fh b ub) : SS br kp fh (sIf c a b) (tIf uc ua ub) := fun A β n0 S e ε fp τ r hA s h => by
  unfold tIf at h
  split at h
  · cases h
  · rename_i τ1 e1
    obtain ⟨S1, a1, a2, a3⟩ := hc β S e ε fp τ _ _ s.sit e1
    obtain ⟨q, b1, b2⟩ := ha A β n0 S1 e ε fp τ1 r hA (s.kn a2 a3) h
    exact ⟨q, by unfold sIf; rw [a1]; exact b1, b2.trans (.kn s a2 a3)⟩
  · rename_i τ1 e1
    obtain ⟨S1, a1, a2, a3⟩ := hc β S e ε fp τ _ _ s.sit e1
    obtain ⟨q, b1, b2⟩ := hb A β n0 S1 e ε fp τ1 r hA (s.kn a2 a3) h
    exact ⟨q, by unfold sIf; rw [a1]; exact b1, b2.trans (.kn s a2 a3)⟩
theorem ss_set {m : XE} {v : UE} (i : Nat) (h : SE [] m v) (hb : br.contains i = false := by rfl) (hk : kp.contains i = false := by rfl) : SS br kp fh (sAsg m (gN i)) (tSet i v) := fun A β n0 S e ε fp τ r hA s h9 => by
  unfold tSet at h9
  split at h9
  · cases h9
  rename_i w τ1 e1
  cases h9
  obtain ⟨d, S1, fo, a1, a2, a3, a4, a5⟩ := h β S e ε fp τ w τ1 s.sit e1
  refine ⟨.nx (e.set i (some d)) S1, by unfold sAsg; rw [a1]; rfl, _, nx_own s hA (by simpa using hb) (by simpa using hk) a2.1 (fun k h1 h2 _ => a2.2 k h1 h2) a3 a4 a5.1 fun k hk => ⟨(a5.2 k hk).1, ?_⟩⟩
  rcases (a5.2 k hk).2 with z | ⟨j, hj, _⟩
  · exact .inl z
  · simp at hj
theorem ss_asg {m : XE} {v : UE} {g : XG} {vg : VG} (h : SE us m v) (hg : SG br kp g vg) : SS br kp fh (sAsg m g) (tAsg v vg) := fun A β n0 S e ε fp τ r hA s h9 => by
  unfold tAsg at h9
  split at h9
  rotate_left
  · cases h9
  rename_i d τ1 e1
  split at h9
  · cases h9
  rename_i ε1 eg
  cases h9
  obtain ⟨d', S1, fo, a1, a2, a3, a4, a5⟩ := h β S e ε fp τ _ τ1 s.sit e1
  obtain ⟨rfl, hd, _⟩ := a4.pd
  obtain ⟨e2, f2, b1, b2⟩ := hg A β n0 S1 e ε fp τ1 _ ε1 hd (s.kn a2 a3) eg
  exact ⟨.nx e2 S1, by unfold sAsg; rw [a1]; dsimp only; rw [b1], f2, (NxF.kn s a2 a3).trans b2⟩
end
end Mini
end
section
namespace Mini
open PySem L2

theorem set_same {α : Type} {l : List α} {i : Nat} {x : α} (h : l[i]? = some x) : l.set i x = l := by
  apply List.ext_getElem?
  intro j
  by_cases z : i = j
  · subst z
    rw [List.getElem?_set_self (List.getElem?_eq_some_iff.mp h).1, h]
  · rw [List.getElem?_set_ne z]
theorem set_off {S : Sto} {k j : Nat} {o : O} {f : List Nat} (h : j ∈ f) (n : k ∉ f) : (S.set k o)[j]? = S[j]? := List.getElem?_set_ne (fun z => n (by rw [z]; exact h))
section
variable {br kp us vs : List Nat} {fh : Bool}
theorem appW_of {β : Bxs} {S : Sto} {d0 d : D} {w w' : W} {f : List Nat} (h : Vw β S d0 w f) (nd : f.Nodup) (of : ∀ k ∈ f, Off β k) (hd : d.np) (e : appW w d = some w') :
    ∃ (k : Nat) (ds : List D), d0 = .loc k ∧ k ∈ f ∧ S[k]? = some (.lst ds) ∧ ds.length < 1000000 ∧ Vw β (S.set k (.lst (ds ++ [d]))) d0 w' f := by
  cases h with
  | l a1 a2 a3 =>
    rename_i k ds
    unfold appW at e
    dsimp only at e
    split at e
    · rename_i c
      cases e
      exact ⟨k, ds, rfl, by simp, a1, c, .l (List.getElem?_set_self (List.getElem?_eq_some_iff.mp a1).1) (D.nps_app a2 ⟨hd, trivial⟩) (by simp; omega)⟩
    · cases e
  | n a1 a2 a3 =>
    rename_i k ds ws fs
    unfold appW at e
    dsimp only at e
    split at e
    · rename_i c
      cases e
      have nk := (List.nodup_cons.mp nd).1
      refine ⟨k, ds, rfl, by simp, a1, by rw [a2.len.1]; exact c, ?_⟩
      have v2 : Vws β (S.set k (.lst (ds ++ [d]))) (ds ++ [d]) (ws ++ [.p d]) (fs ++ [[]]) := Vws.app (a2.fr fun f hf j hj => set_off (List.mem_flatten.mpr ⟨f, hf, hj⟩) nk) (.cons (.p hd) .nil)
      have := Vw.n (List.getElem?_set_self (List.getElem?_eq_some_iff.mp a1).1) v2 (by rw [List.length_append, a2.len.1]; simp; omega)
      rw [List.flatten_append] at this
      simpa using this
    · cases e
  | p _ => cases e
  | bx _ => cases e
  | dk _ _ => cases e
  | m _ _ _ _ _ _ => cases e
theorem nx_chg {A : Nat → Prop} {β : Bxs} {n0 i k : Nat} {S : Sto} {e : EnvD} {ε : VEnv} {fp : Nat → List Nat} {τ : Tape} {d0 : D} {w' : W} {o : O} {fo : List Nat} (s : Stt br A β n0 S e ε fp τ) (hA : ∀ k, A k → k < n0 ∧ Off β k) (hb : i ∉ br) (hk : i ∉ kp) (he : e[i]? = some (some d0)) (hm : k ∈ fp i)
    (vw : Vw β (S.set k o) d0 w' fo) (nd : fo.Nodup) (src : ∀ k ∈ fo, Off β k ∧ (S.length ≤ k ∨ k ∈ fp i)) : NxF br kp A β n0 S e ε fp (S.set k o) e (ε.set i (some w')) (fset fp i fo) τ := by
  have q := nx_own (e := e) (ε := ε) (kp := kp) (S1 := S.set k o) (d := d0) (τ1 := τ) s hA hb hk (by rw [List.length_set]; exact Nat.le_refl _) (fun j h1 h2 h3 => List.getElem?_set_ne fun z => h3 (by rw [← z]; exact hm)) ?_ vw nd src
  · rw [set_same he] at q; exact q
  · have hx := s.sit.bx
    have of := s.sit.off i k hm
    cases β with
    | none => exact hx
    | some q =>
      obtain ⟨b, l⟩ := q
      obtain ⟨ms, c, h1, h2, h3, h4⟩ := hx
      obtain ⟨o1, o2⟩ := of b l rfl
      exact ⟨ms, c, by rw [List.getElem?_set_ne o1]; exact h1, h2, by rw [List.getElem?_set_ne o2]; exact h3, h4⟩
theorem okList_at {S : Sto} {k : Nat} {ds : List D} (h : S[k]? = some (.lst ds)) : okList (.loc k) S = true := by
  unfold okList lstAt
  dsimp only
  rw [h]
theorem fApp_at {S : Sto} {k : Nat} {ds : List D} {d : D} (h : S[k]? = some (.lst ds)) (c : ds.length < 1000000) : fApp (.loc k) [d] S = some (.non, S.set k (.lst (ds ++ [d]))) := by
  unfold fApp
  dsimp only
  rw [h]
  dsimp only
  rw [if_pos c]
theorem Vw.list {β : Bxs} {S : Sto} {d : D} {w : W} {f : List Nat} (h : Vw β S d w f) (c : (match w with | .l _ => true | .n _ => true | _ => false) = true) : okList d S = true := by
  cases h with
  | l a _ _ => exact okList_at a
  | n a _ _ => exact okList_at a
  | p _ => cases c
  | bx _ => cases c
  | dk _ _ => cases c
  | m _ _ _ _ _ _ => cases c
theorem ss_app {a : XE} {v : UE} (i : Nat) (h : SE us a v) (hb : br.contains i = false := by rfl) (hk : kp.contains i = false := by rfl) : SS br kp fh (sExpr (xMet okList fApp (xVar i) (xCons a xNil))) (tApp i v) := fun A β n0 S e ε fp τ r hA s h9 => by
  unfold tApp at h9
  split at h9
  rotate_left
  · cases h9
  rename_i w ew
  split at h9
  rotate_left
  · cases h9
  rename_i d τ1 e1
  split at h9
  · cases h9
  rename_i w' e2
  cases h9
  obtain ⟨d', S1, fo, a1, a2, a3, a4, a5⟩ := h β S e ε fp τ _ τ1 s.sit e1
  obtain ⟨rfl, hd, _⟩ := a4.pd
  have s1 := s.kn a2 a3
  obtain ⟨d0, h0, v0⟩ := s1.sit.at_ i w ew
  obtain ⟨dx, hx0, vx⟩ := s.sit.at_ i w ew
  have ed : dx = d0 := by rw [hx0] at h0; cases h0; rfl
  subst ed
  obtain ⟨k, ds, rfl, b1, b2, b3, b4⟩ := appW_of v0 (s1.sit.nd i) (s1.sit.off i) hd e2
  have ok : okList (.loc k) S = true := vx.list (by
    unfold appW at e2
    split at e2
    · rfl
    · rfl
    · cases e2)
  refine ⟨.nx e (S1.set k (.lst (ds ++ [_]))), ?_, _, (NxF.kn s a2 a3).trans (nx_chg s1 hA (by simpa using hb) (by simpa using hk) h0 b1 b4 (s1.sit.nd i) fun j hj => ⟨s1.sit.off i j hj, .inr hj⟩)⟩
  unfold sExpr xMet xVar xCons xNil
  rw [hx0]
  dsimp only
  rw [if_pos ok, a1]
  dsimp only
  rw [fApp_at b2 b3]
end
end Mini
end
section
namespace Mini
open PySem L2
section
variable {br kp us vs : List Nat} {fh : Bool} {A : Nat → Prop} {β : Bxs} {n0 : Nat}
theorem for_fix' {g : XG} {vg : VG} {b : XS} {ub : US} (hA : ∀ k, A k → k < n0 ∧ Off β k) (hg : SG br kp g vg) (hb : SS br kp fh b ub) : ∀ (ds : List D) (S : Sto) (e : EnvD) (ε : VEnv) (fp : Nat → List Nat) (τ : Tape) (r : URes), D.nps ds → Stt br A β n0 S e ε fp τ → uForL vg ub ds ε τ = some r →
    ∃ q, forL g b ds e S = some q ∧ Aft br kp fh A β n0 S e ε fp r q
  | [], S, e, ε, fp, τ, r, _, s, h => by
    cases h
    exact ⟨_, rfl, fp, .refl s⟩
  | d :: ds, S, e, ε, fp, τ, r, hd, s, h => by
    unfold uForL at h
    split at h
    · cases h
    rename_i ε1 eg
    obtain ⟨e1, f1, a1, a2⟩ := hg A β n0 S e ε fp τ d ε1 hd.1 s eg
    have go : ∀ ε2 τ2 e2 S2, (∃ f2, NxF br kp A β n0 S e1 ε1 f1 S2 e2 ε2 f2 τ2) → uForL vg ub ds ε2 τ2 = some r → ∃ q, forL g b ds e2 S2 = some q ∧ Aft br kp fh A β n0 S e ε fp r q := fun ε2 τ2 e2 S2 ⟨f2, n2⟩ h2 => by
      obtain ⟨q, k1, k2⟩ := for_fix' hA hg hb ds S2 e2 ε2 f2 τ2 r hd.2 n2.st h2
      exact ⟨q, k1, k2.trans (a2.trans n2)⟩
    split at h
    · cases h
    · rename_i ε2 τ2 eb
      obtain ⟨q, b1, b2⟩ := hb A β n0 S e1 ε1 f1 τ _ hA a2.st eb
      cases q with
      | nx e2 S2 =>
        obtain ⟨q, k1, k2⟩ := go ε2 τ2 e2 S2 b2 h
        exact ⟨q, by unfold forL; rw [a1]; dsimp only; rw [b1]; exact k1, k2⟩
      | _ => exact b2.elim
    · rename_i ε2 τ2 eb
      obtain ⟨q, b1, b2⟩ := hb A β n0 S e1 ε1 f1 τ _ hA a2.st eb
      cases q with
      | ct e2 S2 =>
        obtain ⟨q, k1, k2⟩ := go ε2 τ2 e2 S2 b2 h
        exact ⟨q, by unfold forL; rw [a1]; dsimp only; rw [b1]; exact k1, k2⟩
      | _ => exact b2.elim
    · rename_i ε2 τ2 eb
      cases h
      obtain ⟨q, b1, b2⟩ := hb A β n0 S e1 ε1 f1 τ _ hA a2.st eb
      cases q with
      | bk e2 S2 =>
        obtain ⟨f2, n2⟩ := b2
        exact ⟨.nx e2 S2, by unfold forL; rw [a1]; dsimp only; rw [b1], f2, a2.trans n2⟩
      | _ => exact b2.elim
    · rename_i w τ2 eb
      cases h
      obtain ⟨q, b1, b2⟩ := hb A β n0 S e1 ε1 f1 τ _ hA a2.st eb
      cases q with
      | rt d2 S2 => exact ⟨.rt d2 S2, by unfold forL; rw [a1]; dsimp only; rw [b1], Aft.trans (r := .rt w τ2) (q := .rt d2 S2) a2 b2⟩
      | _ => exact b2.elim
theorem for_live' {n : Nat} {all : List D} {g : XG} {vg : VG} {b : XS} {ub : US} (hA : ∀ k, A k → k < n0 ∧ Off β k) (hn : ∀ b l, β = some (b, l) → n ≠ b) (hg : SG br kp g vg) (hb : SS br kp fh b ub) : ∀ (ds : List D) (t i : Nat) (S : Sto) (e : EnvD) (ε : VEnv) (fp : Nat → List Nat) (τ : Tape) (r : URes), all.drop i = ds → D.nps ds → ds.length < t →
    S[n]? = some (.lst all) → (∀ j, j ∉ br → j ∉ kp → n ∉ fp j) → Stt br A β n0 S e ε fp τ → uForL vg ub ds ε τ = some r →
    ∃ q, forV n g b t i e S = some q ∧ Aft br kp fh A β n0 S e ε fp r q
  | ds, 0, i, S, e, ε, fp, τ, r, _, _, hl, _, _, _, _ => absurd hl (Nat.not_lt_zero _)
  | [], t + 1, i, S, e, ε, fp, τ, r, hdr, _, _, hS, _, s, h => by
    cases h
    refine ⟨.nx e S, ?_, fp, .refl s⟩
    unfold forV lstAt
    rw [hS]
    dsimp only
    rw [List.getElem?_eq_none_iff.mpr (List.drop_eq_nil_iff.mp hdr)]
  | d :: ds, t + 1, i, S, e, ε, fp, τ, r, hdr, hd, hl, hS, hst, s, h => by
    have hi : all[i]? = some d := by
      have := congrArg (fun l => l[0]?) hdr
      simpa using this
    have hdr' : all.drop (i + 1) = ds := by
      rw [← List.drop_drop, hdr]
      rfl
    unfold uForL at h
    split at h
    · cases h
    rename_i ε1 eg
    obtain ⟨e1, f1, a1, a2⟩ := hg A β n0 S e ε fp τ d ε1 hd.1 s eg
    have go : ∀ ε2 τ2 e2 S2, (∃ f2, NxF br kp A β n0 S e1 ε1 f1 S2 e2 ε2 f2 τ2) → uForL vg ub ds ε2 τ2 = some r → ∃ q, forV n g b t (i + 1) e2 S2 = some q ∧ Aft br kp fh A β n0 S e ε fp r q := fun ε2 τ2 e2 S2 ⟨f2, n2⟩ h2 => by
      have n3 := a2.trans n2
      have hlt := (List.getElem?_eq_some_iff.mp hS).1
      obtain ⟨q, k1, k2⟩ := for_live' hA hn hg hb ds t (i + 1) S2 e2 ε2 f2 τ2 r hdr' hd.2 (Nat.lt_of_succ_lt_succ hl) ((n3.fr.2 n hlt hn hst).trans hS) (fun j h1 h2 h3 => by
        rcases n3.sub j h1 h2 n h3 with z | ⟨j', z1, z2, z⟩
        · omega
        · exact hst j' z1 z2 z) n2.st h2
      exact ⟨q, k1, k2.trans n3⟩
    have step : ∀ (x : Option Res), forV n g b (t + 1) i e S = (match b e1 S with
        | none => none
        | some (.nx e2 S2) => forV n g b t (i + 1) e2 S2
        | some (.ct e2 S2) => forV n g b t (i + 1) e2 S2
        | some (.bk e2 S2) => some (.nx e2 S2)
        | some (.rt d S2) => some (.rt d S2)) := fun _ => by
      conv => lhs; unfold forV lstAt
      rw [hS]
      dsimp only
      rw [hi]
      dsimp only
      rw [a1]
      all_goals dsimp only
      all_goals (cases b e1 S with
      | none => rfl
      | some x => cases x <;> rfl)
    split at h
    · cases h
    · rename_i ε2 τ2 eb
      obtain ⟨q, b1, b2⟩ := hb A β n0 S e1 ε1 f1 τ _ hA a2.st eb
      cases q with
      | nx e2 S2 =>
        obtain ⟨q, k1, k2⟩ := go ε2 τ2 e2 S2 b2 h
        exact ⟨q, by rw [step none, b1]; exact k1, k2⟩
      | _ => exact b2.elim
    · rename_i ε2 τ2 eb
      obtain ⟨q, b1, b2⟩ := hb A β n0 S e1 ε1 f1 τ _ hA a2.st eb
      cases q with
      | ct e2 S2 =>
        obtain ⟨q, k1, k2⟩ := go ε2 τ2 e2 S2 b2 h
        exact ⟨q, by rw [step none, b1]; exact k1, k2⟩
      | _ => exact b2.elim
    · rename_i ε2 τ2 eb
      cases h
      obtain ⟨q, b1, b2⟩ := hb A β n0 S e1 ε1 f1 τ _ hA a2.st eb
      cases q with
      | bk e2 S2 =>
        obtain ⟨f2, n2⟩ := b2
        exact ⟨.nx e2 S2, by rw [step none, b1], f2, a2.trans n2⟩
      | _ => exact b2.elim
    · rename_i w τ2 eb
      cases h
      obtain ⟨q, b1, b2⟩ := hb A β n0 S e1 ε1 f1 τ _ hA a2.st eb
      cases q with
      | rt d2 S2 => exact ⟨.rt d2 S2, by rw [step none, b1], Aft.trans (r := .rt w τ2) (q := .rt d2 S2) a2 b2⟩
      | _ => exact b2.elim
theorem turns_big {n : Nat} (h : n ≤ 1000000) : n < turns := Nat.lt_of_le_of_lt h (by decide)
theorem ss_for {w : XW} {uw : UW} {g : XG} {vg : VG} {b : XS} {ub : US} (hw : SW us w uw) (hg : SG br (us ++ kp) g vg) (hb : SS br (us ++ kp) fh b ub) : SS br kp fh (sFor w g b) (tFor uw vg ub) := fun A β n0 S e ε fp τ r hA s h => by
  unfold tFor at h
  split at h
  · cases h
  rename_i ds τ1 ew
  obtain ⟨wk, S1, a1, a2, a3, a4, a5, a6⟩ := hw β S e ε fp τ ds τ1 s.sit ew
  have s1 := s.kn a2 a3
  have n1 : NxF br kp A β n0 S e ε fp S1 e ε fp τ1 := .kn s a2 a3
  rcases a6 with rfl | ⟨n, rfl, hS, fr⟩
  · obtain ⟨q, k1, k2⟩ := for_fix' hA hg hb ds S1 e ε fp τ1 r a4 s1 h
    exact ⟨q, by unfold sFor; rw [a1]; exact k1, (k2.wide fun i hi => List.mem_append_right _ hi).trans n1⟩
  · obtain ⟨of, src⟩ := fr.2 n (by simp)
    have st : ∀ j, j ∉ br → j ∉ us ++ kp → n ∉ fp j := fun j h1 h2 h3 => by
      rcases src with z | ⟨i, hi, z⟩
      · have := s.lt j n h3
        omega
      · by_cases hib : i ∈ br
        · have := (hA n (s.bo i hib n z)).1
          have := s.ow j h1 n h3
          omega
        · exact s.dj i j hib h1 (fun q => h2 (List.mem_append_left _ (q ▸ hi))) n z h3
    obtain ⟨q, k1, k2⟩ := for_live' hA (fun b l z => (of b l z).1) hg hb ds turns 0 S1 e ε fp τ1 r rfl a4 (turns_big a5) hS st s1 h
    exact ⟨q, by unfold sFor; rw [a1]; exact k1, (k2.wide fun i hi => List.mem_append_right _ hi).trans n1⟩
def uAny (m : UE) : UW := fun ε τ => match m ε τ with
  | some (w, τ1) => match itemsW w with
    | some ds => some (ds, τ1)
    | none => none
  | none => none
def smallL (i : Int) : Bool := decide (-400000 ≤ i) && decide (i ≤ 400000)
def uRng1 (m : UE) : UW := fun ε τ => match m ε τ with
  | some (.p (.int j), τ1) => if smallL j = true then some (rngD 0 j, τ1) else none
  | _ => none
theorem nps_rng {i j : Int} : D.nps (rngD i j) := D.nps_iff.mpr fun d hd => by
  unfold rngD at hd
  obtain ⟨k, _, rfl⟩ := List.mem_map.mp hd
  trivial
theorem smallL_i {i : Int} (h : smallL i = true) : smallI i = true ∧ -400000 ≤ i ∧ i ≤ 400000 := by
  unfold smallL at h
  simp only [Bool.and_eq_true, decide_eq_true_eq] at h
  refine ⟨?_, h⟩
  unfold smallI
  simp only [Bool.and_eq_true, decide_eq_true_eq]
  omega
theorem rngD_len {i j : Int} : (rngD i j).length = (j - i).toNat := by simp [rngD]
theorem sw_any {m : XE} {v : UE} (h : SE us m v) : SW us (wAny m) (uAny v) := fun β S e ε fp τ ds τ' s h9 => by
  unfold uAny at h9
  split at h9
  rotate_left
  · cases h9
  rename_i w τ1 e1
  split at h9
  rotate_left
  · cases h9
  rename_i ds' ei
  cases h9
  obtain ⟨d, S1, fo, a1, a2, a3, a4, a5⟩ := h β S e ε fp τ w _ s e1
  obtain ⟨i1, i2, i3⟩ := itemsW_of a4 ei
  unfold itemsW at ei
  split at ei
  · cases ei
    obtain ⟨rfl, _, _⟩ := a4.pd
    exact ⟨.fix ds, S1, by unfold wAny; rw [a1], a2, a3, i2, i3, .inl rfl⟩
  · cases ei
    cases a4 with
    | l q1 q2 q3 => exact ⟨.live _, S1, by unfold wAny; rw [a1]; dsimp only; rw [show lstAt S1 _ = some ds from i1], a2, a3, i2, i3, .inr ⟨_, rfl, q1, a5⟩⟩
  · cases ei
theorem sw_rng1 {m : XE} {v : UE} (h : SE us m v) : SW [] (wRng1 m) (uRng1 v) := fun β S e ε fp τ ds τ' s h9 => by
  unfold uRng1 at h9
  split at h9
  rotate_left
  · cases h9
  rename_i j τ1 e1
  split at h9
  rotate_left
  · cases h9
  rename_i c
  cases h9
  obtain ⟨d, S1, fo, a1, a2, a3, a4, a5⟩ := h β S e ε fp τ _ _ s e1
  obtain ⟨rfl, _, _⟩ := a4.pd
  obtain ⟨c1, c2, c3⟩ := smallL_i c
  exact ⟨.fix (rngD 0 j), S1, by unfold wRng1; rw [a1]; dsimp only; rw [if_pos c1], a2, a3, nps_rng, by rw [rngD_len]; omega, .inl rfl⟩
def wipeV (ε : VEnv) : List Nat → VEnv
  | [] => ε
  | v :: vs => (wipeV ε vs).set v none
theorem Sit.unset {S : Sto} {e : EnvD} {ε : VEnv} {fp : Nat → List Nat} {τ : Tape} (s : Sit β S e ε fp τ) (i : Nat) : Sit β S (e.set i none) (ε.set i none) fp τ := by
  refine ⟨by rw [List.length_set, List.length_set]; exact s.len, fun j w h => ?_, s.off, s.nd, s.bx⟩
  by_cases z : j = i
  · subst z
    have hl := (List.getElem?_eq_some_iff.mp h).1
    rw [List.length_set] at hl
    rw [List.getElem?_set_self hl] at h
    cases h
  · rw [List.getElem?_set_ne (Ne.symm z)] at h ⊢
    exact s.at_ j w h
theorem Sit.wipe {S : Sto} {e : EnvD} {ε : VEnv} {fp : Nat → List Nat} {τ : Tape} (s : Sit β S e ε fp τ) : ∀ vs : List Nat, Sit β S (wipeD e vs) (wipeV ε vs) fp τ
  | [] => s
  | v :: vs => (s.wipe vs).unset v
theorem Sit.put {S : Sto} {e : EnvD} {ε : VEnv} {fp : Nat → List Nat} {τ : Tape} (s : Sit β S e ε fp τ) (i : Nat) {d : D} (hd : d.np) : Sit β S (e.set i (some d)) (ε.set i (some (.p d))) (fset fp i []) τ := by
  have sub : ∀ j, ∀ k ∈ fset fp i [] j, k ∈ fp j := fun j k hk => by
    by_cases z : j = i
    · subst z; rw [fset_self] at hk; simp at hk
    · rw [fset_ne z] at hk; exact hk
  refine ⟨by rw [List.length_set, List.length_set]; exact s.len, fun j w h => ?_, fun j k h => s.off j k (sub j k h), fun j => ?_, s.bx⟩
  · by_cases z : j = i
    · subst z
      have hl := (List.getElem?_eq_some_iff.mp h).1
      rw [List.length_set] at hl
      rw [List.getElem?_set_self hl] at h
      cases h
      exact ⟨d, List.getElem?_set_self (by rw [s.len]; exact hl), by rw [fset_self]; exact .p hd⟩
    · rw [List.getElem?_set_ne (Ne.symm z)] at h ⊢
      rw [fset_ne z]
      exact s.at_ j w h
  · by_cases z : j = i
    · subst z; rw [fset_self]; exact .nil
    · rw [fset_ne z]; exact s.nd j
def SC (g : XG) (v : VG) : Prop := ∀ β S e ε fp τ d ε', D.np d → Sit β S e ε fp τ → v d ε = some ε' → ∃ e' fp', g d e = some e' ∧ Sit β S e' ε' fp' τ ∧ ∀ j, ∀ k ∈ fp' j, k ∈ fp j
def SCs (g : XGs) (v : VGs) : Prop := ∀ β S e ε fp τ d ε', D.nps d → Sit β S e ε fp τ → v d ε = some ε' → ∃ e' fp', g d e = some e' ∧ Sit β S e' ε' fp' τ ∧ ∀ j, ∀ k ∈ fp' j, k ∈ fp j
theorem sc_n (i : Nat) : SC (gN i) (vgN i) := fun β S e ε fp τ d ε' hd s h => by
  cases h
  refine ⟨_, _, rfl, s.put i hd, fun j k hk => ?_⟩
  by_cases z : j = i
  · subst z; rw [fset_self] at hk; simp at hk
  · rw [fset_ne z] at hk; exact hk
theorem scs_n : SCs gsN vgsN := fun β S e ε fp τ ds ε' hd s h => by
  unfold vgsN at h
  split at h
  · cases h
    exact ⟨e, fp, rfl, s, fun _ _ h => h⟩
  · cases h
theorem scs_c {g : XG} {u : XGs} {vg : VG} {vu : VGs} (h1 : SC g vg) (h2 : SCs u vu) : SCs (gsC g u) (vgsC vg vu) := fun β S e ε fp τ ds ε' hd s h => by
  cases ds with
  | nil => cases h
  | cons d r =>
  unfold vgsC at h
  dsimp only at h
  split at h
  · cases h
  rename_i ε1 e1
  obtain ⟨ea, fa, a1, a2, a3⟩ := h1 β S e ε fp τ d ε1 hd.1 s e1
  obtain ⟨eb, fb, b1, b2, b3⟩ := h2 β S ea ε1 fa τ r ε' hd.2 a2 h
  exact ⟨eb, fb, by unfold gsC; dsimp only; rw [a1]; exact b1, b2, fun j k hk => a3 j k (b3 j k hk)⟩
theorem sc_t {u : XGs} {vu : VGs} (n : Nat) (h1 : SCs u vu) : SC (gT n u) (vgT n vu) := fun β S e ε fp τ d ε' hd s h => by
  unfold vgT at h
  split at h
  rotate_left
  · cases h
  rename_i ds
  split at h
  rotate_left
  · cases h
  rename_i hl
  obtain ⟨ea, fa, a1, a2⟩ := h1 β S e ε fp τ ds ε' hd.2 s h
  exact ⟨ea, fa, by unfold gT; dsimp only; rw [if_pos hl]; exact a1, a2⟩
def uOne (g : VG) (c : UB) (a : UE) (d : D) (ε : VEnv) (τ : Tape) : Option (Option D × Tape) := match g d ε with
  | none => none
  | some ε1 => match c ε1 τ with
    | none => none
    | some (false, τ1) => some (none, τ1)
    | some (true, τ1) => match a ε1 τ1 with
      | some (.p y, τ2) => some (some y, τ2)
      | _ => none
def uLcL (g : VG) (c : UB) (a : UE) : List D → VEnv → Tape → Option (List D × Tape)
  | [], _, τ => some ([], τ)
  | d :: ds, ε, τ => match uOne g c a d ε τ with
    | none => none
    | some (o, τ1) => match uLcL g c a ds ε τ1 with
      | none => none
      | some (ys, τ2) => some (o.toList ++ ys, τ2)
def uLc (w : UW) (vs : List Nat) (g : VG) (c : UB) (a : UE) : UE := fun ε τ => match w ε τ with
  | none => none
  | some (ds, τ1) => match uLcL g c a ds (wipeV ε vs) τ1 with
    | none => none
    | some (ys, τ2) => some (.l ys, τ2)
def uTG (w : UW) (vs : List Nat) (g : VG) (c : UB) (a : UE) : UE := fun ε τ => match w ε τ with
  | none => none
  | some (ds, τ1) => match uLcL g c a ds (wipeV ε vs) τ1 with
    | none => none
    | some (ys, τ2) => some (.p (.tup ys), τ2)
def uQL (k : Bool) (g : VG) (c : UB) (a : UE) : List D → VEnv → Tape → Option (Bool × Tape)
  | [], _, τ => some (k, τ)
  | d :: ds, ε, τ => match uOne g c a d ε τ with
    | some (none, τ1) => uQL k g c a ds ε τ1
    | some (some (.bl b), τ1) => if b = k then uQL k g c a ds ε τ1 else some (!k, τ1)
    | _ => none
def uQ (k : Bool) (w : UW) (vs : List Nat) (g : VG) (c : UB) (a : UE) : UE := fun ε τ => match w ε τ with
  | none => none
  | some (ds, τ1) => match uQL k g c a ds (wipeV ε vs) τ1 with
    | none => none
    | some (b, τ2) => some (.p (.bl b), τ2)
theorem lcOne' {g : XG} {vg : VG} {c : XB} {uc : UB} {a : XE} {ua : UE} {n : Nat} {d : D} {S : Sto} {e : EnvD} {ε : VEnv} {fp : Nat → List Nat} {τ τ1 : Tape} {o : Option D} {acc : List D} (hg : SC g vg) (hc : SB c uc) (ha : SE us a ua) (hd : d.np) (s : Sit β S e ε fp τ)
    (hn : S[n]? = some (.lst acc)) (of : Off β n) (hf : ∀ j, n ∉ fp j) (hl : acc.length < 1000000) (h : uOne vg uc ua d ε τ = some (o, τ1)) :
    ∃ S1, lcOne g c a n d e S = some S1 ∧ Sit β S1 e ε fp τ1 ∧ S.length ≤ S1.length ∧ (∀ i, i < S.length → i ≠ n → (∀ b l, β = some (b, l) → i ≠ b) → S1[i]? = S[i]?) ∧ S1[n]? = some (.lst (acc ++ o.toList)) ∧ (∀ y, o = some y → y.np) := by
  unfold uOne at h
  split at h
  · cases h
  rename_i ε1 eg
  obtain ⟨e1, f1, g1, g2, g3⟩ := hg β S e ε fp τ d ε1 hd s eg
  split at h
  · cases h
  · rename_i τ2 ec
    cases h
    obtain ⟨S1, c1, c2, c3⟩ := hc β S e1 ε1 f1 τ _ _ g2 ec
    exact ⟨S1, by unfold lcOne; rw [g1]; dsimp only; rw [c1], s.kn c2 c3, c2.1, fun i h1 _ h2 => c2.2 i h1 h2, by rw [Option.toList_none, List.append_nil]; exact c2.get of hn, fun y hy => by cases hy⟩
  · rename_i τ2 ec
    obtain ⟨S1, c1, c2, c3⟩ := hc β S e1 ε1 f1 τ _ _ g2 ec
    split at h
    rotate_left
    · cases h
    rename_i y τ3 ea
    cases h
    obtain ⟨d2, S2, fo, a1, a2, a3, a4, a5⟩ := ha β S1 e1 ε1 f1 τ2 _ _ (g2.kn c2 c3) ea
    obtain ⟨rfl, hy, _⟩ := a4.pd
    have kn := c2.trans a2
    have hn2 := kn.get of hn
    have s2 := s.kn kn a3
    refine ⟨S2.set n (.lst (acc ++ [d2])), ?_, ⟨s.len, fun i w hi => ?_, s.off, s.nd, ?_⟩, by rw [List.length_set]; exact kn.1, fun i h1 h2 h3 => (List.getElem?_set_ne (Ne.symm h2)).trans (kn.2 i h1 h3), ?_, fun y' hy' => by cases hy'; exact hy⟩
    · unfold lcOne
      rw [g1]
      dsimp only
      rw [c1]
      dsimp only
      rw [a1]
      dsimp only
      unfold grown
      rw [hn2]
      dsimp only
      rw [if_pos hl]
    · obtain ⟨dd, q1, q2⟩ := s2.at_ i w hi
      exact ⟨dd, q1, q2.fr fun k hk => set_off hk (hf i)⟩
    · cases β with
      | none => exact a3
      | some q =>
        obtain ⟨b, l⟩ := q
        obtain ⟨ms, cc, h1, h2, h3, h4⟩ := a3
        obtain ⟨o1, o2⟩ := of b l rfl
        exact ⟨ms, cc, by rw [List.getElem?_set_ne o1]; exact h1, h2, by rw [List.getElem?_set_ne o2]; exact h3, h4⟩
    · rw [List.getElem?_set_self (List.getElem?_eq_some_iff.mp hn2).1]
      rfl
theorem lcL' {g : XG} {vg : VG} {c : XB} {uc : UB} {a : XE} {ua : UE} {n : Nat} {e : EnvD} {ε : VEnv} {fp : Nat → List Nat} (hg : SC g vg) (hc : SB c uc) (ha : SE us a ua) (of : Off β n) (hf : ∀ j, n ∉ fp j) : ∀ (ds : List D) (S : Sto) (τ τ1 : Tape) (acc ys : List D), D.nps ds → Sit β S e ε fp τ →
    S[n]? = some (.lst acc) → acc.length + ds.length ≤ 1000000 → uLcL vg uc ua ds ε τ = some (ys, τ1) →
    ∃ S1, lcL g c a n ds e S = some S1 ∧ Sit β S1 e ε fp τ1 ∧ S.length ≤ S1.length ∧ (∀ i, i < S.length → i ≠ n → (∀ b l, β = some (b, l) → i ≠ b) → S1[i]? = S[i]?) ∧ S1[n]? = some (.lst (acc ++ ys)) ∧ D.nps ys ∧ ys.length ≤ ds.length
  | [], S, τ, τ1, acc, ys, _, s, hn, _, h => by
    cases h
    exact ⟨S, rfl, s, Nat.le_refl _, fun _ _ _ _ => rfl, by rw [List.append_nil]; exact hn, trivial, Nat.le_refl _⟩
  | d :: ds, S, τ, τ1, acc, ys, hd, s, hn, hl, h => by
    unfold uLcL at h
    split at h
    · cases h
    rename_i o τ2 e1
    split at h
    · cases h
    rename_i zs τ3 e2
    cases h
    rw [List.length_cons] at hl
    obtain ⟨S1, a1, a2, a3, a4, a5, a6⟩ := lcOne' hg hc ha hd.1 s hn of hf (by omega) e1
    have ol : o.toList.length ≤ 1 := by cases o <;> simp
    obtain ⟨S2, b1, b2, b3, b4, b5, b6, b7⟩ := lcL' hg hc ha of hf ds S1 τ2 _ (acc ++ o.toList) zs hd.2 a2 a5 (by rw [List.length_append]; omega) e2
    refine ⟨S2, by unfold lcL; rw [a1]; exact b1, b2, Nat.le_trans a3 b3, fun i h1 h2 h3 => (b4 i (Nat.lt_of_lt_of_le h1 a3) h2 h3).trans (a4 i h1 h2 h3), by rw [← List.append_assoc]; exact b5, D.nps_app ?_ b6, by rw [List.length_append, List.length_cons]; omega⟩
    cases o with
    | none => trivial
    | some y => exact ⟨a6 y rfl, trivial⟩
theorem lcV' {m : Nat} {all : List D} {g : XG} {vg : VG} {c : XB} {uc : UB} {a : XE} {ua : UE} {n : Nat} {e : EnvD} {ε : VEnv} {fp : Nat → List Nat} (hg : SC g vg) (hc : SB c uc) (ha : SE us a ua) (of : Off β n) (hf : ∀ j, n ∉ fp j) (om : Off β m) (hm : m ≠ n) : ∀ (ds : List D) (t i : Nat) (S : Sto) (τ τ1 : Tape) (acc ys : List D), all.drop i = ds → ds.length < t → S[m]? = some (.lst all) → D.nps ds → Sit β S e ε fp τ →
    S[n]? = some (.lst acc) → acc.length + ds.length ≤ 1000000 → uLcL vg uc ua ds ε τ = some (ys, τ1) →
    ∃ S1, lcV m g c a n t i e S = some S1 ∧ Sit β S1 e ε fp τ1 ∧ S.length ≤ S1.length ∧ (∀ i, i < S.length → i ≠ n → (∀ b l, β = some (b, l) → i ≠ b) → S1[i]? = S[i]?) ∧ S1[n]? = some (.lst (acc ++ ys)) ∧ D.nps ys ∧ ys.length ≤ ds.length
  | ds, 0, i, S, τ, τ1, acc, ys, _, hl, _, _, _, _, _, _ => absurd hl (Nat.not_lt_zero _)
  | [], t + 1, i, S, τ, τ1, acc, ys, hdr, _, hS, _, s, hn, _, h => by
    cases h
    refine ⟨S, ?_, s, Nat.le_refl _, fun _ _ _ _ => rfl, by rw [List.append_nil]; exact hn, trivial, Nat.le_refl _⟩
    unfold lcV lstAt
    rw [hS]
    dsimp only
    rw [List.getElem?_eq_none_iff.mpr (List.drop_eq_nil_iff.mp hdr)]
  | d :: ds, t + 1, i, S, τ, τ1, acc, ys, hdr, ht, hS, hd, s, hn, hl, h => by
    have hi : all[i]? = some d := by
      have := congrArg (fun l => l[0]?) hdr
      simpa using this
    have hdr' : all.drop (i + 1) = ds := by
      rw [← List.drop_drop, hdr]
      rfl
    unfold uLcL at h
    split at h
    · cases h
    rename_i o τ2 e1
    split at h
    · cases h
    rename_i zs τ3 e2
    cases h
    rw [List.length_cons] at hl
    obtain ⟨S1, a1, a2, a3, a4, a5, a6⟩ := lcOne' hg hc ha hd.1 s hn of hf (by omega) e1
    have ol : o.toList.length ≤ 1 := by cases o <;> simp
    obtain ⟨S2, b1, b2, b3, b4, b5, b6, b7⟩ := lcV' hg hc ha of hf om hm ds t (i + 1) S1 τ2 _ (acc ++ o.toList) zs hdr' (Nat.lt_of_succ_lt_succ ht) ((a4 m (List.getElem?_eq_some_iff.mp hS).1 hm fun b l z => (om b l z).1).trans hS) hd.2 a2 a5 (by rw [List.length_append]; omega) e2
    refine ⟨S2, ?_, b2, Nat.le_trans a3 b3, fun i h1 h2 h3 => (b4 i (Nat.lt_of_lt_of_le h1 a3) h2 h3).trans (a4 i h1 h2 h3), by rw [← List.append_assoc]; exact b5, D.nps_app ?_ b6, by rw [List.length_append, List.length_cons]; omega⟩
    · unfold lcV lstAt
      rw [hS]
      dsimp only
      rw [hi]
      dsimp only
      rw [a1]
      exact b1
    · cases o with
      | none => trivial
      | some y => exact ⟨a6 y rfl, trivial⟩
end
end Mini
end
section
namespace Mini
open PySem L2
section
variable {us vs : List Nat} {β : Bxs}
theorem Sit.lt0 {S : Sto} {e : EnvD} {ε : VEnv} {fp : Nat → List Nat} {τ : Tape} (s : Sit β S e ε fp τ) : ∃ fq : Nat → List Nat, Sit β S e ε fq τ ∧ (∀ j, ∀ k ∈ fq j, k < S.length) ∧ ∀ j, ∀ k ∈ fq j, k ∈ fp j := by
  have sub : ∀ j, ∀ k ∈ ((fp j).filter fun k => decide (k < S.length)), k ∈ fp j ∧ k < S.length := fun j k hk => by
    rw [List.mem_filter] at hk
    exact ⟨hk.1, of_decide_eq_true hk.2⟩
  refine ⟨fun j => (fp j).filter fun k => decide (k < S.length), ⟨s.len, fun i w h => ?_, fun i k hk => s.off i k (sub i k hk).1, fun i => (s.nd i).filter _, s.bx⟩, fun j k hk => (sub j k hk).2, fun j k hk => (sub j k hk).1⟩
  obtain ⟨d, h1, h2⟩ := s.at_ i w h
  refine ⟨d, h1, ?_⟩
  have : (fp i).filter (fun k => decide (k < S.length)) = fp i := List.filter_eq_self.mpr fun k hk => decide_eq_true (h2.lt k hk)
  rw [this]
  exact h2
theorem lc_whole {w : XW} {uw : UW} {own : List Nat} {g : XG} {vg : VG} {c : XB} {uc : UB} {a : XE} {ua : UE} (hw : SW us w uw) (hg : SC g vg) (hc : SB c uc) (ha : SE vs a ua) {S : Sto} {e : EnvD} {ε : VEnv} {fp : Nat → List Nat} {τ τ1 τ2 : Tape} {ds ys : List D} (s : Sit β S e ε fp τ)
    (e1 : uw ε τ = some (ds, τ1)) (e2 : uLcL vg uc ua ds (wipeV ε own) τ1 = some (ys, τ2)) : ∃ n S', S.length ≤ n ∧ xLc w own g c a e S = some (.loc n, S') ∧ Kn β S S' ∧ Bx β S' τ2 ∧ S'[n]? = some (.lst ys) ∧ D.nps ys ∧ ys.length ≤ 1000000 := by
  obtain ⟨wk, S1, a1, a2, a3, a4, a5, a6⟩ := hw β S e ε fp τ ds τ1 s e1
  obtain ⟨fq, sq, lq, _⟩ := (s.kn a2 a3).lt0
  have s2 : Sit β (S1 ++ [O.lst []]) (wipeD e own) (wipeV ε own) fq τ1 := (sq.wipe own).kn .more a3.more
  have of : Off β S1.length := a3.off (Nat.le_refl _)
  have hf : ∀ j, S1.length ∉ fq j := fun j h => Nat.lt_irrefl _ (lq j _ h)
  have hn : (S1 ++ [O.lst []])[S1.length]? = some (.lst []) := by simp
  have l2 : (S1 ++ [O.lst []]).length = S1.length + 1 := by simp
  have fin : ∀ S2, Sit β S2 (wipeD e own) (wipeV ε own) fq τ2 → (S1 ++ [O.lst []]).length ≤ S2.length → (∀ i, i < (S1 ++ [O.lst []]).length → i ≠ S1.length → (∀ b l, β = some (b, l) → i ≠ b) → S2[i]? = (S1 ++ [O.lst []])[i]?) → Kn β S S2 := fun S2 _ q3 q4 =>
    a2.trans ⟨by omega, fun i h1 h2 => (q4 i (by omega) (by omega) h2).trans (List.getElem?_append_left h1)⟩
  rcases a6 with rfl | ⟨m, rfl, hS, fr⟩
  · obtain ⟨S2, b1, b2, b3, b4, b5, b6, b7⟩ := lcL' hg hc ha of hf ds _ τ1 τ2 [] ys a4 s2 hn (by simpa using a5) e2
    refine ⟨S1.length, S2, a2.1, ?_, fin S2 b2 b3 b4, b2.bx, by simpa using b5, b6, by omega⟩
    unfold xLc
    rw [a1]
    dsimp only
    rw [b1]
  · have ml := (List.getElem?_eq_some_iff.mp hS).1
    obtain ⟨S2, b1, b2, b3, b4, b5, b6, b7⟩ := lcV' hg hc ha of hf (fr.2 m (by simp)).1 (by omega) ds turns 0 _ τ1 τ2 [] ys rfl (turns_big a5) ((List.getElem?_append_left ml).trans hS) a4 s2 hn (by simpa using a5) e2
    refine ⟨S1.length, S2, a2.1, ?_, fin S2 b2 b3 b4, b2.bx, by simpa using b5, b6, by omega⟩
    unfold xLc
    rw [a1]
    dsimp only
    rw [b1]
theorem se_lc {w : XW} {uw : UW} {own : List Nat} {g : XG} {vg : VG} {c : XB} {uc : UB} {a : XE} {ua : UE} (hw : SW us w uw) (hg : SC g vg) (hc : SB c uc) (ha : SE vs a ua) : SE [] (xLc w own g c a) (uLc uw own vg uc ua) := fun β S e ε fp τ w' τ' s h => by
  unfold uLc at h
  split at h
  · cases h
  rename_i ds τ1 e1
  split at h
  · cases h
  rename_i ys τ2 e2
  cases h
  obtain ⟨n, S', h0, h1, h2, h3, h4, h5, h6⟩ := lc_whole hw hg hc ha s e1 e2
  exact ⟨.loc n, S', [n], h1, h2, h3, .l h4 h5 h6, by simp, fun k hk => by
    rw [List.mem_singleton] at hk
    subst hk
    exact ⟨s.bx.off h0, .inl h0⟩⟩
theorem se_tg {w : XW} {uw : UW} {own : List Nat} {g : XG} {vg : VG} {c : XB} {uc : UB} {a : XE} {ua : UE} (hw : SW us w uw) (hg : SC g vg) (hc : SB c uc) (ha : SE vs a ua) : SE [] (xTG w own g c a) (uTG uw own vg uc ua) := fun β S e ε fp τ w' τ' s h => by
  unfold uTG at h
  split at h
  · cases h
  rename_i ds τ1 e1
  split at h
  · cases h
  rename_i ys τ2 e2
  cases h
  obtain ⟨n, S', h0, h1, h2, h3, h4, h5, h6⟩ := lc_whole hw hg hc ha s e1 e2
  refine ⟨.tup ys, S', [], ?_, h2, h3, .p ⟨h6, h5⟩, .nil⟩
  unfold xTG
  rw [h1]
  dsimp only
  rw [h4]
  dsimp only
  rw [if_pos h6]
theorem qOne' {g : XG} {vg : VG} {c : XB} {uc : UB} {a : XE} {ua : UE} {d : D} {S : Sto} {e : EnvD} {ε : VEnv} {fp : Nat → List Nat} {τ τ1 : Tape} {o : Option D} (hg : SC g vg) (hc : SB c uc) (ha : SE us a ua) (hd : d.np) (s : Sit β S e ε fp τ)
    (h : uOne vg uc ua d ε τ = some (o, τ1)) : ∃ S1, Kn β S S1 ∧ Bx β S1 τ1 ∧ (o = none → qOne g c a d e S = some (none, S1)) ∧ ∀ b, o = some (.bl b) → qOne g c a d e S = some (some b, S1) := by
  unfold uOne at h
  split at h
  · cases h
  rename_i ε1 eg
  obtain ⟨e1, f1, g1, g2, g3⟩ := hg β S e ε fp τ d ε1 hd s eg
  split at h
  · cases h
  · rename_i τ2 ec
    cases h
    obtain ⟨S1, c1, c2, c3⟩ := hc β S e1 ε1 f1 τ _ _ g2 ec
    exact ⟨S1, c2, c3, fun _ => by unfold qOne; rw [g1]; dsimp only; rw [c1], fun b hb => by cases hb⟩
  · rename_i τ2 ec
    obtain ⟨S1, c1, c2, c3⟩ := hc β S e1 ε1 f1 τ _ _ g2 ec
    split at h
    rotate_left
    · cases h
    rename_i y τ3 ea
    cases h
    obtain ⟨d2, S2, fo, a1, a2, a3, a4, a5⟩ := ha β S1 e1 ε1 f1 τ2 _ _ (g2.kn c2 c3) ea
    refine ⟨S2, c2.trans a2, a3, (fun z => by cases z), fun b hb => ?_⟩
    cases hb
    cases a4.bl
    unfold qOne
    rw [g1]
    dsimp only
    rw [c1]
    dsimp only
    rw [a1]
theorem qL' {k : Bool} {g : XG} {vg : VG} {c : XB} {uc : UB} {a : XE} {ua : UE} {e : EnvD} {ε : VEnv} {fp : Nat → List Nat} (hg : SC g vg) (hc : SB c uc) (ha : SE us a ua) : ∀ (ds : List D) (S : Sto) (τ τ1 : Tape) (b : Bool), D.nps ds → Sit β S e ε fp τ → uQL k vg uc ua ds ε τ = some (b, τ1) →
    ∃ S1, qL k g c a ds e S = some (b, S1) ∧ Kn β S S1 ∧ Bx β S1 τ1
  | [], S, τ, τ1, b, _, s, h => by
    cases h
    exact ⟨S, rfl, .refl, s.bx⟩
  | d :: ds, S, τ, τ1, b, hd, s, h => by
    unfold uQL at h
    split at h
    · rename_i τ2 e1
      obtain ⟨S1, a1, a2, a3, _⟩ := qOne' hg hc ha hd.1 s e1
      obtain ⟨S2, b1, b2, b3⟩ := qL' hg hc ha ds S1 τ2 τ1 b hd.2 (s.kn a1 a2) h
      exact ⟨S2, by unfold qL; rw [a3 rfl]; exact b1, a1.trans b2, b3⟩
    · rename_i b' τ2 e1
      obtain ⟨S1, a1, a2, _, a3⟩ := qOne' hg hc ha hd.1 s e1
      split at h
      · rename_i z
        obtain ⟨S2, b1, b2, b3⟩ := qL' hg hc ha ds S1 τ2 τ1 b hd.2 (s.kn a1 a2) h
        exact ⟨S2, by unfold qL; rw [a3 _ rfl]; dsimp only; rw [if_pos z]; exact b1, a1.trans b2, b3⟩
      · rename_i z
        cases h
        exact ⟨S1, by unfold qL; rw [a3 _ rfl]; dsimp only; rw [if_neg z], a1, a2⟩
    · cases h
theorem qV' {k : Bool} {m : Nat} {all : List D} {g : XG} {vg : VG} {c : XB} {uc : UB} {a : XE} {ua : UE} {e : EnvD} {ε : VEnv} {fp : Nat → List Nat} (hg : SC g vg) (hc : SB c uc) (ha : SE us a ua) (om : Off β m) : ∀ (ds : List D) (t i : Nat) (S : Sto) (τ τ1 : Tape) (b : Bool), all.drop i = ds → ds.length < t → S[m]? = some (.lst all) → D.nps ds → Sit β S e ε fp τ → uQL k vg uc ua ds ε τ = some (b, τ1) →
    ∃ S1, qV k m g c a t i e S = some (b, S1) ∧ Kn β S S1 ∧ Bx β S1 τ1
  | ds, 0, i, S, τ, τ1, b, _, hl, _, _, _, _ => absurd hl (Nat.not_lt_zero _)
  | [], t + 1, i, S, τ, τ1, b, hdr, _, hS, _, s, h => by
    cases h
    refine ⟨S, ?_, .refl, s.bx⟩
    unfold qV lstAt
    rw [hS]
    dsimp only
    rw [List.getElem?_eq_none_iff.mpr (List.drop_eq_nil_iff.mp hdr)]
  | d :: ds, t + 1, i, S, τ, τ1, b, hdr, ht, hS, hd, s, h => by
    have hi : all[i]? = some d := by
      have := congrArg (fun l => l[0]?) hdr
      simpa using this
    have hdr' : all.drop (i + 1) = ds := by
      rw [← List.drop_drop, hdr]
      rfl
    have step : ∀ o S1, qOne g c a d e S = some (o, S1) → qV k m g c a (t + 1) i e S = (match o with | none => qV k m g c a t (i + 1) e S1 | some b => if b = k then qV k m g c a t (i + 1) e S1 else some (!k, S1)) := fun o S1 hq => by
      conv => lhs; unfold qV lstAt
      rw [hS]
      dsimp only
      rw [hi]
      dsimp only
      rw [hq]
      cases o <;> rfl
    unfold uQL at h
    split at h
    · rename_i τ2 e1
      obtain ⟨S1, a1, a2, a3, _⟩ := qOne' hg hc ha hd.1 s e1
      obtain ⟨S2, b1, b2, b3⟩ := qV' hg hc ha om ds t (i + 1) S1 τ2 τ1 b hdr' (Nat.lt_of_succ_lt_succ ht) (a1.get om hS) hd.2 (s.kn a1 a2) h
      exact ⟨S2, by rw [step _ _ (a3 rfl)]; exact b1, a1.trans b2, b3⟩
    · rename_i b' τ2 e1
      obtain ⟨S1, a1, a2, _, a3⟩ := qOne' hg hc ha hd.1 s e1
      split at h
      · rename_i z
        obtain ⟨S2, b1, b2, b3⟩ := qV' hg hc ha om ds t (i + 1) S1 τ2 τ1 b hdr' (Nat.lt_of_succ_lt_succ ht) (a1.get om hS) hd.2 (s.kn a1 a2) h
        exact ⟨S2, by rw [step _ _ (a3 _ rfl)]; dsimp only; rw [if_pos z]; exact b1, a1.trans b2, b3⟩
      · rename_i z
        cases h
        exact ⟨S1, by rw [step _ _ (a3 _ rfl)]; dsimp only; rw [if_neg z], a1, a2⟩
    · cases h
theorem se_q {k : Bool} {w : XW} {uw : UW} {own : List Nat} {g : XG} {vg : VG} {c : XB} {uc : UB} {a : XE} {ua : UE} (hw : SW us w uw) (hg : SC g vg) (hc : SB c uc) (ha : SE vs a ua) : SE [] (xQ k w own g c a) (uQ k uw own vg uc ua) := fun β S e ε fp τ w' τ' s h => by
  unfold uQ at h
  split at h
  · cases h
  rename_i ds τ1 e1
  split at h
  · cases h
  rename_i b τ2 e2
  cases h
  obtain ⟨wk, S1, a1, a2, a3, a4, a5, a6⟩ := hw β S e ε fp τ ds τ1 s e1
  have s2 := (s.kn a2 a3).wipe own
  rcases a6 with rfl | ⟨m, rfl, hS, fr⟩
  · obtain ⟨S2, b1, b2, b3⟩ := qL' hg hc ha ds S1 τ1 _ b a4 s2 e2
    exact ⟨.bl b, S2, [], by unfold xQ; rw [a1]; dsimp only; rw [b1], a2.trans b2, b3, .p trivial, .nil⟩
  · obtain ⟨S2, b1, b2, b3⟩ := qV' hg hc ha (fr.2 m (by simp)).1 ds turns 0 S1 τ1 _ b rfl (turns_big a5) hS a4 s2 e2
    exact ⟨.bl b, S2, [], by unfold xQ; rw [a1]; dsimp only; rw [b1], a2.trans b2, b3, .p trivial, .nil⟩
end

def uentry (k : Nat) (ws : List W) : VEnv := ws.map some ++ List.replicate (k - ws.length) none
def uends : Option URes → Option (W × Tape)
  | some (.rt w τ) => some (w, τ)
  | some (.nx _ τ) => some (.p .non, τ)
  | _ => none
def uFn (np N : Nat) (b : US) (ws : List W) (τ : Tape) : Option (W × Tape) := if ws.length = np then uends (b (uentry N ws) τ) else none
theorem Vws.fp {β : Bxs} {S : Sto} {ds : List D} {ws : List W} {fs : List (List Nat)} (v : Vws β S ds ws fs) {i : Nat} {w : W} (h : ws[i]? = some w) : ∃ d, ds[i]? = some d ∧ Vw β S d w (fs.getD i []) := by
  obtain ⟨d, f, h1, h2, h3⟩ := v.get h
  exact ⟨d, h1, by rw [List.getD_eq_getElem?_getD, h2]; exact h3⟩
theorem sfn_of {fh : Bool} {np N : Nat} {b : XS} {ub : US} (br : List Nat) (h : SS br [] fh b ub) (hb : ((List.range np).all fun i => br.contains i) = true := by rfl) : SFn fh (fun ds S => ends (b (entry N ds) S)) (uFn np N ub) := fun β S ds ws fs τ w τ' v o bx e => by
  unfold uFn at e
  split at e
  rotate_left
  · cases e
  rename_i hl
  obtain ⟨l1, l2⟩ := v.len
  have geti : ∀ i, ∀ k ∈ fs.getD i [], ∃ f ∈ fs, k ∈ f := fun i k hk => by
    rw [List.getD_eq_getElem?_getD] at hk
    cases q : fs[i]? with
    | none => rw [q] at hk; simp at hk
    | some f => rw [q] at hk; exact ⟨f, List.mem_of_getElem? q, hk⟩
  have hA : ∀ k, (∃ f ∈ fs, k ∈ f) → k < S.length ∧ Off β k := fun k ⟨f, hf, hk⟩ => ⟨v.lt f hf k hk, (o f hf).2 k hk⟩
  have big : ∀ i, i ∉ br → fs.getD i [] = [] := fun i hi => by
    rw [List.getD_eq_getElem?_getD, List.getElem?_eq_none_iff.mpr]
    · rfl
    · rw [l2, hl]
      refine Nat.le_of_not_lt fun q => hi ?_
      have := List.all_eq_true.mp hb i (List.mem_range.mpr q)
      simpa using this
  have s : Stt br (fun k => ∃ f ∈ fs, k ∈ f) β S.length S (entry N ds) (uentry N ws) (fun i => fs.getD i []) τ := by
    refine ⟨⟨?_, fun i w hw => ?_, fun i k hk => (hA k (geti i k hk)).2, fun i => ?_, bx⟩, Nat.le_refl _, fun b l z => bx.len z, fun i k hk => (hA k (geti i k hk)).1, fun i hi k hk => ?_, fun i hi k hk => geti i k hk, fun i j hi hj _ k hk => ?_⟩
    · unfold entry uentry
      rw [List.length_append, List.length_append, List.length_map, List.length_map, List.length_replicate, List.length_replicate, l1]
    · unfold uentry at hw
      by_cases hi : i < ws.length
      · rw [List.getElem?_append_left (by rw [List.length_map]; exact hi), List.getElem?_map] at hw
        cases q : ws[i]? with
        | none => rw [q] at hw; cases hw
        | some w' =>
          rw [q] at hw
          cases hw
          obtain ⟨d, h1, h2⟩ := v.fp q
          refine ⟨d, ?_, h2⟩
          unfold entry
          rw [List.getElem?_append_left (by rw [List.length_map]; omega), List.getElem?_map, h1]
          rfl
      · rw [List.getElem?_append_right (by rw [List.length_map]; omega), List.getElem?_replicate] at hw
        split at hw <;> cases hw
    · show (fs.getD i []).Nodup
      rw [List.getD_eq_getElem?_getD]
      cases q : fs[i]? with
      | none => exact .nil
      | some f => exact (o f (List.mem_of_getElem? q)).1
    · have hk' : k ∈ fs.getD i [] := hk
      rw [big i hi] at hk'; simp at hk'
    · have hk' : k ∈ fs.getD i [] := hk
      rw [big i hi] at hk'; simp at hk'
  unfold uends at e
  split at e
  · rename_i w' τ1 e1
    cases e
    obtain ⟨q, a1, a2⟩ := h _ β S.length S _ _ _ τ _ hA s e1
    cases q with
    | rt d S' =>
      obtain ⟨fo, f1, f2, f3, f4, f5⟩ := a2
      refine ⟨d, S', fo, by show ends (b (entry N ds) S) = _; rw [a1]; rfl, ⟨f1.1, fun i h1 h2 => f1.2 i h1 h2 fun j hj _ hk => ?_⟩, f2, f3, f4, fun k hk => ⟨(f5 k hk).1, (f5 k hk).2⟩⟩
      have hk' : i ∈ fs.getD j [] := hk
      rw [big j hj] at hk'; simp at hk'
    | _ => exact a2.elim
  · rename_i ε1 τ1 e1
    cases e
    obtain ⟨q, a1, a2⟩ := h _ β S.length S _ _ _ τ _ hA s e1
    cases q with
    | nx e' S' =>
      obtain ⟨f', n⟩ := a2
      refine ⟨.non, S', [], by show ends (b (entry N ds) S) = _; rw [a1]; rfl, ⟨n.fr.1, fun i h1 h2 => n.fr.2 i h1 h2 fun j hj _ hk => ?_⟩, n.st.sit.bx, .p trivial, .nil, fun k hk => by simp at hk⟩
      have hk' : i ∈ fs.getD j [] := hk
      rw [big j hj] at hk'; simp at hk'
    | _ => exact a2.elim
  · cases e
end Mini
end
section
open PySem L2 Mini
local macro_rules | `(tactic| walk_at "fact") => `(tactic| with_reducible assumption)
local macro_rules | `(tactic| walk_at "yes") => `(tactic| first | with_reducible assumption | (refine decide_eq_true ?_; first | with_reducible assumption | with_reducible rfl | omega))
local macro_rules | `(tactic| walk_at "no") => `(tactic| first | with_reducible exact Bool.false_ne_true | (refine Bool.eq_false_iff.mp ?_; first | with_reducible assumption | (refine decide_eq_false ?_; first | with_reducible assumption | omega)))
local macro_rules | `(tactic| walk_at "bool") => `(tactic| first | rfl | decide | (simp; done) | (simp; omega) | (simp at *; done) | (simp at *; omega))
local macro_rules | `(tactic| walk_at "bool not") => `(tactic| first | exact Bool.eq_false_iff.mp (by first | rfl | decide) | (simp; done) | (simp; omega) | (simp at *; done) | (simp at *; omega))
local macro_rules | `(tactic| walk_at "pick") => `(tactic| first | rw [if_pos (by walk_at "yes")] | rw [if_neg (by walk_at "no")] | rw [if_pos (by walk_at "bool")] | rw [if_neg (by walk_at "bool not")])
local macro_rules | `(tactic| walk_at "target") => `(tactic| first | ((simp only [gN, List.set_cons_zero, List.set_cons_succ]); rfl) | rfl)
local macro_rules | `(tactic| walk_at "prim") => `(tactic| first | walk_at "fact" | rfl)
local macro_rules | `(tactic| walk_at "ev") => `(tactic| (first
  | with_reducible exact v_c
  | with_reducible exact v_nil
  | ((with_reducible show xVar _ _ _ = _); rfl)
  | ((with_reducible apply v_op); (· walk_at "ev"); (· walk_at "ev"); (· walk_at "prim"))
  | ((with_reducible apply v_cons); (· walk_at "ev"); (· walk_at "ev"))
  | ((with_reducible apply v_call); (· walk_at "ev"); (· rfl); (· walk_at "fact"))
  | ((with_reducible apply v_all); (· walk_at "ev"); (· walk_at "prim"))
  | ((with_reducible apply v_un); (· walk_at "ev"); (· walk_at "prim"))
  | ((with_reducible apply v_if); (· walk_at "ev"); (· (walk_at "pick" <;> walk_at "ev")))
  | ((with_reducible apply v_and); (· walk_at "ev"); (· (walk_at "pick" <;> first | rfl | walk_at "ev")))
  | ((with_reducible apply v_or); (· walk_at "ev"); (· (walk_at "pick" <;> first | rfl | walk_at "ev")))
  | ((with_reducible apply v_not); (· walk_at "ev"); (· rfl))
  | ((with_reducible apply v_isi); (· walk_at "ev"); (· walk_at "prim"))
  | ((with_reducible apply v_met); (· walk_at "ev"); (· walk_at "prim"); (· walk_at "ev"); (· walk_at "prim"))
  | ((with_reducible apply t_tru); (· walk_at "ev"); (· walk_at "prim"))
  | ((with_reducible apply t_val); walk_at "ev")
  | ((with_reducible apply t_not); walk_at "ev")
  | ((with_reducible apply t_and); (· walk_at "ev"); (· (walk_at "pick" <;> first | rfl | walk_at "ev")))
  | ((with_reducible apply t_or); (· walk_at "ev"); (· (walk_at "pick" <;> first | rfl | walk_at "ev")))))
local macro_rules | `(tactic| walk_at "st") => `(tactic| (first
  | with_reducible exact s_nil
  | ((with_reducible apply s_ifs); (· walk_at "ev"); (walk_at "pick"))
  | ((with_reducible apply s_rets); walk_at "ev")
  | with_reducible apply s_seqs
  | with_reducible apply s_nils
  | ((with_reducible apply s_asgs); (· walk_at "ev"); (· walk_at "target"))
  | ((with_reducible apply s_exprs); (· walk_at "ev"))
  | ((with_reducible apply s_puts); (· walk_at "ev"); (· walk_at "ev"); (· walk_at "ev"); (· walk_at "prim"))))
local macro_rules | `(tactic| walk_at "sts") => `(tactic| (repeat walk_at "st"))

namespace Mini
open PySem L2
def uDraw (ws : List W) (τ : Tape) : Option (W × Tape) := match ws, τ with
  | [.bx, .p (.int m)], some ds => if 0 < m then match ds with
      | [] => some (.p (.int 0), some [])
      | x :: r => some (.p (.int (x % m)), some r)
    else none
  | _, _ => none
theorem draw_at {S : Sto} {b l a : Nat} {ms : List Int} {many : Int} (a1 : S[b]? = some (.lst [.loc l, .int (a : Int)])) (a2 : l ≠ b) (a3 : S[l]? = some (.lst (ms.map D.int))) (hm : 0 < many) :
    ends (sDraw [some (.loc b), some (.int many), none] S) = some (.int (match ms.drop a with | [] => 0 | x :: _ => x % many), S.set b (.lst [.loc l, .int ((a + 1 : Nat) : Int)])) := by
  have e1 : ((a + 1 : Nat) : Int) = (a : Int) + 1 := by omega
  rw [e1]
  have lb : lstAt S b = some [.loc l, .int (a : Int)] := lst_len a1
  have q1 : fIx (.loc b) (.int 1) S = some (.int (a : Int), S) := ix_lst (i := 1) lb rfl
  have q2 : fPut (.loc b) (.int 1) (.int ((a : Int) + 1)) S = some (S.set b (.lst [.loc l, .int ((a : Int) + 1)])) := put_run (j := 1) a1 (by simp)
  have hb := (List.getElem?_eq_some_iff.mp a1).1
  have b1 : (S.set b (.lst [.loc l, .int ((a : Int) + 1)]))[b]? = some (.lst [.loc l, .int ((a : Int) + 1)]) := List.getElem?_set_self hb
  have b2 : (S.set b (.lst [.loc l, .int ((a : Int) + 1)]))[l]? = some (.lst (ms.map D.int)) := by rw [List.getElem?_set_ne (Ne.symm a2)]; exact a3
  generalize hS : S.set b (.lst [.loc l, .int ((a : Int) + 1)]) = S1 at *
  have q3 : fIx (.loc b) (.int 0) S1 = some (.loc l, S1) := ix_lst (i := 0) (lst_len b1) rfl
  have q4 : fLen [.loc l] S1 = some (.int (ms.length : Int), S1) := by
    have q := len_lst (lst_len b2)
    rw [List.length_map] at q
    exact q
  by_cases c : (a : Int) < (ms.length : Int)
  · have hi : a < ms.length := by omega
    have q5 : fIx (.loc l) (.int (a : Int)) S1 = some (.int ms[a], S1) := ix_lst (i := a) (lst_len b2) (by rw [List.getElem?_map, List.getElem?_eq_getElem hi]; rfl)
    have q6 : fMod (.int ms[a]) (.int many) S1 = some (.int (ms[a] % many), S1) := by
      show (match (if decide (0 < many) = true then some (D.int (ms[a] % many)) else none) with | some d => some (d, S1) | none => none) = _
      rw [if_pos (decide_eq_true hm)]
    rw [List.drop_eq_getElem_cons hi]
    apply e_rt
    unfold sDraw
    walk_at "sts"
  · have hi : ms.length ≤ a := by omega
    rw [List.drop_eq_nil_of_le hi]
    apply e_rt
    unfold sDraw
    walk_at "sts"
theorem sfn_draw : SFn true (fun ds S => ends (sDraw (entry 3 ds) S)) uDraw := fun β S ds ws fs τ w τ' v o bx e => by
  unfold uDraw at e
  split at e
  rotate_left
  · cases e
  rename_i m xs
  split at e
  rotate_left
  · cases e
  rename_i hm
  cases v with
  | cons h1 q =>
    cases q with
    | cons h2 q2 =>
      cases q2
      obtain ⟨rfl, _, _⟩ := h2.pd
      cases h1 with
      | bx hb =>
        rename_i b l
        subst hb
        obtain ⟨ms, a, a1, a2, a3, a4, a5⟩ := bx
        have r := draw_at (many := m) a1 a2 a3 hm
        cases a5
        have hbl := (List.getElem?_eq_some_iff.mp a1).1
        have nb : Bx (some (b, l)) (S.set b (.lst [.loc l, .int ((a + 1 : Nat) : Int)])) (some (ms.drop (a + 1))) := ⟨ms, a + 1, List.getElem?_set_self hbl, a2, by rw [List.getElem?_set_ne (Ne.symm a2)]; exact a3, a4, rfl⟩
        have kn : Kn (some (b, l)) S (S.set b (.lst [.loc l, .int ((a + 1 : Nat) : Int)])) := ⟨by rw [List.length_set]; exact Nat.le_refl _, fun i h1 h2 => List.getElem?_set_ne fun z => h2 b l rfl z.symm⟩
        have dd : ms.drop (a + 1) = (ms.drop a).tail := by rw [List.tail_drop]
        cases hd : ms.drop a with
        | nil =>
          rw [hd] at e r dd
          cases e
          rw [dd] at nb
          exact ⟨.int 0, _, [], r, kn, nb, .p trivial, .nil, fun k hk => by simp at hk⟩
        | cons x t =>
          rw [hd] at e r dd
          cases e
          rw [dd] at nb
          exact ⟨.int (x % m), _, [], r, kn, nb, .p trivial, .nil, fun k hk => by simp at hk⟩
theorem box_ok {S : Sto} {s last : Nat} {ns : List Int} (fb fd fc : List D → Sto → Option (D × Sto)) (hb : ∀ ds S, fb ds S = ends (sBox fd (entry 3 ds) S)) (hd : ∀ ds S, fd ds S = ends (sDigits fc (entry 8 ds) S)) (hc : ∀ ds S, fc ds S = ends (sCell (entry 2 ds) S))
    (h : lstAt S s = some (ns.map D.int)) (hl : ns.length ≤ 1000) (hlast : last ≤ 100) : ∃ S', fb [.loc s, .int 0, .int (last : Int)] S = some (.loc (S.length + 1), S') ∧ Box S' (S.length + 1) ∧ S'.length = S.length + 2 ∧ S <+: S' := by
  rw [hb]
  refine box_run (last := last) fd ?_
  obtain ⟨ms, h1, h2⟩ := digits_run (f := fc) (S := S) (s := s) (fun S' k hk => by
    obtain ⟨i, hi⟩ := cell_run (S := S') (s := s) (ns := ns) hk hl k
    exact ⟨i, by rw [hc]; exact hi⟩) h last hlast
  exact ⟨ms, h1, by rw [hd]; exact h2⟩
theorem law_start {N last : Nat} {o : O} {ns : List Int} {fb : List D → Sto → Option (D × Sto)} {b : XS} {ub : US} {fh : Bool} (br : List Nat) (ho : o = .lst (ns.map D.int) ∨ o = .frz (ns.map D.int))
    (hbox : ∃ S', fb [.loc 0, .int 0, .int (last : Int)] [o] = some (.loc 2, S') ∧ Box S' 2 ∧ S'.length = 3 ∧ [o] <+: S') (h : SS br [] fh b ub)
    (hv : ∀ ds : List Int, ∃ τ, ub (none :: some .bx :: List.replicate N none) (some ds) = some (.rt (.p (.bl true)) τ)) :
    ∃ S', ends (sSeq (sAsg (xCall 3 fb (xCons (xVar 0) (xCons (xC (.int 0)) (xCons (xC (.int (last : Int))) xNil)))) (gN 1)) b (entry (N + 2) [.loc 0]) [o]) = some (.bl true, S') := by
  obtain ⟨S', h1, ⟨l, ms, i, q1, q2, q3, q4, q5⟩, h2, h3⟩ := hbox
  obtain ⟨τ, hv⟩ := hv (ms.drop i.toNat)
  have ei : i = ((i.toNat : Nat) : Int) := by omega
  have hl := (List.getElem?_eq_some_iff.mp q3).1
  have en : entry (N + 2) [.loc 0] = some (.loc 0) :: none :: List.replicate N none := by
    unfold entry
    show some (D.loc 0) :: List.replicate (N + 2 - 1) none = _
    rw [show N + 2 - 1 = N + 1 from rfl, List.replicate_succ]
  have s : Stt br (fun _ => False) (some (2, l)) 3 S' (some (.loc 0) :: some (.loc 2) :: List.replicate N none) (none :: some .bx :: List.replicate N none) (fun _ => []) (some (ms.drop i.toNat)) := by
    refine ⟨⟨by simp, fun j w hw => ?_, fun _ k hk => by simp at hk, fun _ => .nil, ⟨ms, i.toNat, by rw [← ei]; exact q1, q2, q3, q5, rfl⟩⟩, by omega, fun b l' z => by cases z; omega, fun _ k hk => by simp at hk, fun _ _ k hk => by simp at hk, fun _ _ k hk => by simp at hk, fun _ _ _ _ _ k hk => by simp at hk⟩
    match j, hw with
    | 0, hw => cases hw
    | 1, hw => cases hw; exact ⟨.loc 2, rfl, .bx rfl⟩
    | j + 2, hw =>
      have hw' : (List.replicate N (none : Option W))[j]? = some (some w) := hw
      rw [List.getElem?_replicate] at hw'
      split at hw' <;> cases hw'
  obtain ⟨q, a1, a2⟩ := h _ (some (2, l)) 3 S' _ _ _ _ _ (fun k z => z.elim) s hv
  cases q with
  | rt d S2 =>
    obtain ⟨fo, f1, f2, f3, f4, f5⟩ := a2
    cases f3.bl
    refine ⟨S2, ?_⟩
    have e0 : sSeq (sAsg (xCall 3 fb (xCons (xVar 0) (xCons (xC (.int 0)) (xCons (xC (.int (last : Int))) xNil)))) (gN 1)) b (entry (N + 2) [.loc 0]) [o] = some (.rt (.bl true) S2) := by
      rw [en]
      refine s_seq (s_asg (d := .loc 2) (S1 := S') (v_call (xs := [.loc 0, .int 0, .int (last : Int)]) (S1 := [o]) rfl rfl h1) rfl) a1
    rw [e0]
    rfl
  | _ => exact a2.elim
section
variable {us vs br kp : List Nat} {fh : Bool} {a b : XE} {ua ub : UE} {l : XL} {ul : UL}
theorem se_opF {f : D → D → Sto → Option (D × Sto)} {g : W → W → Option W} (o : OpV false f g) (ha : SE us a ua) (hb : SE vs b ub) : SE [] (xOp f a b) (uOp g ua ub) := se_op o ha hb
theorem se_opT {f : D → D → Sto → Option (D × Sto)} {g : W → W → Option W} (o : OpV true f g) (ha : SE us a ua) (hb : SE vs b ub) : SE us (xOp f a b) (uOp g ua ub) := se_op o ha hb
theorem se_allF {f : List D → Sto → Option (D × Sto)} {g : List W → Option W} (o : AllV false f g) (hl : SL us l ul) : SE [] (xAll f l) (uAll g ul) := se_all o hl
theorem se_callF {f : List D → Sto → Option (D × Sto)} {F : List W → Tape → Option (W × Tape)} (k : Nat) (o : SFn true f F) (hl : SL us l ul) : SE [] (xCall k f l) (uCall k F ul) := se_call k o hl
theorem se_callPF {f : List D → Sto → Option (D × Sto)} {F : List W → Tape → Option (W × Tape)} (k : Nat) (o : SFn true f F) (hl : SL us l ul) : SE [] (xCall k f l) (uCallP k F ul) := se_callP k o hl
theorem se_callPA {f : List D → Sto → Option (D × Sto)} {F : List W → Tape → Option (W × Tape)} (k : Nat) (o : SFn false f F) (hl : SL us l ul) : SE us (xCall k f l) (uCallP k F ul) := se_callP k o hl
end
end Mini
end
section
namespace Mini
open PySem L2
abbrev UO := VEnv → Tape → Option (Option Int × Tape)
section
variable {us : List Nat} {a b : XE} {ua ub : UE} {l : XL} {ul : UL}
def sortOkV (ds : List D) : Bool := (ds.all isTupD || ds.all isAtom) && ds.all (fun x => D.dok 100 x) && ds.all fun x => ds.all fun y => alikeD x y
theorem sortOkV_ok {ds : List D} (n : D.nps ds) (h : sortOkV ds = true) : sortOk ds = true := by
  unfold sortOkV at h
  unfold sortOk
  rw [Bool.and_eq_true, Bool.and_eq_true] at h
  rw [h.1.1, h.2, Bool.and_true, Bool.true_and, List.all_eq_true]
  intro x hx
  exact D.pub_of (D.nps_iff.mp n x hx) (List.all_eq_true.mp h.1.2 x hx)
end
end Mini
end
section
namespace Mini
open PySem L2
section
variable {us : List Nat} {β : Bxs}
end
def tExt (i : Nat) (a : UE) : US := fun ε τ => match ε[i]? with
  | some (some (.l ds)) => match a ε τ with
    | some (.l es, τ1) => if ds.length + es.length ≤ 1000000 then some (.nx (ε.set i (some (.l (ds ++ es)))) τ1) else none
    | _ => none
  | _ => none
section
variable {us br kp : List Nat} {fh : Bool}
theorem extW_of {β : Bxs} {S : Sto} {d0 d : D} {ds es : List D} {f fo : List Nat} (h : Vw β S d0 (.l ds) f) (hd : Vw β S d (.l es) fo) (c : ds.length + es.length ≤ 1000000) :
    ∃ k m, d0 = .loc k ∧ d = .loc m ∧ f = [k] ∧ S[k]? = some (.lst ds) ∧ S[m]? = some (.lst es) ∧ Vw β (S.set k (.lst (ds ++ es))) d0 (.l (ds ++ es)) [k] := by
  cases h with
  | l a1 a2 a3 =>
    cases hd with
    | l b1 b2 b3 =>
      exact ⟨_, _, rfl, rfl, rfl, a1, b1, .l (List.getElem?_set_self (List.getElem?_eq_some_iff.mp a1).1) (D.nps_app a2 b2) (by rw [List.length_append]; exact c)⟩
theorem ss_ext {a : XE} {v : UE} (i : Nat) (h : SE us a v) (hb : br.contains i = false := by rfl) (hk : kp.contains i = false := by rfl) : SS br kp fh (sExpr (xMet okList fExt (xVar i) (xCons a xNil))) (tExt i v) := fun A β n0 S e ε fp τ r hA s h9 => by
  unfold tExt at h9
  split at h9
  rotate_left
  · cases h9
  rename_i ds ew
  split at h9
  rotate_left
  · cases h9
  rename_i es τ1 e1
  split at h9
  rotate_left
  · cases h9
  rename_i hl
  cases h9
  obtain ⟨d', S1, fo, a1, a2, a3, a4, a5⟩ := h β S e ε fp τ _ τ1 s.sit e1
  have s1 := s.kn a2 a3
  obtain ⟨d0, h0, v0⟩ := s1.sit.at_ i _ ew
  obtain ⟨dx, hx0, vx⟩ := s.sit.at_ i _ ew
  have ed : dx = d0 := by rw [hx0] at h0; cases h0; rfl
  subst ed
  obtain ⟨k, m, rfl, rfl, ef, b1, b2, b3⟩ := extW_of v0 a4 hl
  have ok : okList (.loc k) S = true := vx.list rfl
  have hm : k ∈ fp i := by rw [ef]; exact List.mem_singleton.mpr rfl
  refine ⟨.nx e (S1.set k (.lst (ds ++ es))), ?_, _, (NxF.kn s a2 a3).trans (nx_chg s1 hA (by simpa using hb) (by simpa using hk) h0 hm b3 (by simp) fun j hj => ⟨s1.sit.off i j (by rw [ef]; exact hj), .inr (by rw [ef]; exact hj)⟩)⟩
  unfold sExpr xMet xVar xCons xNil
  rw [hx0]
  dsimp only
  rw [if_pos ok, a1]
  dsimp only
  unfold fExt
  dsimp only
  rw [b1, b2]
  dsimp only
  rw [if_pos hl]
end
def wSortA : List W → Option W
  | [.l ds] => if sortOkV ds = true then some (.l (srtD ds)) else none
  | [.p (.tup ds)] => if sortOkV ds = true then some (.l (srtD ds)) else none
  | _ => none
theorem av_sortA : AllV false fSortA wSortA := fun β S ds ws fs w v e => by
  have fin : ∀ (d : D) (es : List D), ds = [d] → seqD d S = some es → sortOk es = true → D.nps es → es.length ≤ 1000000 → w = .l (srtD es) → ∃ d T fo, fSortA ds S = some (d, S ++ T) ∧ Vw β (S ++ T) d w fo ∧ fo.Nodup ∧ ∀ k ∈ fo, S.length ≤ k ∨ (false = true ∧ ∃ f ∈ fs, k ∈ f) := fun d es h1 h2 ok n1 n2 h3 => by
    subst h1 h3
    refine ⟨.loc S.length, [.lst (srtD es)], [S.length], ?_, .l (by simp) (D.nps_iff.mpr fun x hx => D.nps_iff.mp n1 x ((srtD_perm es).mem_iff.mp hx)) (by rw [(srtD_perm es).length_eq]; exact n2), by simp, fun k hk => .inl (by simp at hk; omega)⟩
    unfold fSortA
    dsimp only
    rw [h2]
    dsimp only
    rw [if_pos ok]
  unfold wSortA at e
  split at e
  · split at e
    · rename_i es ok
      cases e
      cases v with
      | cons h q =>
        cases q
        cases h with
        | l a1 a2 a3 =>
          exact fin _ _ rfl (by unfold seqD lstAt; dsimp only; rw [a1]) (sortOkV_ok a2 ok) a2 a3 rfl
    · cases e
  · split at e
    · rename_i es ok
      cases e
      cases v with
      | cons h q =>
        cases q
        obtain ⟨rfl, n1, _⟩ := h.pd
        exact fin _ _ rfl rfl (sortOkV_ok n1.2 ok) n1.2 n1.1 rfl
    · cases e
  · cases e
end Mini
end
section
namespace Mini
open PySem L2
def uEnum (a : UE) : UW := fun ε τ => match a ε τ with
  | some (.p (.tup ds), τ1) => some (enD 0 ds, τ1)
  | _ => none
theorem enD_nps : ∀ (n : Nat) {ds : List D}, D.nps ds → D.nps (enD n ds)
  | _, [], _ => trivial
  | n, d :: ds, h => ⟨⟨by simp, trivial, h.1, trivial⟩, enD_nps (n + 1) h.2⟩
theorem sw_enum {us : List Nat} {m : XE} {v : UE} (h : SE us m v) : SW [] (wEnum m) (uEnum v) := fun β S e ε fp τ ds τ' s h9 => by
  unfold uEnum at h9
  split at h9
  rotate_left
  · cases h9
  rename_i ds' τ1 e1
  cases h9
  obtain ⟨d, S1, fo, a1, a2, a3, a4, a5⟩ := h β S e ε fp τ _ _ s e1
  obtain ⟨rfl, n1, _⟩ := a4.pd
  exact ⟨.fix (enD 0 ds'), S1, by unfold wEnum; rw [a1], a2, a3, enD_nps 0 n1.2, by rw [enD_len]; exact n1.1, .inl rfl⟩
end Mini
end
section
namespace Mini
open PySem L2
section
variable {us vs : List Nat} {β : Bxs}
structure Gro (β : Bxs) (n : Nat) (S S1 : Sto) (e : EnvD) (ε : VEnv) (fp : Nat → List Nat) (τ1 : Tape) (acc ys : List D) : Prop where
  sit : Sit β S1 e ε fp τ1
  le : S.length ≤ S1.length
  fr : ∀ i, i < S.length → i ≠ n → (∀ b l, β = some (b, l) → i ≠ b) → S1[i]? = S[i]?
  at_ : S1[n]? = some (.lst (acc ++ ys))
  np : D.nps ys
theorem Gro.trans {n : Nat} {S S1 S2 : Sto} {e : EnvD} {ε : VEnv} {fp : Nat → List Nat} {τ1 τ2 : Tape} {acc ys zs : List D} (a : Gro β n S S1 e ε fp τ1 acc ys) (b : Gro β n S1 S2 e ε fp τ2 (acc ++ ys) zs) : Gro β n S S2 e ε fp τ2 acc (ys ++ zs) :=
  ⟨b.sit, Nat.le_trans a.le b.le, fun i h1 h2 h3 => (b.fr i (Nat.lt_of_lt_of_le h1 a.le) h2 h3).trans (a.fr i h1 h2 h3), by rw [← List.append_assoc]; exact b.at_, D.nps_app a.np b.np⟩
end
end Mini
end
section
namespace Mini
open PySem L2
def setOkV (ds : List D) : Bool := ds.all isTupD && ds.all (fun x => D.dok 8 x) && (ds.all fun x => ds.all fun y => alikeD x y) && decide ((dedD ds).length ≤ 76)
theorem setOkV_ok {ds : List D} (n : D.nps ds) (h : setOkV ds = true) : setOk ds = true := by
  unfold setOkV at h
  unfold setOk
  simp only [Bool.and_eq_true] at h ⊢
  refine ⟨⟨⟨h.1.1.1, ?_⟩, h.1.2⟩, h.2⟩
  rw [List.all_eq_true]
  intro x hx
  exact D.pub_of (D.nps_iff.mp n x hx) (List.all_eq_true.mp h.1.1.2 x hx)
def wSetSort (ds : List D) : Option (List D) := match asInts ds, asStrs ds with
  | some ns, _ => if ds.length < 64 then some ((usI ns).map D.int) else none
  | none, some xs => if ds.length < 64 then some ((usS xs).map D.str) else none
  | none, none => if setOkV ds = true then some (srtD (dedD ds)) else none
theorem wSetSort_of {ds es : List D} (n : D.nps ds) (h : wSetSort ds = some es) : fSetSort ds = some es ∧ D.nps es ∧ es.length ≤ ds.length := by
  unfold wSetSort at h
  unfold fSetSort
  split at h
  · rename_i ns q
    split at h
    · rename_i c
      cases h
      exact ⟨by simp only [q, if_pos c], nps_ints _, by rw [List.length_map, ← asInts_len q]; exact len_sortU⟩
    · cases h
  · rename_i xs q1 q2
    split at h
    · rename_i c
      cases h
      exact ⟨by simp only [q1, q2, if_pos c], nps_usS q2 n, by rw [List.length_map, ← asStrs_len q2]; exact len_sortU⟩
    · cases h
  · rename_i q1 q2
    split at h
    · rename_i c
      cases h
      obtain ⟨_, al, _⟩ := setOk_iff (setOkV_ok n c)
      refine ⟨by simp only [q1, q2, if_pos (setOkV_ok n c)], D.nps_iff.mpr fun x hx => D.nps_iff.mp n x (dedD_sub ((srtD_perm _).mem_iff.mp hx)), ?_⟩
      rw [(srtD_perm _).length_eq]
      exact len_sub (nodup_dedD al) fun x hx => dedD_sub hx
    · cases h
def uSortSetC (a : UE) : UE := fun ε τ => match a ε τ with
  | some (w, τ1) => match itemsW w with
    | some ds => match wSetSort ds with
      | some es => some (.l es, τ1)
      | none => none
    | none => none
  | none => none
theorem itemsOf_seqD {S : Sto} {x : D} {ds : List D} (h : itemsOf S x = some ds) : seqD x S = some ds := by
  unfold itemsOf at h
  unfold seqD
  split at h <;> first | exact h | cases h
theorem se_sortSetC {us : List Nat} {a : XE} {ua : UE} (ha : SE us a ua) : SE [] (xSortSetC a) (uSortSetC ua) := fun β S e ε fp τ w τ' s h => by
  unfold uSortSetC at h
  split at h
  rotate_left
  · cases h
  rename_i w1 τ1 e1
  split at h
  rotate_left
  · cases h
  rename_i ds e2
  split at h
  rotate_left
  · cases h
  rename_i es e3
  cases h
  obtain ⟨d, S1, fo, a1, a2, a3, a4, a5⟩ := ha β S e ε fp τ _ _ s e1
  obtain ⟨i1, i2, i3⟩ := itemsW_of a4 e2
  obtain ⟨f1, f2, f3⟩ := wSetSort_of i2 e3
  refine ⟨.loc S1.length, S1 ++ [.lst es], [S1.length], ?_, a2.trans .more, a3.more, .l (by simp) f2 (by omega), by simp, fun k hk => by
    rw [List.mem_singleton] at hk
    subst hk
    exact ⟨a3.off (Nat.le_refl _), .inl a2.1⟩⟩
  unfold xSortSetC
  rw [a1]
  dsimp only
  rw [itemsOf_seqD i1]
  dsimp only
  rw [f1]
def wSetLen (ds : List D) : Option Nat := match asInts ds, asStrs ds with
  | some ns, _ => if ds.length < 4000 then some (usI ns).length else none
  | none, some xs => if ds.length < 4000 then some (usS xs).length else none
  | none, none => if setOkV ds = true then some (dedD ds).length else none
theorem wSetLen_of {ds : List D} {n : Nat} (k : D.nps ds) (h : wSetLen ds = some n) : fSetLen ds = some n ∧ n ≤ ds.length := by
  unfold wSetLen at h
  unfold fSetLen
  split at h
  · rename_i ns q
    split at h
    · rename_i c
      cases h
      exact ⟨by simp only [q, if_pos c], by rw [← asInts_len q]; exact len_sortU⟩
    · cases h
  · rename_i xs q1 q2
    split at h
    · rename_i c
      cases h
      exact ⟨by simp only [q1, q2, if_pos c], by rw [← asStrs_len q2]; exact len_sortU⟩
    · cases h
  · rename_i q1 q2
    split at h
    · rename_i c
      cases h
      obtain ⟨_, al, _⟩ := setOk_iff (setOkV_ok k c)
      exact ⟨by simp only [q1, q2, if_pos (setOkV_ok k c)], len_sub (nodup_dedD al) fun x hx => dedD_sub hx⟩
    · cases h
def uLenSet (a : UE) : UE := fun ε τ => match a ε τ with
  | some (w, τ1) => match itemsW w with
    | some ds => match wSetLen ds with
      | some n => some (.p (.int n), τ1)
      | none => none
    | none => none
  | none => none
theorem se_lenSet {us : List Nat} {a : XE} {ua : UE} (ha : SE us a ua) : SE [] (xLenSet a) (uLenSet ua) := fun β S e ε fp τ w τ' s h => by
  unfold uLenSet at h
  split at h
  rotate_left
  · cases h
  rename_i w1 τ1 e1
  split at h
  rotate_left
  · cases h
  rename_i ds e2
  split at h
  rotate_left
  · cases h
  rename_i n e3
  cases h
  obtain ⟨d, S1, fo, a1, a2, a3, a4, a5⟩ := ha β S e ε fp τ _ _ s e1
  obtain ⟨i1, i2, i3⟩ := itemsW_of a4 e2
  obtain ⟨f1, f2⟩ := wSetLen_of i2 e3
  refine ⟨.int n, S1, [], ?_, a2, a3, .p True.intro, .nil, fun k hk => by simp at hk⟩
  unfold xLenSet
  rw [a1]
  dsimp only
  rw [itemsOf_seqD i1]
  dsimp only
  rw [f1]
end Mini
end
section
namespace Mini
open PySem L2
def wLtA : W → W → Option W
  | .p (.str a), .p (.str b) => some (.p (.bl (ltS a b)))
  | x, y => wLt x y
theorem op_ltA' : OpP fLtA wLtA := fun β S x y w1 w2 p1 p2 w h1 h2 e => by
  unfold wLtA at e
  split at e
  · cases e
    obtain ⟨rfl, n1, _⟩ := h1.pd
    obtain ⟨rfl, n2, _⟩ := h2.pd
    exact ⟨_, rfl, trivial, rfl⟩
  · rename_i hno
    obtain ⟨d, h3, h4, h5⟩ := op_lt' β S x y w1 w2 p1 p2 w h1 h2 e
    refine ⟨d, h3, h4, ?_⟩
    unfold fLtA
    split
    · rename_i a b
      unfold fLt fI at h5
      cases h5
    · exact h5
end Mini
end
section
namespace Mini
open PySem L2
abbrev UX := VEnv → Tape → Option (D × VEnv × Tape)
section
variable {us br kp : List Nat}
end
end Mini
end
section
namespace Mini
open PySem L2
structure VCl where
  w : UW
  vs : List Nat
  g : VG
  c : UB
section
inductive VCx : List XCl → List VCl → Prop
  | nil : VCx [] []
  | cons {us : List Nat} {x : XCl} {v : VCl} {xs : List XCl} {vs : List VCl} : SW us x.w v.w → x.vs = v.vs → SC x.g v.g → SB x.c v.c → VCx xs vs → VCx (x :: xs) (v :: vs)
section
variable {T : Type} {us : List Nat} {β : Bxs} {stp : T → D → Option T} {slot : T → List D} {act : NA T} {n : Nat}
structure Sl (β : Bxs) (n : Nat) (S S1 : Sto) (e : EnvD) (ε : VEnv) (fp : Nat → List Nat) (τ1 : Tape) (q : List D) : Prop where
  sit : Sit β S1 e ε fp τ1
  le : S.length ≤ S1.length
  fr : ∀ i, i < S.length → i ≠ n → (∀ b l, β = some (b, l) → i ≠ b) → S1[i]? = S[i]?
  at_ : S1[n]? = some (.lst q)
theorem Sl.trans {S S1 S2 : Sto} {e : EnvD} {ε : VEnv} {fp : Nat → List Nat} {τ1 τ2 : Tape} {q r : List D} (a : Sl β n S S1 e ε fp τ1 q) (b : Sl β n S1 S2 e ε fp τ2 r) : Sl β n S S2 e ε fp τ2 r :=
  ⟨b.sit, Nat.le_trans a.le b.le, fun i h1 h2 h3 => (b.fr i (Nat.lt_of_lt_of_le h1 a.le) h2 h3).trans (a.fr i h1 h2 h3), b.at_⟩
theorem Sl.put {S S2 : Sto} {e : EnvD} {ε : VEnv} {fp : Nat → List Nat} {τ1 : Tape} {q r : List D} (kn : Kn β S S2) (s : Sit β S2 e ε fp τ1) (of : Off β n) (hf : ∀ j, n ∉ fp j) (hn : S2[n]? = some (.lst q)) : Sl β n S (S2.set n (.lst r)) e ε fp τ1 r := by
  refine ⟨⟨s.len, fun i w hi => ?_, s.off, s.nd, ?_⟩, by rw [List.length_set]; exact kn.1, fun i h1 h2 h3 => (List.getElem?_set_ne (Ne.symm h2)).trans (kn.2 i h1 h3), by rw [List.getElem?_set_self (List.getElem?_eq_some_iff.mp hn).1]⟩
  · obtain ⟨dd, q1, q2⟩ := s.at_ i w hi
    exact ⟨dd, q1, q2.fr fun k hk => set_off hk (hf i)⟩
  · have a3 := s.bx
    cases β with
    | none => exact a3
    | some q =>
      obtain ⟨b, l⟩ := q
      obtain ⟨ms, cc, h1, h2, h3, h4⟩ := a3
      obtain ⟨o1, o2⟩ := of b l rfl
      exact ⟨ms, cc, by rw [List.getElem?_set_ne o1]; exact h1, h2, by rw [List.getElem?_set_ne o2]; exact h3, h4⟩
theorem Sl.kn {S S1 : Sto} {e : EnvD} {ε : VEnv} {fp : Nat → List Nat} {τ1 : Tape} {q : List D} (kn : Kn β S S1) (s : Sit β S1 e ε fp τ1) (hn : S1[n]? = some (.lst q)) : Sl β n S S1 e ε fp τ1 q := ⟨s, kn.1, fun i h1 _ h3 => kn.2 i h1 h3, hn⟩
end
end
section
end
end Mini
end
section
namespace Mini
open PySem L2
section
inductive PPv : List (XE × XE) → List (UE × UE) → Prop
  | nil : PPv [] []
  | cons {us vs : List Nat} {a b : XE} {ua ub : UE} {r : List (XE × XE)} {ur : List (UE × UE)} : SE us a ua → SE vs b ub → PPv r ur → PPv ((a, b) :: r) ((ua, ub) :: ur)
end
end Mini
end
section
namespace Mini
open PySem L2
def wEqL (y : Bool) : W → W → Option W
  | .l xs, .l ys => if (D.doks 100 xs && D.doks 100 ys) = true then some (.p (.bl (eqBs xs ys == y))) else none
  | _, _ => none
theorem op_eqL' {y : Bool} : OpP (fEqL y) (wEqL y) := fun β S x z w1 w2 p1 p2 w h1 h2 e => by
  unfold wEqL at e
  split at e
  · split at e
    · rename_i c
      cases e
      rw [Bool.and_eq_true] at c
      cases h1 with
      | l a1 a2 a3 =>
        cases h2 with
        | l b1 b2 b3 =>
          refine ⟨_, rfl, trivial, ?_⟩
          unfold fEqL
          dsimp only
          unfold lstAt
          rw [a1, b1]
          dsimp only
          rw [D.pubs_of a2 c.1, D.pubs_of b2 c.2, if_pos (by rfl)]
    · cases e
  · cases e
def wGtA : W → W → Option W
  | .p (.tup a), .p (.tup b) => if (D.dok 100 (.tup a) && D.dok 100 (.tup b) && alikeD (.tup a) (.tup b)) = true then some (.p (.bl (ltD (.tup b) (.tup a)))) else none
  | x, y => wGt x y
theorem op_gtA' : OpP fGtA wGtA := fun β S x y w1 w2 p1 p2 w h1 h2 e => by
  unfold wGtA at e
  split at e
  · split at e
    · rename_i c
      cases e
      simp only [Bool.and_eq_true] at c
      obtain ⟨rfl, n1, _⟩ := h1.pd
      obtain ⟨rfl, n2, _⟩ := h2.pd
      refine ⟨_, rfl, trivial, ?_⟩
      unfold fGtA
      dsimp only
      rw [D.pub_of n1 c.1.1, D.pub_of n2 c.1.2, c.2]
      rfl
    · cases e
  · rename_i hno
    obtain ⟨d, h3, h4, h5⟩ := op_gt' β S x y w1 w2 p1 p2 w h1 h2 e
    refine ⟨d, h3, h4, ?_⟩
    unfold fGtA
    split
    · rename_i a b
      unfold fGt fI at h5
      cases h5
    · exact h5
end Mini
end
section
namespace Mini
open PySem L2
theorem nums_ok : ((List.range 1000).all fun n => PyData.strOk (numT (n : Int)) && decide ((numT (n : Int)).length ≤ 4)) = true := by decide +kernel
theorem num_ok {i : Int} (h : 0 ≤ i ∧ i < 1000) : PyData.strOk (numT i) = true ∧ (numT i).length ≤ 4 := by
  obtain ⟨n, rfl⟩ : ∃ n : Nat, i = n := ⟨i.toNat, by omega⟩
  have := List.all_eq_true.mp nums_ok n (List.mem_range.mpr (by omega))
  rw [Bool.and_eq_true, decide_eq_true_eq] at this
  exact this
def wStr : List W → Option W
  | [.p (.int i)] => if 0 ≤ i ∧ i < 1000 then some (.p (.str (numT i))) else none
  | _ => none
theorem av_str : AllV false fStr wStr := pureV fun β S ds ws fs w v e => by
  unfold wStr at e
  split at e
  · split at e
    · rename_i c
      cases e
      cases v with
      | cons h q => cases q; obtain ⟨rfl, _, _⟩ := h.pd; exact ⟨_, rfl, (num_ok c).1, by unfold fStr; dsimp only; rw [if_pos c]⟩
    · cases e
  · cases e
end Mini
end
section
namespace Mini
open PySem L2
def wLtB : W → W → Option W
  | .p (.tup a), .p (.tup b) => if (D.dok 100 (.tup a) && D.dok 100 (.tup b) && alikeD (.tup a) (.tup b)) = true then some (.p (.bl (ltD (.tup a) (.tup b)))) else none
  | x, y => wLtA x y
theorem op_ltB' : OpP fLtB wLtB := fun β S x y w1 w2 p1 p2 w h1 h2 e => by
  unfold wLtB at e
  split at e
  · split at e
    · rename_i c
      cases e
      simp only [Bool.and_eq_true] at c
      obtain ⟨rfl, n1, _⟩ := h1.pd
      obtain ⟨rfl, n2, _⟩ := h2.pd
      refine ⟨_, rfl, trivial, ?_⟩
      unfold fLtB
      dsimp only
      rw [D.pub_of n1 c.1.1, D.pub_of n2 c.1.2, c.2]
      rfl
    · cases e
  · rename_i hno
    obtain ⟨d, h3, h4, h5⟩ := op_ltA' β S x y w1 w2 p1 p2 w h1 h2 e
    refine ⟨d, h3, h4, ?_⟩
    unfold fLtB
    split
    · rename_i a b
      unfold fLtA fLt fI at h5
      cases h5
    · exact h5
end Mini
end
section
namespace Mini
open PySem L2
def intSO (a : Str) : Option Int := match PySem.intText? a with
  | some n => if a.length ≤ 640 then some n else none
  | none => none
def wIntS : List W → Option W
  | [.p (.str a)] => match intSO a with
    | some n => some (.p (.int n))
    | none => none
  | _ => none
theorem av_intS : AllV false fIntS wIntS := pureV fun β S ds ws fs w v e => by
  unfold wIntS at e
  split at e
  · split at e
    · rename_i a n hn
      cases e
      cases v with
      | cons h q =>
        cases q
        obtain ⟨rfl, _, _⟩ := h.pd
        refine ⟨.int n, rfl, trivial, ?_⟩
        unfold intSO at hn
        split at hn
        · rename_i n' h1
          split at hn
          · rename_i h2
            cases hn
            unfold fIntS
            dsimp only
            rw [h1]
            dsimp only
            rw [if_pos h2]
          · cases hn
        · cases hn
    · cases e
  · cases e
end Mini
end
section
namespace Mini
open PySem L2
section
variable {ε ε1 : VEnv} {τ τ1 τ2 τ3 : Tape} {a b c : UE} {p q : UB} {s t : US} {l : UL} {x y z w : W} {d d1 : D} {k : Bool} {g : VG} {ws : List W} {n i : Nat} {r : Option (W × Tape)} {rb : Option (Bool × Tape)} {rs : Option URes}
theorem u_c : uC d ε τ = some (.p d, τ) := rfl
theorem u_nil : uNil ε τ = some ([], τ) := rfl
theorem u_cons (h1 : a ε τ = some (x, τ1)) (h2 : l ε τ1 = some (ws, τ2)) : uCons a l ε τ = some (x :: ws, τ2) := by unfold uCons; rw [h1]; dsimp only; rw [h2]
theorem u_op {f} (h1 : a ε τ = some (x, τ1)) (h2 : b ε τ1 = some (y, τ2)) (h3 : f x y = some z) : uOp f a b ε τ = some (z, τ2) := by unfold uOp; rw [h1]; dsimp only; rw [h2]; dsimp only; rw [h3]
theorem u_all {f} (h1 : l ε τ = some (ws, τ1)) (h3 : f ws = some z) : uAll f l ε τ = some (z, τ1) := by unfold uAll; rw [h1]; dsimp only; rw [h3]
theorem u_call {n F} (h1 : l ε τ = some (ws, τ1)) (h2 : ws.length = n) (h3 : F ws τ1 = r) : uCall n F l ε τ = r := by unfold uCall; rw [h1]; dsimp only; rw [if_pos h2]; exact h3
theorem u_callP {n F} (h1 : l ε τ = some (ws, τ1)) (h2 : (decide (ws.length = n) && W.nobxs ws) = true) (h3 : F ws none = some (w, none)) : uCallP n F l ε τ = some (w, τ1) := by unfold uCallP; rw [h1]; dsimp only; rw [if_pos h2, h3]
theorem u_not (h : a ε τ = some (x, τ1)) (h2 : truthW x = some k) : uNot a ε τ = some (.p (.bl (!k)), τ1) := by unfold uNot; rw [h]; dsimp only; rw [h2]
theorem u_isi {T ty} (h : a ε τ = some (x, τ1)) (h2 : tyW x = some ty) : uIsi T a ε τ = some (.p (.bl (isTy ty T)), τ1) := by unfold uIsi; rw [h]; dsimp only; rw [h2]
theorem c_tru (h : a ε τ = some (x, τ1)) (h2 : truthW x = some k) : cTru a ε τ = some (k, τ1) := by unfold cTru; rw [h]; dsimp only; rw [h2]
theorem c_val (h : a ε τ = some (.p (.bl k), τ1)) : cVal a ε τ = some (k, τ1) := by unfold cVal; rw [h]
theorem c_not (h : p ε τ = some (k, τ1)) : cNot p ε τ = some (!k, τ1) := by unfold cNot; rw [h]
theorem t_seq (h : s ε τ = some (.nx ε1 τ1)) (h2 : t ε1 τ1 = rs) : tSeq s t ε τ = rs := by unfold tSeq; rw [h]; exact h2
theorem t_seqr (h : s ε τ = some (.rt w τ1)) : tSeq s t ε τ = some (.rt w τ1) := by unfold tSeq; rw [h]
theorem t_ret (h : a ε τ = some (w, τ1)) : tRet a ε τ = some (.rt w τ1) := by unfold tRet; rw [h]
theorem t_if (h : p ε τ = some (k, τ1)) (h2 : (if k = true then s ε τ1 else t ε τ1) = rs) : tIf p s t ε τ = rs := by unfold tIf; rw [h]; cases k <;> exact h2
theorem t_ifs {u : US} (h : p ε τ = some (k, τ1)) (h2 : (if k = true then tSeq s u ε τ1 else tSeq t u ε τ1) = rs) : tSeq (tIf p s t) u ε τ = rs := by
  have hh : tIf p s t ε τ = if k = true then s ε τ1 else t ε τ1 := t_if h rfl
  cases k
  · have h2' : tSeq t u ε τ1 = rs := h2
    unfold tSeq at h2' ⊢
    rw [hh]; exact h2'
  · have h2' : tSeq s u ε τ1 = rs := h2
    unfold tSeq at h2' ⊢
    rw [hh]; exact h2'
theorem t_rets {u : US} (h : a ε τ = some (w, τ1)) : tSeq (tRet a) u ε τ = some (.rt w τ1) := t_seqr (t_ret h)
theorem t_seqs {u v : US} (h : tSeq s (tSeq u v) ε τ = rs) : tSeq (tSeq s u) v ε τ = rs := by
  unfold tSeq at h ⊢
  cases q : s ε τ with
  | none => rw [q] at h; exact h
  | some r => cases r <;> (rw [q] at h; exact h)
theorem t_set (h : a ε τ = some (w, τ1)) : tSet i a ε τ = some (.nx (ε.set i (some w)) τ1) := by unfold tSet; rw [h]
theorem t_asg (h : a ε τ = some (.p d, τ1)) (h2 : g d ε = some ε1) : tAsg a g ε τ = some (.nx ε1 τ1) := by unfold tAsg; rw [h]; dsimp only; rw [h2]
theorem t_app (h1 : ε[i]? = some (some x)) (h : a ε τ = some (.p d, τ1)) (h2 : appW x d = some y) : tApp i a ε τ = some (.nx (ε.set i (some y)) τ1) := by unfold tApp; rw [h1]; dsimp only; rw [h]; dsimp only; rw [h2]
theorem t_apps {u : US} (h1 : ε[i]? = some (some x)) (h : a ε τ = some (.p d, τ1)) (h2 : appW x d = some y) (h3 : ε.set i (some y) = ε1) (h4 : u ε1 τ1 = rs) : tSeq (tApp i a) u ε τ = rs := t_seq (t_app h1 h h2) (by rw [h3]; exact h4)
theorem app_l {ds : List D} (h : ds.length < 1000000) : appW (.l ds) d = some (.l (ds ++ [d])) := by unfold appW; dsimp only; rw [if_pos h]
theorem ixN_nat {m n : Nat} (h : m < n) : ixN n (m : Int) = some m := by
  unfold ixN
  rw [if_pos (by omega), if_pos (by omega)]
  simp
theorem t_for {w : UW} {ds : List D} (h : w ε τ = some (ds, τ1)) (h2 : uForL g s ds ε τ1 = rs) : tFor w g s ε τ = rs := by unfold tFor; rw [h]; exact h2
theorem t_fors {u : US} {w : UW} {ds : List D} (h : w ε τ = some (ds, τ1)) (h2 : uForL g s ds ε τ1 = some (.nx ε1 τ2)) (h3 : u ε1 τ2 = rs) : tSeq (tFor w g s) u ε τ = rs := t_seq (t_for h h2) h3
theorem w_any {ds : List D} (h : a ε τ = some (x, τ1)) (h2 : itemsW x = some ds) : uAny a ε τ = some (ds, τ1) := by unfold uAny; rw [h]; dsimp only; rw [h2]
theorem w_rng1 {j : Int} (h : a ε τ = some (.p (.int j), τ1)) (h2 : smallL j = true) : uRng1 a ε τ = some (rngD 0 j, τ1) := by unfold uRng1; rw [h]; dsimp only; rw [if_pos h2]
theorem u_lc {w : UW} {vs : List Nat} {ds ys : List D} (h : w ε τ = some (ds, τ1)) (h2 : uLcL g p a ds (wipeV ε vs) τ1 = some (ys, τ2)) : uLc w vs g p a ε τ = some (.l ys, τ2) := by unfold uLc; rw [h]; dsimp only; rw [h2]
theorem u_tg {w : UW} {vs : List Nat} {ds ys : List D} (h : w ε τ = some (ds, τ1)) (h2 : uLcL g p a ds (wipeV ε vs) τ1 = some (ys, τ2)) : uTG w vs g p a ε τ = some (.p (.tup ys), τ2) := by unfold uTG; rw [h]; dsimp only; rw [h2]
theorem u_q {w : UW} {vs : List Nat} {ds : List D} {kk : Bool} (h : w ε τ = some (ds, τ1)) (h2 : uQL kk g p a ds (wipeV ε vs) τ1 = some (k, τ2)) : uQ kk w vs g p a ε τ = some (.p (.bl k), τ2) := by unfold uQ; rw [h]; dsimp only; rw [h2]
inductive Sel (P : D → Option D → Prop) : List D → List D → Prop
  | nil : Sel P [] []
  | skip {d : D} {ds out : List D} : P d none → Sel P ds out → Sel P (d :: ds) out
  | take {d y : D} {ds out : List D} : P d (some y) → Sel P ds out → Sel P (d :: ds) (y :: out)
theorem Sel.len {P : D → Option D → Prop} {ds out : List D} (h : Sel P ds out) : out.length ≤ ds.length := by
  induction h with
  | nil => exact Nat.le_refl _
  | skip _ _ ih => exact Nat.le_succ_of_le ih
  | take _ _ ih => exact Nat.succ_le_succ ih
theorem Sel.sub {P : D → Option D → Prop} {ds out : List D} (h : Sel P ds out) (hp : ∀ d y, P d (some y) → y = d) : out.Sublist ds := by
  induction h with
  | nil => exact .slnil
  | skip _ _ ih => exact .cons _ ih
  | take p _ ih => rw [hp _ _ p]; exact .cons_cons _ ih
end
end Mini
end
section
namespace Mini
open PySem L2
section
variable {α β γ δ ι : Type}
def eD (d : D) : D := d
def eU (_ : Unit) : D := .non
def eO (e : α → D) : Option α → D
  | none => .non
  | some a => e a
def eT (e : α → D) (l : List α) : D := .tup (l.map e)
def eP1 (e : α → D) (a : α) : D := .tup [e a]
def eP2 (e : α → D) (f : β → D) (p : α × β) : D := .tup [e p.1, f p.2]
def eP3 (e : α → D) (f : β → D) (g : γ → D) (p : α × β × γ) : D := .tup [e p.1, f p.2.1, g p.2.2]
def eP4 (e : α → D) (f : β → D) (g : γ → D) (h : δ → D) (p : α × β × γ × δ) : D := .tup [e p.1, f p.2.1, g p.2.2.1, h p.2.2.2]
def eP5 (e : α → D) (f : β → D) (g : γ → D) (h : δ → D) (i : ι → D) (p : α × β × γ × δ × ι) : D := .tup [e p.1, f p.2.1, g p.2.2.1, h p.2.2.2.1, i p.2.2.2.2]
theorem map_eD : ∀ l : List D, l.map eD = l
  | [] => rfl
  | x :: l => by rw [List.map_cons, map_eD l]; rfl
class Em {α : Type} [DecidableEq α] (e : α → D) where
  k : Nat
  dok : ∀ a n, k ≤ n → D.dok n (e a) = true
  eq : ∀ a b, eqB (e a) (e b) = decide (a = b)
class EmN {α : Type} (e : α → D) : Prop where
  nn : ∀ a, e a ≠ .non
class EmA {α : Type} (e : α → D) : Prop where
  al : ∀ a b, alikeD (e a) (e b) = true
  kd : (∀ a, isTupD (e a) = true) ∨ ∀ a, isAtom (e a) = true
instance : Em D.int := ⟨0, fun a n _ => by cases n <;> rfl, fun a b => rfl⟩
instance : Em D.bl := ⟨0, fun a n _ => by cases n <;> rfl, fun a b => rfl⟩
instance : Em D.str := ⟨0, fun a n _ => by cases n <;> rfl, fun a b => rfl⟩
instance : Em eU := ⟨0, fun a n _ => by cases n <;> rfl, fun a b => rfl⟩
instance : EmN D.int := ⟨fun a => nofun⟩
instance : EmN D.bl := ⟨fun a => nofun⟩
instance : EmN D.str := ⟨fun a => nofun⟩
instance {e : α → D} : EmN (eT e) := ⟨fun a => nofun⟩
instance {e : α → D} : EmN (eP1 e) := ⟨fun a => nofun⟩
instance {e : α → D} {f : β → D} : EmN (eP2 e f) := ⟨fun a => nofun⟩
instance {e : α → D} {f : β → D} {g : γ → D} : EmN (eP3 e f g) := ⟨fun a => nofun⟩
instance {e : α → D} {f : β → D} {g : γ → D} {h : δ → D} : EmN (eP4 e f g h) := ⟨fun a => nofun⟩
theorem eqB_non {d : D} (h : d ≠ .non) : eqB .non d = false ∧ eqB d .non = false := by
  cases d <;> first | exact absurd rfl h | exact ⟨rfl, rfl⟩
instance {e : α → D} [DecidableEq α] [Em e] [EmN e] : Em (eO e) := ⟨Em.k e, fun a n h => by
  cases a with
  | none => cases n <;> rfl
  | some a => exact Em.dok a n h, fun a b => by
  cases a <;> cases b
  · rfl
  · rename_i b; exact ((eqB_non (EmN.nn (e := e) b)).1).trans (by simp)
  · rename_i b; exact ((eqB_non (EmN.nn (e := e) b)).2).trans (by simp)
  · exact (Em.eq (e := e) _ _).trans (by simp)⟩
theorem doks_map {e : α → D} [DecidableEq α] [Em e] {n : Nat} (h : Em.k e ≤ n) : ∀ l : List α, D.doks n (l.map e) = true
  | [] => by unfold D.doks; rfl
  | a :: l => by
    show (D.dok n (e a) && D.doks n (l.map e)) = true
    rw [Em.dok a n h, doks_map h l]; rfl
theorem eqBs_map {e : α → D} [DecidableEq α] [Em e] : ∀ l m : List α, eqBs (l.map e) (m.map e) = decide (l = m)
  | [], [] => rfl
  | [], _ :: _ => rfl
  | _ :: _, [] => rfl
  | a :: l, b :: m => by
    show (eqB (e a) (e b) && eqBs (l.map e) (m.map e)) = _
    rw [Em.eq (e := e), eqBs_map l m, Bool.eq_iff_iff]
    simp
theorem dok_tup {ds : List D} {n k : Nat} (h : k + 1 ≤ n) (hd : ∀ m, k ≤ m → D.doks m ds = true) : D.dok n (.tup ds) = true := by
  cases n with
  | zero => omega
  | succ n => exact hd n (by omega)
instance {e : α → D} [DecidableEq α] [Em e] : Em (eT e) := ⟨Em.k e + 1, fun a n h => dok_tup h fun m hm => doks_map hm a, fun a b => eqBs_map a b⟩
instance {e : α → D} [DecidableEq α] [Em e] : Em (eP1 e) := ⟨Em.k e + 1, fun a n h => dok_tup h fun m hm => by
  show (D.dok m (e a) && true) = true
  rw [Em.dok a m hm]; rfl, fun a b => by
  show (eqB (e a) (e b) && true) = _
  rw [Em.eq (e := e), Bool.and_true]⟩
instance {e : α → D} {f : β → D} [DecidableEq α] [DecidableEq β] [Em e] [Em f] : Em (eP2 e f) := ⟨max (Em.k e) (Em.k f) + 1, fun a n h => dok_tup h fun m hm => by
  show (D.dok m (e a.1) && (D.dok m (f a.2) && true)) = true
  rw [Em.dok a.1 m (by omega), Em.dok a.2 m (by omega)]; rfl, fun a b => by
  show (eqB (e a.1) (e b.1) && (eqB (f a.2) (f b.2) && true)) = _
  rw [Em.eq (e := e), Em.eq (e := f), Bool.and_true, Bool.eq_iff_iff]
  simp [Prod.ext_iff]⟩
instance {e : α → D} {f : β → D} {g : γ → D} [DecidableEq α] [DecidableEq β] [DecidableEq γ] [Em e] [Em f] [Em g] : Em (eP3 e f g) := ⟨max (Em.k e) (max (Em.k f) (Em.k g)) + 1, fun a n h => dok_tup h fun m hm => by
  show (D.dok m (e a.1) && (D.dok m (f a.2.1) && (D.dok m (g a.2.2) && true))) = true
  rw [Em.dok a.1 m (by omega), Em.dok a.2.1 m (by omega), Em.dok a.2.2 m (by omega)]; rfl, fun a b => by
  show (eqB (e a.1) (e b.1) && (eqB (f a.2.1) (f b.2.1) && (eqB (g a.2.2) (g b.2.2) && true))) = _
  rw [Em.eq (e := e), Em.eq (e := f), Em.eq (e := g), Bool.and_true, Bool.eq_iff_iff]
  simp [Prod.ext_iff]⟩
instance {e : α → D} {f : β → D} {g : γ → D} {h : δ → D} [DecidableEq α] [DecidableEq β] [DecidableEq γ] [DecidableEq δ] [Em e] [Em f] [Em g] [Em h] : Em (eP4 e f g h) := ⟨max (Em.k e) (max (Em.k f) (max (Em.k g) (Em.k h))) + 1, fun a n q => dok_tup q fun m hm => by
  show (D.dok m (e a.1) && (D.dok m (f a.2.1) && (D.dok m (g a.2.2.1) && (D.dok m (h a.2.2.2) && true)))) = true
  rw [Em.dok a.1 m (by omega), Em.dok a.2.1 m (by omega), Em.dok a.2.2.1 m (by omega), Em.dok a.2.2.2 m (by omega)]; rfl, fun a b => by
  show (eqB (e a.1) (e b.1) && (eqB (f a.2.1) (f b.2.1) && (eqB (g a.2.2.1) (g b.2.2.1) && (eqB (h a.2.2.2) (h b.2.2.2) && true)))) = _
  rw [Em.eq (e := e), Em.eq (e := f), Em.eq (e := g), Em.eq (e := h), Bool.and_true, Bool.eq_iff_iff]
  simp [Prod.ext_iff]⟩
instance : EmA D.int := ⟨fun a b => rfl, .inr fun a => rfl⟩
instance : EmA D.str := ⟨fun a b => rfl, .inr fun a => rfl⟩
instance : EmA D.bl := ⟨fun a b => rfl, .inr fun a => rfl⟩
theorem al_map {e : α → D} (h : ∀ a b, alikeD (e a) (e b) = true) : ∀ l m : List α, PySem.W.alikeAll (D.pys (l.map e)) (D.pys (m.map e)) = true
  | [], [] => rfl
  | [], _ :: _ => rfl
  | _ :: _, [] => rfl
  | a :: l, b :: m => by
    show (PySem.W.alike (e a).py (e b).py && PySem.W.alikeAll (D.pys (l.map e)) (D.pys (m.map e))) = true
    rw [show PySem.W.alike (e a).py (e b).py = true from h a b, al_map h l m]; rfl
instance {e : α → D} [EmA e] : EmA (eT e) := ⟨fun a b => al_map EmA.al a b, .inl fun a => rfl⟩
instance {e : α → D} [EmA e] : EmA (eP1 e) := ⟨fun a b => al_map (e := e) EmA.al [a] [b], .inl fun a => rfl⟩
instance {e : α → D} {f : β → D} [EmA e] [EmA f] : EmA (eP2 e f) := ⟨fun a b => by
  show (PySem.W.alike (e a.1).py (e b.1).py && (PySem.W.alike (f a.2).py (f b.2).py && true)) = true
  rw [show PySem.W.alike (e a.1).py (e b.1).py = true from EmA.al _ _, show PySem.W.alike (f a.2).py (f b.2).py = true from EmA.al _ _]; rfl, .inl fun a => rfl⟩
instance {e : α → D} {f : β → D} {g : γ → D} [EmA e] [EmA f] [EmA g] : EmA (eP3 e f g) := ⟨fun a b => by
  show (PySem.W.alike (e a.1).py (e b.1).py && (PySem.W.alike (f a.2.1).py (f b.2.1).py && (PySem.W.alike (g a.2.2).py (g b.2.2).py && true))) = true
  rw [show PySem.W.alike (e a.1).py (e b.1).py = true from EmA.al _ _, show PySem.W.alike (f a.2.1).py (f b.2.1).py = true from EmA.al _ _, show PySem.W.alike (g a.2.2).py (g b.2.2).py = true from EmA.al _ _]; rfl, .inl fun a => rfl⟩
def insE (e : α → D) (x : α) : List α → List α
  | [] => [x]
  | y :: r => if leD (e x) (e y) = true then x :: y :: r else y :: insE e x r
def srtE (e : α → D) : List α → List α
  | [] => []
  | x :: r => insE e x (srtE e r)
theorem insE_map {e : α → D} {x : α} : ∀ l : List α, insD (e x) (l.map e) = (insE e x l).map e
  | [] => rfl
  | y :: r => by
    rw [List.map_cons]
    unfold insD insE
    split
    · rfl
    · rw [insE_map r]; rfl
theorem srtE_map {e : α → D} : ∀ l : List α, srtD (l.map e) = (srtE e l).map e
  | [] => rfl
  | x :: r => by
    rw [List.map_cons]
    unfold srtD srtE
    rw [srtE_map r, insE_map]
theorem sortOkV_em {e : α → D} [DecidableEq α] [Em e] [EmA e] (h : Em.k e ≤ 100) (l : List α) : sortOkV (l.map e) = true := by
  unfold sortOkV
  rw [Bool.and_eq_true, Bool.and_eq_true, Bool.or_eq_true]
  simp only [List.all_eq_true, List.mem_map]
  refine ⟨⟨?_, ?_⟩, ?_⟩
  · rcases EmA.kd (e := e) with q | q
    · exact .inl fun x ⟨a, _, ea⟩ => ea ▸ q a
    · exact .inr fun x ⟨a, _, ea⟩ => ea ▸ q a
  · rintro x ⟨a, _, rfl⟩
    exact Em.dok a 100 h
  · rintro x ⟨a, _, rfl⟩ y ⟨b, _, rfl⟩
    exact EmA.al a b
def obn (e : Option α) (k : α → Option β) : Option β := match e with
  | none => none
  | some a => k a
def tbn (e : Option (α × List Int)) (k : α → List Int → Option β) : Option β := match e with
  | none => none
  | some (a, t) => k a t
theorem obn_some {a : α} {k : α → Option β} : obn (some a) k = k a := rfl
theorem obn_e {e : Option α} {k : α → Option β} {r : β} {C : Prop} (h : obn e k = some r) (f : ∀ a, e = some a → k a = some r → C) : C := by
  cases e with
  | none => cases h
  | some a => exact f a rfl h
theorem tbn_e {e : Option (α × List Int)} {k : α → List Int → Option β} {r : β} {C : Prop} (h : tbn e k = some r) (f : ∀ a t, e = some (a, t) → k a t = some r → C) : C := by
  cases e with
  | none => cases h
  | some a => exact f a.1 a.2 rfl h
theorem ite_e {c : Prop} [Decidable c] {x y : γ} {r : γ} {C : Prop} (h : (if c then x else y) = r) (f : c → x = r → C) (g : ¬ c → y = r → C) : C := by
  by_cases q : c
  · rw [if_pos q] at h; exact f q h
  · rw [if_neg q] at h; exact g q h
def drw (m : Int) (t : List Int) : Option (Int × List Int) := if 0 < m then match t with
    | [] => some (0, [])
    | x :: r => some (x % m, r)
  else none
theorem uDraw_ok {m x : Int} {t t' : List Int} (h : drw m t = some (x, t')) : uDraw [.bx, .p (.int m)] (some t) = some (.p (.int x), some t') := by
  unfold drw at h
  unfold uDraw
  dsimp only
  split at h
  · rename_i c
    rw [if_pos c]
    cases t <;> (cases h; rfl)
  · cases h
theorem eqS_B : ∀ {x y : D} {b : Bool}, eqS x y = some b → eqB x y = b := by
  intro x y b h
  unfold eqS at h
  split at h <;> first | (cases h; rfl) | cases h
theorem eqV_em {e : α → D} [DecidableEq α] [Em e] (h : Em.k e ≤ 200) {a b : α} : eqV (e a) (e b) = some (decide (a = b)) := by
  unfold eqV
  split
  · rename_i q
    rw [← eqS_B q, Em.eq (e := e)]
  · rw [Em.dok a 200 h, Em.dok b 200 h, if_pos (by rfl), Em.eq (e := e)]
theorem wEq_em (e : α → D) [DecidableEq α] [Em e] {a b : α} (h : Em.k e ≤ 200 := by decide) : wEq (.p (e a)) (.p (e b)) = some (.p (.bl (decide (a = b)))) := by
  unfold wEq; dsimp only; rw [eqV_em h]
theorem wNe_em (e : α → D) [DecidableEq α] [Em e] {a b : α} (h : Em.k e ≤ 200 := by decide) : wNe (.p (e a)) (.p (e b)) = some (.p (.bl (!decide (a = b)))) := by
  unfold wNe; dsimp only; rw [eqV_em h]
theorem wEq_d {x y : D} {b : Bool} (h : eqV x y = some b) : wEq (.p x) (.p y) = some (.p (.bl b)) := by
  unfold wEq; dsimp only; rw [h]
theorem wNe_d {x y : D} {b : Bool} (h : eqV x y = some b) : wNe (.p x) (.p y) = some (.p (.bl (!b))) := by
  unfold wNe; dsimp only; rw [h]
theorem inB_cons {x y : D} {l : List D} : inB x (y :: l) = (eqB y x || inB x l) := rfl
def inL [DecidableEq α] (a : α) (l : List α) : Bool := l.any fun b => decide (b = a)
theorem inL_iff [DecidableEq α] {a : α} {l : List α} : inL a l = true ↔ a ∈ l := by
  unfold inL
  rw [List.any_eq_true]
  exact ⟨fun ⟨x, h, e⟩ => of_decide_eq_true e ▸ h, fun h => ⟨a, h, decide_eq_true rfl⟩⟩
theorem inB_em (e : α → D) [DecidableEq α] [Em e] {a : α} : ∀ l : List α, inB (e a) (l.map e) = inL a l
  | [] => rfl
  | b :: l => by
    rw [List.map_cons, inB_cons, inB_em e l, Em.eq (e := e)]; rfl
theorem wIn_em (e : α → D) [DecidableEq α] [Em e] {a : α} {l : List α} {y : W} (hy : itemsW y = some (l.map e)) (h : Em.k e ≤ 100 := by decide) : wIn (.p (e a)) y = some (.p (.bl (inL a l))) := by
  unfold wIn inW; dsimp only; rw [hy]; dsimp only
  rw [Em.dok a 100 h, doks_map h, if_pos (by rfl), inB_em]; rfl
theorem wNotIn_em (e : α → D) [DecidableEq α] [Em e] {a : α} {l : List α} {y : W} (hy : itemsW y = some (l.map e)) (h : Em.k e ≤ 100 := by decide) : wNotIn (.p (e a)) y = some (.p (.bl (!inL a l))) := by
  unfold wNotIn inW; dsimp only; rw [hy]; dsimp only
  rw [Em.dok a 100 h, doks_map h, if_pos (by rfl), inB_em]
def inO (x : D) (ds : List D) : Option Bool := if (D.dok 100 x && D.doks 100 ds) = true then some (inB x ds) else none
theorem wIn_d {x : D} {ds : List D} {y : W} {b : Bool} (hy : itemsW y = some ds) (h : inO x ds = some b) : wIn (.p x) y = some (.p (.bl b)) := by
  unfold wIn inW; dsimp only; rw [hy]; dsimp only
  unfold inO at h
  split at h
  · rename_i c; rw [if_pos c]; cases h; rfl
  · cases h
theorem wNotIn_d {x : D} {ds : List D} {y : W} {b : Bool} (hy : itemsW y = some ds) (h : inO x ds = some b) : wNotIn (.p x) y = some (.p (.bl (!b))) := by
  unfold wNotIn inW; dsimp only; rw [hy]; dsimp only
  unfold inO at h
  split at h
  · rename_i c; rw [if_pos c]; cases h; rfl
  · cases h
theorem lenW_q {w : W} {ds : List D} (h : itemsW w = some ds) : lenW w = some (ds.length : Int) := by
  unfold itemsW at h
  split at h <;> first | (cases h; rfl) | cases h
theorem wLen_q {w : W} {e : α → D} {l : List α} (h : itemsW w = some (l.map e)) : wLen [w] = some (.p (.int (l.length : Int))) := by
  unfold wLen; dsimp only; rw [lenW_q h]; simp
theorem wTupC_q {w : W} {ds : List D} (h : itemsW w = some ds) : wTupC [w] = some (.p (.tup ds)) := by unfold wTupC; dsimp only; rw [h]
theorem wList_q {w : W} {ds : List D} (h : itemsW w = some ds) : wList [w] = some (.l ds) := by unfold wList; dsimp only; rw [h]
theorem wSortA_q {w : W} {e : α → D} [DecidableEq α] [Em e] [EmA e] {l : List α} (h : itemsW w = some (l.map e)) (hk : Em.k e ≤ 100 := by decide) : wSortA [w] = some (.l ((srtE e l).map e)) := by
  unfold itemsW at h
  split at h
  · cases h; unfold wSortA; dsimp only; rw [if_pos (sortOkV_em hk l), srtE_map]
  · cases h; unfold wSortA; dsimp only; rw [if_pos (sortOkV_em hk l), srtE_map]
  · cases h
theorem atI_map (f : α → β) (l : List α) (i : Int) : atI (l.map f) i = (atI l i).map f := by
  unfold atI
  rw [List.length_map]
  cases ixN l.length i with
  | none => rfl
  | some j => simp
theorem wIx_T (e : α → D) {l : List α} {i : Int} {a : α} (h : atI l i = some a) : wIx (.p (eT e l)) (.p (.int i)) = some (.p (e a)) := by
  unfold wIx eT; dsimp only; rw [atI_map, h]; rfl
theorem wIx_lT (e : α → D) {l : List α} {i : Int} {a : α} (h : atI l i = some a) : wIx (.l (l.map e)) (.p (.int i)) = some (.p (e a)) := by
  unfold wIx; dsimp only; rw [atI_map, h]; rfl
def ixD (d : D) (i : Int) : Option D := match d with
  | .tup ds => atI ds i
  | .str z => if z.length ≤ 100000 then (atI z.cps.toList i).map fun c => .str ⟨#[c]⟩ else none
  | _ => none
theorem wIx_d {d a : D} {i : Int} (h : ixD d i = some a) : wIx (.p d) (.p (.int i)) = some (.p a) := by
  unfold ixD at h
  split at h
  · unfold wIx; dsimp only; rw [h]
  · unfold wIx; dsimp only
    split at h
    · rename_i c
      rw [if_pos c]
      obtain ⟨c, hc, rfl⟩ := Option.map_eq_some_iff.mp h
      rw [hc]
    · cases h
  · cases h
def appO (xs ys : List α) : Option (List α) := if xs.length + ys.length ≤ 1000000 then some (xs ++ ys) else none
theorem appO_ok {xs ys zs : List α} (h : appO xs ys = some zs) : xs.length + ys.length ≤ 1000000 ∧ zs = xs ++ ys := by
  unfold appO at h
  split at h
  · cases h; exact ⟨by assumption, rfl⟩
  · cases h
theorem wPlus_t (e : α → D) {xs ys zs : List α} (h : appO xs ys = some zs) : wPlus (.p (eT e xs)) (.p (eT e ys)) = some (.p (eT e zs)) := by
  obtain ⟨h1, rfl⟩ := appO_ok h
  unfold wPlus eT; dsimp only; rw [List.length_map, List.length_map, if_pos h1, List.map_append]
theorem wPlus_lT (e : α → D) {xs ys zs : List α} (h : appO xs ys = some zs) : wPlus (.l (xs.map e)) (.l (ys.map e)) = some (.l (zs.map e)) := by
  obtain ⟨h1, rfl⟩ := appO_ok h
  unfold wPlus; dsimp only; rw [List.length_map, List.length_map, if_pos h1, List.map_append]
def mulO (i j : Int) : Option Int := if (small64 i || small64 j) = true then some (i * j) else none
theorem wMul_o {i j k : Int} (h : mulO i j = some k) : wMul (.p (.int i)) (.p (.int j)) = some (.p (.int k)) := by
  unfold mulO at h
  unfold wMul wI; dsimp only
  split at h
  · rename_i c; cases h; rw [if_pos c]
  · cases h
theorem wMul_1 {i j : Int} (h : small64 i = true := by decide) : wMul (.p (.int i)) (.p (.int j)) = some (.p (.int (i * j))) := wMul_o (by unfold mulO; rw [h]; rfl)
theorem wMul_2 {i j : Int} (h : small64 j = true := by decide) : wMul (.p (.int i)) (.p (.int j)) = some (.p (.int (i * j))) := wMul_o (by unfold mulO; rw [h, Bool.or_true]; rfl)
def divO (i j : Int) : Option Int := if (decide (0 < j) && decide (j < 1073741824)) = true then some (i / j) else none
theorem wDiv_o {i j k : Int} (h : divO i j = some k) : wDiv (.p (.int i)) (.p (.int j)) = some (.p (.int k)) := by
  unfold divO at h
  unfold wDiv wI; dsimp only
  split at h
  · rename_i c; cases h; rw [if_pos c]
  · cases h
theorem wDiv_c {i j : Int} (h : (decide (0 < j) && decide (j < 1073741824)) = true := by decide) : wDiv (.p (.int i)) (.p (.int j)) = some (.p (.int (i / j))) := wDiv_o (by unfold divO; rw [if_pos h])
def modO (i j : Int) : Option Int := if decide (0 < j) = true then some (i % j) else none
theorem wMod_o {i j k : Int} (h : modO i j = some k) : wMod (.p (.int i)) (.p (.int j)) = some (.p (.int k)) := by
  unfold modO at h
  unfold wMod wI; dsimp only
  split at h
  · rename_i c; cases h; rw [if_pos c]
  · cases h
theorem wMod_c {i j : Int} (h : decide (0 < j) = true := by decide) : wMod (.p (.int i)) (.p (.int j)) = some (.p (.int (i % j))) := wMod_o (by unfold modO; rw [if_pos h])
def itD : D → Option (List D)
  | .tup ds => some ds
  | _ => none
theorem itemsW_d {d : D} {ds : List D} (h : itD d = some ds) : itemsW (.p d) = some (ds.map eD) := by
  unfold itD at h
  split at h
  · cases h; rw [map_eD]; rfl
  · cases h
def isiD (T : Ty) (d : D) : Option Bool := (tyD [] d).map fun t => isTy t T
theorem tyW_d {T : Ty} {d : D} {b : Bool} (h : isiD T d = some b) : ∃ t, tyW (.p d) = some t ∧ isTy t T = b := by
  unfold isiD at h
  obtain ⟨t, h1, rfl⟩ := Option.map_eq_some_iff.mp h
  exact ⟨t, h1, rfl⟩
theorem truW_q {w : W} {e : α → D} {l : List α} (h : itemsW w = some (l.map e)) : truthW w = some (!l.isEmpty) := by
  unfold itemsW at h
  split at h
  · cases h; show some (!(l.map e).isEmpty) = _; cases l <;> rfl
  · cases h; show some (!(l.map e).isEmpty) = _; cases l <;> rfl
  · cases h
def asI : D → Option Int
  | .int x => some x
  | _ => none
theorem asI_ok {d : D} {x : Int} (h : asI d = some x) : d = .int x := by cases d <;> first | (cases h; rfl) | cases h
theorem wIs_d {d : D} {b : Bool} (h : isF d .non = some b) : wIs (.p d) (.p .non) = some (.p (.bl b)) := by unfold wIs isW; dsimp only; rw [h]
def rngT (i j : Int) : List Int := (List.range (j - i).toNat).map fun (k : Nat) => i + (k : Int)
theorem rngT_map (i j : Int) : (rngT i j).map D.int = rngD i j := by unfold rngT rngD; rw [List.map_map]; rfl
def rngO (i j : Int) : Option (List Int) := if (smallL i && smallL j) = true then some (rngT i j) else none
theorem asInts_map : ∀ l : List Int, asInts (l.map D.int) = some l
  | [] => rfl
  | x :: l => by show (asInts (l.map D.int)).map (x :: ·) = _; rw [asInts_map l]; rfl
end
end Mini
end
section
namespace Mini
open PySem L2
section
variable {α β γ δ σ υ ρ : Type}
def mapO (f : α → Option β) : List α → Option (List β)
  | [] => some []
  | x :: l => obn (f x) fun y => obn (mapO f l) fun ys => some (y :: ys)
def cmpO (f : α → Option (Option β)) : List α → Option (List β)
  | [] => some []
  | x :: l => obn (f x) fun o => obn (cmpO f l) fun ys => some (o.toList ++ ys)
def cmpT (f : α → List Int → Option (Option β × List Int)) : List α → List Int → Option (List β × List Int)
  | [], t => some ([], t)
  | x :: l, t => tbn (f x t) fun o t1 => tbn (cmpT f l t1) fun ys t2 => some (o.toList ++ ys, t2)
def allO (f : α → Option Bool) : List α → Option Bool
  | [] => some true
  | x :: l => obn (f x) fun b => if b = true then allO f l else some false
section
variable {g : VG} {p : UB} {a : UE} {ε : VEnv} {τ : Tape} {e : α → D} {f : β → D}
theorem lcl_P {l : List α} {c : α → Bool} {k : α → β} (h : ∀ x ∈ l, ∃ ε1, g (e x) ε = some ε1 ∧ p ε1 τ = some (c x, τ) ∧ (c x = true → a ε1 τ = some (.p (f (k x)), τ))) :
    uLcL g p a (l.map e) ε τ = some (((l.filter c).map k).map f, τ) := by
  induction l with
  | nil => rfl
  | cons x l ih =>
    obtain ⟨ε1, h1, h2, h3⟩ := h x List.mem_cons_self
    have ih := ih fun y hy => h y (List.mem_cons_of_mem _ hy)
    rw [List.map_cons]
    unfold uLcL uOne
    rw [h1]; dsimp only; rw [h2]
    cases q : c x with
    | false => dsimp only; rw [ih, List.filter_cons_of_neg (by rw [q]; exact Bool.false_ne_true)]; rfl
    | true => dsimp only; rw [h3 q]; dsimp only; rw [ih, List.filter_cons_of_pos q]; rfl
theorem lcl_F {l : List α} {c : α → Bool} (h : ∀ x ∈ l, ∃ ε1, g (e x) ε = some ε1 ∧ p ε1 τ = some (c x, τ) ∧ (c x = true → a ε1 τ = some (.p (e x), τ))) :
    uLcL g p a (l.map e) ε τ = some ((l.filter c).map e, τ) := by
  have := lcl_P (f := e) (k := fun x => x) h
  rw [List.map_id'] at this
  exact this
theorem lcl_M {l : List α} {k : α → β} (h : ∀ x ∈ l, ∃ ε1, g (e x) ε = some ε1 ∧ a ε1 τ = some (.p (f (k x)), τ)) :
    uLcL g cYes a (l.map e) ε τ = some ((l.map k).map f, τ) := by
  induction l with
  | nil => rfl
  | cons x l ih =>
    obtain ⟨ε1, h1, h3⟩ := h x List.mem_cons_self
    have ih := ih fun y hy => h y (List.mem_cons_of_mem _ hy)
    rw [List.map_cons]
    unfold uLcL uOne
    rw [h1]; dsimp only [cYes]; rw [h3]; dsimp only; rw [ih]; rfl
theorem lcl_O {l : List α} {k : α → Option (Option β)} (h : ∀ x ∈ l, ∀ o, k x = some o → uOne g p a (e x) ε τ = some (o.map f, τ)) {ys : List β} (hy : cmpO k l = some ys) :
    uLcL g p a (l.map e) ε τ = some (ys.map f, τ) := by
  induction l generalizing ys with
  | nil => cases hy; rfl
  | cons x l ih =>
    refine obn_e hy fun o e1 hy => obn_e hy fun zs e2 hy => ?_
    cases hy
    rw [List.map_cons]
    unfold uLcL
    rw [h x List.mem_cons_self o e1]; dsimp only
    rw [ih (fun y hy => h y (List.mem_cons_of_mem _ hy)) e2]
    cases o <;> rfl
theorem lcl_MO {l : List α} {k : α → Option β} (h : ∀ x ∈ l, ∀ o, k x = some o → ∃ ε1, g (e x) ε = some ε1 ∧ a ε1 τ = some (.p (f o), τ)) {ys : List β} (hy : mapO k l = some ys) :
    uLcL g cYes a (l.map e) ε τ = some (ys.map f, τ) := by
  induction l generalizing ys with
  | nil => cases hy; rfl
  | cons x l ih =>
    refine obn_e hy fun o e1 hy => obn_e hy fun zs e2 hy => ?_
    cases hy
    obtain ⟨ε1, h1, h3⟩ := h x List.mem_cons_self o e1
    rw [List.map_cons]
    unfold uLcL uOne
    rw [h1]; dsimp only [cYes]; rw [h3]; dsimp only
    rw [ih (fun y hy => h y (List.mem_cons_of_mem _ hy)) e2]
    rfl
theorem lcl_T {l : List α} {k : α → List Int → Option (Option β × List Int)} (h : ∀ x ∈ l, ∀ t o t', k x t = some (o, t') → uOne g p a (e x) ε (some t) = some (o.map f, some t')) {ys : List β} {t t' : List Int} (hy : cmpT k l t = some (ys, t')) :
    uLcL g p a (l.map e) ε (some t) = some (ys.map f, some t') := by
  induction l generalizing ys t with
  | nil => cases hy; rfl
  | cons x l ih =>
    refine tbn_e hy fun o t1 e1 hy => tbn_e hy fun zs t2 e2 hy => ?_
    cases hy
    rw [List.map_cons]
    unfold uLcL
    rw [h x List.mem_cons_self t o t1 e1]; dsimp only
    rw [ih (fun y hy => h y (List.mem_cons_of_mem _ hy)) e2]
    cases o <;> rfl
theorem one_of {x : α} {o : Option β} {ε1 : VEnv} {c : Bool} {τ1 τ2 : Tape} (h1 : g (e x) ε = some ε1) (h2 : p ε1 τ = some (c, τ1)) (h3 : (c = true ∧ ∃ y, o = some y ∧ a ε1 τ1 = some (.p (f y), τ2)) ∨ (c = false ∧ o = none ∧ τ1 = τ2)) :
    uOne g p a (e x) ε τ = some (o.map f, τ2) := by
  unfold uOne
  rw [h1]; dsimp only; rw [h2]
  rcases h3 with ⟨rfl, y, rfl, h⟩ | ⟨rfl, rfl, rfl⟩
  · dsimp only; rw [h]; rfl
  · rfl
theorem one_q {x : α} {q : Bool} {ε1 : VEnv} (h1 : g (e x) ε = some ε1) (h3 : a ε1 τ = some (.p (.bl q), τ)) : uOne g cYes a (e x) ε τ = some (some (.bl q), τ) := by
  unfold uOne
  rw [h1]; dsimp only [cYes]; rw [h3]
theorem ql_allO {l : List α} {k : α → Option Bool} (h : ∀ x ∈ l, ∀ b, k x = some b → (uOne g p a (e x) ε τ = some (none, τ) ∧ b = true) ∨ uOne g p a (e x) ε τ = some (some (.bl b), τ)) {r : Bool} (hr : allO k l = some r) : uQL true g p a (l.map e) ε τ = some (r, τ) := by
  induction l with
  | nil => cases hr; rfl
  | cons x l ih =>
    refine obn_e hr fun b e1 hr => ?_
    have ih := ih fun y hy => h y (List.mem_cons_of_mem _ hy)
    rw [List.map_cons]
    unfold uQL
    rcases h x List.mem_cons_self b e1 with ⟨h1, rfl⟩ | h1
    · rw [h1]; exact ih hr
    · rw [h1]; dsimp only
      cases b with
      | false => cases hr; rfl
      | true => rw [if_pos rfl]; exact ih hr
end
def lett (a : α) (k : α → β) : β := k a
inductive LR (σ ρ : Type) where
  | nx (s : σ) | bk (s : σ) | rt (r : ρ)
def lrk (o : LR σ ρ) (F : σ → γ) (G : ρ → γ) : γ := match o with
  | .nx s => F s
  | .bk s => F s
  | .rt r => G r
def FnP (R : ρ → W) (τ : Tape) (r : ρ) (X : Option URes) : Prop := uends X = some (R r, τ)
def FnT (R : ρ → W) (r : ρ × List Int) (X : Option URes) : Prop := uends X = some (R r.1, some r.2)
def LbP (E : σ → υ → VEnv) (τ : Tape) (s : σ) (X : Option URes) : Prop := ∃ u, X = some (.nx (E s u) τ) ∨ X = some (.ct (E s u) τ)
def LbT (E : σ → υ → VEnv) (s : σ × List Int) (X : Option URes) : Prop := ∃ u, X = some (.nx (E s.1 u) (some s.2)) ∨ X = some (.ct (E s.1 u) (some s.2))
def LxP (E : σ → υ → VEnv) (R : ρ → W) (τ : Tape) (o : LR σ ρ) (X : Option URes) : Prop := match o with
  | .nx s => ∃ u, X = some (.nx (E s u) τ) ∨ X = some (.ct (E s u) τ)
  | .bk s => ∃ u, X = some (.bk (E s u) τ)
  | .rt r => X = some (.rt (R r) τ)
def PO (Q : γ → Option URes → Prop) (o : Option γ) (X : Option URes) : Prop := ∀ r, o = some r → Q r X
section
variable {Post : γ → Option URes → Prop} {t t1 t2 : γ} {ε ε1 ε2 : VEnv} {τ τ1 τ2 : Tape} {s u v : US} {p : UB} {a b : UE} {c : Bool} {w w1 : W} {i : Nat} {d : D} {X : Option URes}
theorem p_eq {Y : Option URes} (h : Y = X) (k : Post t X) : Post t Y := h ▸ k
theorem p_seqs (k : Post t (tSeq s (tSeq u v) ε τ)) : Post t (tSeq (tSeq s u) v ε τ) := p_eq (t_seqs rfl) k
theorem p_nils (k : Post t (u ε τ)) : Post t (tSeq tNil u ε τ) := k
theorem p_if (h : p ε τ = some (c, τ1)) (h1 : c = true → Post t1 (tSeq s v ε τ1)) (h2 : c = false → Post t2 (tSeq u v ε τ1)) : Post (if c = true then t1 else t2) (tSeq (tIf p s u) v ε τ) := by
  refine p_eq (t_ifs h rfl) ?_
  cases c with
  | true => exact h1 rfl
  | false => exact h2 rfl
theorem p_set {e : α} {R : α → W} {F : α → γ} (h : a ε τ = some (R e, τ1)) (k : ∀ x, x = e → Post (F x) (u (ε.set i (some (R x))) τ1)) : Post (lett e F) (tSeq (tSet i a) u ε τ) :=
  p_eq (t_seq (t_set h) rfl) (k e rfl)
theorem p_asgT {e : α} {R : α → D} {F : α → γ} {g : VG} {E : α → VEnv} (h : a ε τ = some (.p (R e), τ1)) (hg : ∀ x, g (R x) ε = some (E x)) (k : ∀ x, x = e → Post (F x) (u (E x) τ1)) : Post (lett e F) (tSeq (tAsg a g) u ε τ) :=
  p_eq (t_seq (t_asg h (hg e)) rfl) (k e rfl)
theorem po_obn {Q : γ → Option URes → Prop} {e : Option α} {k : α → Option γ} (h : ∀ a, e = some a → PO Q (k a) X) : PO Q (obn e k) X := fun r hr => obn_e hr fun a ha hk => h a ha r hk
theorem po_tbn {Q : γ → Option URes → Prop} {e : Option (α × List Int)} {k : α → List Int → Option γ} (h : ∀ a t, e = some (a, t) → PO Q (k a t) X) : PO Q (tbn e k) X := fun r hr => tbn_e hr fun a t ha hk => h a t ha r hk
theorem po_some {Q : γ → Option URes → Prop} {r : γ} (h : Q r X) : PO Q (some r) X := fun r' e => by cases e; exact h
theorem f_ret {R : ρ → W} {r : ρ} (h : a ε τ = some (R r, τ1)) : FnP R τ1 r (tSeq (tRet a) u ε τ) := by unfold FnP; rw [t_rets h]; rfl
theorem f_retT {R : ρ → W} {r : ρ} {t : List Int} (h : a ε τ = some (R r, some t)) : FnT R (r, t) (tSeq (tRet a) u ε τ) := by unfold FnT; rw [t_rets h]; rfl
theorem l_nx {E : σ → υ → VEnv} {s : σ} (u : υ) : LbP E τ s (tNil (E s u) τ) := ⟨u, .inl rfl⟩
theorem l_nxT {E : σ → υ → VEnv} {s : σ} {t : List Int} (u : υ) : LbT E (s, t) (tNil (E s u) (some t)) := ⟨u, .inl rfl⟩
theorem x_nx {E : σ → υ → VEnv} {R : ρ → W} {s : σ} (u : υ) : LxP E R τ (.nx s) (tNil (E s u) τ) := ⟨u, .inl rfl⟩
theorem x_rt {E : σ → υ → VEnv} {R : ρ → W} {r : ρ} (h : a ε τ = some (R r, τ1)) : LxP E R τ1 (.rt r) (tSeq (tRet a) u ε τ) := t_rets h
end
def foldO (f : σ → α → Option σ) : List α → σ → Option σ
  | [], s => some s
  | x :: l, s => obn (f s x) fun s => foldO f l s
def foldT (f : σ → α → List Int → Option (σ × List Int)) : List α → σ → List Int → Option (σ × List Int)
  | [], s, t => some (s, t)
  | x :: l, s, t => tbn (f s x t) fun s t => foldT f l s t
def loopP (f : σ → α → LR σ ρ) : List α → σ → LR σ ρ
  | [], s => .nx s
  | x :: l, s => match f s x with
    | .nx s => loopP f l s
    | .bk s => .nx s
    | .rt r => .rt r
def loopO (f : σ → α → Option (LR σ ρ)) : List α → σ → Option (LR σ ρ)
  | [], s => some (.nx s)
  | x :: l, s => match f s x with
    | none => none
    | some (.nx s) => loopO f l s
    | some (.bk s) => some (.nx s)
    | some (.rt r) => some (.rt r)
section
variable {g : VG} {b rest : US} {wk : UW} {ε : VEnv} {τ τ1 : Tape} {k : α → D} {l : List α} {E : σ → υ → VEnv} {R : ρ → W} {Post : γ → Option URes → Prop} {st0 : σ} {u0 : υ}
theorem fl_cont {ds : List D} {d : D} {ε1 : VEnv} {s : σ} (h1 : g d ε = some ε1) (h2 : LbP E τ1 s (b ε1 τ)) : ∃ u, uForL g b (d :: ds) ε τ = uForL g b ds (E s u) τ1 := by
  obtain ⟨u, h2⟩ := h2
  refine ⟨u, ?_⟩
  rw [uForL]
  rw [h1]; dsimp only
  rcases h2 with h2 | h2 <;> rw [h2]
theorem fl_foldl {f : σ → α → σ} (hb : ∀ x ∈ l, ∀ st u, ∃ ε1, g (k x) (E st u) = some ε1 ∧ LbP E τ (f st x) (b ε1 τ)) : ∀ st u, ∃ u', uForL g b (l.map k) (E st u) τ = some (.nx (E (l.foldl f st) u') τ) := by
  induction l with
  | nil => exact fun st u => ⟨u, rfl⟩
  | cons x l ih =>
    intro st u
    obtain ⟨ε1, h1, h2⟩ := hb x List.mem_cons_self st u
    obtain ⟨u1, e1⟩ := fl_cont (ds := l.map k) h1 h2
    obtain ⟨u2, e2⟩ := ih (fun y hy => hb y (List.mem_cons_of_mem _ hy)) (f st x) u1
    exact ⟨u2, by rw [List.map_cons, e1, e2]; rfl⟩
theorem fl_foldO {f : σ → α → Option σ} (hb : ∀ x ∈ l, ∀ st u, ∃ ε1, g (k x) (E st u) = some ε1 ∧ PO (LbP E τ) (f st x) (b ε1 τ)) : ∀ st u r, foldO f l st = some r → ∃ u', uForL g b (l.map k) (E st u) τ = some (.nx (E r u') τ) := by
  induction l with
  | nil => intro st u r h; cases h; exact ⟨u, rfl⟩
  | cons x l ih =>
    intro st u r h
    refine obn_e h fun s hs h => ?_
    obtain ⟨ε1, h1, h2⟩ := hb x List.mem_cons_self st u
    obtain ⟨u1, e1⟩ := fl_cont (ds := l.map k) h1 (h2 s hs)
    obtain ⟨u2, e2⟩ := ih (fun y hy => hb y (List.mem_cons_of_mem _ hy)) s u1 r h
    exact ⟨u2, by rw [List.map_cons, e1, e2]⟩
theorem fl_foldT {f : σ → α → List Int → Option (σ × List Int)} (hb : ∀ x ∈ l, ∀ st t u, ∃ ε1, g (k x) (E st u) = some ε1 ∧ PO (LbT E) (f st x t) (b ε1 (some t))) : ∀ st t u r t', foldT f l st t = some (r, t') → ∃ u', uForL g b (l.map k) (E st u) (some t) = some (.nx (E r u') (some t')) := by
  induction l with
  | nil => intro st t u r t' h; cases h; exact ⟨u, rfl⟩
  | cons x l ih =>
    intro st t u r t' h
    refine tbn_e h fun s t1 hs h => ?_
    obtain ⟨ε1, h1, h2⟩ := hb x List.mem_cons_self st t u
    obtain ⟨u1, e1⟩ := fl_cont (ds := l.map k) h1 (show LbP E (some t1) s _ from h2 (s, t1) hs)
    obtain ⟨u2, e2⟩ := ih (fun y hy => hb y (List.mem_cons_of_mem _ hy)) s t1 u1 r t' h
    exact ⟨u2, by rw [List.map_cons, e1, e2]⟩
def LE (E : σ → υ → VEnv) (R : ρ → W) (τ : Tape) (o : LR σ ρ) (X : Option URes) : Prop := match o with
  | .nx s => ∃ u, X = some (.nx (E s u) τ)
  | .bk s => ∃ u, X = some (.nx (E s u) τ)
  | .rt r => X = some (.rt (R r) τ)
theorem fl_loopP {f : σ → α → LR σ ρ} (hb : ∀ x ∈ l, ∀ st u, ∃ ε1, g (k x) (E st u) = some ε1 ∧ LxP E R τ (f st x) (b ε1 τ)) : ∀ st u, LE E R τ (loopP f l st) (uForL g b (l.map k) (E st u) τ) := by
  induction l with
  | nil => exact fun st u => ⟨u, rfl⟩
  | cons x l ih =>
    intro st u
    obtain ⟨ε1, h1, h2⟩ := hb x List.mem_cons_self st u
    have ih := ih fun y hy => hb y (List.mem_cons_of_mem _ hy)
    unfold loopP
    cases q : f st x with
    | nx s =>
      rw [q] at h2
      obtain ⟨u1, e1⟩ := fl_cont (ds := l.map k) h1 (show LbP E τ s _ from h2)
      rw [List.map_cons, e1]
      exact ih s u1
    | bk s =>
      rw [q] at h2
      obtain ⟨u1, h2⟩ := h2
      exact ⟨u1, by rw [List.map_cons, uForL, h1]; dsimp only; rw [h2]⟩
    | rt r =>
      rw [q] at h2
      have h2 : b ε1 τ = some (.rt (R r) τ) := h2
      show uForL _ _ _ _ _ = _
      rw [List.map_cons, uForL, h1]; dsimp only; rw [h2]
theorem fl_loopO {f : σ → α → Option (LR σ ρ)} (hb : ∀ x ∈ l, ∀ st u, ∃ ε1, g (k x) (E st u) = some ε1 ∧ PO (LxP E R τ) (f st x) (b ε1 τ)) : ∀ st u r, loopO f l st = some r → LE E R τ r (uForL g b (l.map k) (E st u) τ) := by
  induction l with
  | nil => intro st u r h; cases h; exact ⟨u, rfl⟩
  | cons x l ih =>
    intro st u r h
    obtain ⟨ε1, h1, h2⟩ := hb x List.mem_cons_self st u
    have ih := ih fun y hy => hb y (List.mem_cons_of_mem _ hy)
    unfold loopO at h
    cases q : f st x with
    | none => rw [q] at h; cases h
    | some o =>
      rw [q] at h
      have h2 := h2 o q
      cases o with
      | nx s =>
        obtain ⟨u1, e1⟩ := fl_cont (ds := l.map k) h1 (show LbP E τ s _ from h2)
        rw [List.map_cons, e1]
        exact ih s u1 r h
      | bk s =>
        cases h
        obtain ⟨u1, h2⟩ := h2
        exact ⟨u1, by rw [List.map_cons, uForL, h1]; dsimp only; rw [h2]⟩
      | rt r' =>
        cases h
        have h2 : b ε1 τ = some (.rt (R r') τ) := h2
        show uForL _ _ _ _ _ = _
        rw [List.map_cons, uForL, h1]; dsimp only; rw [h2]
theorem p_fold {f : σ → α → σ} {F : σ → γ} (hw : wk ε τ = some (l.map k, τ1)) (he : ε = E st0 u0) (hb : ∀ x ∈ l, ∀ st u, ∃ ε1, g (k x) (E st u) = some ε1 ∧ LbP E τ1 (f st x) (b ε1 τ1)) (hr : ∀ st u, st = l.foldl f st0 → Post (F st) (rest (E st u) τ1)) : Post (lett (l.foldl f st0) F) (tSeq (tFor wk g b) rest ε τ) := by
  subst he
  obtain ⟨u, e⟩ := fl_foldl hb st0 u0
  exact p_eq (t_fors hw e rfl) (hr _ u rfl)
theorem p_foldO {Q : γ → Option URes → Prop} {f : σ → α → Option σ} {F : σ → Option γ} (hw : wk ε τ = some (l.map k, τ1)) (he : ε = E st0 u0) (hb : ∀ x ∈ l, ∀ st u, ∃ ε1, g (k x) (E st u) = some ε1 ∧ PO (LbP E τ1) (f st x) (b ε1 τ1)) (hr : ∀ st u, foldO f l st0 = some st → PO Q (F st) (rest (E st u) τ1)) : PO Q (obn (foldO f l st0) F) (tSeq (tFor wk g b) rest ε τ) :=
  po_obn fun st h => by
    subst he
    obtain ⟨u, e⟩ := fl_foldO hb st0 u0 st h
    exact p_eq (Post := PO Q) (t_fors hw e rfl) (hr st u h)
theorem p_foldT {t : List Int} {Q : γ → Option URes → Prop} {f : σ → α → List Int → Option (σ × List Int)} {F : σ → List Int → Option γ} (hw : wk ε τ = some (l.map k, some t)) (he : ε = E st0 u0) (hb : ∀ x ∈ l, ∀ st t u, ∃ ε1, g (k x) (E st u) = some ε1 ∧ PO (LbT E) (f st x t) (b ε1 (some t))) (hr : ∀ st t' u, foldT f l st0 t = some (st, t') → PO Q (F st t') (rest (E st u) (some t'))) : PO Q (tbn (foldT f l st0 t) F) (tSeq (tFor wk g b) rest ε τ) :=
  po_tbn fun st t' h => by
    subst he
    obtain ⟨u, e⟩ := fl_foldT hb st0 t u0 st t' h
    exact p_eq (Post := PO Q) (t_fors hw e rfl) (hr st t' u h)
def seqR (rest : US) : Option URes → Option URes
  | some (.nx e t) => rest e t
  | r => r
theorem tSeq_R {s rest : US} {ε : VEnv} {τ : Tape} : tSeq s rest ε τ = seqR rest (s ε τ) := by
  unfold tSeq seqR
  cases s ε τ with
  | none => rfl
  | some r => cases r <;> rfl
theorem p_lrk {X : Option URes} {o : LR σ ρ} {F : σ → γ} {G : ρ → γ} (h : LE E R τ o X) (hn : ∀ st u, Post (F st) (rest (E st u) τ)) (hr : ∀ r, Post (G r) (some (.rt (R r) τ))) : Post (lrk o F G) (seqR rest X) := by
  cases o with
  | nx s => obtain ⟨u, rfl⟩ := h; exact hn s u
  | bk s => obtain ⟨u, rfl⟩ := h; exact hn s u
  | rt r => cases (show X = some (.rt (R r) τ) from h); exact hr r
theorem tSeq_for {ds : List D} (hw : wk ε τ = some (ds, τ1)) : tSeq (tFor wk g b) rest ε τ = seqR rest (uForL g b ds ε τ1) := by
  rw [tSeq_R]
  unfold tFor
  rw [hw]
theorem p_loop {f : σ → α → LR σ ρ} {F : σ → γ} {G : ρ → γ} (hw : wk ε τ = some (l.map k, τ1)) (he : ε = E st0 u0) (hb : ∀ x ∈ l, ∀ st u, ∃ ε1, g (k x) (E st u) = some ε1 ∧ LxP E R τ1 (f st x) (b ε1 τ1)) (hn : ∀ st u, Post (F st) (rest (E st u) τ1)) (hr : ∀ r, Post (G r) (some (.rt (R r) τ1))) : Post (lrk (loopP f l st0) F G) (tSeq (tFor wk g b) rest ε τ) := by
  subst he
  exact p_eq (tSeq_for hw) (p_lrk (fl_loopP hb st0 u0) hn hr)
theorem p_loopO {Q : γ → Option URes → Prop} {f : σ → α → Option (LR σ ρ)} {F : σ → Option γ} {G : ρ → Option γ} (hw : wk ε τ = some (l.map k, τ1)) (he : ε = E st0 u0) (hb : ∀ x ∈ l, ∀ st u, ∃ ε1, g (k x) (E st u) = some ε1 ∧ PO (LxP E R τ1) (f st x) (b ε1 τ1)) (hn : ∀ st u, PO Q (F st) (rest (E st u) τ1)) (hr : ∀ r, PO Q (G r) (some (.rt (R r) τ1))) : PO Q (obn (loopO f l st0) fun o => lrk o F G) (tSeq (tFor wk g b) rest ε τ) :=
  po_obn fun o h => by
    subst he
    exact p_eq (Post := PO Q) (tSeq_for hw) (p_lrk (Post := PO Q) (fl_loopO hb st0 u0 o h) hn hr)
end
section
variable {p : UB} {b rest : US} {ε : VEnv} {τ : Tape} {E : σ → υ → VEnv} {R : ρ → W} {st0 : σ} {u0 : υ}
end
section
variable {p q : UB} {a b : UE} {ε : VEnv} {τ τ1 τ2 : Tape} {x y c : Bool} {w w1 w2 : W}
theorem c_andB (h1 : p ε τ = some (x, τ)) (h2 : x = true → q ε τ = some (y, τ)) : cAnd p q ε τ = some (x && y, τ) := by
  unfold cAnd; rw [h1]
  cases x with
  | true => exact h2 rfl
  | false => rfl
theorem c_orB (h1 : p ε τ = some (x, τ1)) (h2 : x = false → q ε τ1 = some (y, τ1)) : cOr p q ε τ = some (x || y, τ1) := by
  unfold cOr; rw [h1]
  cases x with
  | true => rfl
  | false => exact h2 rfl
theorem u_andB (h1 : a ε τ = some (.p (.bl x), τ)) (h2 : x = true → b ε τ = some (.p (.bl y), τ)) : uAnd a b ε τ = some (.p (.bl (x && y)), τ) := by
  unfold uAnd; rw [h1]
  cases x with
  | true => exact h2 rfl
  | false => rfl
theorem c_andO {o : Option Bool} {r : Bool} (h1 : p ε τ = some (x, τ1)) (h2 : x = true → ∀ y, o = some y → q ε τ1 = some (y, τ1)) (h : (if x = true then o else some false) = some r) : cAnd p q ε τ = some (r, τ1) := by
  unfold cAnd; rw [h1]
  cases x with
  | true => exact h2 rfl r h
  | false => cases h; rfl
theorem c_orO {o : Option Bool} {r : Bool} (h1 : p ε τ = some (x, τ1)) (h2 : x = false → ∀ y, o = some y → q ε τ1 = some (y, τ1)) (h : (if x = true then some true else o) = some r) : cOr p q ε τ = some (r, τ1) := by
  unfold cOr; rw [h1]
  cases x with
  | true => cases h; rfl
  | false => exact h2 rfl r h
theorem u_andO {o : Option Bool} {r : Bool} (h1 : a ε τ = some (.p (.bl x), τ1)) (h2 : x = true → ∀ y, o = some y → b ε τ1 = some (.p (.bl y), τ1)) (h : (if x = true then o else some false) = some r) : uAnd a b ε τ = some (.p (.bl r), τ1) := by
  unfold uAnd; rw [h1]
  cases x with
  | true => exact h2 rfl r h
  | false => cases h; rfl
theorem u_isiD {T : Ty} {d : D} {k : Bool} (h : a ε τ = some (.p d, τ1)) (h2 : isiD T d = some k) : uIsi T a ε τ = some (.p (.bl k), τ1) := by
  obtain ⟨t, h3, rfl⟩ := tyW_d h2
  exact u_isi h h3
theorem w_rngT1 {j : Int} (h : a ε τ = some (.p (.int j), τ1)) {l : List Int} (h2 : rngO 0 j = some l) : uRng1 a ε τ = some (l.map D.int, τ1) := by
  unfold rngO at h2
  split at h2
  · rename_i c
    cases h2; rw [rngT_map]
    exact w_rng1 h (by rw [Bool.and_eq_true] at c; exact c.2)
  · cases h2
def enT : Nat → List α → List (Int × α)
  | _, [] => []
  | n, x :: l => ((n : Int), x) :: enT (n + 1) l
theorem enT_map {e : α → D} : ∀ (n : Nat) (l : List α), (enT n l).map (eP2 D.int e) = enD n (l.map e)
  | _, [] => rfl
  | n, x :: l => by
    rw [List.map_cons]
    unfold enT enD
    rw [List.map_cons, enT_map (n + 1) l]; rfl
theorem w_enumT {e : α → D} {l : List α} (h : a ε τ = some (.p (eT e l), τ1)) : uEnum a ε τ = some ((enT 0 l).map (eP2 D.int e), τ1) := by
  unfold uEnum; rw [h, enT_map]; rfl
def apnO (l : List α) (x : α) : Option (List α) := if l.length < 1000000 then some (l ++ [x]) else none
end
section
variable {Post : γ → Option URes → Prop} {ε : VEnv} {τ τ1 : Tape} {u : US} {a b : UE} {i : Nat}
theorem p_app {Q : γ → Option URes → Prop} {e : α → D} {l : List α} {x : α} {F : List α → Option γ} (h1 : ε[i]? = some (some (.l (l.map e)))) (h : a ε τ = some (.p (e x), τ1)) (k : ∀ r, apnO l x = some r → PO Q (F r) (u (ε.set i (some (.l (r.map e)))) τ1)) : PO Q (obn (apnO l x) F) (tSeq (tApp i a) u ε τ) :=
  po_obn fun r hr => by
    have hr' := hr
    unfold apnO at hr'
    split at hr'
    · rename_i c
      cases hr'
      exact p_eq (Post := PO Q) (t_apps h1 h (app_l (by rw [List.length_map]; exact c)) rfl rfl) (by have := k _ hr; rw [List.map_append] at this; exact this)
    · cases hr'
theorem p_ext {Q : γ → Option URes → Prop} {e : α → D} {l m : List α} {F : List α → Option γ} (h1 : ε[i]? = some (some (.l (l.map e)))) (h : a ε τ = some (.l (m.map e), τ1)) (k : ∀ r, appO l m = some r → PO Q (F r) (u (ε.set i (some (.l (r.map e)))) τ1)) : PO Q (obn (appO l m) F) (tSeq (tExt i a) u ε τ) :=
  po_obn fun r hr => by
    obtain ⟨c, rfl⟩ := appO_ok hr
    refine p_eq (Post := PO Q) (t_seq (ε1 := ε.set i (some (.l ((l ++ m).map e)))) (τ1 := τ1) ?_ rfl) (k _ hr)
    unfold tExt
    rw [h1]; dsimp only; rw [h]; dsimp only
    rw [List.length_map, List.length_map, if_pos c, List.map_append]
end
end
end Mini
end
section
namespace Mini
open PySem L2
section
variable {α β γ δ : Type}
section
variable {g g1 : VG} {p p1 : UB} {a : UE} {w1 : UW} {vs1 : List Nat} {ε : VEnv} {τ : Tape} {e : α → D} {e1 : γ → D} {f : β → D}
end
section
variable {ε : VEnv} {τ τ1 τ2 τ3 : Tape} {a b : UE} {w z : W} {lo hi : UO} {l u : Option Int}
theorem co_w {w1 w2 : W} (h : w1 = w2) (p : a ε τ = some (w1, τ1)) : a ε τ = some (w2, τ1) := h ▸ p
theorem co_T {e1 : α → D} {e2 : β → D} (f : α → β) (h : ∀ x, e2 (f x) = e1 x) {l : List α} (p : a ε τ = some (.p (eT e1 l), τ1)) : a ε τ = some (.p (eT e2 (l.map f)), τ1) :=
  co_w (by unfold eT; rw [List.map_map]; congr 2; exact List.map_congr_left fun x _ => (h x).symm) p
theorem itD_ok {d : D} {ds : List D} (h : itD d = some ds) : d = eT eD ds := by
  cases d <;> first | (cases h; unfold eT; rw [map_eD]) | cases h
end
theorem fnT_rt {b : Bool} {t : List Int} {X : Option URes} (h : FnT (fun x => W.p (D.bl x)) (b, t) X) : X = some (.rt (.p (.bl b)) (some t)) := by
  unfold FnT uends at h
  split at h <;> first | (cases h; rfl) | cases h
theorem wIs_b {b v : Bool} : wIs (.p (.bl b)) (.p (.bl v)) = some (.p (.bl (b == v))) := by cases b <;> cases v <;> rfl
theorem wIsNot_b {b v : Bool} : wIsNot (.p (.bl b)) (.p (.bl v)) = some (.p (.bl (b != v))) := by cases b <;> cases v <;> rfl
end
end Mini
end
section
namespace Mini
open PySem L2
section
variable {α β γ δ ι : Type}
class EmT {α : Type} (e : α → D) : Prop where
  tup : ∀ a, isTupD (e a) = true
instance {e : α → D} : EmT (eT e) := ⟨fun a => rfl⟩
instance {e : α → D} : EmT (eP1 e) := ⟨fun a => rfl⟩
instance {e : α → D} {f : β → D} : EmT (eP2 e f) := ⟨fun a => rfl⟩
instance {e : α → D} {f : β → D} {g : γ → D} : EmT (eP3 e f g) := ⟨fun a => rfl⟩
instance {e : α → D} {f : β → D} {g : γ → D} {h : δ → D} : EmT (eP4 e f g h) := ⟨fun a => rfl⟩
instance {e : α → D} {f : β → D} {g : γ → D} {h : δ → D} {i : ι → D} : EmT (eP5 e f g h i) := ⟨fun a => rfl⟩
def dedE [DecidableEq α] : List α → List α
  | [] => []
  | x :: r => if inL x r = true then dedE r else x :: dedE r
theorem mem_dedE [DecidableEq α] {x : α} : ∀ {l : List α}, x ∈ dedE l ↔ x ∈ l
  | [] => Iff.rfl
  | k :: r => by
    unfold dedE
    split
    · rename_i h
      rw [inL_iff] at h
      rw [mem_dedE, List.mem_cons]
      exact ⟨.inr, fun z => z.elim (fun e => e ▸ h) id⟩
    · rw [List.mem_cons, List.mem_cons, mem_dedE]
theorem any_eqB {e : α → D} [DecidableEq α] [Em e] {x : α} : ∀ {l : List α}, ((l.map e).any fun y => eqB (e x) y) = inL x l
  | [] => rfl
  | y :: r => by
    rw [List.map_cons, List.any_cons, any_eqB, Em.eq (e := e)]
    show (decide (x = y) || inL x r) = (decide (y = x) || inL x r)
    rw [decide_eq_decide.mpr ⟨Eq.symm, Eq.symm⟩]
theorem dedD_map {e : α → D} [DecidableEq α] [Em e] : ∀ l : List α, dedD (l.map e) = (dedE l).map e
  | [] => rfl
  | x :: r => by
    rw [List.map_cons]
    unfold dedD dedE
    rw [any_eqB, dedD_map r]
    split
    · rfl
    · rfl
theorem setOkV_em {e : α → D} [DecidableEq α] [Em e] [EmA e] [EmT e] (h : Em.k e ≤ 8) {l : List α} (c : (dedE l).length ≤ 76) : setOkV (l.map e) = true := by
  unfold setOkV
  rw [dedD_map, List.length_map, decide_eq_true c, Bool.and_true, Bool.and_eq_true, Bool.and_eq_true]
  refine ⟨⟨?_, ?_⟩, ?_⟩
  · rw [List.all_eq_true]
    intro x hx
    obtain ⟨a, _, rfl⟩ := List.mem_map.mp hx
    exact EmT.tup a
  · rw [List.all_eq_true]
    intro x hx
    obtain ⟨a, _, rfl⟩ := List.mem_map.mp hx
    exact Em.dok a 8 h
  · rw [List.all_eq_true]
    intro x hx
    obtain ⟨a, _, rfl⟩ := List.mem_map.mp hx
    rw [List.all_eq_true]
    intro y hy
    obtain ⟨b, _, rfl⟩ := List.mem_map.mp hy
    exact EmA.al a b
def setN [DecidableEq α] (l : List α) : Option Int := if (dedE l).length ≤ 76 then some ((dedE l).length : Int) else none
theorem asI_tup {e : α → D} [EmT e] {x : α} {r : List α} : asInts ((x :: r).map e) = none ∧ asStrs ((x :: r).map e) = none := by
  have := EmT.tup (e := e) x
  rw [List.map_cons]
  cases h : e x with
  | tup ds => exact ⟨rfl, rfl⟩
  | _ => rw [h] at this; cases this
theorem wSetLen_em {e : α → D} [DecidableEq α] [Em e] [EmA e] [EmT e] (h : Em.k e ≤ 8) {l : List α} {n : Int} (c : setN l = some n) : ∃ m : Nat, wSetLen (l.map e) = some m ∧ n = m := by
  unfold setN at c
  split at c
  rotate_left
  · cases c
  rename_i c2
  cases c
  cases l with
  | nil => exact ⟨0, rfl, rfl⟩
  | cons x l =>
    obtain ⟨h1, h2⟩ := asI_tup (e := e) (x := x) (r := l)
    refine ⟨(dedE (x :: l)).length, ?_, rfl⟩
    unfold wSetLen
    rw [h1, h2]
    dsimp only
    rw [if_pos (setOkV_em h c2), dedD_map, List.length_map]
section
variable {a : UE} {ε : VEnv} {τ τ1 : Tape} {w : W}
theorem u_lenT {e : α → D} [DecidableEq α] [Em e] [EmA e] [EmT e] {l : List α} {n : Int} (h : a ε τ = some (w, τ1)) (h1 : itemsW w = some (l.map e)) (h2 : setN l = some n) (hk : Em.k e ≤ 8 := by decide) : uLenSet a ε τ = some (.p (.int n), τ1) := by
  obtain ⟨m, h3, rfl⟩ := wSetLen_em (e := e) hk h2
  unfold uLenSet; rw [h]; dsimp only; rw [h1]; dsimp only; rw [h3]
end
end
end Mini
end
section
namespace Mini
open PySem
section
variable {α β γ σ ρ : Type}
def TT (o : Option (α × List Int)) (P : α → Prop) : Prop := ∃ r t, o = some (r, t) ∧ P r
def OT (o : Option α) (P : α → Prop) : Prop := ∃ r, o = some r ∧ P r
theorem TT.imp {o : Option (α × List Int)} {P Q : α → Prop} (h : TT o P) (k : ∀ r, P r → Q r) : TT o Q := let ⟨r, t, e, p⟩ := h; ⟨r, t, e, k r p⟩
theorem OT.imp {o : Option α} {P Q : α → Prop} (h : OT o P) (k : ∀ r, P r → Q r) : OT o Q := let ⟨r, e, p⟩ := h; ⟨r, e, k r p⟩
theorem tt_some {r : α} {t : List Int} {P : α → Prop} (h : P r) : TT (some (r, t)) P := ⟨r, t, rfl, h⟩
theorem ot_some {r : α} {P : α → Prop} (h : P r) : OT (some r) P := ⟨r, rfl, h⟩
theorem tt_tbn {o : Option (α × List Int)} {P : α → Prop} {k : α → List Int → Option (β × List Int)} {Q : β → Prop} (h : TT o P) (g : ∀ r t, P r → TT (k r t) Q) : TT (tbn o k) Q := by
  obtain ⟨r, t, rfl, p⟩ := h
  exact g r t p
theorem tt_obn {o : Option α} {P : α → Prop} {k : α → Option (β × List Int)} {Q : β → Prop} (h : OT o P) (g : ∀ r, P r → TT (k r) Q) : TT (obn o k) Q := by
  obtain ⟨r, rfl, p⟩ := h
  exact g r p
theorem ot_obn {o : Option α} {P : α → Prop} {k : α → Option β} {Q : β → Prop} (h : OT o P) (g : ∀ r, P r → OT (k r) Q) : OT (obn o k) Q := by
  obtain ⟨r, rfl, p⟩ := h
  exact g r p
theorem tt_eq {o : Option α} {a : α} {k : α → Option (β × List Int)} {Q : β → Prop} (h : o = some a) (g : TT (k a) Q) : TT (obn o k) Q := by subst h; exact g
theorem ot_eq {o : Option α} {a : α} {k : α → Option β} {Q : β → Prop} (h : o = some a) (g : OT (k a) Q) : OT (obn o k) Q := by subst h; exact g
theorem tt_lett {a : α} {k : α → Option (β × List Int)} {Q : β → Prop} (g : TT (k a) Q) : TT (lett a k) Q := g
theorem tt_if {c : Bool} {x y : Option (β × List Int)} {Q : β → Prop} (h : c = true → TT x Q) (g : c = false → TT y Q) : TT (if c = true then x else y) Q := by
  cases c with
  | true => exact h rfl
  | false => exact g rfl
theorem ot_if {c : Bool} {x y : Option β} {Q : β → Prop} (h : c = true → OT x Q) (g : c = false → OT y Q) : OT (if c = true then x else y) Q := by
  cases c with
  | true => exact h rfl
  | false => exact g rfl
theorem tt_drw {m : Int} {t : List Int} (h : 0 < m) : TT (drw m t) fun d => 0 ≤ d ∧ d < m := by
  unfold drw
  rw [if_pos h]
  cases t with
  | nil => exact ⟨0, [], rfl, by omega, h⟩
  | cons x t => exact ⟨x % m, t, rfl, Int.emod_nonneg _ (by omega), Int.emod_lt_of_pos _ h⟩
inductive Each (R : α → β → Prop) : List α → List β → Prop
  | nil : Each R [] []
  | cons {a : α} {b : β} {l : List α} {m : List β} : R a b → Each R l m → Each R (a :: l) (b :: m)
theorem Each.length {R : α → β → Prop} : ∀ {l : List α} {m : List β}, Each R l m → l.length = m.length
  | _, _, .nil => rfl
  | _, _, .cons _ r => congrArg (· + 1) r.length
theorem Each.right {R : α → β → Prop} : ∀ {l : List α} {m : List β}, Each R l m → ∀ y ∈ m, ∃ x ∈ l, R x y
  | _, _, .nil, y, h => by cases h
  | _, _, .cons h r, y, hy => by
    rcases List.mem_cons.mp hy with rfl | hy
    · exact ⟨_, List.mem_cons_self, h⟩
    · obtain ⟨x, hx, k⟩ := r.right y hy
      exact ⟨x, List.mem_cons_of_mem _ hx, k⟩
theorem Each.imp {R S : α → β → Prop} (k : ∀ a b, R a b → S a b) : ∀ {l : List α} {m : List β}, Each R l m → Each S l m
  | _, _, .nil => .nil
  | _, _, .cons h r => .cons (k _ _ h) (r.imp k)
theorem tt_cmp {f : α → List Int → Option (Option β × List Int)} {R : α → β → Prop} : ∀ {l : List α} {t : List Int}, (∀ x ∈ l, ∀ t, TT (f x t) fun o => ∀ y, o = some y → R x y) → TT (cmpT f l t) fun r => ∃ m, m.Sublist l ∧ Each R m r
  | [], t, _ => ⟨[], t, rfl, [], .slnil, .nil⟩
  | x :: l, t, h => by
    obtain ⟨r, t2, e, h2⟩ := h x List.mem_cons_self t
    obtain ⟨rs, t3, e3, m, h3, h4⟩ := tt_cmp (l := l) (t := t2) fun y hy => h y (List.mem_cons_of_mem _ hy)
    unfold cmpT
    rw [e]; dsimp only [tbn]; rw [e3]
    cases r with
    | none => exact ⟨rs, t3, rfl, m, h3.cons x, h4⟩
    | some y => exact ⟨y :: rs, t3, rfl, x :: m, h3.cons_cons x, .cons (h2 y rfl) h4⟩
theorem each_eq : ∀ {l m : List α}, Each (fun x y => y = x) l m → m = l
  | _, _, .nil => rfl
  | _, _, .cons h r => by rw [h, each_eq r]
theorem tt_filter {f : α → List Int → Option (Option α × List Int)} {l : List α} {t : List Int} (h : ∀ x ∈ l, ∀ t, TT (f x t) fun o => ∀ y, o = some y → y = x) : TT (cmpT f l t) fun r => r.Sublist l :=
  (tt_cmp (R := fun x y => y = x) h).imp fun r ⟨m, h1, h2⟩ => each_eq h2 ▸ h1
def subs : List α → List (List α)
  | [] => [[]]
  | x :: l => subs l ++ (subs l).map (x :: ·)
theorem mem_subs {l m : List α} (h : m.Sublist l) : m ∈ subs l := by
  induction h with
  | slnil => exact List.mem_singleton.mpr rfl
  | cons a _ ih => exact List.mem_append_left _ ih
  | cons_cons a _ ih => exact List.mem_append_right _ (List.mem_map.mpr ⟨_, ih, rfl⟩)
theorem end_of {o : Option (Bool × List Int)} (h : TT o (· = true)) : ∃ t2, o = some (true, t2) := by
  obtain ⟨r, t, e, rfl⟩ := h
  exact ⟨t, e⟩
end
section
variable {α β γ σ ρ : Type}
theorem obn_ex {o : Option α} {k : α → Option β} {r : β} (h : obn o k = some r) : ∃ x, o = some x ∧ k x = some r := by
  cases o with
  | none => cases h
  | some x => exact ⟨x, rfl, h⟩
end
end Mini
end
section
namespace Mini
open PySem L2
class KI {κ : Type} (kf : κ → Key) : Prop where
  inj : ∀ a b, kf a = kf b → a = b
instance : KI (fun x : Str => (.inr x : Key)) := ⟨fun a b h => by cases h; rfl⟩
instance : KI (fun x : Int => (.inl x : Key)) := ⟨fun a b h => by cases h; rfl⟩
section
variable {κ α : Type} [DecidableEq κ] {kf : κ → Key} {e : α → D}
variable {o i f a b : UE} {ε : VEnv} {τ τ1 τ2 τ3 : Tape} {l : List (κ × α)} {k : κ} {v : α} {d : D}
end
end Mini
end
section
namespace Mini
open PySem L2
def strO (i : Int) : Option Str := if 0 ≤ i ∧ i < 1000 then some (numT i) else none
theorem wStr_i {i : Int} {r : Str} (h : strO i = some r) : wStr [.p (.int i)] = some (.p (.str r)) := by
  unfold strO at h
  split at h
  · rename_i c; cases h; unfold wStr; dsimp only; rw [if_pos c]
  · cases h
end Mini
end
section
namespace Mini
open PySem L2
variable {a : UE} {ε : VEnv} {τ τ1 : Tape}
def eqLO (xs ys : List D) : Option Bool := if (D.doks 100 xs && D.doks 100 ys) = true then some (eqBs xs ys) else none
theorem wEqL_d {xs ys : List D} {b y : Bool} (h : eqLO xs ys = some b) : wEqL y (.l (xs.map eD)) (.l (ys.map eD)) = some (.p (.bl (b == y))) := by
  rw [map_eD, map_eD]
  unfold eqLO at h
  unfold wEqL
  dsimp only
  split at h
  · rename_i c
    cases h
    rw [if_pos c]
  · cases h
theorem u_setDD {w : W} {ys r : List D} (h : a ε τ = some (w, τ1)) (h1 : itemsW w = some (ys.map eD)) (h2 : wSetSort ys = some r) : uSortSetC a ε τ = some (.l (r.map eD), τ1) := by
  rw [map_eD] at h1
  unfold uSortSetC; rw [h]; dsimp only; rw [h1]; dsimp only; rw [h2]; rw [map_eD]
end Mini
end
section
namespace Mini
open PySem L2
theorem wIntS_s {a : Str} {n : Int} (h : intSO a = some n) : wIntS [.p (.str a)] = some (.p (.int n)) := by
  unfold wIntS; dsimp only; rw [h]
def setLO (l : List D) : Option Int := match wSetLen l with
  | some n => some (n : Int)
  | none => none
theorem u_lenDD {a : UE} {ε : VEnv} {τ τ1 : Tape} {w : W} {l : List D} {n : Int} (h : a ε τ = some (w, τ1)) (h1 : itemsW w = some (l.map eD)) (h2 : setLO l = some n) : uLenSet a ε τ = some (.p (.int n), τ1) := by
  rw [map_eD] at h1
  unfold setLO at h2
  split at h2
  · rename_i m hm
    cases h2
    unfold uLenSet; rw [h]; dsimp only; rw [h1]; dsimp only; rw [hm]
  · cases h2
end Mini
end
section
set_option maxHeartbeats 4000000
namespace K18
open PySem PySem.Spec PyProof.Rows L2 GxR He NdefX Mini
def top (i : Nat) : Stmt := PySem.Challenge.pw_proofabode_k18_equations_by_twos.main.body.getD i (.Pass ⟨0, 0, 0, 0⟩)
abbrev s0 : Stmt := top 1
abbrev s1 : Stmt := top 3
abbrev s2 : Stmt := top 5
abbrev s3 : Stmt := top 6
abbrev s4 : Stmt := top 7
abbrev s5 : Stmt := top 8
abbrev s6 : Stmt := top 9
abbrev s7 : Stmt := top 10
abbrev s8 : Stmt := top 11
abbrev s9 : Stmt := top 12
abbrev s10 : Stmt := top 13
abbrev s11 : Stmt := top 15
abbrev s12 : Stmt := top 16
abbrev s13 : Stmt := top 17
abbrev s14 : Stmt := top 18
abbrev s15 : Stmt := top 19
abbrev s16 : Stmt := top 20
abbrev s17 : Stmt := top 21
abbrev s18 : Stmt := top 22
abbrev s19 : Stmt := top 23
abbrev s20 : Stmt := top 24
abbrev s21 : Stmt := top 25
def m0 (T : Nat → List D → Sto → Option (D × Sto)) : XS := (sSeq (sRet (xAnd (xIsi .int (xVar 0)) (xAnd (xNot (xIsi .bool (xVar 0))) (xOp fGe (xVar 0) (xC (.int 0)))))) sNil)
theorem sc0 : FnScope ["value"] ["value"] (defScope s0) := ⟨rfl, rfl, rfl, by decide +kernel, rfl, by decide +kernel, by decide +kernel⟩
def m1 (T : Nat → List D → Sto → Option (D × Sto)) : XS := (sSeq (sAsg (xAll mkLst (xCons (xAll mkTup xNil) xNil)) (gN 1)) (sSeq (sFor (wAny (xVar 0)) (gN 2) (sSeq (sExpr (xMet okList fExt (xVar 1) (xCons (xLc (wAny (xVar 1)) [3] (gN 3) bYes (xOp fPlus (xVar 3) (xAll mkTup (xCons (xVar 2) xNil)))) xNil))) sNil)) (sSeq (sRet (xAll fSortA (xCons (xVar 1) xNil))) sNil)))
theorem sc1 : FnScope ["names", "found", "name", "row"] ["names"] (defScope s1) := ⟨rfl, rfl, rfl, by decide +kernel, rfl, by decide +kernel, by decide +kernel⟩
def m2 (T : Nat → List D → Sto → Option (D × Sto)) : XS := (sSeq (sRet (xAll fTup (xCons (xAll fSortA (xCons (xOp fPlus (xLc (wAny (xVar 0)) [2] (gN 2) (bVal (xOp fNotIn (xVar 2) (xVar 1))) (xVar 2)) (xLc (wAny (xVar 1)) [2] (gN 2) (bVal (xOp fNotIn (xVar 2) (xVar 0))) (xVar 2))) xNil)) xNil))) sNil)
theorem sc2 : FnScope ["one", "two", "name"] ["one", "two"] (defScope s2) := ⟨rfl, rfl, rfl, by decide +kernel, rfl, by decide +kernel, by decide +kernel⟩
def m3 (T : Nat → List D → Sto → Option (D × Sto)) : XS := (sSeq (sRet (xOp fEq (xOp fMod (xAll fLen (xCons (xLc (wAny (xOp fIx (xVar 0) (xC (.int 0)))) [2] (gN 2) (bVal (xOp fIn (xVar 2) (xVar 1))) (xVar 2)) xNil)) (xC (.int 2))) (xOp fIx (xVar 0) (xC (.int 1))))) sNil)
theorem sc3 : FnScope ["equation", "row", "name"] ["equation", "row"] (defScope s3) := ⟨rfl, rfl, rfl, by decide +kernel, rfl, by decide +kernel, by decide +kernel⟩
def m4 (T : Nat → List D → Sto → Option (D × Sto)) : XS := (sSeq (sAsg (xAll mkTup xNil) (gN 2)) (sSeq (sAsg (xC (.int 0)) (gN 3)) (sSeq (sFor (wAny (xVar 1)) (gN 4) (sSeq (sAsg (xCall 2 (T 2) (xCons (xVar 2) (xCons (xOp fIx (xOp fIx (xVar 0) (xVar 4)) (xC (.int 0))) xNil))) (gN 2)) (sSeq (sAsg (xOp fMod (xOp fPlus (xVar 3) (xOp fIx (xOp fIx (xVar 0) (xVar 4)) (xC (.int 1)))) (xC (.int 2))) (gN 3)) sNil))) (sSeq (sRet (xAll mkTup (xCons (xVar 2) (xCons (xVar 3) xNil)))) sNil))))
theorem sc4 : FnScope ["equations", "lot", "names", "total", "number"] ["equations", "lot"] (defScope s4) := ⟨rfl, rfl, rfl, by decide +kernel, rfl, by decide +kernel, by decide +kernel⟩
def m5 (T : Nat → List D → Sto → Option (D × Sto)) : XS := (sSeq (sAsg (xAll mkLst xNil) (gN 1)) (sSeq (sFor (wEnum (xVar 0)) (gT 2 (gsC (gN 2) (gsC (gT 2 (gsC (gN 3) (gsC (gN 4) gsN))) gsN))) (sSeq (sAsg (xAll mkTup (xCons (xVar 2) xNil)) (gN 5)) (sSeq (sFor (wAny (xVar 1)) (gT 3 (gsC (gN 6) (gsC (gN 7) (gsC (gN 8) gsN)))) (sSeq (sIf (bAnd (bTru (xVar 6)) (bVal (xOp fIn (xOp fIx (xVar 6) (xC (.int 0))) (xVar 3)))) (sSeq (sAsg (xAll mkTup (xCons (xCall 2 (T 2) (xCons (xVar 3) (xCons (xVar 6) xNil))) (xCons (xOp fMod (xOp fPlus (xVar 4) (xVar 7)) (xC (.int 2))) (xCons (xCall 2 (T 2) (xCons (xVar 5) (xCons (xVar 8) xNil))) xNil)))) (gT 3 (gsC (gN 3) (gsC (gN 4) (gsC (gN 5) gsN))))) sNil) sNil) sNil)) (sSeq (sIf (bTru (xVar 3)) (sSeq (sAsg (xOp fPlus (xLc (wAny (xVar 1)) [9] (gN 9) bYes (xCall 2 (T 6) (xCons (xVar 9) (xCons (xAll mkTup (xCons (xVar 3) (xCons (xVar 4) (xCons (xVar 5) xNil)))) xNil)))) (xAll mkLst (xCons (xAll mkTup (xCons (xVar 3) (xCons (xVar 4) (xCons (xVar 5) xNil)))) xNil))) (gN 1)) sNil) (sSeq (sExpr (xMet okList fApp (xVar 1) (xCons (xAll mkTup (xCons (xVar 3) (xCons (xVar 4) (xCons (xVar 5) xNil)))) xNil))) sNil)) sNil)))) (sSeq (sRet (xVar 1)) sNil)))
theorem sc5 : FnScope ["equations", "found", "number", "names", "total", "lot", "known", "value", "own", "row"] ["equations"] (defScope s5) := ⟨rfl, rfl, rfl, by decide +kernel, rfl, by decide +kernel, by decide +kernel⟩
def m6 (T : Nat → List D → Sto → Option (D × Sto)) : XS := (sSeq (sIf (bVal (xOp fNotIn (xOp fIx (xOp fIx (xVar 1) (xC (.int 0))) (xC (.int 0))) (xOp fIx (xVar 0) (xC (.int 0))))) (sSeq (sRet (xVar 0)) sNil) sNil) (sSeq (sRet (xAll mkTup (xCons (xCall 2 (T 2) (xCons (xOp fIx (xVar 0) (xC (.int 0))) (xCons (xOp fIx (xVar 1) (xC (.int 0))) xNil))) (xCons (xOp fMod (xOp fPlus (xOp fIx (xVar 0) (xC (.int 1))) (xOp fIx (xVar 1) (xC (.int 1)))) (xC (.int 2))) (xCons (xCall 2 (T 2) (xCons (xOp fIx (xVar 0) (xC (.int 2))) (xCons (xOp fIx (xVar 1) (xC (.int 2))) xNil))) xNil))))) sNil))
theorem sc6 : FnScope ["row", "fresh"] ["row", "fresh"] (defScope s6) := ⟨rfl, rfl, rfl, by decide +kernel, rfl, by decide +kernel, by decide +kernel⟩
def m7 (T : Nat → List D → Sto → Option (D × Sto)) : XS := (sSeq (sAsg (xCall 1 (T 5) (xCons (xVar 0) xNil)) (gN 1)) (sSeq (sFor (wAny (xVar 1)) (gT 3 (gsC (gN 2) (gsC (gN 3) (gsC (gN 4) gsN)))) (sSeq (sIf (bAnd (bNot (bTru (xVar 2))) (bVal (xOp fEq (xVar 3) (xC (.int 1))))) (sSeq (sRet (xAll mkTup (xCons (xC (.str "lot")) (xCons (xVar 4) xNil)))) sNil) sNil) sNil)) (sSeq (sRet (xAll mkTup (xCons (xC (.str "row")) (xCons (xAll fTup (xCons (xAll fSortA (xCons (xLc (wAny (xVar 1)) [2, 3, 5] (gT 3 (gsC (gN 2) (gsC (gN 3) (gsC (gN 5) gsN)))) (bAnd (bTru (xVar 2)) (bVal (xOp fEq (xVar 3) (xC (.int 1))))) (xOp fIx (xVar 2) (xC (.int 0)))) xNil)) xNil)) xNil)))) sNil)))
theorem sc7 : FnScope ["equations", "rows", "names", "total", "lot", "_"] ["equations"] (defScope s7) := ⟨rfl, rfl, rfl, by decide +kernel, rfl, by decide +kernel, by decide +kernel⟩
def m8 (T : Nat → List D → Sto → Option (D × Sto)) : XS := (sSeq (sIf (bOr (bNot (bTru (xIsi .tuple (xVar 1)))) (bOr (bVal (xOp fNe (xAll fLen (xCons (xVar 1) xNil)) (xC (.int 2)))) (bNot (bTru (xIsi .str (xOp fIx (xVar 1) (xC (.int 0)))))))) (sSeq (sRet (xC (.bl false))) sNil) sNil) (sSeq (sIf (bNot (bTru (xIsi .tuple (xOp fIx (xVar 1) (xC (.int 1)))))) (sSeq (sRet (xC (.bl false))) sNil) sNil) (sSeq (sIf (bVal (xOp fEq (xOp fIx (xVar 1) (xC (.int 0))) (xC (.str "row")))) (sSeq (sIf (bOr (bNot (bTru (xQ true (wAny (xOp fIx (xVar 1) (xC (.int 1)))) [2] (gN 2) bYes (xIsi .str (xVar 2))))) (bVal (xOp fNe (xLenSet (xOp fIx (xVar 1) (xC (.int 1)))) (xAll fLen (xCons (xOp fIx (xVar 1) (xC (.int 1))) xNil))))) (sSeq (sRet (xC (.bl false))) sNil) sNil) (sSeq (sRet (xQ true (wAny (xVar 0)) [3] (gN 3) bYes (xCall 2 (T 3) (xCons (xVar 3) (xCons (xOp fIx (xVar 1) (xC (.int 1))) xNil))))) sNil)) sNil) (sSeq (sIf (bOr (bVal (xOp fNe (xOp fIx (xVar 1) (xC (.int 0))) (xC (.str "lot")))) (bNot (bTru (xQ true (wAny (xOp fIx (xVar 1) (xC (.int 1)))) [4] (gN 4) bYes (xAnd (xCall 1 (T 0) (xCons (xVar 4) xNil)) (xOp fLtB (xVar 4) (xAll fLen (xCons (xVar 0) xNil)))))))) (sSeq (sRet (xC (.bl false))) sNil) sNil) (sSeq (sRet (xAnd (xOp fEq (xLenSet (xOp fIx (xVar 1) (xC (.int 1)))) (xAll fLen (xCons (xOp fIx (xVar 1) (xC (.int 1))) xNil))) (xOp fEq (xCall 2 (T 4) (xCons (xVar 0) (xCons (xOp fIx (xVar 1) (xC (.int 1))) xNil))) (xAll mkTup (xCons (xAll mkTup xNil) (xCons (xC (.int 1)) xNil)))))) sNil)))))
theorem sc8 : FnScope ["equations", "paper", "name", "equation", "number"] ["equations", "paper"] (defScope s8) := ⟨rfl, rfl, rfl, by decide +kernel, rfl, by decide +kernel, by decide +kernel⟩
def m9 (T : Nat → List D → Sto → Option (D × Sto)) : XS := (sSeq (sRet (xAll fLen (xCons (xLc (wAny (xCall 1 (T 5) (xCons (xTG (wAny (xVar 0)) [1, 2] (gT 2 (gsC (gN 1) (gsC (gN 2) gsN))) bYes (xAll mkTup (xCons (xVar 1) (xCons (xC (.int 0)) xNil)))) xNil))) [1, 2] (gT 3 (gsC (gN 1) (gsC (gN 2) (gsC (gN 2) gsN)))) (bTru (xVar 1)) (xVar 1)) xNil))) sNil)
theorem sc9 : FnScope ["equations", "names", "_"] ["equations"] (defScope s9) := ⟨rfl, rfl, rfl, by decide +kernel, rfl, by decide +kernel, by decide +kernel⟩
def m10 (T : Nat → List D → Sto → Option (D × Sto)) : XS := (sSeq (sRet (xTG (wAny (xCall 1 (T 1) (xCons (xVar 0) xNil))) [2] (gN 2) (bTru (xQ true (wAny (xVar 1)) [3] (gN 3) bYes (xCall 2 (T 3) (xCons (xVar 3) (xCons (xVar 2) xNil))))) (xVar 2))) sNil)
theorem sc10 : FnScope ["names", "equations", "row", "equation"] ["names", "equations"] (defScope s10) := ⟨rfl, rfl, rfl, by decide +kernel, rfl, by decide +kernel, by decide +kernel⟩
def m11 (T : Nat → List D → Sto → Option (D × Sto)) : XS := (sSeq (sRet (xAll fTup (xCons (xAll fSortA (xCons (xOp fPlus (xLc (wAny (xVar 0)) [2] (gN 2) (bVal (xOp fNotIn (xVar 2) (xVar 1))) (xVar 2)) (xLc (wAny (xVar 1)) [2] (gN 2) (bVal (xOp fNotIn (xVar 2) (xVar 0))) (xVar 2))) xNil)) xNil))) sNil)
theorem sc11 : FnScope ["one", "two", "x"] ["one", "two"] (defScope s11) := ⟨rfl, rfl, rfl, by decide +kernel, rfl, by decide +kernel, by decide +kernel⟩
def m12 (T : Nat → List D → Sto → Option (D × Sto)) : XS := (sSeq (sRet (xAll mkLst (xCons (xCall 3 (T 13) (xCons (xVar 0) (xCons (xVar 1) (xCons (xVar 2) xNil)))) (xCons (xC (.int 0)) xNil)))) sNil)
theorem sc12 : FnScope ["script", "first", "last"] ["script", "first", "last"] (defScope s12) := ⟨rfl, rfl, rfl, by decide +kernel, rfl, by decide +kernel, by decide +kernel⟩
def m13 (T : Nat → List D → Sto → Option (D × Sto)) : XS := (sSeq (sAsg (xAll mkLst xNil) (gN 3)) (sSeq (sFor (wRng2 (xVar 1) (xVar 2)) (gN 4) (sSeq (sAsg (xCall 2 (T 14) (xCons (xVar 0) (xCons (xVar 4) xNil))) (gN 5)) (sSeq (sIf (bVal (xOp fLt (xVar 5) (xC (.int 0)))) (sSeq (sAsg (xOp fSub (xC (.int 1)) (xOp fMul (xC (.int 2)) (xVar 5))) (gN 5)) sNil) sNil) (sSeq (sIf (bVal (xOp fGe (xVar 5) (xOp fPow (xC (.int 10)) (xC (.int 18))))) (sSeq (sFor (wRng1 (xC (.int 60))) (gN 6) (sSeq (sIf (bVal (xOp fGt (xVar 5) (xC (.int 0)))) (sSeq (sExpr (xMet okList fApp (xVar 3) (xCons (xOp fMod (xAll fInt (xCons (xVar 5) xNil)) (xC (.int 1000))) xNil))) (sSeq (sAsg (xOp fDiv (xVar 5) (xC (.int 1000))) (gN 5)) sNil)) sNil) sNil)) sNil) (sSeq (sAsg (xOp fMod (xAll fInt (xCons (xOp fAdd (xOp fAdd (xOp fMul (xVar 5) (xC (.int 48271))) (xOp fMul (xVar 4) (xC (.int 69621)))) (xC (.int 11))) xNil)) (xC (.int 2147483647))) (gN 7)) (sSeq (sFor (wRng1 (xC (.int 12))) (gN 6) (sSeq (sAsg (xOp fMod (xAll fInt (xCons (xOp fAdd (xOp fAdd (xOp fMul (xVar 7) (xC (.int 16807))) (xOp fMul (xC (.int 7)) (xVar 6))) (xC (.int 1))) xNil)) (xC (.int 2147483647))) (gN 7)) (sSeq (sExpr (xMet okList fApp (xVar 3) (xCons (xOp fMod (xAll fInt (xCons (xOp fDiv (xVar 7) (xC (.int 997))) xNil)) (xC (.int 1000))) xNil))) sNil))) sNil))) sNil)))) (sSeq (sRet (xVar 3)) sNil)))
theorem sc13 : FnScope ["script", "first", "last", "digits", "k", "cell", "turn", "seed"] ["script", "first", "last"] (defScope s13) := ⟨rfl, rfl, rfl, by decide +kernel, rfl, by decide +kernel, by decide +kernel⟩
def m14 (T : Nat → List D → Sto → Option (D × Sto)) : XS := (sSeq (sIf (bVal (xOp fLt (xVar 1) (xAll fLen (xCons (xVar 0) xNil)))) (sSeq (sRet (xOp fIx (xVar 0) (xVar 1))) sNil) sNil) (sSeq (sRet (xC (.int 0))) sNil))
theorem sc14 : FnScope ["script", "k"] ["script", "k"] (defScope s14) := ⟨rfl, rfl, rfl, by decide +kernel, rfl, by decide +kernel, by decide +kernel⟩
def m15 (T : Nat → List D → Sto → Option (D × Sto)) : XS := (sSeq (sAsg (xAll mkLst xNil) (gN 2)) (sSeq (sFor (wRng1 (xCall 2 (T 16) (xCons (xVar 0) (xCons (xOp fAdd (xVar 1) (xC (.int 1))) xNil)))) (gN 3) (sSeq (sExpr (xMet okList fApp (xVar 2) (xCons (xAll mkTup (xCons (xAll fTup (xCons (xLc (wAny (xAll mkLst (xCons (xC (.str "a")) (xCons (xC (.str "b")) (xCons (xC (.str "c")) (xCons (xC (.str "d")) (xCons (xC (.str "e")) xNil))))))) [4] (gN 4) (bVal (xOp fEq (xCall 2 (T 16) (xCons (xVar 0) (xCons (xC (.int 3)) xNil))) (xC (.int 0)))) (xVar 4)) xNil)) (xCons (xCall 2 (T 16) (xCons (xVar 0) (xCons (xC (.int 2)) xNil))) xNil))) xNil))) sNil)) (sSeq (sRet (xAll fTup (xCons (xVar 2) xNil))) sNil)))
theorem sc15 : FnScope ["box", "most", "found", "k", "name"] ["box", "most"] (defScope s15) := ⟨rfl, rfl, rfl, by decide +kernel, rfl, by decide +kernel, by decide +kernel⟩
def m16 (T : Nat → List D → Sto → Option (D × Sto)) : XS := (sSeq (sAsg (xOp fIx (xVar 0) (xC (.int 1))) (gN 2)) (sSeq (sPut fPut (xOp fAdd (xVar 2) (xC (.int 1))) (xVar 0) (xC (.int 1))) (sSeq (sIf (bVal (xOp fLt (xVar 2) (xAll fLen (xCons (xOp fIx (xVar 0) (xC (.int 0))) xNil)))) (sSeq (sRet (xOp fMod (xAll fInt (xCons (xOp fIx (xOp fIx (xVar 0) (xC (.int 0))) (xVar 2)) xNil)) (xVar 1))) sNil) sNil) (sSeq (sRet (xC (.int 0))) sNil))))
theorem sc16 : FnScope ["box", "many", "at"] ["box", "many"] (defScope s16) := ⟨rfl, rfl, rfl, by decide +kernel, rfl, by decide +kernel, by decide +kernel⟩
def m17 (T : Nat → List D → Sto → Option (D × Sto)) : XS := (sSeq (sAsg (xAll mkLst (xCons (xAll mkTup xNil) xNil)) (gN 1)) (sSeq (sFor (wAny (xVar 0)) (gN 2) (sSeq (sAsg (xOp fPlus (xVar 1) (xLc (wAny (xVar 1)) [3] (gN 3) bYes (xOp fPlus (xVar 3) (xAll mkTup (xCons (xVar 2) xNil))))) (gN 1)) sNil)) (sSeq (sRet (xAll fSortA (xCons (xVar 1) xNil))) sNil)))
theorem sc17 : FnScope ["names", "rows", "name", "row"] ["names"] (defScope s17) := ⟨rfl, rfl, rfl, by decide +kernel, rfl, by decide +kernel, by decide +kernel⟩
def m18 (T : Nat → List D → Sto → Option (D × Sto)) : XS := (sSeq (sAsg (xAll fLen (xCons (xLc (wAny (xOp fIx (xVar 0) (xC (.int 0)))) [3] (gN 3) (bVal (xOp fIn (xVar 3) (xVar 1))) (xVar 3)) xNil)) (gN 2)) (sSeq (sRet (xOp fEq (xOp fSub (xVar 2) (xOp fMul (xC (.int 2)) (xOp fDiv (xVar 2) (xC (.int 2))))) (xOp fIx (xVar 0) (xC (.int 1))))) sNil))
theorem sc18 : FnScope ["equation", "row", "many", "name"] ["equation", "row"] (defScope s18) := ⟨rfl, rfl, rfl, by decide +kernel, rfl, by decide +kernel, by decide +kernel⟩
def m19 (T : Nat → List D → Sto → Option (D × Sto)) : XS := (sSeq (sIf (bTru (xIsi .tuple (xVar 1))) (sSeq (sIf (bOr (bNot (bTru (xIsi .tuple (xVar 0)))) (bVal (xOp fNe (xAll fLen (xCons (xVar 0) xNil)) (xAll fLen (xCons (xVar 1) xNil))))) (sSeq (sRet (xC (.bl false))) sNil) sNil) (sSeq (sFor (wRng1 (xAll fLen (xCons (xVar 1) xNil))) (gN 2) (sSeq (sIf (bNot (bTru (xCall 2 (T 19) (xCons (xOp fIx (xVar 0) (xVar 2)) (xCons (xOp fIx (xVar 1) (xVar 2)) xNil))))) (sSeq (sRet (xC (.bl false))) sNil) sNil) sNil)) (sSeq (sRet (xC (.bl true))) sNil))) sNil) (sSeq (sIf (bVal (xOp fIs (xVar 1) (xC .non))) (sSeq (sRet (xOp fIs (xVar 0) (xC .non))) sNil) sNil) (sSeq (sIf (bTru (xIsi .bool (xVar 1))) (sSeq (sRet (xAnd (xIsi .bool (xVar 0)) (xOp fEq (xVar 0) (xVar 1)))) sNil) sNil) (sSeq (sIf (bTru (xIsi .int (xVar 1))) (sSeq (sRet (xAnd (xIsi .int (xVar 0)) (xAnd (xNot (xIsi .bool (xVar 0))) (xOp fEq (xVar 0) (xVar 1))))) sNil) sNil) (sSeq (sRet (xAnd (xIsi .str (xVar 0)) (xOp fEq (xVar 0) (xVar 1)))) sNil)))))
theorem sc19 : FnScope ["actual", "expected", "k"] ["actual", "expected"] (defScope s19) := ⟨rfl, rfl, rfl, by decide +kernel, rfl, by decide +kernel, by decide +kernel⟩
def m20 (T : Nat → List D → Sto → Option (D × Sto)) : XS := (sSeq (sAsg (xAll mkTup xNil) (gN 2)) (sSeq (sAsg (xC (.int 0)) (gN 3)) (sSeq (sFor (wAny (xVar 1)) (gN 4) (sSeq (sAsg (xCall 2 (T 11) (xCons (xVar 2) (xCons (xOp fIx (xOp fIx (xVar 0) (xVar 4)) (xC (.int 0))) xNil))) (gN 2)) (sSeq (sAsg (xOp fPlus (xVar 3) (xOp fIx (xOp fIx (xVar 0) (xVar 4)) (xC (.int 1)))) (gN 3)) sNil))) (sSeq (sRet (xAnd (xOp fEq (xVar 2) (xAll mkTup xNil)) (xOp fEq (xOp fSub (xVar 3) (xOp fMul (xC (.int 2)) (xOp fDiv (xVar 3) (xC (.int 2))))) (xC (.int 1))))) sNil))))
theorem sc20 : FnScope ["equations", "lot", "names", "total", "k"] ["equations", "lot"] (defScope s20) := ⟨rfl, rfl, rfl, by decide +kernel, rfl, by decide +kernel, by decide +kernel⟩
def m21 (T : Nat → List D → Sto → Option (D × Sto)) : XS := (sSeq (sAsg (xCall 3 (T 12) (xCons (xVar 0) (xCons (xC (.int 0)) (xCons (xC (.int 62)) xNil)))) (gN 1)) (sSeq (sAsg (xCall 2 (T 15) (xCons (xVar 1) (xCons (xC (.int 7)) xNil))) (gN 2)) (sSeq (sAsg (xAll mkTup (xCons (xC (.str "a")) (xCons (xC (.str "b")) (xCons (xC (.str "c")) (xCons (xC (.str "d")) (xCons (xC (.str "e")) xNil)))))) (gN 3)) (sSeq (sAsg (xLc (wAny (xCall 1 (T 17) (xCons (xVar 3) xNil))) [11] (gN 11) (bVal (xOp fEq (xAll fLen (xCons (xLc (wAny (xVar 2)) [13] (gN 13) (bNot (bTru (xCall 2 (T 18) (xCons (xVar 13) (xCons (xVar 11) xNil))))) (xVar 13)) xNil)) (xC (.int 0)))) (xVar 11)) (gN 4)) (sSeq (sIf (bNot (bTru (xCall 2 (T 19) (xCons (xCall 2 (T 10) (xCons (xVar 3) (xCons (xVar 2) xNil))) (xCons (xAll fTup (xCons (xVar 4) xNil)) xNil))))) (sSeq (sRet (xC (.bl false))) sNil) sNil) (sSeq (sAsg (xCall 1 (T 7) (xCons (xVar 2) xNil)) (gN 5)) (sSeq (sIf (bOr (bVal (xOp fIsNot (xCall 2 (T 8) (xCons (xVar 2) (xCons (xVar 5) xNil))) (xC (.bl true)))) (bVal (xOp fNe (xOp fEq (xOp fIx (xVar 5) (xC (.int 0))) (xC (.str "row"))) (xOp fGtA (xAll fLen (xCons (xVar 4) xNil)) (xC (.int 0)))))) (sSeq (sRet (xC (.bl false))) sNil) sNil) (sSeq (sIf (bAnd (bVal (xOp fEq (xOp fIx (xVar 5) (xC (.int 0))) (xC (.str "row")))) (bVal (xOp fNotIn (xOp fIx (xVar 5) (xC (.int 1))) (xVar 4)))) (sSeq (sRet (xC (.bl false))) sNil) sNil) (sSeq (sIf (bAnd (bVal (xOp fEq (xOp fIx (xVar 5) (xC (.int 0))) (xC (.str "lot")))) (bOr (bNot (bTru (xCall 2 (T 20) (xCons (xVar 2) (xCons (xOp fIx (xVar 5) (xC (.int 1))) xNil))))) (bVal (xOp (fEqL false) (xAll fList (xCons (xOp fIx (xVar 5) (xC (.int 1))) xNil)) (xSortSetC (xOp fIx (xVar 5) (xC (.int 1)))))))) (sSeq (sRet (xC (.bl false))) sNil) sNil) (sSeq (sAsg (xC (.int 1)) (gN 6)) (sSeq (sFor (wRng1 (xCall 1 (T 9) (xCons (xVar 2) xNil))) (gN 7) (sSeq (sAsg (xOp fMul (xVar 6) (xC (.int 2))) (gN 6)) sNil)) (sSeq (sAsg (xAll mkLst xNil) (gN 8)) (sSeq (sFor (wAny (xCall 1 (T 17) (xCons (xLc (wRng1 (xAll fLen (xCons (xVar 2) xNil))) [7] (gN 7) bYes (xAll fStr (xCons (xVar 7) xNil))) xNil))) (gN 9) (sSeq (sAsg (xAll mkTup xNil) (gN 10)) (sSeq (sFor (wAny (xVar 9)) (gN 7) (sSeq (sAsg (xCall 2 (T 11) (xCons (xVar 10) (xCons (xOp fIx (xOp fIx (xVar 2) (xAll fIntS (xCons (xVar 7) xNil))) (xC (.int 0))) xNil))) (gN 10)) sNil)) (sSeq (sExpr (xMet okList fApp (xVar 8) (xCons (xVar 10) xNil))) sNil)))) (sSeq (sIf (bVal (xOp fNe (xLenSet (xVar 8)) (xVar 6))) (sSeq (sRet (xC (.bl false))) sNil) sNil) (sSeq (sAsg (xOp fIx (xCall 1 (T 17) (xCons (xVar 3) xNil)) (xCall 2 (T 16) (xCons (xVar 1) (xCons (xC (.int 32)) xNil)))) (gN 11)) (sSeq (sIf (bNot (bTru (xCall 2 (T 19) (xCons (xCall 2 (T 8) (xCons (xVar 2) (xCons (xAll mkTup (xCons (xC (.str "row")) (xCons (xVar 11) xNil))) xNil))) (xCons (xOp fIn (xVar 11) (xVar 4)) xNil))))) (sSeq (sRet (xC (.bl false))) sNil) sNil) (sSeq (sAsg (xAll fTup (xCons (xLc (wRng1 (xAll fLen (xCons (xVar 2) xNil))) [7] (gN 7) (bVal (xOp fEq (xCall 2 (T 16) (xCons (xVar 1) (xCons (xC (.int 2)) xNil))) (xC (.int 0)))) (xVar 7)) xNil)) (gN 9)) (sSeq (sIf (bNot (bTru (xCall 2 (T 19) (xCons (xCall 2 (T 8) (xCons (xVar 2) (xCons (xAll mkTup (xCons (xC (.str "lot")) (xCons (xVar 9) xNil))) xNil))) (xCons (xCall 2 (T 20) (xCons (xVar 2) (xCons (xVar 9) xNil))) xNil))))) (sSeq (sRet (xC (.bl false))) sNil) sNil) (sSeq (sAsg (xOp fIx (xAll mkLst (xCons (xC .non) (xCons (xAll mkTup xNil) (xCons (xAll mkTup (xCons (xC (.str "row")) xNil)) (xCons (xAll mkTup (xCons (xC (.str "row")) (xCons (xC .non) xNil))) (xCons (xAll mkTup (xCons (xC (.str "row")) (xCons (xAll mkTup (xCons (xC (.str "a")) (xCons (xC (.str "a")) xNil))) xNil))) (xCons (xAll mkTup (xCons (xC (.str "lot")) (xCons (xAll mkTup (xCons (xC (.int 99)) xNil)) xNil))) (xCons (xAll mkTup (xCons (xC (.str "lot")) (xCons (xC .non) xNil))) (xCons (xAll mkTup (xCons (xC (.str "lot")) (xCons (xAll mkTup (xCons (xC (.int 0)) (xCons (xC (.int 0)) (xCons (xC (.int 0)) xNil)))) xNil))) (xCons (xAll mkTup (xCons (xC (.str "sum")) (xCons (xVar 9) xNil))) xNil)))))))))) (xCall 2 (T 16) (xCons (xVar 1) (xCons (xC (.int 9)) xNil)))) (gN 12)) (sSeq (sRet (xOp fIs (xCall 2 (T 8) (xCons (xVar 2) (xCons (xVar 12) xNil))) (xC (.bl false)))) sNil))))))))))))))))))))
theorem sc21 : FnScope ["script", "box", "equations", "names", "good", "paper", "many", "k", "sums", "lot", "left", "row", "wrong", "e"] ["script"] (defScope s21) := ⟨rfl, rfl, rfl, by decide +kernel, rfl, by decide +kernel, by decide +kernel⟩
def run : Nat → Nat → List D → Sto → Option (D × Sto)
  | 0, _ => fun _ _ => none
  | n + 1, i => match i with
    | 0 => fun ds S => ends (m0 (run n) (entry 1 ds) S)
    | 1 => fun ds S => ends (m1 (run n) (entry 4 ds) S)
    | 2 => fun ds S => ends (m2 (run n) (entry 3 ds) S)
    | 3 => fun ds S => ends (m3 (run n) (entry 3 ds) S)
    | 4 => fun ds S => ends (m4 (run n) (entry 5 ds) S)
    | 5 => fun ds S => ends (m5 (run n) (entry 10 ds) S)
    | 6 => fun ds S => ends (m6 (run n) (entry 2 ds) S)
    | 7 => fun ds S => ends (m7 (run n) (entry 6 ds) S)
    | 8 => fun ds S => ends (m8 (run n) (entry 5 ds) S)
    | 9 => fun ds S => ends (m9 (run n) (entry 3 ds) S)
    | 10 => fun ds S => ends (m10 (run n) (entry 4 ds) S)
    | 11 => fun ds S => ends (m11 (run n) (entry 3 ds) S)
    | 12 => fun ds S => ends (m12 (run n) (entry 3 ds) S)
    | 13 => fun ds S => ends (m13 (run n) (entry 8 ds) S)
    | 14 => fun ds S => ends (m14 (run n) (entry 2 ds) S)
    | 15 => fun ds S => ends (m15 (run n) (entry 5 ds) S)
    | 16 => fun ds S => ends (m16 (run n) (entry 3 ds) S)
    | 17 => fun ds S => ends (m17 (run n) (entry 4 ds) S)
    | 18 => fun ds S => ends (m18 (run n) (entry 4 ds) S)
    | 19 => fun ds S => ends (m19 (run n) (entry 3 ds) S)
    | 20 => fun ds S => ends (m20 (run n) (entry 5 ds) S)
    | 21 => fun ds S => ends (m21 (run n) (entry 14 ds) S)
    | _ => fun _ _ => none
structure Defs (K : PySem.W.Frag) (mg : Str → Option Value) where
  f0 : Addr
  d0 : FuncData
  F0 : Fun K "is_number" "is_number" s0 f0 d0
  k0 : Known K mg "is_number" f0 d0 ["value"]
  f1 : Addr
  d1 : FuncData
  F1 : Fun K "rows_of" "rows_of" s1 f1 d1
  k1 : Known K mg "rows_of" f1 d1 ["names"]
  f2 : Addr
  d2 : FuncData
  F2 : Fun K "added" "added" s2 f2 d2
  k2 : Known K mg "added" f2 d2 ["one", "two"]
  f3 : Addr
  d3 : FuncData
  F3 : Fun K "is_kept" "is_kept" s3 f3 d3
  k3 : Known K mg "is_kept" f3 d3 ["equation", "row"]
  f4 : Addr
  d4 : FuncData
  F4 : Fun K "sum_of" "sum_of" s4 f4 d4
  k4 : Known K mg "sum_of" f4 d4 ["equations", "lot"]
  f5 : Addr
  d5 : FuncData
  F5 : Fun K "reduced" "reduced" s5 f5 d5
  k5 : Known K mg "reduced" f5 d5 ["equations"]
  f6 : Addr
  d6 : FuncData
  F6 : Fun K "joined" "joined" s6 f6 d6
  k6 : Known K mg "joined" f6 d6 ["row", "fresh"]
  f7 : Addr
  d7 : FuncData
  F7 : Fun K "decide_equations" "decide_equations" s7 f7 d7
  k7 : Known K mg "decide_equations" f7 d7 ["equations"]
  f8 : Addr
  d8 : FuncData
  F8 : Fun K "judge_equations" "judge_equations" s8 f8 d8
  k8 : Known K mg "judge_equations" f8 d8 ["equations", "paper"]
  f9 : Addr
  d9 : FuncData
  F9 : Fun K "rank" "rank" s9 f9 d9
  k9 : Known K mg "rank" f9 d9 ["equations"]
  f10 : Addr
  d10 : FuncData
  F10 : Fun K "kept_rows" "kept_rows" s10 f10 d10
  k10 : Known K mg "kept_rows" f10 d10 ["names", "equations"]
  f11 : Addr
  d11 : FuncData
  F11 : Fun K "_law_plus" "_law_plus" s11 f11 d11
  k11 : Known K mg "_law_plus" f11 d11 ["one", "two"]
  f12 : Addr
  d12 : FuncData
  F12 : Fun K "_law_box" "_law_box" s12 f12 d12
  k12 : Known K mg "_law_box" f12 d12 ["script", "first", "last"]
  f13 : Addr
  d13 : FuncData
  F13 : Fun K "_law_digits" "_law_digits" s13 f13 d13
  k13 : Known K mg "_law_digits" f13 d13 ["script", "first", "last"]
  f14 : Addr
  d14 : FuncData
  F14 : Fun K "_law_cell" "_law_cell" s14 f14 d14
  k14 : Known K mg "_law_cell" f14 d14 ["script", "k"]
  f15 : Addr
  d15 : FuncData
  F15 : Fun K "_law_equations" "_law_equations" s15 f15 d15
  k15 : Known K mg "_law_equations" f15 d15 ["box", "most"]
  f16 : Addr
  d16 : FuncData
  F16 : Fun K "_law_draw" "_law_draw" s16 f16 d16
  k16 : Known K mg "_law_draw" f16 d16 ["box", "many"]
  f17 : Addr
  d17 : FuncData
  F17 : Fun K "_law_rows" "_law_rows" s17 f17 d17
  k17 : Known K mg "_law_rows" f17 d17 ["names"]
  f18 : Addr
  d18 : FuncData
  F18 : Fun K "_law_even" "_law_even" s18 f18 d18
  k18 : Known K mg "_law_even" f18 d18 ["equation", "row"]
  f19 : Addr
  d19 : FuncData
  F19 : Fun K "_law_same" "_law_same" s19 f19 d19
  k19 : Known K mg "_law_same" f19 d19 ["actual", "expected"]
  f20 : Addr
  d20 : FuncData
  F20 : Fun K "_law_comes" "_law_comes" s20 f20 d20
  k20 : Known K mg "_law_comes" f20 d20 ["equations", "lot"]
  f21 : Addr
  d21 : FuncData
  F21 : Fun K "law" "law" s21 f21 d21
  k21 : Known K mg "law" f21 d21 ["script"]
  z_all : mg "all" = none
  z_bool : mg "bool" = none
  z_enumerate : mg "enumerate" = none
  z_int : mg "int" = none
  z_isinstance : mg "isinstance" = none
  z_len : mg "len" = none
  z_list : mg "list" = none
  z_range : mg "range" = none
  z_set : mg "set" = none
  z_sorted : mg "sorted" = none
  z_str : mg "str" = none
  z_tuple : mg "tuple" = none
section
variable [Tabs] {P : Program} {w : World} {K : PySem.W.Frag} {mg : Str → Option Value} {base : Heap} {n : Nat}
structure CallsOk (t : Defs K mg) (P : Program) (w : World) (base : Heap) (n : Nat) (T : Nat → List D → Sto → Option (D × Sto)) : Prop where
  c0 : FnAt P w K mg base 3 n t.f0 t.d0 ["value"] (T 0)
  c1 : FnAt P w K mg base 3 n t.f1 t.d1 ["names"] (T 1)
  c2 : FnAt P w K mg base 3 n t.f2 t.d2 ["one", "two"] (T 2)
  c3 : FnAt P w K mg base 3 n t.f3 t.d3 ["equation", "row"] (T 3)
  c4 : FnAt P w K mg base 3 n t.f4 t.d4 ["equations", "lot"] (T 4)
  c5 : FnAt P w K mg base 3 n t.f5 t.d5 ["equations"] (T 5)
  c6 : FnAt P w K mg base 3 n t.f6 t.d6 ["row", "fresh"] (T 6)
  c7 : FnAt P w K mg base 3 n t.f7 t.d7 ["equations"] (T 7)
  c8 : FnAt P w K mg base 3 n t.f8 t.d8 ["equations", "paper"] (T 8)
  c9 : FnAt P w K mg base 3 n t.f9 t.d9 ["equations"] (T 9)
  c10 : FnAt P w K mg base 3 n t.f10 t.d10 ["names", "equations"] (T 10)
  c11 : FnAt P w K mg base 3 n t.f11 t.d11 ["one", "two"] (T 11)
  c12 : FnAt P w K mg base 3 n t.f12 t.d12 ["script", "first", "last"] (T 12)
  c13 : FnAt P w K mg base 3 n t.f13 t.d13 ["script", "first", "last"] (T 13)
  c14 : FnAt P w K mg base 3 n t.f14 t.d14 ["script", "k"] (T 14)
  c15 : FnAt P w K mg base 3 n t.f15 t.d15 ["box", "most"] (T 15)
  c16 : FnAt P w K mg base 3 n t.f16 t.d16 ["box", "many"] (T 16)
  c17 : FnAt P w K mg base 3 n t.f17 t.d17 ["names"] (T 17)
  c18 : FnAt P w K mg base 3 n t.f18 t.d18 ["equation", "row"] (T 18)
  c19 : FnAt P w K mg base 3 n t.f19 t.d19 ["actual", "expected"] (T 19)
  c20 : FnAt P w K mg base 3 n t.f20 t.d20 ["equations", "lot"] (T 20)
  c21 : FnAt P w K mg base 3 n t.f21 t.d21 ["script"] (T 21)
structure Tbs (t : Defs K mg) (base : Heap) : Prop where
  b8 : ∃ cc P, t.d8.code = .ref cc ∧ GxR.TabB base mg cc P ∧ Tabs.ts P
  b9 : ∃ cc P, t.d9.code = .ref cc ∧ GxR.TabB base mg cc P ∧ Tabs.ts P
  b10 : ∃ cc P, t.d10.code = .ref cc ∧ GxR.TabB base mg cc P ∧ Tabs.ts P
theorem ok0 {T : Nat → List D → Sto → Option (D × Sto)} (t : Defs K mg) (C : CallsOk t P w base n T) : FnAt P w K mg base 3 (n + 1) t.f0 t.d0 ["value"] (fun ds S => ends (m0 T (entry 1 ds) S)) := by
  have S := sc0
  refine fnAt_of (by decide) t.F0 S fun cdv A outer s H E hcd hr => ?_
  have hr : Rs 3 n 2 _ := hr
  exact as_body (rs_cons (rs_ret (r_and (r_isi .int (nm := "int") (by rfl) t.z_isinstance (by decide +kernel) (by rfl) t.z_int (by decide +kernel) (r_var 0 rfl (.inl rfl))) (r_and (r_notV (r_isi .bool (nm := "bool") (by rfl) t.z_isinstance (by decide +kernel) (by rfl) t.z_bool (by decide +kernel) (r_var 0 rfl (.inl rfl)))) (r_one (r_cmp op_ge om_ge (r_var 0 rfl (.inl rfl)) r_int (nomark _)))))) rs_nil) rfl rfl
theorem ok1 {T : Nat → List D → Sto → Option (D × Sto)} (t : Defs K mg) (C : CallsOk t P w base n T) : FnAt P w K mg base 3 (n + 1) t.f1 t.d1 ["names"] (fun ds S => ends (m1 T (entry 4 ds) S)) := by
  have S := sc1
  refine fnAt_of (by decide) t.F1 S fun cdv A outer s H E hcd hr => ?_
  have hr : Rs 3 n 2 _ := hr
  exact as_body (rs_cons (rs_asg (r_lst (ra_cons (r_tup ra_nil) ra_nil)) (rg_name 1 S.nd rfl (.inl rfl))) (rs_cons (rs_for PassesOwn.never rfl (rw_any (r_var 0 rfl (.inl rfl))) (rg_name 2 S.nd rfl (.inr rfl)) (rs_cons (rs_expr (r_met PySem.F.plainAttrs_list PySem.F.slot_list_extend PySem.F.type_list_extend mt_extend mm_ext okList_ty (r_var 1 rfl (.inl rfl)) (ra_cons (r_lc (N := ["names", "found", "name", "row"]) [("row", 3)] [3] (defScope s1) rfl S.nd rfl rfl rfl (by decide +kernel) (rw_any (r_var 1 rfl (.inl rfl))) (fun s H C' cl fp => (rgw_name 3 S.nd rfl (.inl rfl) (by decide))) (fun s H C' cl fp => rts_nil) (fun s H C' cl fp => (r_op orp_plus om_plus (r_var 3 rfl (.inl rfl)) (r_tup (ra_cons (r_var 2 rfl (.inr (.inl rfl))) ra_nil))))) ra_nil))) rs_nil)) (rs_cons (rs_ret (r_blt (cr_sortedA hr.un250) am_sortA (by rfl) t.z_sorted (by decide +kernel) (ra_cons (r_var 1 rfl (.inl rfl)) ra_nil))) rs_nil))) rfl rfl
theorem ok2 {T : Nat → List D → Sto → Option (D × Sto)} (t : Defs K mg) (C : CallsOk t P w base n T) : FnAt P w K mg base 3 (n + 1) t.f2 t.d2 ["one", "two"] (fun ds S => ends (m2 T (entry 3 ds) S)) := by
  have S := sc2
  refine fnAt_of (by decide) t.F2 S fun cdv A outer s H E hcd hr => ?_
  have hr : Rs 3 n 2 _ := hr
  exact as_body (rs_cons (rs_ret (r_typ call_tuple_of am_tup (by rfl) t.z_tuple (by decide +kernel) (ra_cons (r_blt (cr_sortedA hr.un250) am_sortA (by rfl) t.z_sorted (by decide +kernel) (ra_cons (r_op orp_plus om_plus (r_lc (N := ["one", "two", "name"]) [("name", 2)] [2] (defScope s2) rfl S.nd rfl rfl rfl (by decide +kernel) (rw_any (r_var 0 rfl (.inr (.inl rfl)))) (fun s H C' cl fp => (rgw_name 2 S.nd rfl (.inl rfl) (by decide))) (fun s H C' cl fp => (rts_one (r_tcmp (orp_notIn hr.un250) om_notIn (r_var 2 rfl (.inl rfl)) (r_var 1 rfl (.inr (.inl rfl))) (by with_unfolding_all rfl)))) (fun s H C' cl fp => (r_var 2 rfl (.inl rfl)))) (r_lc (N := ["one", "two", "name"]) [("name", 2)] [2] (defScope s2) rfl S.nd rfl rfl rfl (by decide +kernel) (rw_any (r_var 1 rfl (.inr (.inl rfl)))) (fun s H C' cl fp => (rgw_name 2 S.nd rfl (.inl rfl) (by decide))) (fun s H C' cl fp => (rts_one (r_tcmp (orp_notIn hr.un250) om_notIn (r_var 2 rfl (.inl rfl)) (r_var 0 rfl (.inr (.inl rfl))) (by with_unfolding_all rfl)))) (fun s H C' cl fp => (r_var 2 rfl (.inl rfl))))) ra_nil)) ra_nil))) rs_nil) rfl rfl
theorem ok3 {T : Nat → List D → Sto → Option (D × Sto)} (t : Defs K mg) (C : CallsOk t P w base n T) : FnAt P w K mg base 3 (n + 1) t.f3 t.d3 ["equation", "row"] (fun ds S => ends (m3 T (entry 3 ds) S)) := by
  have S := sc3
  refine fnAt_of (by decide) t.F3 S fun cdv A outer s H E hcd hr => ?_
  have hr : Rs 3 n 2 _ := hr
  exact as_body (rs_cons (rs_ret (r_cmp (orp_eq hr.un250) om_eq (r_op op_mod om_mod (r_blt call_len am_len (by rfl) t.z_len PySem.boot_len (ra_cons (r_lc (N := ["equation", "row", "name"]) [("name", 2)] [2] (defScope s3) rfl S.nd rfl rfl rfl (by decide +kernel) (rw_any (r_ix ix_seq om_ix (r_var 0 rfl (.inl rfl)) r_int (fun _ _ => rfl))) (fun s H C' cl fp => (rgw_name 2 S.nd rfl (.inl rfl) (by decide))) (fun s H C' cl fp => (rts_one (r_tcmp (orp_in hr.un250) om_in (r_var 2 rfl (.inl rfl)) (r_var 1 rfl (.inr (.inl rfl))) (by with_unfolding_all rfl)))) (fun s H C' cl fp => (r_var 2 rfl (.inl rfl)))) ra_nil)) r_int) (r_ix ix_seq om_ix (r_var 0 rfl (.inl rfl)) r_int (fun _ _ => rfl)) (nomark _))) rs_nil) rfl rfl
theorem ok4 {T : Nat → List D → Sto → Option (D × Sto)} (t : Defs K mg) (C : CallsOk t P w base n T) : FnAt P w K mg base 3 (n + 1) t.f4 t.d4 ["equations", "lot"] (fun ds S => ends (m4 T (entry 5 ds) S)) := by
  have S := sc4
  refine fnAt_of (by decide) t.F4 S fun cdv A outer s H E hcd hr => ?_
  have hr : Rs 3 n 2 _ := hr
  exact as_body (rs_cons (rs_asg (r_tup ra_nil) (rg_name 2 S.nd rfl (.inl rfl))) (rs_cons (rs_asg r_int (rg_name 3 S.nd rfl (.inl rfl))) (rs_cons (rs_for PassesOwn.never rfl (rw_any (r_var 1 rfl (.inl rfl))) (rg_name 4 S.nd rfl (.inl rfl)) (rs_cons (rs_asg (r_call C.c2 t.k2 hr (by rfl) 2 rfl (ra_cons (r_var 2 rfl (.inl rfl)) (ra_cons (r_ix ix_seq om_ix (r_ix ix_seq om_ix (r_var 0 rfl (.inl rfl)) (r_var 4 rfl (.inl rfl)) (fun _ _ => rfl)) r_int (fun _ _ => rfl)) ra_nil))) (rg_name 2 S.nd rfl (.inl rfl))) (rs_cons (rs_asg (r_op op_mod om_mod (r_op orp_plus om_plus (r_var 3 rfl (.inl rfl)) (r_ix ix_seq om_ix (r_ix ix_seq om_ix (r_var 0 rfl (.inl rfl)) (r_var 4 rfl (.inl rfl)) (fun _ _ => rfl)) r_int (fun _ _ => rfl))) r_int) (rg_name 3 S.nd rfl (.inl rfl))) rs_nil))) (rs_cons (rs_ret (r_tup (ra_cons (r_var 2 rfl (.inl rfl)) (ra_cons (r_var 3 rfl (.inl rfl)) ra_nil)))) rs_nil)))) rfl rfl
theorem ok5 {T : Nat → List D → Sto → Option (D × Sto)} (t : Defs K mg) (C : CallsOk t P w base n T) : FnAt P w K mg base 3 (n + 1) t.f5 t.d5 ["equations"] (fun ds S => ends (m5 T (entry 10 ds) S)) := by
  have S := sc5
  refine fnAt_of (by decide) t.F5 S fun cdv A outer s H E hcd hr => ?_
  have hr : Rs 3 n 2 _ := hr
  exact as_body (rs_cons (rs_asg (r_lst ra_nil) (rg_name 1 S.nd rfl (.inl rfl))) (rs_cons (rs_for PassesOwn.never rfl (rw_enum (by rfl) t.z_enumerate (r_var 0 rfl (.inl rfl))) (rg_tup rfl (rgs_cons (rg_name 2 S.nd rfl (.inl rfl)) (rgs_cons (rg_tup rfl (rgs_cons (rg_name 3 S.nd rfl (.inr rfl)) (rgs_cons (rg_name 4 S.nd rfl (.inr rfl)) rgs_nil))) rgs_nil))) (rs_cons (rs_asg (r_tup (ra_cons (r_var 2 rfl (.inl rfl)) ra_nil)) (rg_name 5 S.nd rfl (.inr rfl))) (rs_cons (rs_for PassesOwn.never rfl (rw_any (r_var 1 rfl (.inl rfl))) (rg_tup rfl (rgs_cons (rg_name 6 S.nd rfl (.inl rfl)) (rgs_cons (rg_name 7 S.nd rfl (.inl rfl)) (rgs_cons (rg_name 8 S.nd rfl (.inl rfl)) rgs_nil)))) (rs_cons (rs_if (rw_and (r_tru (r_var 6 rfl (.inl rfl)) (fun _ => rfl)) (rw_and1 (r_tcmp (orp_in hr.un250) om_in (r_ix ix_seq om_ix (r_var 6 rfl (.inl rfl)) r_int (fun _ _ => rfl)) (r_var 3 rfl (.inr (.inl rfl))) (by with_unfolding_all rfl)))).pt (rs_cons (rs_asg (r_tup (ra_cons (r_call C.c2 t.k2 hr (by rfl) 2 rfl (ra_cons (r_var 3 rfl (.inr (.inl rfl))) (ra_cons (r_var 6 rfl (.inl rfl)) ra_nil))) (ra_cons (r_op op_mod om_mod (r_op orp_plus om_plus (r_var 4 rfl (.inr (.inl rfl))) (r_var 7 rfl (.inl rfl))) r_int) (ra_cons (r_call C.c2 t.k2 hr (by rfl) 2 rfl (ra_cons (r_var 5 rfl (.inr (.inl rfl))) (ra_cons (r_var 8 rfl (.inl rfl)) ra_nil))) ra_nil)))) (rg_tup rfl (rgs_cons (rg_name 3 S.nd rfl (.inr rfl)) (rgs_cons (rg_name 4 S.nd rfl (.inr rfl)) (rgs_cons (rg_name 5 S.nd rfl (.inr rfl)) rgs_nil))))) rs_nil) rs_nil) rs_nil)) (rs_cons (rs_if (r_tru (r_var 3 rfl (.inr (.inl rfl))) (fun _ => rfl)) (rs_cons (rs_asg (r_op orp_plus om_plus (r_lc (N := ["equations", "found", "number", "names", "total", "lot", "known", "value", "own", "row"]) [("row", 9)] [9] (defScope s5) rfl S.nd rfl rfl rfl (by decide +kernel) (rw_any (r_var 1 rfl (.inl rfl))) (fun s H C' cl fp => (rgw_name 9 S.nd rfl (.inl rfl) (by decide))) (fun s H C' cl fp => rts_nil) (fun s H C' cl fp => (r_call C.c6 t.k6 hr (by rfl) 2 rfl (ra_cons (r_var 9 rfl (.inl rfl)) (ra_cons (r_tup (ra_cons (r_var 3 rfl (.inr (.inl rfl))) (ra_cons (r_var 4 rfl (.inr (.inl rfl))) (ra_cons (r_var 5 rfl (.inr (.inl rfl))) ra_nil)))) ra_nil))))) (r_lst (ra_cons (r_tup (ra_cons (r_var 3 rfl (.inr (.inl rfl))) (ra_cons (r_var 4 rfl (.inr (.inl rfl))) (ra_cons (r_var 5 rfl (.inr (.inl rfl))) ra_nil)))) ra_nil))) (rg_name 1 S.nd rfl (.inl rfl))) rs_nil) (rs_cons (rs_expr (r_met PySem.F.plainAttrs_list PySem.F.slot_list_append PySem.F.type_list_append mt_append mm_app okList_ty (r_var 1 rfl (.inl rfl)) (ra_cons (r_tup (ra_cons (r_var 3 rfl (.inr (.inl rfl))) (ra_cons (r_var 4 rfl (.inr (.inl rfl))) (ra_cons (r_var 5 rfl (.inr (.inl rfl))) ra_nil)))) ra_nil))) rs_nil)) rs_nil)))) (rs_cons (rs_ret (r_var 1 rfl (.inl rfl))) rs_nil))) rfl rfl
theorem ok6 {T : Nat → List D → Sto → Option (D × Sto)} (t : Defs K mg) (C : CallsOk t P w base n T) : FnAt P w K mg base 3 (n + 1) t.f6 t.d6 ["row", "fresh"] (fun ds S => ends (m6 T (entry 2 ds) S)) := by
  have S := sc6
  refine fnAt_of (by decide) t.F6 S fun cdv A outer s H E hcd hr => ?_
  have hr : Rs 3 n 2 _ := hr
  exact as_body (rs_cons (rs_if (r_tcmp (orp_notIn hr.un250) om_notIn (r_ix ix_seq om_ix (r_ix ix_seq om_ix (r_var 1 rfl (.inl rfl)) r_int (fun _ _ => rfl)) r_int (fun _ _ => rfl)) (r_ix ix_seq om_ix (r_var 0 rfl (.inl rfl)) r_int (fun _ _ => rfl)) (by with_unfolding_all rfl)) (rs_cons (rs_ret (r_var 0 rfl (.inl rfl))) rs_nil) rs_nil) (rs_cons (rs_ret (r_tup (ra_cons (r_call C.c2 t.k2 hr (by rfl) 2 rfl (ra_cons (r_ix ix_seq om_ix (r_var 0 rfl (.inl rfl)) r_int (fun _ _ => rfl)) (ra_cons (r_ix ix_seq om_ix (r_var 1 rfl (.inl rfl)) r_int (fun _ _ => rfl)) ra_nil))) (ra_cons (r_op op_mod om_mod (r_op orp_plus om_plus (r_ix ix_seq om_ix (r_var 0 rfl (.inl rfl)) r_int (fun _ _ => rfl)) (r_ix ix_seq om_ix (r_var 1 rfl (.inl rfl)) r_int (fun _ _ => rfl))) r_int) (ra_cons (r_call C.c2 t.k2 hr (by rfl) 2 rfl (ra_cons (r_ix ix_seq om_ix (r_var 0 rfl (.inl rfl)) r_int (fun _ _ => rfl)) (ra_cons (r_ix ix_seq om_ix (r_var 1 rfl (.inl rfl)) r_int (fun _ _ => rfl)) ra_nil))) ra_nil))))) rs_nil)) rfl rfl
theorem ok7 {T : Nat → List D → Sto → Option (D × Sto)} (t : Defs K mg) (C : CallsOk t P w base n T) : FnAt P w K mg base 3 (n + 1) t.f7 t.d7 ["equations"] (fun ds S => ends (m7 T (entry 6 ds) S)) := by
  have S := sc7
  refine fnAt_of (by decide) t.F7 S fun cdv A outer s H E hcd hr => ?_
  have hr : Rs 3 n 2 _ := hr
  exact as_body (rs_cons (rs_asg (r_call C.c5 t.k5 hr (by rfl) 1 rfl (ra_cons (r_var 0 rfl (.inl rfl)) ra_nil)) (rg_name 1 S.nd rfl (.inl rfl))) (rs_cons (rs_for PassesOwn.never rfl (rw_any (r_var 1 rfl (.inl rfl))) (rg_tup rfl (rgs_cons (rg_name 2 S.nd rfl (.inl rfl)) (rgs_cons (rg_name 3 S.nd rfl (.inl rfl)) (rgs_cons (rg_name 4 S.nd rfl (.inl rfl)) rgs_nil)))) (rs_cons (rs_if (rw_and (r_not (r_tru (r_var 2 rfl (.inl rfl)) (fun _ => rfl))) (rw_and1 (r_tcmp (orp_eq hr.un250) om_eq (r_var 3 rfl (.inl rfl)) r_int (nomark _)))).pt (rs_cons (rs_ret (r_tup (ra_cons r_str (ra_cons (r_var 4 rfl (.inl rfl)) ra_nil)))) rs_nil) rs_nil) rs_nil)) (rs_cons (rs_ret (r_tup (ra_cons r_str (ra_cons (r_typ call_tuple_of am_tup (by rfl) t.z_tuple (by decide +kernel) (ra_cons (r_blt (cr_sortedA hr.un250) am_sortA (by rfl) t.z_sorted (by decide +kernel) (ra_cons (r_lc (N := ["equations", "rows", "names", "total", "lot", "_"]) [("names", 2), ("total", 3), ("_", 5)] [2, 3, 5] (defScope s7) rfl S.nd rfl rfl rfl (by decide +kernel) (rw_any (r_var 1 rfl (.inl rfl))) (fun s H C' cl fp => (rgw_tup rfl (rgws_cons (rgw_name 2 S.nd rfl (.inl rfl) (by decide)) (rgws_cons (rgw_name 3 S.nd rfl (.inl rfl) (by decide)) (rgws_cons (rgw_name 5 S.nd rfl (.inl rfl) (by decide)) rgws_nil))))) (fun s H C' cl fp => (rts_one (rw_and (r_tru (r_var 2 rfl (.inl rfl)) (fun _ => rfl)) (rw_and1 (r_tcmp (orp_eq hr.un250) om_eq (r_var 3 rfl (.inl rfl)) r_int (nomark _)))).pt)) (fun s H C' cl fp => (r_ix ix_seq om_ix (r_var 2 rfl (.inl rfl)) r_int (fun _ _ => rfl)))) ra_nil)) ra_nil)) ra_nil)))) rs_nil))) rfl rfl
theorem ok8 {T : Nat → List D → Sto → Option (D × Sto)} (t : Defs K mg) (C : CallsOk t P w base n T) (B : ∃ cc P, t.d8.code = .ref cc ∧ GxR.TabB base mg cc P ∧ Tabs.ts P) : FnAt P w K mg base 3 (n + 1) t.f8 t.d8 ["equations", "paper"] (fun ds S => ends (m8 T (entry 5 ds) S)) := by
  have S := sc8
  obtain ⟨cc, P1, hcc, TB, hP⟩ := B
  refine fnAt_of (by decide) t.F8 S fun cdv A outer s H E hcd hr => ?_
  have hr : Rs 3 n 2 _ := hr
  exact as_body (rs_cons (rs_if (rw_or (r_not (r_tru (r_isi .tuple (nm := "tuple") (by rfl) t.z_isinstance (by decide +kernel) (by rfl) t.z_tuple (by decide +kernel) (r_var 1 rfl (.inr (.inl rfl)))) (fun _ => rfl))) (rw_or (r_tcmp (orp_ne hr.un250) om_ne (r_blt call_len am_len (by rfl) t.z_len PySem.boot_len (ra_cons (r_var 1 rfl (.inr (.inl rfl))) ra_nil)) r_int (nomark _)) (rw_or1 (r_not (r_tru (r_isi .str (nm := "str") (by rfl) t.z_isinstance (by decide +kernel) (by rfl) t.z_str (by decide +kernel) (r_ix ix_seq om_ix (r_var 1 rfl (.inr (.inl rfl))) r_int (fun _ _ => rfl))) (fun _ => rfl)))))).pt (rs_cons (rs_ret r_bl) rs_nil) rs_nil) (rs_cons (rs_if (r_not (r_tru (r_isi .tuple (nm := "tuple") (by rfl) t.z_isinstance (by decide +kernel) (by rfl) t.z_tuple (by decide +kernel) (r_ix ix_seq om_ix (r_var 1 rfl (.inr (.inl rfl))) r_int (fun _ _ => rfl))) (fun _ => rfl))) (rs_cons (rs_ret r_bl) rs_nil) rs_nil) (rs_cons (rs_if (r_tcmp (orp_eq hr.un250) om_eq (r_ix ix_seq om_ix (r_var 1 rfl (.inr (.inl rfl))) r_int (fun _ _ => rfl)) r_str (nomark _)) (rs_cons (rs_if (rw_or (r_not (r_tru (r_all rfl (by rfl) t.z_all (by decide +kernel) (gx_ok (N := ["equations", "paper", "name", "equation", "number"]) [("name", 2)] [2] (defScope s8) (ck_base TB hP) (hcd.symm.trans hcc) hr rfl rfl (by rfl) S.nd rfl rfl (by decide +kernel) rfl (rw_any (r_ix ix_seq om_ix (r_var 1 rfl (.inr (.inl rfl))) r_int (fun _ _ => rfl))) (fun _ => rfl) (fun A' hr s H C' code cl fp c1 P1 hc1 ck1 => (rgw_name 2 S.nd rfl (.inl rfl) (by decide))) (fun A' hr s H C' code cl fp c1 P1 hc1 ck1 => rts_nil) (fun A' hr s H C' code cl fp c1 P1 hc1 ck1 => (r_isi .str (nm := "str") (by rfl) t.z_isinstance (by decide +kernel) (by rfl) t.z_str (by decide +kernel) (r_var 2 rfl (.inl rfl)))))) (fun _ => rfl))) (rw_or1 (r_tcmp (orp_ne hr.un250) om_ne (r_lenSet rfl hr.un250 (by rfl) t.z_len (by rfl) t.z_set PySem.boot_len (by decide +kernel) (r_ix ix_seq om_ix (r_var 1 rfl (.inr (.inl rfl))) r_int (fun _ _ => rfl))) (r_blt call_len am_len (by rfl) t.z_len PySem.boot_len (ra_cons (r_ix ix_seq om_ix (r_var 1 rfl (.inr (.inl rfl))) r_int (fun _ _ => rfl)) ra_nil)) (nomark _)))).pt (rs_cons (rs_ret r_bl) rs_nil) rs_nil) (rs_cons (rs_ret (r_all rfl (by rfl) t.z_all (by decide +kernel) (gx_ok (N := ["equations", "paper", "name", "equation", "number"]) [("equation", 3)] [3] (defScope s8) (ck_base TB hP) (hcd.symm.trans hcc) hr rfl rfl (by rfl) S.nd rfl rfl (by decide +kernel) rfl (rw_any (r_var 0 rfl (.inr (.inl rfl)))) (fun _ => rfl) (fun A' hr s H C' code cl fp c1 P1 hc1 ck1 => (rgw_name 3 S.nd rfl (.inl rfl) (by decide))) (fun A' hr s H C' code cl fp c1 P1 hc1 ck1 => rts_nil) (fun A' hr s H C' code cl fp c1 P1 hc1 ck1 => (r_call C.c3 t.k3 hr (by rfl) 2 rfl (ra_cons (r_var 3 rfl (.inl rfl)) (ra_cons (r_ix ix_seq om_ix (r_var 1 rfl (.inr (.inr rfl))) r_int (fun _ _ => rfl)) ra_nil))))))) rs_nil)) rs_nil) (rs_cons (rs_if (rw_or (r_tcmp (orp_ne hr.un250) om_ne (r_ix ix_seq om_ix (r_var 1 rfl (.inr (.inl rfl))) r_int (fun _ _ => rfl)) r_str (nomark _)) (rw_or1 (r_not (r_tru (r_all rfl (by rfl) t.z_all (by decide +kernel) (gx_ok (N := ["equations", "paper", "name", "equation", "number"]) [("number", 4)] [4] (defScope s8) (ck_base TB hP) (hcd.symm.trans hcc) hr rfl rfl (by rfl) S.nd rfl rfl (by decide +kernel) rfl (rw_any (r_ix ix_seq om_ix (r_var 1 rfl (.inr (.inl rfl))) r_int (fun _ _ => rfl))) (fun _ => rfl) (fun A' hr s H C' code cl fp c1 P1 hc1 ck1 => (rgw_name 4 S.nd rfl (.inl rfl) (by decide))) (fun A' hr s H C' code cl fp c1 P1 hc1 ck1 => rts_nil) (fun A' hr s H C' code cl fp c1 P1 hc1 ck1 => (r_and (r_call C.c0 t.k0 hr (by rfl) 1 rfl (ra_cons (r_var 4 rfl (.inl rfl)) ra_nil)) (r_one (r_cmp (orp_ltB hr.un250) om_ltB (r_var 4 rfl (.inl rfl)) (r_blt call_len am_len (by rfl) t.z_len PySem.boot_len (ra_cons (r_var 0 rfl (.inr (.inr rfl))) ra_nil)) (nomark _))))))) (fun _ => rfl))))).pt (rs_cons (rs_ret r_bl) rs_nil) rs_nil) (rs_cons (rs_ret (r_and (r_cmp (orp_eq hr.un250) om_eq (r_lenSet rfl hr.un250 (by rfl) t.z_len (by rfl) t.z_set PySem.boot_len (by decide +kernel) (r_ix ix_seq om_ix (r_var 1 rfl (.inr (.inl rfl))) r_int (fun _ _ => rfl))) (r_blt call_len am_len (by rfl) t.z_len PySem.boot_len (ra_cons (r_ix ix_seq om_ix (r_var 1 rfl (.inr (.inl rfl))) r_int (fun _ _ => rfl)) ra_nil)) (nomark _)) (r_one (r_cmp (orp_eq hr.un250) om_eq (r_call C.c4 t.k4 hr (by rfl) 2 rfl (ra_cons (r_var 0 rfl (.inr (.inl rfl))) (ra_cons (r_ix ix_seq om_ix (r_var 1 rfl (.inr (.inl rfl))) r_int (fun _ _ => rfl)) ra_nil))) (r_tup (ra_cons (r_tup ra_nil) (ra_cons r_int ra_nil))) (nomark _))))) rs_nil))))) rfl rfl
theorem ok9 {T : Nat → List D → Sto → Option (D × Sto)} (t : Defs K mg) (C : CallsOk t P w base n T) (B : ∃ cc P, t.d9.code = .ref cc ∧ GxR.TabB base mg cc P ∧ Tabs.ts P) : FnAt P w K mg base 3 (n + 1) t.f9 t.d9 ["equations"] (fun ds S => ends (m9 T (entry 3 ds) S)) := by
  have S := sc9
  obtain ⟨cc, P1, hcc, TB, hP⟩ := B
  refine fnAt_of (by decide) t.F9 S fun cdv A outer s H E hcd hr => ?_
  have hr : Rs 3 n 2 _ := hr
  exact as_body (rs_cons (rs_ret (r_blt call_len am_len (by rfl) t.z_len PySem.boot_len (ra_cons (r_lc (N := ["equations", "names", "_"]) [("names", 1), ("_", 2)] [1, 2] (defScope s9) rfl S.nd rfl rfl rfl (by decide +kernel) (rw_any (r_call C.c5 t.k5 hr (by rfl) 1 rfl (ra_cons (r_tupG rfl (by rfl) t.z_tuple (by decide +kernel) (gx_ok (N := ["equations", "names", "_"]) [("names", 1), ("_", 2)] [1, 2] (defScope s9) (ck_base TB hP) (hcd.symm.trans hcc) hr rfl rfl (by rfl) S.nd rfl rfl (by decide +kernel) rfl (rw_any (r_var 0 rfl (.inl rfl))) (fun _ => rfl) (fun A' hr s H C' code cl fp c1 P1 hc1 ck1 => (rgw_tup rfl (rgws_cons (rgw_name 1 S.nd rfl (.inl rfl) (by decide)) (rgws_cons (rgw_name 2 S.nd rfl (.inl rfl) (by decide)) rgws_nil)))) (fun A' hr s H C' code cl fp c1 P1 hc1 ck1 => rts_nil) (fun A' hr s H C' code cl fp c1 P1 hc1 ck1 => (r_tup (ra_cons (r_var 1 rfl (by first | exact .inl rfl | exact .inr (.inl rfl) | exact .inr (.inr rfl))) (ra_cons r_int ra_nil)))))) ra_nil))) (fun s H C' cl fp => (rgw_tup rfl (rgws_cons (rgw_name 1 S.nd rfl (.inl rfl) (by decide)) (rgws_cons (rgw_name 2 S.nd rfl (.inl rfl) (by decide)) (rgws_cons (rgw_name 2 S.nd rfl (.inl rfl) (by decide)) rgws_nil))))) (fun s H C' cl fp => (rts_one (r_tru (r_var 1 rfl (by first | exact .inl rfl | exact .inr (.inl rfl) | exact .inr (.inr rfl))) (fun _ => rfl)))) (fun s H C' cl fp => (r_var 1 rfl (by first | exact .inl rfl | exact .inr (.inl rfl) | exact .inr (.inr rfl))))) ra_nil))) rs_nil) rfl rfl
theorem ok10 {T : Nat → List D → Sto → Option (D × Sto)} (t : Defs K mg) (C : CallsOk t P w base n T) (B : ∃ cc P, t.d10.code = .ref cc ∧ GxR.TabB base mg cc P ∧ Tabs.ts P) : FnAt P w K mg base 3 (n + 1) t.f10 t.d10 ["names", "equations"] (fun ds S => ends (m10 T (entry 4 ds) S)) := by
  have S := sc10
  obtain ⟨cc, P1, hcc, TB, hP⟩ := B
  refine fnAt_of (by decide) t.F10 S fun cdv A outer s H E hcd hr => ?_
  have hr : Rs 3 n 2 _ := hr
  exact as_body (rs_cons (rs_ret (r_tupG rfl (by rfl) t.z_tuple (by decide +kernel) (gx_ok (N := ["names", "equations", "row", "equation"]) [("row", 2)] [2] (defScope s10) (ck_base TB hP) (hcd.symm.trans hcc) hr rfl rfl (by rfl) S.nd rfl rfl (by decide +kernel) rfl (rw_any (r_call C.c1 t.k1 hr (by rfl) 1 rfl (ra_cons (r_var 0 rfl (.inl rfl)) ra_nil))) (fun _ => rfl) (fun A' hr s H C' code cl fp c1 P1 hc1 ck1 => (rgw_name 2 S.nd rfl (by first | exact .inl rfl | exact .inr rfl) (by decide))) (fun A' hr s H C' code cl fp c1 P1 hc1 ck1 => (rts_one (r_tru (r_all rfl (by rfl) t.z_all (by decide +kernel) (gx_ok (N := ["names", "equations", "row", "equation"]) [("equation", 3)] [3] _ ck1 hc1 hr rfl rfl (by rfl) S.nd rfl rfl (by kernel_rfl) rfl (rw_any (r_var 1 rfl (.inr (.inr rfl)))) (fun _ => rfl) (fun A' hr s H C' code cl fp c2 P2 hc2 ck2 => (rgw_name 3 S.nd rfl (.inl rfl) (by decide))) (fun A' hr s H C' code cl fp c2 P2 hc2 ck2 => rts_nil) (fun A' hr s H C' code cl fp c2 P2 hc2 ck2 => (r_call C.c3 t.k3 hr (by rfl) 2 rfl (ra_cons (r_var 3 rfl (by first | exact .inl rfl | exact .inr (.inl rfl) | exact .inr (.inr rfl))) (ra_cons (r_var 2 rfl (by first | exact .inl rfl | exact .inr (.inl rfl) | exact .inr (.inr rfl))) ra_nil)))))) (fun _ => rfl)))) (fun A' hr s H C' code cl fp c1 P1 hc1 ck1 => (r_var 2 rfl (by first | exact .inl rfl | exact .inr (.inl rfl) | exact .inr (.inr rfl))))))) rs_nil) rfl rfl
theorem ok11 {T : Nat → List D → Sto → Option (D × Sto)} (t : Defs K mg) (C : CallsOk t P w base n T) : FnAt P w K mg base 3 (n + 1) t.f11 t.d11 ["one", "two"] (fun ds S => ends (m11 T (entry 3 ds) S)) := by
  have S := sc11
  refine fnAt_of (by decide) t.F11 S fun cdv A outer s H E hcd hr => ?_
  have hr : Rs 3 n 2 _ := hr
  exact as_body (rs_cons (rs_ret (r_typ call_tuple_of am_tup (by rfl) t.z_tuple (by decide +kernel) (ra_cons (r_blt (cr_sortedA hr.un250) am_sortA (by rfl) t.z_sorted (by decide +kernel) (ra_cons (r_op orp_plus om_plus (r_lc (N := ["one", "two", "x"]) [("x", 2)] [2] (defScope s11) rfl S.nd rfl rfl rfl (by decide +kernel) (rw_any (r_var 0 rfl (.inr (.inl rfl)))) (fun s H C' cl fp => (rgw_name 2 S.nd rfl (.inl rfl) (by decide))) (fun s H C' cl fp => (rts_one (r_tcmp (orp_notIn hr.un250) om_notIn (r_var 2 rfl (.inl rfl)) (r_var 1 rfl (.inr (.inl rfl))) (by with_unfolding_all rfl)))) (fun s H C' cl fp => (r_var 2 rfl (.inl rfl)))) (r_lc (N := ["one", "two", "x"]) [("x", 2)] [2] (defScope s11) rfl S.nd rfl rfl rfl (by decide +kernel) (rw_any (r_var 1 rfl (.inr (.inl rfl)))) (fun s H C' cl fp => (rgw_name 2 S.nd rfl (.inl rfl) (by decide))) (fun s H C' cl fp => (rts_one (r_tcmp (orp_notIn hr.un250) om_notIn (r_var 2 rfl (.inl rfl)) (r_var 0 rfl (.inr (.inl rfl))) (by with_unfolding_all rfl)))) (fun s H C' cl fp => (r_var 2 rfl (.inl rfl))))) ra_nil)) ra_nil))) rs_nil) rfl rfl
theorem ok12 {T : Nat → List D → Sto → Option (D × Sto)} (t : Defs K mg) (C : CallsOk t P w base n T) : FnAt P w K mg base 3 (n + 1) t.f12 t.d12 ["script", "first", "last"] (fun ds S => ends (m12 T (entry 3 ds) S)) := by
  have S := sc12
  refine fnAt_of (by decide) t.F12 S fun cdv A outer s H E hcd hr => ?_
  have hr : Rs 3 n 2 _ := hr
  exact as_body (rs_cons (rs_ret (r_lst (ra_cons (r_call C.c13 t.k13 hr (by rfl) 3 rfl (ra_cons (r_var 0 rfl (.inl rfl)) (ra_cons (r_var 1 rfl (.inl rfl)) (ra_cons (r_var 2 rfl (.inl rfl)) ra_nil)))) (ra_cons r_int ra_nil)))) rs_nil) rfl rfl
theorem ok13 {T : Nat → List D → Sto → Option (D × Sto)} (t : Defs K mg) (C : CallsOk t P w base n T) : FnAt P w K mg base 3 (n + 1) t.f13 t.d13 ["script", "first", "last"] (fun ds S => ends (m13 T (entry 8 ds) S)) := by
  have S := sc13
  refine fnAt_of (by decide) t.F13 S fun cdv A outer s H E hcd hr => ?_
  have hr : Rs 3 n 2 _ := hr
  exact as_body (rs_cons (rs_asg (r_lst ra_nil) (rg_name 3 S.nd rfl (.inl rfl))) (rs_cons (rs_for PassesOwn.never rfl (rw_rng2 (by rfl) t.z_range (r_var 1 rfl (.inl rfl)) (r_var 2 rfl (.inl rfl))) (rg_name 4 S.nd rfl (.inl rfl)) (rs_cons (rs_asg (r_call C.c14 t.k14 hr (by rfl) 2 rfl (ra_cons (r_var 0 rfl (.inl rfl)) (ra_cons (r_var 4 rfl (.inl rfl)) ra_nil))) (rg_name 5 S.nd rfl (.inl rfl))) (rs_cons (rs_if (r_tcmp op_lt om_lt (r_var 5 rfl (.inl rfl)) r_int (nomark _)) (rs_cons (rs_asg (r_op op_sub om_sub r_int (r_op op_mul om_mul r_int (r_var 5 rfl (.inl rfl)))) (rg_name 5 S.nd rfl (.inl rfl))) rs_nil) rs_nil) (rs_cons (rs_if (r_tcmp op_ge om_ge (r_var 5 rfl (.inl rfl)) (r_op op_pow om_pow r_int r_int) (nomark _)) (rs_cons (rs_for PassesOwn.never rfl (rw_rng1 (by rfl) t.z_range r_int) (rg_name 6 S.nd rfl (.inl rfl)) (rs_cons (rs_if (r_tcmp op_gt om_gt (r_var 5 rfl (.inl rfl)) r_int (nomark _)) (rs_cons (rs_expr (r_met PySem.F.plainAttrs_list PySem.F.slot_list_append PySem.F.type_list_append mt_append mm_app okList_ty (r_var 3 rfl (.inl rfl)) (ra_cons (r_op op_mod om_mod (r_typ call_int1 am_int (by rfl) t.z_int (by decide +kernel) (ra_cons (r_var 5 rfl (.inl rfl)) ra_nil)) r_int) ra_nil))) (rs_cons (rs_asg (r_op op_fdiv om_div (r_var 5 rfl (.inl rfl)) r_int) (rg_name 5 S.nd rfl (.inl rfl))) rs_nil)) rs_nil) rs_nil)) rs_nil) (rs_cons (rs_asg (r_op op_mod om_mod (r_typ call_int1 am_int (by rfl) t.z_int (by decide +kernel) (ra_cons (r_op orp_add om_add (r_op orp_add om_add (r_op op_mul om_mul (r_var 5 rfl (.inl rfl)) r_int) (r_op op_mul om_mul (r_var 4 rfl (.inl rfl)) r_int)) r_int) ra_nil)) r_int) (rg_name 7 S.nd rfl (.inl rfl))) (rs_cons (rs_for PassesOwn.never rfl (rw_rng1 (by rfl) t.z_range r_int) (rg_name 6 S.nd rfl (.inl rfl)) (rs_cons (rs_asg (r_op op_mod om_mod (r_typ call_int1 am_int (by rfl) t.z_int (by decide +kernel) (ra_cons (r_op orp_add om_add (r_op orp_add om_add (r_op op_mul om_mul (r_var 7 rfl (.inl rfl)) r_int) (r_op op_mul om_mul r_int (r_var 6 rfl (.inl rfl)))) r_int) ra_nil)) r_int) (rg_name 7 S.nd rfl (.inl rfl))) (rs_cons (rs_expr (r_met PySem.F.plainAttrs_list PySem.F.slot_list_append PySem.F.type_list_append mt_append mm_app okList_ty (r_var 3 rfl (.inl rfl)) (ra_cons (r_op op_mod om_mod (r_typ call_int1 am_int (by rfl) t.z_int (by decide +kernel) (ra_cons (r_op op_fdiv om_div (r_var 7 rfl (.inl rfl)) r_int) ra_nil)) r_int) ra_nil))) rs_nil))) rs_nil))) rs_nil)))) (rs_cons (rs_ret (r_var 3 rfl (.inl rfl))) rs_nil))) rfl rfl
theorem ok14 {T : Nat → List D → Sto → Option (D × Sto)} (t : Defs K mg) (C : CallsOk t P w base n T) : FnAt P w K mg base 3 (n + 1) t.f14 t.d14 ["script", "k"] (fun ds S => ends (m14 T (entry 2 ds) S)) := by
  have S := sc14
  refine fnAt_of (by decide) t.F14 S fun cdv A outer s H E hcd hr => ?_
  have hr : Rs 3 n 2 _ := hr
  exact as_body (rs_cons (rs_if (r_tcmp op_lt om_lt (r_var 1 rfl (.inl rfl)) (r_blt call_len am_len (by rfl) t.z_len PySem.boot_len (ra_cons (r_var 0 rfl (.inl rfl)) ra_nil)) (nomark _)) (rs_cons (rs_ret (r_ix ix_seq om_ix (r_var 0 rfl (.inl rfl)) (r_var 1 rfl (.inl rfl)) (fun _ _ => rfl))) rs_nil) rs_nil) (rs_cons (rs_ret r_int) rs_nil)) rfl rfl
theorem ok15 {T : Nat → List D → Sto → Option (D × Sto)} (t : Defs K mg) (C : CallsOk t P w base n T) : FnAt P w K mg base 3 (n + 1) t.f15 t.d15 ["box", "most"] (fun ds S => ends (m15 T (entry 5 ds) S)) := by
  have S := sc15
  refine fnAt_of (by decide) t.F15 S fun cdv A outer s H E hcd hr => ?_
  have hr : Rs 3 n 2 _ := hr
  exact as_body (rs_cons (rs_asg (r_lst ra_nil) (rg_name 2 S.nd rfl (.inl rfl))) (rs_cons (rs_for PassesOwn.never rfl (rw_rng1 (by rfl) t.z_range (r_call C.c16 t.k16 hr (by rfl) 2 rfl (ra_cons (r_var 0 rfl (.inr (.inl rfl))) (ra_cons (r_op orp_add om_add (r_var 1 rfl (.inl rfl)) r_int) ra_nil)))) (rg_name 3 S.nd rfl (.inl rfl)) (rs_cons (rs_expr (r_met PySem.F.plainAttrs_list PySem.F.slot_list_append PySem.F.type_list_append mt_append mm_app okList_ty (r_var 2 rfl (.inl rfl)) (ra_cons (r_tup (ra_cons (r_typ call_tuple_of am_tup (by rfl) t.z_tuple (by decide +kernel) (ra_cons (r_lc (N := ["box", "most", "found", "k", "name"]) [("name", 4)] [4] (defScope s15) rfl S.nd rfl rfl rfl (by decide +kernel) (rw_any (r_lst (ra_cons r_str (ra_cons r_str (ra_cons r_str (ra_cons r_str (ra_cons r_str ra_nil))))))) (fun s H C' cl fp => (rgw_name 4 S.nd rfl (.inl rfl) (by decide))) (fun s H C' cl fp => (rts_one (r_tcmp (orp_eq hr.un250) om_eq (r_call C.c16 t.k16 hr (by rfl) 2 rfl (ra_cons (r_var 0 rfl (.inr (.inl rfl))) (ra_cons r_int ra_nil))) r_int (nomark _)))) (fun s H C' cl fp => (r_var 4 rfl (.inl rfl)))) ra_nil)) (ra_cons (r_call C.c16 t.k16 hr (by rfl) 2 rfl (ra_cons (r_var 0 rfl (.inr (.inl rfl))) (ra_cons r_int ra_nil))) ra_nil))) ra_nil))) rs_nil)) (rs_cons (rs_ret (r_typ call_tuple_of am_tup (by rfl) t.z_tuple (by decide +kernel) (ra_cons (r_var 2 rfl (.inl rfl)) ra_nil))) rs_nil))) rfl rfl
theorem ok16 {T : Nat → List D → Sto → Option (D × Sto)} (t : Defs K mg) (C : CallsOk t P w base n T) : FnAt P w K mg base 3 (n + 1) t.f16 t.d16 ["box", "many"] (fun ds S => ends (m16 T (entry 3 ds) S)) := by
  have S := sc16
  refine fnAt_of (by decide) t.F16 S fun cdv A outer s H E hcd hr => ?_
  have hr : Rs 3 n 2 _ := hr
  exact as_body (rs_cons (rs_asg (r_ix ix_seq om_ix (r_var 0 rfl (.inl rfl)) r_int (fun _ _ => rfl)) (rg_name 2 S.nd rfl (.inl rfl))) (rs_cons (rs_put set_list pm_put (r_op orp_add om_add (r_var 2 rfl (.inl rfl)) r_int) (r_var 0 rfl (.inl rfl)) r_int) (rs_cons (rs_if (r_tcmp op_lt om_lt (r_var 2 rfl (.inl rfl)) (r_blt call_len am_len (by rfl) t.z_len PySem.boot_len (ra_cons (r_ix ix_seq om_ix (r_var 0 rfl (.inl rfl)) r_int (fun _ _ => rfl)) ra_nil)) (nomark _)) (rs_cons (rs_ret (r_op op_mod om_mod (r_typ call_int1 am_int (by rfl) t.z_int (by decide +kernel) (ra_cons (r_ix ix_seq om_ix (r_ix ix_seq om_ix (r_var 0 rfl (.inl rfl)) r_int (fun _ _ => rfl)) (r_var 2 rfl (.inl rfl)) (fun _ _ => rfl)) ra_nil)) (r_var 1 rfl (.inl rfl)))) rs_nil) rs_nil) (rs_cons (rs_ret r_int) rs_nil)))) rfl rfl
theorem ok17 {T : Nat → List D → Sto → Option (D × Sto)} (t : Defs K mg) (C : CallsOk t P w base n T) : FnAt P w K mg base 3 (n + 1) t.f17 t.d17 ["names"] (fun ds S => ends (m17 T (entry 4 ds) S)) := by
  have S := sc17
  refine fnAt_of (by decide) t.F17 S fun cdv A outer s H E hcd hr => ?_
  have hr : Rs 3 n 2 _ := hr
  exact as_body (rs_cons (rs_asg (r_lst (ra_cons (r_tup ra_nil) ra_nil)) (rg_name 1 S.nd rfl (.inl rfl))) (rs_cons (rs_for PassesOwn.never rfl (rw_any (r_var 0 rfl (.inl rfl))) (rg_name 2 S.nd rfl (.inr rfl)) (rs_cons (rs_asg (r_op orp_plus om_plus (r_var 1 rfl (.inl rfl)) (r_lc (N := ["names", "rows", "name", "row"]) [("row", 3)] [3] (defScope s17) rfl S.nd rfl rfl rfl (by decide +kernel) (rw_any (r_var 1 rfl (.inl rfl))) (fun s H C' cl fp => (rgw_name 3 S.nd rfl (.inl rfl) (by decide))) (fun s H C' cl fp => rts_nil) (fun s H C' cl fp => (r_op orp_plus om_plus (r_var 3 rfl (.inl rfl)) (r_tup (ra_cons (r_var 2 rfl (.inr (.inl rfl))) ra_nil)))))) (rg_name 1 S.nd rfl (.inl rfl))) rs_nil)) (rs_cons (rs_ret (r_blt (cr_sortedA hr.un250) am_sortA (by rfl) t.z_sorted (by decide +kernel) (ra_cons (r_var 1 rfl (.inl rfl)) ra_nil))) rs_nil))) rfl rfl
theorem ok18 {T : Nat → List D → Sto → Option (D × Sto)} (t : Defs K mg) (C : CallsOk t P w base n T) : FnAt P w K mg base 3 (n + 1) t.f18 t.d18 ["equation", "row"] (fun ds S => ends (m18 T (entry 4 ds) S)) := by
  have S := sc18
  refine fnAt_of (by decide) t.F18 S fun cdv A outer s H E hcd hr => ?_
  have hr : Rs 3 n 2 _ := hr
  exact as_body (rs_cons (rs_asg (r_blt call_len am_len (by rfl) t.z_len PySem.boot_len (ra_cons (r_lc (N := ["equation", "row", "many", "name"]) [("name", 3)] [3] (defScope s18) rfl S.nd rfl rfl rfl (by decide +kernel) (rw_any (r_ix ix_seq om_ix (r_var 0 rfl (.inl rfl)) r_int (fun _ _ => rfl))) (fun s H C' cl fp => (rgw_name 3 S.nd rfl (.inl rfl) (by decide))) (fun s H C' cl fp => (rts_one (r_tcmp (orp_in hr.un250) om_in (r_var 3 rfl (.inl rfl)) (r_var 1 rfl (.inr (.inl rfl))) (by with_unfolding_all rfl)))) (fun s H C' cl fp => (r_var 3 rfl (.inl rfl)))) ra_nil)) (rg_name 2 S.nd rfl (.inl rfl))) (rs_cons (rs_ret (r_cmp (orp_eq hr.un250) om_eq (r_op op_sub om_sub (r_var 2 rfl (.inl rfl)) (r_op op_mul om_mul r_int (r_op op_fdiv om_div (r_var 2 rfl (.inl rfl)) r_int))) (r_ix ix_seq om_ix (r_var 0 rfl (.inl rfl)) r_int (fun _ _ => rfl)) (nomark _))) rs_nil)) rfl rfl
theorem ok19 {T : Nat → List D → Sto → Option (D × Sto)} (t : Defs K mg) (C : CallsOk t P w base n T) : FnAt P w K mg base 3 (n + 1) t.f19 t.d19 ["actual", "expected"] (fun ds S => ends (m19 T (entry 3 ds) S)) := by
  have S := sc19
  refine fnAt_of (by decide) t.F19 S fun cdv A outer s H E hcd hr => ?_
  have hr : Rs 3 n 2 _ := hr
  exact as_body (rs_cons (rs_if (r_tru (r_isi .tuple (nm := "tuple") (by rfl) t.z_isinstance (by decide +kernel) (by rfl) t.z_tuple (by decide +kernel) (r_var 1 rfl (.inl rfl))) (fun _ => rfl)) (rs_cons (rs_if (rw_or (r_not (r_tru (r_isi .tuple (nm := "tuple") (by rfl) t.z_isinstance (by decide +kernel) (by rfl) t.z_tuple (by decide +kernel) (r_var 0 rfl (.inl rfl))) (fun _ => rfl))) (rw_or1 (r_tcmp (orp_ne hr.un250) om_ne (r_blt call_len am_len (by rfl) t.z_len PySem.boot_len (ra_cons (r_var 0 rfl (.inl rfl)) ra_nil)) (r_blt call_len am_len (by rfl) t.z_len PySem.boot_len (ra_cons (r_var 1 rfl (.inl rfl)) ra_nil)) (nomark _)))).pt (rs_cons (rs_ret r_bl) rs_nil) rs_nil) (rs_cons (rs_for PassesOwn.never rfl (rw_rng1 (by rfl) t.z_range (r_blt call_len am_len (by rfl) t.z_len PySem.boot_len (ra_cons (r_var 1 rfl (.inl rfl)) ra_nil))) (rg_name 2 S.nd rfl (.inl rfl)) (rs_cons (rs_if (r_not (r_tru (r_call C.c19 t.k19 hr (by rfl) 2 rfl (ra_cons (r_ix ix_seq om_ix (r_var 0 rfl (.inl rfl)) (r_var 2 rfl (.inl rfl)) (fun _ _ => rfl)) (ra_cons (r_ix ix_seq om_ix (r_var 1 rfl (.inl rfl)) (r_var 2 rfl (.inl rfl)) (fun _ _ => rfl)) ra_nil))) (fun _ => rfl))) (rs_cons (rs_ret r_bl) rs_nil) rs_nil) rs_nil)) (rs_cons (rs_ret r_bl) rs_nil))) rs_nil) (rs_cons (rs_if (r_tcmp orp_is om_is (r_var 1 rfl (.inl rfl)) r_non (nomark _)) (rs_cons (rs_ret (r_cmp orp_is om_is (r_var 0 rfl (.inl rfl)) r_non (nomark _))) rs_nil) rs_nil) (rs_cons (rs_if (r_tru (r_isi .bool (nm := "bool") (by rfl) t.z_isinstance (by decide +kernel) (by rfl) t.z_bool (by decide +kernel) (r_var 1 rfl (.inl rfl))) (fun _ => rfl)) (rs_cons (rs_ret (r_and (r_isi .bool (nm := "bool") (by rfl) t.z_isinstance (by decide +kernel) (by rfl) t.z_bool (by decide +kernel) (r_var 0 rfl (.inl rfl))) (r_one (r_cmp (orp_eq hr.un250) om_eq (r_var 0 rfl (.inl rfl)) (r_var 1 rfl (.inl rfl)) (nomark _))))) rs_nil) rs_nil) (rs_cons (rs_if (r_tru (r_isi .int (nm := "int") (by rfl) t.z_isinstance (by decide +kernel) (by rfl) t.z_int (by decide +kernel) (r_var 1 rfl (.inl rfl))) (fun _ => rfl)) (rs_cons (rs_ret (r_and (r_isi .int (nm := "int") (by rfl) t.z_isinstance (by decide +kernel) (by rfl) t.z_int (by decide +kernel) (r_var 0 rfl (.inl rfl))) (r_and (r_notV (r_isi .bool (nm := "bool") (by rfl) t.z_isinstance (by decide +kernel) (by rfl) t.z_bool (by decide +kernel) (r_var 0 rfl (.inl rfl)))) (r_one (r_cmp (orp_eq hr.un250) om_eq (r_var 0 rfl (.inl rfl)) (r_var 1 rfl (.inl rfl)) (nomark _)))))) rs_nil) rs_nil) (rs_cons (rs_ret (r_and (r_isi .str (nm := "str") (by rfl) t.z_isinstance (by decide +kernel) (by rfl) t.z_str (by decide +kernel) (r_var 0 rfl (.inl rfl))) (r_one (r_cmp (orp_eq hr.un250) om_eq (r_var 0 rfl (.inl rfl)) (r_var 1 rfl (.inl rfl)) (nomark _))))) rs_nil))))) rfl rfl
theorem ok20 {T : Nat → List D → Sto → Option (D × Sto)} (t : Defs K mg) (C : CallsOk t P w base n T) : FnAt P w K mg base 3 (n + 1) t.f20 t.d20 ["equations", "lot"] (fun ds S => ends (m20 T (entry 5 ds) S)) := by
  have S := sc20
  refine fnAt_of (by decide) t.F20 S fun cdv A outer s H E hcd hr => ?_
  have hr : Rs 3 n 2 _ := hr
  exact as_body (rs_cons (rs_asg (r_tup ra_nil) (rg_name 2 S.nd rfl (.inl rfl))) (rs_cons (rs_asg r_int (rg_name 3 S.nd rfl (.inl rfl))) (rs_cons (rs_for PassesOwn.never rfl (rw_any (r_var 1 rfl (.inl rfl))) (rg_name 4 S.nd rfl (.inl rfl)) (rs_cons (rs_asg (r_call C.c11 t.k11 hr (by rfl) 2 rfl (ra_cons (r_var 2 rfl (.inl rfl)) (ra_cons (r_ix ix_seq om_ix (r_ix ix_seq om_ix (r_var 0 rfl (.inl rfl)) (r_var 4 rfl (.inl rfl)) (fun _ _ => rfl)) r_int (fun _ _ => rfl)) ra_nil))) (rg_name 2 S.nd rfl (.inl rfl))) (rs_cons (rs_asg (r_op orp_plus om_plus (r_var 3 rfl (.inl rfl)) (r_ix ix_seq om_ix (r_ix ix_seq om_ix (r_var 0 rfl (.inl rfl)) (r_var 4 rfl (.inl rfl)) (fun _ _ => rfl)) r_int (fun _ _ => rfl))) (rg_name 3 S.nd rfl (.inl rfl))) rs_nil))) (rs_cons (rs_ret (r_and (r_cmp (orp_eq hr.un250) om_eq (r_var 2 rfl (.inl rfl)) (r_tup ra_nil) (nomark _)) (r_one (r_cmp (orp_eq hr.un250) om_eq (r_op op_sub om_sub (r_var 3 rfl (.inl rfl)) (r_op op_mul om_mul r_int (r_op op_fdiv om_div (r_var 3 rfl (.inl rfl)) r_int))) r_int (nomark _))))) rs_nil)))) rfl rfl
theorem ok21 {T : Nat → List D → Sto → Option (D × Sto)} (t : Defs K mg) (C : CallsOk t P w base n T) : FnAt P w K mg base 3 (n + 1) t.f21 t.d21 ["script"] (fun ds S => ends (m21 T (entry 14 ds) S)) := by
  have S := sc21
  refine fnAt_of (by decide) t.F21 S fun cdv A outer s H E hcd hr => ?_
  have hr : Rs 3 n 2 _ := hr
  exact as_body (rs_cons (rs_asg (r_call C.c12 t.k12 hr (by rfl) 3 rfl (ra_cons (r_var 0 rfl (.inl rfl)) (ra_cons r_int (ra_cons r_int ra_nil)))) (rg_name 1 S.nd rfl (.inr rfl))) (rs_cons (rs_asg (r_call C.c15 t.k15 hr (by rfl) 2 rfl (ra_cons (r_var 1 rfl (.inr (.inl rfl))) (ra_cons r_int ra_nil))) (rg_name 2 S.nd rfl (.inr rfl))) (rs_cons (rs_asg (r_tup (ra_cons r_str (ra_cons r_str (ra_cons r_str (ra_cons r_str (ra_cons r_str ra_nil)))))) (rg_name 3 S.nd rfl (.inl rfl))) (rs_cons (rs_setLc (i := 4) (N := ["script", "box", "equations", "names", "good", "paper", "many", "k", "sums", "lot", "left", "row", "wrong", "e"]) [("row", 11)] [11] (defScope s21) rfl S.nd rfl rfl rfl (by decide +kernel) rfl rfl (sw_true rfl rfl rfl rfl) (rw_any (r_call C.c17 t.k17 hr (by rfl) 1 rfl (ra_cons (r_var 3 rfl (.inl rfl)) ra_nil))) (fun s H C' cl fp => (rgw_name 11 S.nd rfl (by first | exact .inl rfl | exact .inr rfl) (by decide))) (fun s H C' cl fp => (rts_one (r_tcmp (orp_eq hr.un250) om_eq (r_blt call_len am_len (by rfl) t.z_len PySem.boot_len (ra_cons (r_lc (N := ["script", "box", "equations", "names", "good", "paper", "many", "k", "sums", "lot", "left", "row", "wrong", "e"]) [("e", 13)] [13] _ rfl S.nd rfl rfl rfl (by kernel_rfl) (rw_any (r_var 2 rfl (.inr (.inl rfl)))) (fun s H C' cl fp => (rgw_name 13 S.nd rfl (.inl rfl) (by decide))) (fun s H C' cl fp => (rts_one (r_not (r_tru (r_call C.c18 t.k18 hr (by rfl) 2 rfl (ra_cons (r_var 13 rfl (by first | exact .inl rfl | exact .inr (.inl rfl) | exact .inr (.inr rfl))) (ra_cons (r_var 11 rfl (by first | exact .inl rfl | exact .inr (.inl rfl) | exact .inr (.inr rfl))) ra_nil))) (fun _ => rfl))))) (fun s H C' cl fp => (r_var 13 rfl (by first | exact .inl rfl | exact .inr (.inl rfl) | exact .inr (.inr rfl))))) ra_nil)) r_int (nomark _)))) (fun s H C' cl fp => (r_var 11 rfl (by first | exact .inl rfl | exact .inr (.inl rfl) | exact .inr (.inr rfl))))) (rs_cons (rs_if (r_not (r_tru (r_call C.c19 t.k19 hr (by rfl) 2 rfl (ra_cons (r_call C.c10 t.k10 hr (by rfl) 2 rfl (ra_cons (r_var 3 rfl (.inl rfl)) (ra_cons (r_var 2 rfl (.inr (.inl rfl))) ra_nil))) (ra_cons (r_typ call_tuple_of am_tup (by rfl) t.z_tuple (by decide +kernel) (ra_cons (r_var 4 rfl (.inl rfl)) ra_nil)) ra_nil))) (fun _ => rfl))) (rs_cons (rs_ret r_bl) rs_nil) rs_nil) (rs_cons (rs_asg (r_call C.c7 t.k7 hr (by rfl) 1 rfl (ra_cons (r_var 2 rfl (.inr (.inl rfl))) ra_nil)) (rg_name 5 S.nd rfl (.inl rfl))) (rs_cons (rs_if (rw_or (r_tcmp orp_not om_isNot (r_call C.c8 t.k8 hr (by rfl) 2 rfl (ra_cons (r_var 2 rfl (.inr (.inl rfl))) (ra_cons (r_var 5 rfl (.inl rfl)) ra_nil))) r_bl (nomark _)) (rw_or1 (r_tcmp (orp_ne hr.un250) om_ne (r_cmp (orp_eq hr.un250) om_eq (r_ix ix_seq om_ix (r_var 5 rfl (.inl rfl)) r_int (fun _ _ => rfl)) r_str (nomark _)) (r_cmp (orp_gtA hr.un250) om_gtA (r_blt call_len am_len (by rfl) t.z_len PySem.boot_len (ra_cons (r_var 4 rfl (.inl rfl)) ra_nil)) r_int (nomark _)) (nomark _)))).pt (rs_cons (rs_ret r_bl) rs_nil) rs_nil) (rs_cons (rs_if (rw_and (r_tcmp (orp_eq hr.un250) om_eq (r_ix ix_seq om_ix (r_var 5 rfl (.inl rfl)) r_int (fun _ _ => rfl)) r_str (nomark _)) (rw_and1 (r_tcmp (orp_notIn hr.un250) om_notIn (r_ix ix_seq om_ix (r_var 5 rfl (.inl rfl)) r_int (fun _ _ => rfl)) (r_var 4 rfl (.inl rfl)) (by with_unfolding_all rfl)))).pt (rs_cons (rs_ret r_bl) rs_nil) rs_nil) (rs_cons (rs_if (rw_and (r_tcmp (orp_eq hr.un250) om_eq (r_ix ix_seq om_ix (r_var 5 rfl (.inl rfl)) r_int (fun _ _ => rfl)) r_str (nomark _)) (rw_and1 (rw_or (r_not (r_tru (r_call C.c20 t.k20 hr (by rfl) 2 rfl (ra_cons (r_var 2 rfl (.inr (.inl rfl))) (ra_cons (r_ix ix_seq om_ix (r_var 5 rfl (.inl rfl)) r_int (fun _ _ => rfl)) ra_nil))) (fun _ => rfl))) (rw_or1 (r_tcmp (orp_ne hr.un250) om_neL (r_typ call_list_of am_list (by rfl) t.z_list (by decide +kernel) (ra_cons (r_ix ix_seq om_ix (r_var 5 rfl (.inl rfl)) r_int (fun _ _ => rfl)) ra_nil)) (r_sortSetC rfl hr.un250 (by rfl) t.z_sorted (by rfl) t.z_set (by decide +kernel) (by decide +kernel) (r_ix ix_seq om_ix (r_var 5 rfl (.inl rfl)) r_int (fun _ _ => rfl))) (nomark _)))).pt)).pt (rs_cons (rs_ret r_bl) rs_nil) rs_nil) (rs_cons (rs_asg r_int (rg_name 6 S.nd rfl (.inl rfl))) (rs_cons (rs_for PassesOwn.never rfl (rw_rng1 (by rfl) t.z_range (r_call C.c9 t.k9 hr (by rfl) 1 rfl (ra_cons (r_var 2 rfl (.inr (.inl rfl))) ra_nil))) (rg_name 7 S.nd rfl (.inl rfl)) (rs_cons (rs_asg (r_op op_mul om_mul (r_var 6 rfl (.inl rfl)) r_int) (rg_name 6 S.nd rfl (.inl rfl))) rs_nil)) (rs_cons (rs_asg (r_lst ra_nil) (rg_name 8 S.nd rfl (.inl rfl))) (rs_cons (rs_for PassesOwn.never rfl (rw_any (r_call C.c17 t.k17 hr (by rfl) 1 rfl (ra_cons (r_lc (N := ["script", "box", "equations", "names", "good", "paper", "many", "k", "sums", "lot", "left", "row", "wrong", "e"]) [("k", 7)] [7] (defScope s21) rfl S.nd rfl rfl rfl (by decide +kernel) (rw_rng1 (by rfl) t.z_range (r_blt call_len am_len (by rfl) t.z_len PySem.boot_len (ra_cons (r_var 2 rfl (.inr (.inl rfl))) ra_nil))) (fun s H C' cl fp => (rgw_name 7 S.nd rfl (.inl rfl) (by decide))) (fun s H C' cl fp => rts_nil) (fun s H C' cl fp => (r_typ call_str_int am_str (by rfl) t.z_str (by decide +kernel) (ra_cons (r_var 7 rfl (by first | exact .inl rfl | exact .inr (.inl rfl) | exact .inr (.inr rfl))) ra_nil)))) ra_nil))) (rg_name 9 S.nd rfl (.inl rfl)) (rs_cons (rs_asg (r_tup ra_nil) (rg_name 10 S.nd rfl (.inl rfl))) (rs_cons (rs_for PassesOwn.never rfl (rw_any (r_var 9 rfl (.inl rfl))) (rg_name 7 S.nd rfl (.inl rfl)) (rs_cons (rs_asg (r_call C.c11 t.k11 hr (by rfl) 2 rfl (ra_cons (r_var 10 rfl (.inl rfl)) (ra_cons (r_ix ix_seq om_ix (r_ix ix_seq om_ix (r_var 2 rfl (.inr (.inl rfl))) (r_typ call_int_str am_intS (by rfl) t.z_int (by decide +kernel) (ra_cons (r_var 7 rfl (.inl rfl)) ra_nil)) (fun _ _ => rfl)) r_int (fun _ _ => rfl)) ra_nil))) (rg_name 10 S.nd rfl (.inl rfl))) rs_nil)) (rs_cons (rs_expr (r_met PySem.F.plainAttrs_list PySem.F.slot_list_append PySem.F.type_list_append mt_append mm_app okList_ty (r_var 8 rfl (.inl rfl)) (ra_cons (r_var 10 rfl (.inl rfl)) ra_nil))) rs_nil)))) (rs_cons (rs_if (r_tcmp (orp_ne hr.un250) om_ne (r_lenSet rfl hr.un250 (by rfl) t.z_len (by rfl) t.z_set PySem.boot_len (by decide +kernel) (r_var 8 rfl (.inl rfl))) (r_var 6 rfl (.inl rfl)) (nomark _)) (rs_cons (rs_ret r_bl) rs_nil) rs_nil) (rs_cons (rs_asg (r_ix ix_seq om_ix (r_call C.c17 t.k17 hr (by rfl) 1 rfl (ra_cons (r_var 3 rfl (.inl rfl)) ra_nil)) (r_call C.c16 t.k16 hr (by rfl) 2 rfl (ra_cons (r_var 1 rfl (.inr (.inl rfl))) (ra_cons r_int ra_nil))) (fun _ _ => rfl)) (rg_name 11 S.nd rfl (.inl rfl))) (rs_cons (rs_if (r_not (r_tru (r_call C.c19 t.k19 hr (by rfl) 2 rfl (ra_cons (r_call C.c8 t.k8 hr (by rfl) 2 rfl (ra_cons (r_var 2 rfl (.inr (.inl rfl))) (ra_cons (r_tup (ra_cons r_str (ra_cons (r_var 11 rfl (.inl rfl)) ra_nil))) ra_nil))) (ra_cons (r_cmp (orp_in hr.un250) om_in (r_var 11 rfl (.inl rfl)) (r_var 4 rfl (.inl rfl)) (by with_unfolding_all rfl)) ra_nil))) (fun _ => rfl))) (rs_cons (rs_ret r_bl) rs_nil) rs_nil) (rs_cons (rs_asg (r_typ call_tuple_of am_tup (by rfl) t.z_tuple (by decide +kernel) (ra_cons (r_lc (N := ["script", "box", "equations", "names", "good", "paper", "many", "k", "sums", "lot", "left", "row", "wrong", "e"]) [("k", 7)] [7] (defScope s21) rfl S.nd rfl rfl rfl (by decide +kernel) (rw_rng1 (by rfl) t.z_range (r_blt call_len am_len (by rfl) t.z_len PySem.boot_len (ra_cons (r_var 2 rfl (.inr (.inl rfl))) ra_nil))) (fun s H C' cl fp => (rgw_name 7 S.nd rfl (.inl rfl) (by decide))) (fun s H C' cl fp => (rts_one (r_tcmp (orp_eq hr.un250) om_eq (r_call C.c16 t.k16 hr (by rfl) 2 rfl (ra_cons (r_var 1 rfl (.inr (.inl rfl))) (ra_cons r_int ra_nil))) r_int (nomark _)))) (fun s H C' cl fp => (r_var 7 rfl (by first | exact .inl rfl | exact .inr (.inl rfl) | exact .inr (.inr rfl))))) ra_nil)) (rg_name 9 S.nd rfl (.inl rfl))) (rs_cons (rs_if (r_not (r_tru (r_call C.c19 t.k19 hr (by rfl) 2 rfl (ra_cons (r_call C.c8 t.k8 hr (by rfl) 2 rfl (ra_cons (r_var 2 rfl (.inr (.inl rfl))) (ra_cons (r_tup (ra_cons r_str (ra_cons (r_var 9 rfl (.inl rfl)) ra_nil))) ra_nil))) (ra_cons (r_call C.c20 t.k20 hr (by rfl) 2 rfl (ra_cons (r_var 2 rfl (.inr (.inl rfl))) (ra_cons (r_var 9 rfl (.inl rfl)) ra_nil))) ra_nil))) (fun _ => rfl))) (rs_cons (rs_ret r_bl) rs_nil) rs_nil) (rs_cons (rs_asg (r_ix ix_seq om_ix (r_lst (ra_cons r_non (ra_cons (r_tup ra_nil) (ra_cons (r_tup (ra_cons r_str ra_nil)) (ra_cons (r_tup (ra_cons r_str (ra_cons r_non ra_nil))) (ra_cons (r_tup (ra_cons r_str (ra_cons (r_tup (ra_cons r_str (ra_cons r_str ra_nil))) ra_nil))) (ra_cons (r_tup (ra_cons r_str (ra_cons (r_tup (ra_cons r_int ra_nil)) ra_nil))) (ra_cons (r_tup (ra_cons r_str (ra_cons r_non ra_nil))) (ra_cons (r_tup (ra_cons r_str (ra_cons (r_tup (ra_cons r_int (ra_cons r_int (ra_cons r_int ra_nil)))) ra_nil))) (ra_cons (r_tup (ra_cons r_str (ra_cons (r_var 9 rfl (.inl rfl)) ra_nil))) ra_nil)))))))))) (r_call C.c16 t.k16 hr (by rfl) 2 rfl (ra_cons (r_var 1 rfl (.inr (.inl rfl))) (ra_cons r_int ra_nil))) (fun _ _ => rfl)) (rg_name 12 S.nd rfl (.inl rfl))) (rs_cons (rs_ret (r_cmp orp_is om_is (r_call C.c8 t.k8 hr (by rfl) 2 rfl (ra_cons (r_var 2 rfl (.inr (.inl rfl))) (ra_cons (r_var 12 rfl (.inl rfl)) ra_nil))) r_bl (nomark _))) rs_nil)))))))))))))))))))) rfl rfl
theorem all_ok (t : Defs K mg) (B : Tbs t base) : ∀ n, CallsOk t P w base n (run n)
  | 0 => ⟨.none, .none, .none, .none, .none, .none, .none, .none, .none, .none, .none, .none, .none, .none, .none, .none, .none, .none, .none, .none, .none, .none⟩
  | n + 1 => by
    have C := all_ok t B n
    exact ⟨ok0 t C, ok1 t C, ok2 t C, ok3 t C, ok4 t C, ok5 t C, ok6 t C, ok7 t C, ok8 t C B.b8, ok9 t C B.b9, ok10 t C B.b10, ok11 t C, ok12 t C, ok13 t C, ok14 t C, ok15 t C, ok16 t C, ok17 t C, ok18 t C, ok19 t C, ok20 t C, ok21 t C⟩
end
theorem all_mk {K : PySem.W.Frag} {h : Heap} {mg : Str → Option Value} (X : K.In h) (G0 : h.Ns mainGlobals mg)
    {od0 an0 : Option Addr} {sl0 : Array (Option Value)} {oc0 kV0 dc0 pm0 cd0 ct0 : Value} {f0 : Addr} {od1 an1 : Option Addr} {sl1 : Array (Option Value)} {oc1 kV1 dc1 pm1 cd1 ct1 : Value} {f1 : Addr} {od2 an2 : Option Addr} {sl2 : Array (Option Value)} {oc2 kV2 dc2 pm2 cd2 ct2 : Value} {f2 : Addr} {od3 an3 : Option Addr} {sl3 : Array (Option Value)} {oc3 kV3 dc3 pm3 cd3 ct3 : Value} {f3 : Addr} {od4 an4 : Option Addr} {sl4 : Array (Option Value)} {oc4 kV4 dc4 pm4 cd4 ct4 : Value} {f4 : Addr} {od5 an5 : Option Addr} {sl5 : Array (Option Value)} {oc5 kV5 dc5 pm5 cd5 ct5 : Value} {f5 : Addr} {od6 an6 : Option Addr} {sl6 : Array (Option Value)} {oc6 kV6 dc6 pm6 cd6 ct6 : Value} {f6 : Addr} {od7 an7 : Option Addr} {sl7 : Array (Option Value)} {oc7 kV7 dc7 pm7 cd7 ct7 : Value} {f7 : Addr} {od8 an8 : Option Addr} {sl8 : Array (Option Value)} {oc8 kV8 dc8 pm8 cd8 ct8 : Value} {f8 : Addr} {od9 an9 : Option Addr} {sl9 : Array (Option Value)} {oc9 kV9 dc9 pm9 cd9 ct9 : Value} {f9 : Addr} {od10 an10 : Option Addr} {sl10 : Array (Option Value)} {oc10 kV10 dc10 pm10 cd10 ct10 : Value} {f10 : Addr} {od11 an11 : Option Addr} {sl11 : Array (Option Value)} {oc11 kV11 dc11 pm11 cd11 ct11 : Value} {f11 : Addr} {od12 an12 : Option Addr} {sl12 : Array (Option Value)} {oc12 kV12 dc12 pm12 cd12 ct12 : Value} {f12 : Addr} {od13 an13 : Option Addr} {sl13 : Array (Option Value)} {oc13 kV13 dc13 pm13 cd13 ct13 : Value} {f13 : Addr} {od14 an14 : Option Addr} {sl14 : Array (Option Value)} {oc14 kV14 dc14 pm14 cd14 ct14 : Value} {f14 : Addr} {od15 an15 : Option Addr} {sl15 : Array (Option Value)} {oc15 kV15 dc15 pm15 cd15 ct15 : Value} {f15 : Addr} {od16 an16 : Option Addr} {sl16 : Array (Option Value)} {oc16 kV16 dc16 pm16 cd16 ct16 : Value} {f16 : Addr} {od17 an17 : Option Addr} {sl17 : Array (Option Value)} {oc17 kV17 dc17 pm17 cd17 ct17 : Value} {f17 : Addr} {od18 an18 : Option Addr} {sl18 : Array (Option Value)} {oc18 kV18 dc18 pm18 cd18 ct18 : Value} {f18 : Addr} {od19 an19 : Option Addr} {sl19 : Array (Option Value)} {oc19 kV19 dc19 pm19 cd19 ct19 : Value} {f19 : Addr} {od20 an20 : Option Addr} {sl20 : Array (Option Value)} {oc20 kV20 dc20 pm20 cd20 ct20 : Value} {f20 : Addr} {od21 an21 : Option Addr} {sl21 : Array (Option Value)} {oc21 kV21 dc21 pm21 cd21 ct21 : Value} {f21 : Addr}
    (a0 : PySem.W.nsIn K mainGlobals "is_number" = some (some (.ref f0))) (l0 : K.lookup f0 = some ⟨oc0, od0, .func (PySem.W.fnOf "is_number" "is_number" (defArgs s0) (defBody s0) (defScope s0) .none kV0 dc0 pm0 an0 cd0 ct0), sl0⟩) (e0 : PySem.W.codeIn K cd0 "is_number" = true)
    (a1 : PySem.W.nsIn K mainGlobals "rows_of" = some (some (.ref f1))) (l1 : K.lookup f1 = some ⟨oc1, od1, .func (PySem.W.fnOf "rows_of" "rows_of" (defArgs s1) (defBody s1) (defScope s1) .none kV1 dc1 pm1 an1 cd1 ct1), sl1⟩) (e1 : PySem.W.codeIn K cd1 "rows_of" = true)
    (a2 : PySem.W.nsIn K mainGlobals "added" = some (some (.ref f2))) (l2 : K.lookup f2 = some ⟨oc2, od2, .func (PySem.W.fnOf "added" "added" (defArgs s2) (defBody s2) (defScope s2) .none kV2 dc2 pm2 an2 cd2 ct2), sl2⟩) (e2 : PySem.W.codeIn K cd2 "added" = true)
    (a3 : PySem.W.nsIn K mainGlobals "is_kept" = some (some (.ref f3))) (l3 : K.lookup f3 = some ⟨oc3, od3, .func (PySem.W.fnOf "is_kept" "is_kept" (defArgs s3) (defBody s3) (defScope s3) .none kV3 dc3 pm3 an3 cd3 ct3), sl3⟩) (e3 : PySem.W.codeIn K cd3 "is_kept" = true)
    (a4 : PySem.W.nsIn K mainGlobals "sum_of" = some (some (.ref f4))) (l4 : K.lookup f4 = some ⟨oc4, od4, .func (PySem.W.fnOf "sum_of" "sum_of" (defArgs s4) (defBody s4) (defScope s4) .none kV4 dc4 pm4 an4 cd4 ct4), sl4⟩) (e4 : PySem.W.codeIn K cd4 "sum_of" = true)
    (a5 : PySem.W.nsIn K mainGlobals "reduced" = some (some (.ref f5))) (l5 : K.lookup f5 = some ⟨oc5, od5, .func (PySem.W.fnOf "reduced" "reduced" (defArgs s5) (defBody s5) (defScope s5) .none kV5 dc5 pm5 an5 cd5 ct5), sl5⟩) (e5 : PySem.W.codeIn K cd5 "reduced" = true)
    (a6 : PySem.W.nsIn K mainGlobals "joined" = some (some (.ref f6))) (l6 : K.lookup f6 = some ⟨oc6, od6, .func (PySem.W.fnOf "joined" "joined" (defArgs s6) (defBody s6) (defScope s6) .none kV6 dc6 pm6 an6 cd6 ct6), sl6⟩) (e6 : PySem.W.codeIn K cd6 "joined" = true)
    (a7 : PySem.W.nsIn K mainGlobals "decide_equations" = some (some (.ref f7))) (l7 : K.lookup f7 = some ⟨oc7, od7, .func (PySem.W.fnOf "decide_equations" "decide_equations" (defArgs s7) (defBody s7) (defScope s7) .none kV7 dc7 pm7 an7 cd7 ct7), sl7⟩) (e7 : PySem.W.codeIn K cd7 "decide_equations" = true)
    (a8 : PySem.W.nsIn K mainGlobals "judge_equations" = some (some (.ref f8))) (l8 : K.lookup f8 = some ⟨oc8, od8, .func (PySem.W.fnOf "judge_equations" "judge_equations" (defArgs s8) (defBody s8) (defScope s8) .none kV8 dc8 pm8 an8 cd8 ct8), sl8⟩) (e8 : PySem.W.codeIn K cd8 "judge_equations" = true)
    (a9 : PySem.W.nsIn K mainGlobals "rank" = some (some (.ref f9))) (l9 : K.lookup f9 = some ⟨oc9, od9, .func (PySem.W.fnOf "rank" "rank" (defArgs s9) (defBody s9) (defScope s9) .none kV9 dc9 pm9 an9 cd9 ct9), sl9⟩) (e9 : PySem.W.codeIn K cd9 "rank" = true)
    (a10 : PySem.W.nsIn K mainGlobals "kept_rows" = some (some (.ref f10))) (l10 : K.lookup f10 = some ⟨oc10, od10, .func (PySem.W.fnOf "kept_rows" "kept_rows" (defArgs s10) (defBody s10) (defScope s10) .none kV10 dc10 pm10 an10 cd10 ct10), sl10⟩) (e10 : PySem.W.codeIn K cd10 "kept_rows" = true)
    (a11 : PySem.W.nsIn K mainGlobals "_law_plus" = some (some (.ref f11))) (l11 : K.lookup f11 = some ⟨oc11, od11, .func (PySem.W.fnOf "_law_plus" "_law_plus" (defArgs s11) (defBody s11) (defScope s11) .none kV11 dc11 pm11 an11 cd11 ct11), sl11⟩) (e11 : PySem.W.codeIn K cd11 "_law_plus" = true)
    (a12 : PySem.W.nsIn K mainGlobals "_law_box" = some (some (.ref f12))) (l12 : K.lookup f12 = some ⟨oc12, od12, .func (PySem.W.fnOf "_law_box" "_law_box" (defArgs s12) (defBody s12) (defScope s12) .none kV12 dc12 pm12 an12 cd12 ct12), sl12⟩) (e12 : PySem.W.codeIn K cd12 "_law_box" = true)
    (a13 : PySem.W.nsIn K mainGlobals "_law_digits" = some (some (.ref f13))) (l13 : K.lookup f13 = some ⟨oc13, od13, .func (PySem.W.fnOf "_law_digits" "_law_digits" (defArgs s13) (defBody s13) (defScope s13) .none kV13 dc13 pm13 an13 cd13 ct13), sl13⟩) (e13 : PySem.W.codeIn K cd13 "_law_digits" = true)
    (a14 : PySem.W.nsIn K mainGlobals "_law_cell" = some (some (.ref f14))) (l14 : K.lookup f14 = some ⟨oc14, od14, .func (PySem.W.fnOf "_law_cell" "_law_cell" (defArgs s14) (defBody s14) (defScope s14) .none kV14 dc14 pm14 an14 cd14 ct14), sl14⟩) (e14 : PySem.W.codeIn K cd14 "_law_cell" = true)
    (a15 : PySem.W.nsIn K mainGlobals "_law_equations" = some (some (.ref f15))) (l15 : K.lookup f15 = some ⟨oc15, od15, .func (PySem.W.fnOf "_law_equations" "_law_equations" (defArgs s15) (defBody s15) (defScope s15) .none kV15 dc15 pm15 an15 cd15 ct15), sl15⟩) (e15 : PySem.W.codeIn K cd15 "_law_equations" = true)
    (a16 : PySem.W.nsIn K mainGlobals "_law_draw" = some (some (.ref f16))) (l16 : K.lookup f16 = some ⟨oc16, od16, .func (PySem.W.fnOf "_law_draw" "_law_draw" (defArgs s16) (defBody s16) (defScope s16) .none kV16 dc16 pm16 an16 cd16 ct16), sl16⟩) (e16 : PySem.W.codeIn K cd16 "_law_draw" = true)
    (a17 : PySem.W.nsIn K mainGlobals "_law_rows" = some (some (.ref f17))) (l17 : K.lookup f17 = some ⟨oc17, od17, .func (PySem.W.fnOf "_law_rows" "_law_rows" (defArgs s17) (defBody s17) (defScope s17) .none kV17 dc17 pm17 an17 cd17 ct17), sl17⟩) (e17 : PySem.W.codeIn K cd17 "_law_rows" = true)
    (a18 : PySem.W.nsIn K mainGlobals "_law_even" = some (some (.ref f18))) (l18 : K.lookup f18 = some ⟨oc18, od18, .func (PySem.W.fnOf "_law_even" "_law_even" (defArgs s18) (defBody s18) (defScope s18) .none kV18 dc18 pm18 an18 cd18 ct18), sl18⟩) (e18 : PySem.W.codeIn K cd18 "_law_even" = true)
    (a19 : PySem.W.nsIn K mainGlobals "_law_same" = some (some (.ref f19))) (l19 : K.lookup f19 = some ⟨oc19, od19, .func (PySem.W.fnOf "_law_same" "_law_same" (defArgs s19) (defBody s19) (defScope s19) .none kV19 dc19 pm19 an19 cd19 ct19), sl19⟩) (e19 : PySem.W.codeIn K cd19 "_law_same" = true)
    (a20 : PySem.W.nsIn K mainGlobals "_law_comes" = some (some (.ref f20))) (l20 : K.lookup f20 = some ⟨oc20, od20, .func (PySem.W.fnOf "_law_comes" "_law_comes" (defArgs s20) (defBody s20) (defScope s20) .none kV20 dc20 pm20 an20 cd20 ct20), sl20⟩) (e20 : PySem.W.codeIn K cd20 "_law_comes" = true)
    (a21 : PySem.W.nsIn K mainGlobals "law" = some (some (.ref f21))) (l21 : K.lookup f21 = some ⟨oc21, od21, .func (PySem.W.fnOf "law" "law" (defArgs s21) (defBody s21) (defScope s21) .none kV21 dc21 pm21 an21 cd21 ct21), sl21⟩) (e21 : PySem.W.codeIn K cd21 "law" = true)
    (z_all : PySem.W.nsIn K mainGlobals "all" = some none)
    (z_bool : PySem.W.nsIn K mainGlobals "bool" = some none)
    (z_enumerate : PySem.W.nsIn K mainGlobals "enumerate" = some none)
    (z_int : PySem.W.nsIn K mainGlobals "int" = some none)
    (z_isinstance : PySem.W.nsIn K mainGlobals "isinstance" = some none)
    (z_len : PySem.W.nsIn K mainGlobals "len" = some none)
    (z_list : PySem.W.nsIn K mainGlobals "list" = some none)
    (z_range : PySem.W.nsIn K mainGlobals "range" = some none)
    (z_set : PySem.W.nsIn K mainGlobals "set" = some none)
    (z_sorted : PySem.W.nsIn K mainGlobals "sorted" = some none)
    (z_str : PySem.W.nsIn K mainGlobals "str" = some none)
    (z_tuple : PySem.W.nsIn K mainGlobals "tuple" = some none)
    : ∃ t : Defs (noTab K) mg, t.f21 = f21 ∧ ∀ (s : Shared) (v : Value), BindsTo s t.d21 ⟨[v], []⟩ [("script", v)] := by
  have F0 := fun_mk (st := s0) (noTab_func l0) (noTab_code e0) (noTab_keep l0)
  have B0 := F0.binds (ps := ["value"]) fun _ _ _ _ _ _ us hl => match us, hl with | [_], _ => rfl
  have F1 := fun_mk (st := s1) (noTab_func l1) (noTab_code e1) (noTab_keep l1)
  have B1 := F1.binds (ps := ["names"]) fun _ _ _ _ _ _ us hl => match us, hl with | [_], _ => rfl
  have F2 := fun_mk (st := s2) (noTab_func l2) (noTab_code e2) (noTab_keep l2)
  have B2 := F2.binds (ps := ["one", "two"]) fun _ _ _ _ _ _ us hl => match us, hl with | [_, _], _ => rfl
  have F3 := fun_mk (st := s3) (noTab_func l3) (noTab_code e3) (noTab_keep l3)
  have B3 := F3.binds (ps := ["equation", "row"]) fun _ _ _ _ _ _ us hl => match us, hl with | [_, _], _ => rfl
  have F4 := fun_mk (st := s4) (noTab_func l4) (noTab_code e4) (noTab_keep l4)
  have B4 := F4.binds (ps := ["equations", "lot"]) fun _ _ _ _ _ _ us hl => match us, hl with | [_, _], _ => rfl
  have F5 := fun_mk (st := s5) (noTab_func l5) (noTab_code e5) (noTab_keep l5)
  have B5 := F5.binds (ps := ["equations"]) fun _ _ _ _ _ _ us hl => match us, hl with | [_], _ => rfl
  have F6 := fun_mk (st := s6) (noTab_func l6) (noTab_code e6) (noTab_keep l6)
  have B6 := F6.binds (ps := ["row", "fresh"]) fun _ _ _ _ _ _ us hl => match us, hl with | [_, _], _ => rfl
  have F7 := fun_mk (st := s7) (noTab_func l7) (noTab_code e7) (noTab_keep l7)
  have B7 := F7.binds (ps := ["equations"]) fun _ _ _ _ _ _ us hl => match us, hl with | [_], _ => rfl
  have F8 := fun_mk (st := s8) (noTab_func l8) (noTab_code e8) (noTab_keep l8)
  have B8 := F8.binds (ps := ["equations", "paper"]) fun _ _ _ _ _ _ us hl => match us, hl with | [_, _], _ => rfl
  have F9 := fun_mk (st := s9) (noTab_func l9) (noTab_code e9) (noTab_keep l9)
  have B9 := F9.binds (ps := ["equations"]) fun _ _ _ _ _ _ us hl => match us, hl with | [_], _ => rfl
  have F10 := fun_mk (st := s10) (noTab_func l10) (noTab_code e10) (noTab_keep l10)
  have B10 := F10.binds (ps := ["names", "equations"]) fun _ _ _ _ _ _ us hl => match us, hl with | [_, _], _ => rfl
  have F11 := fun_mk (st := s11) (noTab_func l11) (noTab_code e11) (noTab_keep l11)
  have B11 := F11.binds (ps := ["one", "two"]) fun _ _ _ _ _ _ us hl => match us, hl with | [_, _], _ => rfl
  have F12 := fun_mk (st := s12) (noTab_func l12) (noTab_code e12) (noTab_keep l12)
  have B12 := F12.binds (ps := ["script", "first", "last"]) fun _ _ _ _ _ _ us hl => match us, hl with | [_, _, _], _ => rfl
  have F13 := fun_mk (st := s13) (noTab_func l13) (noTab_code e13) (noTab_keep l13)
  have B13 := F13.binds (ps := ["script", "first", "last"]) fun _ _ _ _ _ _ us hl => match us, hl with | [_, _, _], _ => rfl
  have F14 := fun_mk (st := s14) (noTab_func l14) (noTab_code e14) (noTab_keep l14)
  have B14 := F14.binds (ps := ["script", "k"]) fun _ _ _ _ _ _ us hl => match us, hl with | [_, _], _ => rfl
  have F15 := fun_mk (st := s15) (noTab_func l15) (noTab_code e15) (noTab_keep l15)
  have B15 := F15.binds (ps := ["box", "most"]) fun _ _ _ _ _ _ us hl => match us, hl with | [_, _], _ => rfl
  have F16 := fun_mk (st := s16) (noTab_func l16) (noTab_code e16) (noTab_keep l16)
  have B16 := F16.binds (ps := ["box", "many"]) fun _ _ _ _ _ _ us hl => match us, hl with | [_, _], _ => rfl
  have F17 := fun_mk (st := s17) (noTab_func l17) (noTab_code e17) (noTab_keep l17)
  have B17 := F17.binds (ps := ["names"]) fun _ _ _ _ _ _ us hl => match us, hl with | [_], _ => rfl
  have F18 := fun_mk (st := s18) (noTab_func l18) (noTab_code e18) (noTab_keep l18)
  have B18 := F18.binds (ps := ["equation", "row"]) fun _ _ _ _ _ _ us hl => match us, hl with | [_, _], _ => rfl
  have F19 := fun_mk (st := s19) (noTab_func l19) (noTab_code e19) (noTab_keep l19)
  have B19 := F19.binds (ps := ["actual", "expected"]) fun _ _ _ _ _ _ us hl => match us, hl with | [_, _], _ => rfl
  have F20 := fun_mk (st := s20) (noTab_func l20) (noTab_code e20) (noTab_keep l20)
  have B20 := F20.binds (ps := ["equations", "lot"]) fun _ _ _ _ _ _ us hl => match us, hl with | [_, _], _ => rfl
  have F21 := fun_mk (st := s21) (noTab_func l21) (noTab_code e21) (noTab_keep l21)
  have B21 := F21.binds (ps := ["script"]) fun _ _ _ _ _ _ us hl => match us, hl with | [_], _ => rfl
  exact ⟨⟨f0, _, F0, ⟨PySem.W.mg_of X G0 a0, noTab_keep l0, B0⟩, f1, _, F1, ⟨PySem.W.mg_of X G0 a1, noTab_keep l1, B1⟩, f2, _, F2, ⟨PySem.W.mg_of X G0 a2, noTab_keep l2, B2⟩, f3, _, F3, ⟨PySem.W.mg_of X G0 a3, noTab_keep l3, B3⟩, f4, _, F4, ⟨PySem.W.mg_of X G0 a4, noTab_keep l4, B4⟩, f5, _, F5, ⟨PySem.W.mg_of X G0 a5, noTab_keep l5, B5⟩, f6, _, F6, ⟨PySem.W.mg_of X G0 a6, noTab_keep l6, B6⟩, f7, _, F7, ⟨PySem.W.mg_of X G0 a7, noTab_keep l7, B7⟩, f8, _, F8, ⟨PySem.W.mg_of X G0 a8, noTab_keep l8, B8⟩, f9, _, F9, ⟨PySem.W.mg_of X G0 a9, noTab_keep l9, B9⟩, f10, _, F10, ⟨PySem.W.mg_of X G0 a10, noTab_keep l10, B10⟩, f11, _, F11, ⟨PySem.W.mg_of X G0 a11, noTab_keep l11, B11⟩, f12, _, F12, ⟨PySem.W.mg_of X G0 a12, noTab_keep l12, B12⟩, f13, _, F13, ⟨PySem.W.mg_of X G0 a13, noTab_keep l13, B13⟩, f14, _, F14, ⟨PySem.W.mg_of X G0 a14, noTab_keep l14, B14⟩, f15, _, F15, ⟨PySem.W.mg_of X G0 a15, noTab_keep l15, B15⟩, f16, _, F16, ⟨PySem.W.mg_of X G0 a16, noTab_keep l16, B16⟩, f17, _, F17, ⟨PySem.W.mg_of X G0 a17, noTab_keep l17, B17⟩, f18, _, F18, ⟨PySem.W.mg_of X G0 a18, noTab_keep l18, B18⟩, f19, _, F19, ⟨PySem.W.mg_of X G0 a19, noTab_keep l19, B19⟩, f20, _, F20, ⟨PySem.W.mg_of X G0 a20, noTab_keep l20, B20⟩, f21, _, F21, ⟨PySem.W.mg_of X G0 a21, noTab_keep l21, B21⟩, PySem.W.mg_none_of X G0 z_all, PySem.W.mg_none_of X G0 z_bool, PySem.W.mg_none_of X G0 z_enumerate, PySem.W.mg_none_of X G0 z_int, PySem.W.mg_none_of X G0 z_isinstance, PySem.W.mg_none_of X G0 z_len, PySem.W.mg_none_of X G0 z_list, PySem.W.mg_none_of X G0 z_range, PySem.W.mg_none_of X G0 z_set, PySem.W.mg_none_of X G0 z_sorted, PySem.W.mg_none_of X G0 z_str, PySem.W.mg_none_of X G0 z_tuple⟩, rfl, fun s v => .of_eq rfl⟩
theorem walk {l : PySem.W.OpenLaw} {q : Program} {loose : List Str} {XP : (Str → Option Value) → Heap → Prop} {YP : World → Heap → Prop} {d : DefRec} {K : Params → PySem.W.Frag} (hn : l.most = some 63) (hdf : d.params.defaults = []) (hdn : d.name = "law")
    (hrec : ((["judge_equations", "rank", "kept_rows"] : List Str).all fun y => (recsOf q).any fun e => e.name == y) = true) (hY : ∀ (w : World) (h : Heap), YP w h → (K w.params).In h)
    (hm : ∀ (ns : List Int) (o : O), ns.length ≤ 63 → o = .lst (ns.map D.int) ∨ o = .frz (ns.map D.int) → ∃ S', run 165 21 [.loc 0] [o] = some (.bl true, S'))
    (F : ∀ (w : World) (mg : Str → Option Value) (fa : Addr) (h : Heap), (K w.params).In h → h.Ns mainGlobals mg → mg d.name = some (.ref fa) → ∃ t : Defs (noTab (K w.params)) mg, (∃ x, x = t.f21) ∧ ∀ (s : Shared) (v : Value), BindsTo s t.d21 ⟨[v], []⟩ [("script", v)]) :
    PySem.W.WalkO q loose XP YP l.row.toRowW d [] (fun f vs => PySem.call f vs) := by
  refine walk_tab (k := 231) (x := "script") ["judge_equations", "rank", "kept_rows"] hn hdf ⟨rfl, by decide, by decide⟩ hrec hY fun w mg fa h KX G0 hmg => ?_
  obtain ⟨t, _, hb⟩ := F w mg fa h KX G0 hmg
  have e := t.k21.at_
  rw [hdn] at hmg
  have ef : fa = t.f21 := by have q := hmg.symm.trans e; cases q; rfl
  subst ef
  refine ⟨t.d21, hb, fun cs hcs base hk hg hTB => ?_⟩
  letI : Tabs := tabsOf cs
  have B : Tbs t base := ⟨tb_of t.F8 t.k8.at_ (hcs "judge_equations" (by decide)) hTB, tb_of t.F9 t.k9.at_ (hcs "rank" (by decide)) hTB, tb_of t.F10 t.k10.at_ (hcs "kept_rows" (by decide)) hTB⟩
  exact law_ok (c := 3) (n := 165) (k := 230) (N := 63) (all_ok t B 165).c21 (by decide) (by decide) hm
end K18
end
section
set_option maxHeartbeats 4000000
namespace K18
open PySem Mini
def v0 (V : Nat → List W → Tape → Option (W × Tape)) : US := (tSeq (tRet (uAnd (uIsi .int (uVar 0)) (uAnd (uNot (uIsi .bool (uVar 0))) (uOp wGe (uVar 0) (uC (.int 0)))))) tNil)
def v1 (V : Nat → List W → Tape → Option (W × Tape)) : US := (tSeq (tSet 1 (uAll wLstL (uCons (uAll wTupL uNil) uNil))) (tSeq (tFor (uAny (uVar 0)) (vgN 2) (tSeq (tExt 1 (uLc (uAny (uVar 1)) [3] (vgN 3) cYes (uOp wPlus (uVar 3) (uAll wTupL (uCons (uVar 2) uNil))))) tNil)) (tSeq (tRet (uAll wSortA (uCons (uVar 1) uNil))) tNil)))
def v2 (V : Nat → List W → Tape → Option (W × Tape)) : US := (tSeq (tRet (uAll wTupC (uCons (uAll wSortA (uCons (uOp wPlus (uLc (uAny (uVar 0)) [2] (vgN 2) (cVal (uOp wNotIn (uVar 2) (uVar 1))) (uVar 2)) (uLc (uAny (uVar 1)) [2] (vgN 2) (cVal (uOp wNotIn (uVar 2) (uVar 0))) (uVar 2))) uNil)) uNil))) tNil)
def v3 (V : Nat → List W → Tape → Option (W × Tape)) : US := (tSeq (tRet (uOp wEq (uOp wMod (uAll wLen (uCons (uLc (uAny (uOp wIx (uVar 0) (uC (.int 0)))) [2] (vgN 2) (cVal (uOp wIn (uVar 2) (uVar 1))) (uVar 2)) uNil)) (uC (.int 2))) (uOp wIx (uVar 0) (uC (.int 1))))) tNil)
def v4 (V : Nat → List W → Tape → Option (W × Tape)) : US := (tSeq (tSet 2 (uAll wTupL uNil)) (tSeq (tSet 3 (uC (.int 0))) (tSeq (tFor (uAny (uVar 1)) (vgN 4) (tSeq (tSet 2 (uCallP 2 (V 2) (uCons (uVar 2) (uCons (uOp wIx (uOp wIx (uVar 0) (uVar 4)) (uC (.int 0))) uNil)))) (tSeq (tSet 3 (uOp wMod (uOp wPlus (uVar 3) (uOp wIx (uOp wIx (uVar 0) (uVar 4)) (uC (.int 1)))) (uC (.int 2)))) tNil))) (tSeq (tRet (uAll wTupL (uCons (uVar 2) (uCons (uVar 3) uNil)))) tNil))))
def v5 (V : Nat → List W → Tape → Option (W × Tape)) : US := (tSeq (tSet 1 (uAll wLstL uNil)) (tSeq (tFor (uEnum (uVar 0)) (vgT 2 (vgsC (vgN 2) (vgsC (vgT 2 (vgsC (vgN 3) (vgsC (vgN 4) vgsN))) vgsN))) (tSeq (tSet 5 (uAll wTupL (uCons (uVar 2) uNil))) (tSeq (tFor (uAny (uVar 1)) (vgT 3 (vgsC (vgN 6) (vgsC (vgN 7) (vgsC (vgN 8) vgsN)))) (tSeq (tIf (cAnd (cTru (uVar 6)) (cVal (uOp wIn (uOp wIx (uVar 6) (uC (.int 0))) (uVar 3)))) (tSeq (tAsg (uAll wTupL (uCons (uCallP 2 (V 2) (uCons (uVar 3) (uCons (uVar 6) uNil))) (uCons (uOp wMod (uOp wPlus (uVar 4) (uVar 7)) (uC (.int 2))) (uCons (uCallP 2 (V 2) (uCons (uVar 5) (uCons (uVar 8) uNil))) uNil)))) (vgT 3 (vgsC (vgN 3) (vgsC (vgN 4) (vgsC (vgN 5) vgsN))))) tNil) tNil) tNil)) (tSeq (tIf (cTru (uVar 3)) (tSeq (tSet 1 (uOp wPlus (uLc (uAny (uVar 1)) [9] (vgN 9) cYes (uCallP 2 (V 6) (uCons (uVar 9) (uCons (uAll wTupL (uCons (uVar 3) (uCons (uVar 4) (uCons (uVar 5) uNil)))) uNil)))) (uAll wLstL (uCons (uAll wTupL (uCons (uVar 3) (uCons (uVar 4) (uCons (uVar 5) uNil)))) uNil)))) tNil) (tSeq (tApp 1 (uAll wTupL (uCons (uVar 3) (uCons (uVar 4) (uCons (uVar 5) uNil))))) tNil)) tNil)))) (tSeq (tRet (uVar 1)) tNil)))
def v6 (V : Nat → List W → Tape → Option (W × Tape)) : US := (tSeq (tIf (cVal (uOp wNotIn (uOp wIx (uOp wIx (uVar 1) (uC (.int 0))) (uC (.int 0))) (uOp wIx (uVar 0) (uC (.int 0))))) (tSeq (tRet (uVar 0)) tNil) tNil) (tSeq (tRet (uAll wTupL (uCons (uCallP 2 (V 2) (uCons (uOp wIx (uVar 0) (uC (.int 0))) (uCons (uOp wIx (uVar 1) (uC (.int 0))) uNil))) (uCons (uOp wMod (uOp wPlus (uOp wIx (uVar 0) (uC (.int 1))) (uOp wIx (uVar 1) (uC (.int 1)))) (uC (.int 2))) (uCons (uCallP 2 (V 2) (uCons (uOp wIx (uVar 0) (uC (.int 2))) (uCons (uOp wIx (uVar 1) (uC (.int 2))) uNil))) uNil))))) tNil))
def v7 (V : Nat → List W → Tape → Option (W × Tape)) : US := (tSeq (tSet 1 (uCallP 1 (V 5) (uCons (uVar 0) uNil))) (tSeq (tFor (uAny (uVar 1)) (vgT 3 (vgsC (vgN 2) (vgsC (vgN 3) (vgsC (vgN 4) vgsN)))) (tSeq (tIf (cAnd (cNot (cTru (uVar 2))) (cVal (uOp wEq (uVar 3) (uC (.int 1))))) (tSeq (tRet (uAll wTupL (uCons (uC (.str "lot")) (uCons (uVar 4) uNil)))) tNil) tNil) tNil)) (tSeq (tRet (uAll wTupL (uCons (uC (.str "row")) (uCons (uAll wTupC (uCons (uAll wSortA (uCons (uLc (uAny (uVar 1)) [2, 3, 5] (vgT 3 (vgsC (vgN 2) (vgsC (vgN 3) (vgsC (vgN 5) vgsN)))) (cAnd (cTru (uVar 2)) (cVal (uOp wEq (uVar 3) (uC (.int 1))))) (uOp wIx (uVar 2) (uC (.int 0)))) uNil)) uNil)) uNil)))) tNil)))
def v8 (V : Nat → List W → Tape → Option (W × Tape)) : US := (tSeq (tIf (cOr (cNot (cTru (uIsi .tuple (uVar 1)))) (cOr (cVal (uOp wNe (uAll wLen (uCons (uVar 1) uNil)) (uC (.int 2)))) (cNot (cTru (uIsi .str (uOp wIx (uVar 1) (uC (.int 0)))))))) (tSeq (tRet (uC (.bl false))) tNil) tNil) (tSeq (tIf (cNot (cTru (uIsi .tuple (uOp wIx (uVar 1) (uC (.int 1)))))) (tSeq (tRet (uC (.bl false))) tNil) tNil) (tSeq (tIf (cVal (uOp wEq (uOp wIx (uVar 1) (uC (.int 0))) (uC (.str "row")))) (tSeq (tIf (cOr (cNot (cTru (uQ true (uAny (uOp wIx (uVar 1) (uC (.int 1)))) [2] (vgN 2) cYes (uIsi .str (uVar 2))))) (cVal (uOp wNe (uLenSet (uOp wIx (uVar 1) (uC (.int 1)))) (uAll wLen (uCons (uOp wIx (uVar 1) (uC (.int 1))) uNil))))) (tSeq (tRet (uC (.bl false))) tNil) tNil) (tSeq (tRet (uQ true (uAny (uVar 0)) [3] (vgN 3) cYes (uCallP 2 (V 3) (uCons (uVar 3) (uCons (uOp wIx (uVar 1) (uC (.int 1))) uNil))))) tNil)) tNil) (tSeq (tIf (cOr (cVal (uOp wNe (uOp wIx (uVar 1) (uC (.int 0))) (uC (.str "lot")))) (cNot (cTru (uQ true (uAny (uOp wIx (uVar 1) (uC (.int 1)))) [4] (vgN 4) cYes (uAnd (uCallP 1 (V 0) (uCons (uVar 4) uNil)) (uOp wLtB (uVar 4) (uAll wLen (uCons (uVar 0) uNil)))))))) (tSeq (tRet (uC (.bl false))) tNil) tNil) (tSeq (tRet (uAnd (uOp wEq (uLenSet (uOp wIx (uVar 1) (uC (.int 1)))) (uAll wLen (uCons (uOp wIx (uVar 1) (uC (.int 1))) uNil))) (uOp wEq (uCallP 2 (V 4) (uCons (uVar 0) (uCons (uOp wIx (uVar 1) (uC (.int 1))) uNil))) (uAll wTupL (uCons (uAll wTupL uNil) (uCons (uC (.int 1)) uNil)))))) tNil)))))
def v9 (V : Nat → List W → Tape → Option (W × Tape)) : US := (tSeq (tRet (uAll wLen (uCons (uLc (uAny (uCallP 1 (V 5) (uCons (uTG (uAny (uVar 0)) [1, 2] (vgT 2 (vgsC (vgN 1) (vgsC (vgN 2) vgsN))) cYes (uAll wTupL (uCons (uVar 1) (uCons (uC (.int 0)) uNil)))) uNil))) [1, 2] (vgT 3 (vgsC (vgN 1) (vgsC (vgN 2) (vgsC (vgN 2) vgsN)))) (cTru (uVar 1)) (uVar 1)) uNil))) tNil)
def v10 (V : Nat → List W → Tape → Option (W × Tape)) : US := (tSeq (tRet (uTG (uAny (uCallP 1 (V 1) (uCons (uVar 0) uNil))) [2] (vgN 2) (cTru (uQ true (uAny (uVar 1)) [3] (vgN 3) cYes (uCallP 2 (V 3) (uCons (uVar 3) (uCons (uVar 2) uNil))))) (uVar 2))) tNil)
def v11 (V : Nat → List W → Tape → Option (W × Tape)) : US := (tSeq (tRet (uAll wTupC (uCons (uAll wSortA (uCons (uOp wPlus (uLc (uAny (uVar 0)) [2] (vgN 2) (cVal (uOp wNotIn (uVar 2) (uVar 1))) (uVar 2)) (uLc (uAny (uVar 1)) [2] (vgN 2) (cVal (uOp wNotIn (uVar 2) (uVar 0))) (uVar 2))) uNil)) uNil))) tNil)
def v15 (V : Nat → List W → Tape → Option (W × Tape)) : US := (tSeq (tSet 2 (uAll wLstL uNil)) (tSeq (tFor (uRng1 (uCall 2 (V 16) (uCons (uVar 0) (uCons (uOp wAdd (uVar 1) (uC (.int 1))) uNil)))) (vgN 3) (tSeq (tApp 2 (uAll wTupL (uCons (uAll wTupC (uCons (uLc (uAny (uAll wLstL (uCons (uC (.str "a")) (uCons (uC (.str "b")) (uCons (uC (.str "c")) (uCons (uC (.str "d")) (uCons (uC (.str "e")) uNil))))))) [4] (vgN 4) (cVal (uOp wEq (uCall 2 (V 16) (uCons (uVar 0) (uCons (uC (.int 3)) uNil))) (uC (.int 0)))) (uVar 4)) uNil)) (uCons (uCall 2 (V 16) (uCons (uVar 0) (uCons (uC (.int 2)) uNil))) uNil)))) tNil)) (tSeq (tRet (uAll wTupC (uCons (uVar 2) uNil))) tNil)))
def v17 (V : Nat → List W → Tape → Option (W × Tape)) : US := (tSeq (tSet 1 (uAll wLstL (uCons (uAll wTupL uNil) uNil))) (tSeq (tFor (uAny (uVar 0)) (vgN 2) (tSeq (tSet 1 (uOp wPlus (uVar 1) (uLc (uAny (uVar 1)) [3] (vgN 3) cYes (uOp wPlus (uVar 3) (uAll wTupL (uCons (uVar 2) uNil)))))) tNil)) (tSeq (tRet (uAll wSortA (uCons (uVar 1) uNil))) tNil)))
def v18 (V : Nat → List W → Tape → Option (W × Tape)) : US := (tSeq (tSet 2 (uAll wLen (uCons (uLc (uAny (uOp wIx (uVar 0) (uC (.int 0)))) [3] (vgN 3) (cVal (uOp wIn (uVar 3) (uVar 1))) (uVar 3)) uNil))) (tSeq (tRet (uOp wEq (uOp wSub (uVar 2) (uOp wMul (uC (.int 2)) (uOp wDiv (uVar 2) (uC (.int 2))))) (uOp wIx (uVar 0) (uC (.int 1))))) tNil))
def v19 (V : Nat → List W → Tape → Option (W × Tape)) : US := (tSeq (tIf (cTru (uIsi .tuple (uVar 1))) (tSeq (tIf (cOr (cNot (cTru (uIsi .tuple (uVar 0)))) (cVal (uOp wNe (uAll wLen (uCons (uVar 0) uNil)) (uAll wLen (uCons (uVar 1) uNil))))) (tSeq (tRet (uC (.bl false))) tNil) tNil) (tSeq (tFor (uRng1 (uAll wLen (uCons (uVar 1) uNil))) (vgN 2) (tSeq (tIf (cNot (cTru (uCallP 2 (V 19) (uCons (uOp wIx (uVar 0) (uVar 2)) (uCons (uOp wIx (uVar 1) (uVar 2)) uNil))))) (tSeq (tRet (uC (.bl false))) tNil) tNil) tNil)) (tSeq (tRet (uC (.bl true))) tNil))) tNil) (tSeq (tIf (cVal (uOp wIs (uVar 1) (uC .non))) (tSeq (tRet (uOp wIs (uVar 0) (uC .non))) tNil) tNil) (tSeq (tIf (cTru (uIsi .bool (uVar 1))) (tSeq (tRet (uAnd (uIsi .bool (uVar 0)) (uOp wEq (uVar 0) (uVar 1)))) tNil) tNil) (tSeq (tIf (cTru (uIsi .int (uVar 1))) (tSeq (tRet (uAnd (uIsi .int (uVar 0)) (uAnd (uNot (uIsi .bool (uVar 0))) (uOp wEq (uVar 0) (uVar 1))))) tNil) tNil) (tSeq (tRet (uAnd (uIsi .str (uVar 0)) (uOp wEq (uVar 0) (uVar 1)))) tNil)))))
def v20 (V : Nat → List W → Tape → Option (W × Tape)) : US := (tSeq (tSet 2 (uAll wTupL uNil)) (tSeq (tSet 3 (uC (.int 0))) (tSeq (tFor (uAny (uVar 1)) (vgN 4) (tSeq (tSet 2 (uCallP 2 (V 11) (uCons (uVar 2) (uCons (uOp wIx (uOp wIx (uVar 0) (uVar 4)) (uC (.int 0))) uNil)))) (tSeq (tSet 3 (uOp wPlus (uVar 3) (uOp wIx (uOp wIx (uVar 0) (uVar 4)) (uC (.int 1))))) tNil))) (tSeq (tRet (uAnd (uOp wEq (uVar 2) (uAll wTupL uNil)) (uOp wEq (uOp wSub (uVar 3) (uOp wMul (uC (.int 2)) (uOp wDiv (uVar 3) (uC (.int 2))))) (uC (.int 1))))) tNil))))
def vLaw (V : Nat → List W → Tape → Option (W × Tape)) : US := (tSeq (tSet 2 (uCall 2 (V 15) (uCons (uVar 1) (uCons (uC (.int 7)) uNil)))) (tSeq (tSet 3 (uAll wTupL (uCons (uC (.str "a")) (uCons (uC (.str "b")) (uCons (uC (.str "c")) (uCons (uC (.str "d")) (uCons (uC (.str "e")) uNil))))))) (tSeq (tSet 4 (uLc (uAny (uCallP 1 (V 17) (uCons (uVar 3) uNil))) [11] (vgN 11) (cVal (uOp wEq (uAll wLen (uCons (uLc (uAny (uVar 2)) [13] (vgN 13) (cNot (cTru (uCallP 2 (V 18) (uCons (uVar 13) (uCons (uVar 11) uNil))))) (uVar 13)) uNil)) (uC (.int 0)))) (uVar 11))) (tSeq (tIf (cNot (cTru (uCallP 2 (V 19) (uCons (uCallP 2 (V 10) (uCons (uVar 3) (uCons (uVar 2) uNil))) (uCons (uAll wTupC (uCons (uVar 4) uNil)) uNil))))) (tSeq (tRet (uC (.bl false))) tNil) tNil) (tSeq (tSet 5 (uCallP 1 (V 7) (uCons (uVar 2) uNil))) (tSeq (tIf (cOr (cVal (uOp wIsNot (uCallP 2 (V 8) (uCons (uVar 2) (uCons (uVar 5) uNil))) (uC (.bl true)))) (cVal (uOp wNe (uOp wEq (uOp wIx (uVar 5) (uC (.int 0))) (uC (.str "row"))) (uOp wGtA (uAll wLen (uCons (uVar 4) uNil)) (uC (.int 0)))))) (tSeq (tRet (uC (.bl false))) tNil) tNil) (tSeq (tIf (cAnd (cVal (uOp wEq (uOp wIx (uVar 5) (uC (.int 0))) (uC (.str "row")))) (cVal (uOp wNotIn (uOp wIx (uVar 5) (uC (.int 1))) (uVar 4)))) (tSeq (tRet (uC (.bl false))) tNil) tNil) (tSeq (tIf (cAnd (cVal (uOp wEq (uOp wIx (uVar 5) (uC (.int 0))) (uC (.str "lot")))) (cOr (cNot (cTru (uCallP 2 (V 20) (uCons (uVar 2) (uCons (uOp wIx (uVar 5) (uC (.int 1))) uNil))))) (cVal (uOp (wEqL false) (uAll wList (uCons (uOp wIx (uVar 5) (uC (.int 1))) uNil)) (uSortSetC (uOp wIx (uVar 5) (uC (.int 1)))))))) (tSeq (tRet (uC (.bl false))) tNil) tNil) (tSeq (tSet 6 (uC (.int 1))) (tSeq (tFor (uRng1 (uCallP 1 (V 9) (uCons (uVar 2) uNil))) (vgN 7) (tSeq (tSet 6 (uOp wMul (uVar 6) (uC (.int 2)))) tNil)) (tSeq (tSet 8 (uAll wLstL uNil)) (tSeq (tFor (uAny (uCallP 1 (V 17) (uCons (uLc (uRng1 (uAll wLen (uCons (uVar 2) uNil))) [7] (vgN 7) cYes (uAll wStr (uCons (uVar 7) uNil))) uNil))) (vgN 9) (tSeq (tSet 10 (uAll wTupL uNil)) (tSeq (tFor (uAny (uVar 9)) (vgN 7) (tSeq (tSet 10 (uCallP 2 (V 11) (uCons (uVar 10) (uCons (uOp wIx (uOp wIx (uVar 2) (uAll wIntS (uCons (uVar 7) uNil))) (uC (.int 0))) uNil)))) tNil)) (tSeq (tApp 8 (uVar 10)) tNil)))) (tSeq (tIf (cVal (uOp wNe (uLenSet (uVar 8)) (uVar 6))) (tSeq (tRet (uC (.bl false))) tNil) tNil) (tSeq (tSet 11 (uOp wIx (uCallP 1 (V 17) (uCons (uVar 3) uNil)) (uCall 2 (V 16) (uCons (uVar 1) (uCons (uC (.int 32)) uNil))))) (tSeq (tIf (cNot (cTru (uCallP 2 (V 19) (uCons (uCallP 2 (V 8) (uCons (uVar 2) (uCons (uAll wTupL (uCons (uC (.str "row")) (uCons (uVar 11) uNil))) uNil))) (uCons (uOp wIn (uVar 11) (uVar 4)) uNil))))) (tSeq (tRet (uC (.bl false))) tNil) tNil) (tSeq (tSet 9 (uAll wTupC (uCons (uLc (uRng1 (uAll wLen (uCons (uVar 2) uNil))) [7] (vgN 7) (cVal (uOp wEq (uCall 2 (V 16) (uCons (uVar 1) (uCons (uC (.int 2)) uNil))) (uC (.int 0)))) (uVar 7)) uNil))) (tSeq (tIf (cNot (cTru (uCallP 2 (V 19) (uCons (uCallP 2 (V 8) (uCons (uVar 2) (uCons (uAll wTupL (uCons (uC (.str "lot")) (uCons (uVar 9) uNil))) uNil))) (uCons (uCallP 2 (V 20) (uCons (uVar 2) (uCons (uVar 9) uNil))) uNil))))) (tSeq (tRet (uC (.bl false))) tNil) tNil) (tSeq (tSet 12 (uOp wIx (uAll wLstL (uCons (uC .non) (uCons (uAll wTupL uNil) (uCons (uAll wTupL (uCons (uC (.str "row")) uNil)) (uCons (uAll wTupL (uCons (uC (.str "row")) (uCons (uC .non) uNil))) (uCons (uAll wTupL (uCons (uC (.str "row")) (uCons (uAll wTupL (uCons (uC (.str "a")) (uCons (uC (.str "a")) uNil))) uNil))) (uCons (uAll wTupL (uCons (uC (.str "lot")) (uCons (uAll wTupL (uCons (uC (.int 99)) uNil)) uNil))) (uCons (uAll wTupL (uCons (uC (.str "lot")) (uCons (uC .non) uNil))) (uCons (uAll wTupL (uCons (uC (.str "lot")) (uCons (uAll wTupL (uCons (uC (.int 0)) (uCons (uC (.int 0)) (uCons (uC (.int 0)) uNil)))) uNil))) (uCons (uAll wTupL (uCons (uC (.str "sum")) (uCons (uVar 9) uNil))) uNil)))))))))) (uCall 2 (V 16) (uCons (uVar 1) (uCons (uC (.int 9)) uNil))))) (tSeq (tRet (uOp wIs (uCallP 2 (V 8) (uCons (uVar 2) (uCons (uVar 12) uNil))) (uC (.bl false)))) tNil)))))))))))))))))))
def mLaw (T : Nat → List D → Sto → Option (D × Sto)) : XS := (sSeq (sAsg (xCall 2 (T 15) (xCons (xVar 1) (xCons (xC (.int 7)) xNil))) (gN 2)) (sSeq (sAsg (xAll mkTup (xCons (xC (.str "a")) (xCons (xC (.str "b")) (xCons (xC (.str "c")) (xCons (xC (.str "d")) (xCons (xC (.str "e")) xNil)))))) (gN 3)) (sSeq (sAsg (xLc (wAny (xCall 1 (T 17) (xCons (xVar 3) xNil))) [11] (gN 11) (bVal (xOp fEq (xAll fLen (xCons (xLc (wAny (xVar 2)) [13] (gN 13) (bNot (bTru (xCall 2 (T 18) (xCons (xVar 13) (xCons (xVar 11) xNil))))) (xVar 13)) xNil)) (xC (.int 0)))) (xVar 11)) (gN 4)) (sSeq (sIf (bNot (bTru (xCall 2 (T 19) (xCons (xCall 2 (T 10) (xCons (xVar 3) (xCons (xVar 2) xNil))) (xCons (xAll fTup (xCons (xVar 4) xNil)) xNil))))) (sSeq (sRet (xC (.bl false))) sNil) sNil) (sSeq (sAsg (xCall 1 (T 7) (xCons (xVar 2) xNil)) (gN 5)) (sSeq (sIf (bOr (bVal (xOp fIsNot (xCall 2 (T 8) (xCons (xVar 2) (xCons (xVar 5) xNil))) (xC (.bl true)))) (bVal (xOp fNe (xOp fEq (xOp fIx (xVar 5) (xC (.int 0))) (xC (.str "row"))) (xOp fGtA (xAll fLen (xCons (xVar 4) xNil)) (xC (.int 0)))))) (sSeq (sRet (xC (.bl false))) sNil) sNil) (sSeq (sIf (bAnd (bVal (xOp fEq (xOp fIx (xVar 5) (xC (.int 0))) (xC (.str "row")))) (bVal (xOp fNotIn (xOp fIx (xVar 5) (xC (.int 1))) (xVar 4)))) (sSeq (sRet (xC (.bl false))) sNil) sNil) (sSeq (sIf (bAnd (bVal (xOp fEq (xOp fIx (xVar 5) (xC (.int 0))) (xC (.str "lot")))) (bOr (bNot (bTru (xCall 2 (T 20) (xCons (xVar 2) (xCons (xOp fIx (xVar 5) (xC (.int 1))) xNil))))) (bVal (xOp (fEqL false) (xAll fList (xCons (xOp fIx (xVar 5) (xC (.int 1))) xNil)) (xSortSetC (xOp fIx (xVar 5) (xC (.int 1)))))))) (sSeq (sRet (xC (.bl false))) sNil) sNil) (sSeq (sAsg (xC (.int 1)) (gN 6)) (sSeq (sFor (wRng1 (xCall 1 (T 9) (xCons (xVar 2) xNil))) (gN 7) (sSeq (sAsg (xOp fMul (xVar 6) (xC (.int 2))) (gN 6)) sNil)) (sSeq (sAsg (xAll mkLst xNil) (gN 8)) (sSeq (sFor (wAny (xCall 1 (T 17) (xCons (xLc (wRng1 (xAll fLen (xCons (xVar 2) xNil))) [7] (gN 7) bYes (xAll fStr (xCons (xVar 7) xNil))) xNil))) (gN 9) (sSeq (sAsg (xAll mkTup xNil) (gN 10)) (sSeq (sFor (wAny (xVar 9)) (gN 7) (sSeq (sAsg (xCall 2 (T 11) (xCons (xVar 10) (xCons (xOp fIx (xOp fIx (xVar 2) (xAll fIntS (xCons (xVar 7) xNil))) (xC (.int 0))) xNil))) (gN 10)) sNil)) (sSeq (sExpr (xMet okList fApp (xVar 8) (xCons (xVar 10) xNil))) sNil)))) (sSeq (sIf (bVal (xOp fNe (xLenSet (xVar 8)) (xVar 6))) (sSeq (sRet (xC (.bl false))) sNil) sNil) (sSeq (sAsg (xOp fIx (xCall 1 (T 17) (xCons (xVar 3) xNil)) (xCall 2 (T 16) (xCons (xVar 1) (xCons (xC (.int 32)) xNil)))) (gN 11)) (sSeq (sIf (bNot (bTru (xCall 2 (T 19) (xCons (xCall 2 (T 8) (xCons (xVar 2) (xCons (xAll mkTup (xCons (xC (.str "row")) (xCons (xVar 11) xNil))) xNil))) (xCons (xOp fIn (xVar 11) (xVar 4)) xNil))))) (sSeq (sRet (xC (.bl false))) sNil) sNil) (sSeq (sAsg (xAll fTup (xCons (xLc (wRng1 (xAll fLen (xCons (xVar 2) xNil))) [7] (gN 7) (bVal (xOp fEq (xCall 2 (T 16) (xCons (xVar 1) (xCons (xC (.int 2)) xNil))) (xC (.int 0)))) (xVar 7)) xNil)) (gN 9)) (sSeq (sIf (bNot (bTru (xCall 2 (T 19) (xCons (xCall 2 (T 8) (xCons (xVar 2) (xCons (xAll mkTup (xCons (xC (.str "lot")) (xCons (xVar 9) xNil))) xNil))) (xCons (xCall 2 (T 20) (xCons (xVar 2) (xCons (xVar 9) xNil))) xNil))))) (sSeq (sRet (xC (.bl false))) sNil) sNil) (sSeq (sAsg (xOp fIx (xAll mkLst (xCons (xC .non) (xCons (xAll mkTup xNil) (xCons (xAll mkTup (xCons (xC (.str "row")) xNil)) (xCons (xAll mkTup (xCons (xC (.str "row")) (xCons (xC .non) xNil))) (xCons (xAll mkTup (xCons (xC (.str "row")) (xCons (xAll mkTup (xCons (xC (.str "a")) (xCons (xC (.str "a")) xNil))) xNil))) (xCons (xAll mkTup (xCons (xC (.str "lot")) (xCons (xAll mkTup (xCons (xC (.int 99)) xNil)) xNil))) (xCons (xAll mkTup (xCons (xC (.str "lot")) (xCons (xC .non) xNil))) (xCons (xAll mkTup (xCons (xC (.str "lot")) (xCons (xAll mkTup (xCons (xC (.int 0)) (xCons (xC (.int 0)) (xCons (xC (.int 0)) xNil)))) xNil))) (xCons (xAll mkTup (xCons (xC (.str "sum")) (xCons (xVar 9) xNil))) xNil)))))))))) (xCall 2 (T 16) (xCons (xVar 1) (xCons (xC (.int 9)) xNil)))) (gN 12)) (sSeq (sRet (xOp fIs (xCall 2 (T 8) (xCons (xVar 2) (xCons (xVar 12) xNil))) (xC (.bl false)))) sNil)))))))))))))))))))
def vrun : Nat → Nat → List W → Tape → Option (W × Tape)
  | 0, _ => fun _ _ => none
  | n + 1, i => match i with
    | 0 => uFn 1 1 (v0 (vrun n))
    | 1 => uFn 1 4 (v1 (vrun n))
    | 2 => uFn 2 3 (v2 (vrun n))
    | 3 => uFn 2 3 (v3 (vrun n))
    | 4 => uFn 2 5 (v4 (vrun n))
    | 5 => uFn 1 10 (v5 (vrun n))
    | 6 => uFn 2 2 (v6 (vrun n))
    | 7 => uFn 1 6 (v7 (vrun n))
    | 8 => uFn 2 5 (v8 (vrun n))
    | 9 => uFn 1 3 (v9 (vrun n))
    | 10 => uFn 2 4 (v10 (vrun n))
    | 11 => uFn 2 3 (v11 (vrun n))
    | 15 => uFn 2 5 (v15 (vrun n))
    | 16 => uDraw
    | 17 => uFn 1 4 (v17 (vrun n))
    | 18 => uFn 2 4 (v18 (vrun n))
    | 19 => uFn 2 3 (v19 (vrun n))
    | 20 => uFn 2 5 (v20 (vrun n))
    | _ => fun _ _ => none
theorem vrun_0 {n : Nat} {x0 : W} {τ : Tape} : vrun (n + 1) 0 [x0] τ = uends (v0 (vrun n) [some x0] τ) := rfl
theorem vrun_1 {n : Nat} {x0 : W} {τ : Tape} : vrun (n + 1) 1 [x0] τ = uends (v1 (vrun n) [some x0, none, none, none] τ) := rfl
theorem vrun_2 {n : Nat} {x0 x1 : W} {τ : Tape} : vrun (n + 1) 2 [x0, x1] τ = uends (v2 (vrun n) [some x0, some x1, none] τ) := rfl
theorem vrun_3 {n : Nat} {x0 x1 : W} {τ : Tape} : vrun (n + 1) 3 [x0, x1] τ = uends (v3 (vrun n) [some x0, some x1, none] τ) := rfl
theorem vrun_4 {n : Nat} {x0 x1 : W} {τ : Tape} : vrun (n + 1) 4 [x0, x1] τ = uends (v4 (vrun n) [some x0, some x1, none, none, none] τ) := rfl
theorem vrun_5 {n : Nat} {x0 : W} {τ : Tape} : vrun (n + 1) 5 [x0] τ = uends (v5 (vrun n) [some x0, none, none, none, none, none, none, none, none, none] τ) := rfl
theorem vrun_6 {n : Nat} {x0 x1 : W} {τ : Tape} : vrun (n + 1) 6 [x0, x1] τ = uends (v6 (vrun n) [some x0, some x1] τ) := rfl
theorem vrun_7 {n : Nat} {x0 : W} {τ : Tape} : vrun (n + 1) 7 [x0] τ = uends (v7 (vrun n) [some x0, none, none, none, none, none] τ) := rfl
theorem vrun_8 {n : Nat} {x0 x1 : W} {τ : Tape} : vrun (n + 1) 8 [x0, x1] τ = uends (v8 (vrun n) [some x0, some x1, none, none, none] τ) := rfl
theorem vrun_9 {n : Nat} {x0 : W} {τ : Tape} : vrun (n + 1) 9 [x0] τ = uends (v9 (vrun n) [some x0, none, none] τ) := rfl
theorem vrun_10 {n : Nat} {x0 x1 : W} {τ : Tape} : vrun (n + 1) 10 [x0, x1] τ = uends (v10 (vrun n) [some x0, some x1, none, none] τ) := rfl
theorem vrun_11 {n : Nat} {x0 x1 : W} {τ : Tape} : vrun (n + 1) 11 [x0, x1] τ = uends (v11 (vrun n) [some x0, some x1, none] τ) := rfl
theorem vrun_15 {n : Nat} {x0 x1 : W} {τ : Tape} : vrun (n + 1) 15 [x0, x1] τ = uends (v15 (vrun n) [some x0, some x1, none, none, none] τ) := rfl
theorem vrun_16 {n : Nat} {ws : List W} {τ : Tape} : vrun (n + 1) 16 ws τ = uDraw ws τ := rfl
theorem vrun_17 {n : Nat} {x0 : W} {τ : Tape} : vrun (n + 1) 17 [x0] τ = uends (v17 (vrun n) [some x0, none, none, none] τ) := rfl
theorem vrun_18 {n : Nat} {x0 x1 : W} {τ : Tape} : vrun (n + 1) 18 [x0, x1] τ = uends (v18 (vrun n) [some x0, some x1, none, none] τ) := rfl
theorem vrun_19 {n : Nat} {x0 x1 : W} {τ : Tape} : vrun (n + 1) 19 [x0, x1] τ = uends (v19 (vrun n) [some x0, some x1, none] τ) := rfl
theorem vrun_20 {n : Nat} {x0 x1 : W} {τ : Tape} : vrun (n + 1) 20 [x0, x1] τ = uends (v20 (vrun n) [some x0, some x1, none, none, none] τ) := rfl
structure Sims (T : Nat → List D → Sto → Option (D × Sto)) (V : Nat → List W → Tape → Option (W × Tape)) : Prop where
  s0 : SFn true (T 0) (V 0)
  s1 : SFn true (T 1) (V 1)
  s2 : SFn true (T 2) (V 2)
  s3 : SFn true (T 3) (V 3)
  s4 : SFn true (T 4) (V 4)
  s5 : SFn true (T 5) (V 5)
  s6 : SFn false (T 6) (V 6)
  s7 : SFn true (T 7) (V 7)
  s8 : SFn true (T 8) (V 8)
  s9 : SFn true (T 9) (V 9)
  s10 : SFn true (T 10) (V 10)
  s11 : SFn true (T 11) (V 11)
  s15 : SFn true (T 15) (V 15)
  s16 : SFn true (T 16) (V 16)
  s17 : SFn true (T 17) (V 17)
  s18 : SFn true (T 18) (V 18)
  s19 : SFn true (T 19) (V 19)
  s20 : SFn true (T 20) (V 20)
theorem sv0 {T : Nat → List D → Sto → Option (D × Sto)} {V : Nat → List W → Tape → Option (W × Tape)} (D : Sims T V) : SS [0] [] true (m0 T) (v0 V) := (ss_seq (ss_ret (se_and (se_isi .int (se_var 0)) (se_and (se_not (se_isi .bool (se_var 0))) (se_opF op_ge'.v (se_var 0) (se_c (d := (.int 0)) True.intro))))) ss_nil)
theorem sv1 {T : Nat → List D → Sto → Option (D × Sto)} {V : Nat → List W → Tape → Option (W × Tape)} (D : Sims T V) : SS [0] [] true (m1 T) (v1 V) := (ss_seq (ss_set 1 (se_allF av_lstL (sl_cons (se_allF av_tupL sl_nil) sl_nil))) (ss_seq (ss_for (sw_any (se_var 0)) (sg_n 2) (ss_seq (ss_ext 1 (se_lc (sw_any (se_var 1)) (sc_n 3) sb_yes (se_opF op_plus' (se_var 3) (se_allF av_tupL (sl_cons (se_var 2) sl_nil))))) ss_nil)) (ss_seq (ss_ret (se_allF av_sortA (sl_cons (se_var 1) sl_nil))) ss_nil)))
theorem sv2 {T : Nat → List D → Sto → Option (D × Sto)} {V : Nat → List W → Tape → Option (W × Tape)} (D : Sims T V) : SS [0, 1] [] true (m2 T) (v2 V) := (ss_seq (ss_ret (se_allF av_tup (sl_cons (se_allF av_sortA (sl_cons (se_opF op_plus' (se_lc (sw_any (se_var 0)) (sc_n 2) (sb_val (se_opF op_notIn'.v (se_var 2) (se_var 1))) (se_var 2)) (se_lc (sw_any (se_var 1)) (sc_n 2) (sb_val (se_opF op_notIn'.v (se_var 2) (se_var 0))) (se_var 2))) sl_nil)) sl_nil))) ss_nil)
theorem sv3 {T : Nat → List D → Sto → Option (D × Sto)} {V : Nat → List W → Tape → Option (W × Tape)} (D : Sims T V) : SS [0, 1] [] true (m3 T) (v3 V) := (ss_seq (ss_ret (se_opF op_eq'.v (se_opF op_mod'.v (se_allF av_len (sl_cons (se_lc (sw_any (se_opT op_ix' (se_var 0) (se_c (d := (.int 0)) True.intro))) (sc_n 2) (sb_val (se_opF op_in'.v (se_var 2) (se_var 1))) (se_var 2)) sl_nil)) (se_c (d := (.int 2)) True.intro)) (se_opT op_ix' (se_var 0) (se_c (d := (.int 1)) True.intro)))) ss_nil)
theorem sv4 {T : Nat → List D → Sto → Option (D × Sto)} {V : Nat → List W → Tape → Option (W × Tape)} (D : Sims T V) : SS [0, 1] [] true (m4 T) (v4 V) := (ss_seq (ss_set 2 (se_allF av_tupL sl_nil)) (ss_seq (ss_set 3 (se_c (d := (.int 0)) True.intro)) (ss_seq (ss_for (sw_any (se_var 1)) (sg_n 4) (ss_seq (ss_set 2 (se_callPF 2 D.s2 (sl_cons (se_var 2) (sl_cons (se_opT op_ix' (se_opT op_ix' (se_var 0) (se_var 4)) (se_c (d := (.int 0)) True.intro)) sl_nil)))) (ss_seq (ss_set 3 (se_opF op_mod'.v (se_opF op_plus' (se_var 3) (se_opT op_ix' (se_opT op_ix' (se_var 0) (se_var 4)) (se_c (d := (.int 1)) True.intro))) (se_c (d := (.int 2)) True.intro))) ss_nil))) (ss_seq (ss_ret (se_allF av_tupL (sl_cons (se_var 2) (sl_cons (se_var 3) sl_nil)))) ss_nil))))
theorem sv5 {T : Nat → List D → Sto → Option (D × Sto)} {V : Nat → List W → Tape → Option (W × Tape)} (D : Sims T V) : SS [0] [] true (m5 T) (v5 V) := (ss_seq (ss_set 1 (se_allF av_lstL sl_nil)) (ss_seq (ss_for (sw_enum (se_var 0)) (sg_t 2 (sgs_c (sg_n 2) (sgs_c (sg_t 2 (sgs_c (sg_n 3) (sgs_c (sg_n 4) sgs_n))) sgs_n))) (ss_seq (ss_set 5 (se_allF av_tupL (sl_cons (se_var 2) sl_nil))) (ss_seq (ss_for (sw_any (se_var 1)) (sg_t 3 (sgs_c (sg_n 6) (sgs_c (sg_n 7) (sgs_c (sg_n 8) sgs_n)))) (ss_seq (ss_if (sb_and (sb_tru (se_var 6)) (sb_val (se_opF op_in'.v (se_opT op_ix' (se_var 6) (se_c (d := (.int 0)) True.intro)) (se_var 3)))) (ss_seq (ss_asg (se_allF av_tupL (sl_cons (se_callPF 2 D.s2 (sl_cons (se_var 3) (sl_cons (se_var 6) sl_nil))) (sl_cons (se_opF op_mod'.v (se_opF op_plus' (se_var 4) (se_var 7)) (se_c (d := (.int 2)) True.intro)) (sl_cons (se_callPF 2 D.s2 (sl_cons (se_var 5) (sl_cons (se_var 8) sl_nil))) sl_nil)))) (sg_t 3 (sgs_c (sg_n 3) (sgs_c (sg_n 4) (sgs_c (sg_n 5) sgs_n))))) ss_nil) ss_nil) ss_nil)) (ss_seq (ss_if (sb_tru (se_var 3)) (ss_seq (ss_set 1 (se_opF op_plus' (se_lc (sw_any (se_var 1)) (sc_n 9) sb_yes (se_callPA 2 D.s6 (sl_cons (se_var 9) (sl_cons (se_allF av_tupL (sl_cons (se_var 3) (sl_cons (se_var 4) (sl_cons (se_var 5) sl_nil)))) sl_nil)))) (se_allF av_lstL (sl_cons (se_allF av_tupL (sl_cons (se_var 3) (sl_cons (se_var 4) (sl_cons (se_var 5) sl_nil)))) sl_nil)))) ss_nil) (ss_seq (ss_app 1 (se_allF av_tupL (sl_cons (se_var 3) (sl_cons (se_var 4) (sl_cons (se_var 5) sl_nil))))) ss_nil)) ss_nil)))) (ss_seq (ss_ret (se_var 1)) ss_nil)))
theorem sv6 {T : Nat → List D → Sto → Option (D × Sto)} {V : Nat → List W → Tape → Option (W × Tape)} (D : Sims T V) : SS [0, 1] [] false (m6 T) (v6 V) := (ss_seq (ss_if (sb_val (se_opF op_notIn'.v (se_opT op_ix' (se_opT op_ix' (se_var 1) (se_c (d := (.int 0)) True.intro)) (se_c (d := (.int 0)) True.intro)) (se_opT op_ix' (se_var 0) (se_c (d := (.int 0)) True.intro)))) (ss_seq (ss_ret (se_var 0)) ss_nil) ss_nil) (ss_seq (ss_ret (se_allF av_tupL (sl_cons (se_callPF 2 D.s2 (sl_cons (se_opT op_ix' (se_var 0) (se_c (d := (.int 0)) True.intro)) (sl_cons (se_opT op_ix' (se_var 1) (se_c (d := (.int 0)) True.intro)) sl_nil))) (sl_cons (se_opF op_mod'.v (se_opF op_plus' (se_opT op_ix' (se_var 0) (se_c (d := (.int 1)) True.intro)) (se_opT op_ix' (se_var 1) (se_c (d := (.int 1)) True.intro))) (se_c (d := (.int 2)) True.intro)) (sl_cons (se_callPF 2 D.s2 (sl_cons (se_opT op_ix' (se_var 0) (se_c (d := (.int 2)) True.intro)) (sl_cons (se_opT op_ix' (se_var 1) (se_c (d := (.int 2)) True.intro)) sl_nil))) sl_nil))))) ss_nil))
theorem sv7 {T : Nat → List D → Sto → Option (D × Sto)} {V : Nat → List W → Tape → Option (W × Tape)} (D : Sims T V) : SS [0] [] true (m7 T) (v7 V) := (ss_seq (ss_set 1 (se_callPF 1 D.s5 (sl_cons (se_var 0) sl_nil))) (ss_seq (ss_for (sw_any (se_var 1)) (sg_t 3 (sgs_c (sg_n 2) (sgs_c (sg_n 3) (sgs_c (sg_n 4) sgs_n)))) (ss_seq (ss_if (sb_and (sb_not (sb_tru (se_var 2))) (sb_val (se_opF op_eq'.v (se_var 3) (se_c (d := (.int 1)) True.intro)))) (ss_seq (ss_ret (se_allF av_tupL (sl_cons (se_c (d := (.str "lot")) (show PyData.strOk "lot" = true by decide +kernel)) (sl_cons (se_var 4) sl_nil)))) ss_nil) ss_nil) ss_nil)) (ss_seq (ss_ret (se_allF av_tupL (sl_cons (se_c (d := (.str "row")) (show PyData.strOk "row" = true by decide +kernel)) (sl_cons (se_allF av_tup (sl_cons (se_allF av_sortA (sl_cons (se_lc (sw_any (se_var 1)) (sc_t 3 (scs_c (sc_n 2) (scs_c (sc_n 3) (scs_c (sc_n 5) scs_n)))) (sb_and (sb_tru (se_var 2)) (sb_val (se_opF op_eq'.v (se_var 3) (se_c (d := (.int 1)) True.intro)))) (se_opT op_ix' (se_var 2) (se_c (d := (.int 0)) True.intro))) sl_nil)) sl_nil)) sl_nil)))) ss_nil)))
theorem sv8 {T : Nat → List D → Sto → Option (D × Sto)} {V : Nat → List W → Tape → Option (W × Tape)} (D : Sims T V) : SS [0, 1] [] true (m8 T) (v8 V) := (ss_seq (ss_if (sb_or (sb_not (sb_tru (se_isi .tuple (se_var 1)))) (sb_or (sb_val (se_opF op_ne'.v (se_allF av_len (sl_cons (se_var 1) sl_nil)) (se_c (d := (.int 2)) True.intro))) (sb_not (sb_tru (se_isi .str (se_opT op_ix' (se_var 1) (se_c (d := (.int 0)) True.intro))))))) (ss_seq (ss_ret (se_c (d := (.bl false)) True.intro)) ss_nil) ss_nil) (ss_seq (ss_if (sb_not (sb_tru (se_isi .tuple (se_opT op_ix' (se_var 1) (se_c (d := (.int 1)) True.intro))))) (ss_seq (ss_ret (se_c (d := (.bl false)) True.intro)) ss_nil) ss_nil) (ss_seq (ss_if (sb_val (se_opF op_eq'.v (se_opT op_ix' (se_var 1) (se_c (d := (.int 0)) True.intro)) (se_c (d := (.str "row")) (show PyData.strOk "row" = true by decide +kernel)))) (ss_seq (ss_if (sb_or (sb_not (sb_tru (se_q (sw_any (se_opT op_ix' (se_var 1) (se_c (d := (.int 1)) True.intro))) (sc_n 2) sb_yes (se_isi .str (se_var 2))))) (sb_val (se_opF op_ne'.v (se_lenSet (se_opT op_ix' (se_var 1) (se_c (d := (.int 1)) True.intro))) (se_allF av_len (sl_cons (se_opT op_ix' (se_var 1) (se_c (d := (.int 1)) True.intro)) sl_nil))))) (ss_seq (ss_ret (se_c (d := (.bl false)) True.intro)) ss_nil) ss_nil) (ss_seq (ss_ret (se_q (sw_any (se_var 0)) (sc_n 3) sb_yes (se_callPF 2 D.s3 (sl_cons (se_var 3) (sl_cons (se_opT op_ix' (se_var 1) (se_c (d := (.int 1)) True.intro)) sl_nil))))) ss_nil)) ss_nil) (ss_seq (ss_if (sb_or (sb_val (se_opF op_ne'.v (se_opT op_ix' (se_var 1) (se_c (d := (.int 0)) True.intro)) (se_c (d := (.str "lot")) (show PyData.strOk "lot" = true by decide +kernel)))) (sb_not (sb_tru (se_q (sw_any (se_opT op_ix' (se_var 1) (se_c (d := (.int 1)) True.intro))) (sc_n 4) sb_yes (se_and (se_callPF 1 D.s0 (sl_cons (se_var 4) sl_nil)) (se_opF op_ltB'.v (se_var 4) (se_allF av_len (sl_cons (se_var 0) sl_nil)))))))) (ss_seq (ss_ret (se_c (d := (.bl false)) True.intro)) ss_nil) ss_nil) (ss_seq (ss_ret (se_and (se_opF op_eq'.v (se_lenSet (se_opT op_ix' (se_var 1) (se_c (d := (.int 1)) True.intro))) (se_allF av_len (sl_cons (se_opT op_ix' (se_var 1) (se_c (d := (.int 1)) True.intro)) sl_nil))) (se_opF op_eq'.v (se_callPF 2 D.s4 (sl_cons (se_var 0) (sl_cons (se_opT op_ix' (se_var 1) (se_c (d := (.int 1)) True.intro)) sl_nil))) (se_allF av_tupL (sl_cons (se_allF av_tupL sl_nil) (sl_cons (se_c (d := (.int 1)) True.intro) sl_nil)))))) ss_nil)))))
theorem sv9 {T : Nat → List D → Sto → Option (D × Sto)} {V : Nat → List W → Tape → Option (W × Tape)} (D : Sims T V) : SS [0] [] true (m9 T) (v9 V) := (ss_seq (ss_ret (se_allF av_len (sl_cons (se_lc (sw_any (se_callPF 1 D.s5 (sl_cons (se_tg (sw_any (se_var 0)) (sc_t 2 (scs_c (sc_n 1) (scs_c (sc_n 2) scs_n))) sb_yes (se_allF av_tupL (sl_cons (se_var 1) (sl_cons (se_c (d := (.int 0)) True.intro) sl_nil)))) sl_nil))) (sc_t 3 (scs_c (sc_n 1) (scs_c (sc_n 2) (scs_c (sc_n 2) scs_n)))) (sb_tru (se_var 1)) (se_var 1)) sl_nil))) ss_nil)
theorem sv10 {T : Nat → List D → Sto → Option (D × Sto)} {V : Nat → List W → Tape → Option (W × Tape)} (D : Sims T V) : SS [0, 1] [] true (m10 T) (v10 V) := (ss_seq (ss_ret (se_tg (sw_any (se_callPF 1 D.s1 (sl_cons (se_var 0) sl_nil))) (sc_n 2) (sb_tru (se_q (sw_any (se_var 1)) (sc_n 3) sb_yes (se_callPF 2 D.s3 (sl_cons (se_var 3) (sl_cons (se_var 2) sl_nil))))) (se_var 2))) ss_nil)
theorem sv11 {T : Nat → List D → Sto → Option (D × Sto)} {V : Nat → List W → Tape → Option (W × Tape)} (D : Sims T V) : SS [0, 1] [] true (m11 T) (v11 V) := (ss_seq (ss_ret (se_allF av_tup (sl_cons (se_allF av_sortA (sl_cons (se_opF op_plus' (se_lc (sw_any (se_var 0)) (sc_n 2) (sb_val (se_opF op_notIn'.v (se_var 2) (se_var 1))) (se_var 2)) (se_lc (sw_any (se_var 1)) (sc_n 2) (sb_val (se_opF op_notIn'.v (se_var 2) (se_var 0))) (se_var 2))) sl_nil)) sl_nil))) ss_nil)
theorem sv15 {T : Nat → List D → Sto → Option (D × Sto)} {V : Nat → List W → Tape → Option (W × Tape)} (D : Sims T V) : SS [0, 1] [] true (m15 T) (v15 V) := (ss_seq (ss_set 2 (se_allF av_lstL sl_nil)) (ss_seq (ss_for (sw_rng1 (se_callF 2 D.s16 (sl_cons (se_var 0) (sl_cons (se_opF op_add'.v (se_var 1) (se_c (d := (.int 1)) True.intro)) sl_nil)))) (sg_n 3) (ss_seq (ss_app 2 (se_allF av_tupL (sl_cons (se_allF av_tup (sl_cons (se_lc (sw_any (se_allF av_lstL (sl_cons (se_c (d := (.str "a")) (show PyData.strOk "a" = true by decide +kernel)) (sl_cons (se_c (d := (.str "b")) (show PyData.strOk "b" = true by decide +kernel)) (sl_cons (se_c (d := (.str "c")) (show PyData.strOk "c" = true by decide +kernel)) (sl_cons (se_c (d := (.str "d")) (show PyData.strOk "d" = true by decide +kernel)) (sl_cons (se_c (d := (.str "e")) (show PyData.strOk "e" = true by decide +kernel)) sl_nil))))))) (sc_n 4) (sb_val (se_opF op_eq'.v (se_callF 2 D.s16 (sl_cons (se_var 0) (sl_cons (se_c (d := (.int 3)) True.intro) sl_nil))) (se_c (d := (.int 0)) True.intro))) (se_var 4)) sl_nil)) (sl_cons (se_callF 2 D.s16 (sl_cons (se_var 0) (sl_cons (se_c (d := (.int 2)) True.intro) sl_nil))) sl_nil)))) ss_nil)) (ss_seq (ss_ret (se_allF av_tup (sl_cons (se_var 2) sl_nil))) ss_nil)))
theorem sv17 {T : Nat → List D → Sto → Option (D × Sto)} {V : Nat → List W → Tape → Option (W × Tape)} (D : Sims T V) : SS [0] [] true (m17 T) (v17 V) := (ss_seq (ss_set 1 (se_allF av_lstL (sl_cons (se_allF av_tupL sl_nil) sl_nil))) (ss_seq (ss_for (sw_any (se_var 0)) (sg_n 2) (ss_seq (ss_set 1 (se_opF op_plus' (se_var 1) (se_lc (sw_any (se_var 1)) (sc_n 3) sb_yes (se_opF op_plus' (se_var 3) (se_allF av_tupL (sl_cons (se_var 2) sl_nil)))))) ss_nil)) (ss_seq (ss_ret (se_allF av_sortA (sl_cons (se_var 1) sl_nil))) ss_nil)))
theorem sv18 {T : Nat → List D → Sto → Option (D × Sto)} {V : Nat → List W → Tape → Option (W × Tape)} (D : Sims T V) : SS [0, 1] [] true (m18 T) (v18 V) := (ss_seq (ss_set 2 (se_allF av_len (sl_cons (se_lc (sw_any (se_opT op_ix' (se_var 0) (se_c (d := (.int 0)) True.intro))) (sc_n 3) (sb_val (se_opF op_in'.v (se_var 3) (se_var 1))) (se_var 3)) sl_nil))) (ss_seq (ss_ret (se_opF op_eq'.v (se_opF op_sub'.v (se_var 2) (se_opF op_mul'.v (se_c (d := (.int 2)) True.intro) (se_opF op_div'.v (se_var 2) (se_c (d := (.int 2)) True.intro)))) (se_opT op_ix' (se_var 0) (se_c (d := (.int 1)) True.intro)))) ss_nil))
theorem sv19 {T : Nat → List D → Sto → Option (D × Sto)} {V : Nat → List W → Tape → Option (W × Tape)} (D : Sims T V) : SS [0, 1] [] true (m19 T) (v19 V) := (ss_seq (ss_if (sb_tru (se_isi .tuple (se_var 1))) (ss_seq (ss_if (sb_or (sb_not (sb_tru (se_isi .tuple (se_var 0)))) (sb_val (se_opF op_ne'.v (se_allF av_len (sl_cons (se_var 0) sl_nil)) (se_allF av_len (sl_cons (se_var 1) sl_nil))))) (ss_seq (ss_ret (se_c (d := (.bl false)) True.intro)) ss_nil) ss_nil) (ss_seq (ss_for (sw_rng1 (se_allF av_len (sl_cons (se_var 1) sl_nil))) (sg_n 2) (ss_seq (ss_if (sb_not (sb_tru (se_callPF 2 D.s19 (sl_cons (se_opT op_ix' (se_var 0) (se_var 2)) (sl_cons (se_opT op_ix' (se_var 1) (se_var 2)) sl_nil))))) (ss_seq (ss_ret (se_c (d := (.bl false)) True.intro)) ss_nil) ss_nil) ss_nil)) (ss_seq (ss_ret (se_c (d := (.bl true)) True.intro)) ss_nil))) ss_nil) (ss_seq (ss_if (sb_val (se_opF op_is'.v (se_var 1) (se_c (d := .non) True.intro))) (ss_seq (ss_ret (se_opF op_is'.v (se_var 0) (se_c (d := .non) True.intro))) ss_nil) ss_nil) (ss_seq (ss_if (sb_tru (se_isi .bool (se_var 1))) (ss_seq (ss_ret (se_and (se_isi .bool (se_var 0)) (se_opF op_eq'.v (se_var 0) (se_var 1)))) ss_nil) ss_nil) (ss_seq (ss_if (sb_tru (se_isi .int (se_var 1))) (ss_seq (ss_ret (se_and (se_isi .int (se_var 0)) (se_and (se_not (se_isi .bool (se_var 0))) (se_opF op_eq'.v (se_var 0) (se_var 1))))) ss_nil) ss_nil) (ss_seq (ss_ret (se_and (se_isi .str (se_var 0)) (se_opF op_eq'.v (se_var 0) (se_var 1)))) ss_nil)))))
theorem sv20 {T : Nat → List D → Sto → Option (D × Sto)} {V : Nat → List W → Tape → Option (W × Tape)} (D : Sims T V) : SS [0, 1] [] true (m20 T) (v20 V) := (ss_seq (ss_set 2 (se_allF av_tupL sl_nil)) (ss_seq (ss_set 3 (se_c (d := (.int 0)) True.intro)) (ss_seq (ss_for (sw_any (se_var 1)) (sg_n 4) (ss_seq (ss_set 2 (se_callPF 2 D.s11 (sl_cons (se_var 2) (sl_cons (se_opT op_ix' (se_opT op_ix' (se_var 0) (se_var 4)) (se_c (d := (.int 0)) True.intro)) sl_nil)))) (ss_seq (ss_set 3 (se_opF op_plus' (se_var 3) (se_opT op_ix' (se_opT op_ix' (se_var 0) (se_var 4)) (se_c (d := (.int 1)) True.intro)))) ss_nil))) (ss_seq (ss_ret (se_and (se_opF op_eq'.v (se_var 2) (se_allF av_tupL sl_nil)) (se_opF op_eq'.v (se_opF op_sub'.v (se_var 3) (se_opF op_mul'.v (se_c (d := (.int 2)) True.intro) (se_opF op_div'.v (se_var 3) (se_c (d := (.int 2)) True.intro)))) (se_c (d := (.int 1)) True.intro)))) ss_nil))))
theorem sLaw {T : Nat → List D → Sto → Option (D × Sto)} {V : Nat → List W → Tape → Option (W × Tape)} (D : Sims T V) : SS [0] [] false (mLaw T) (vLaw V) := (ss_seq (ss_set 2 (se_callF 2 D.s15 (sl_cons (se_var 1) (sl_cons (se_c (d := (.int 7)) True.intro) sl_nil)))) (ss_seq (ss_set 3 (se_allF av_tupL (sl_cons (se_c (d := (.str "a")) (show PyData.strOk "a" = true by decide +kernel)) (sl_cons (se_c (d := (.str "b")) (show PyData.strOk "b" = true by decide +kernel)) (sl_cons (se_c (d := (.str "c")) (show PyData.strOk "c" = true by decide +kernel)) (sl_cons (se_c (d := (.str "d")) (show PyData.strOk "d" = true by decide +kernel)) (sl_cons (se_c (d := (.str "e")) (show PyData.strOk "e" = true by decide +kernel)) sl_nil))))))) (ss_seq (ss_set 4 (se_lc (sw_any (se_callPF 1 D.s17 (sl_cons (se_var 3) sl_nil))) (sc_n 11) (sb_val (se_opF op_eq'.v (se_allF av_len (sl_cons (se_lc (sw_any (se_var 2)) (sc_n 13) (sb_not (sb_tru (se_callPF 2 D.s18 (sl_cons (se_var 13) (sl_cons (se_var 11) sl_nil))))) (se_var 13)) sl_nil)) (se_c (d := (.int 0)) True.intro))) (se_var 11))) (ss_seq (ss_if (sb_not (sb_tru (se_callPF 2 D.s19 (sl_cons (se_callPF 2 D.s10 (sl_cons (se_var 3) (sl_cons (se_var 2) sl_nil))) (sl_cons (se_allF av_tup (sl_cons (se_var 4) sl_nil)) sl_nil))))) (ss_seq (ss_ret (se_c (d := (.bl false)) True.intro)) ss_nil) ss_nil) (ss_seq (ss_set 5 (se_callPF 1 D.s7 (sl_cons (se_var 2) sl_nil))) (ss_seq (ss_if (sb_or (sb_val (se_opF op_isNot'.v (se_callPF 2 D.s8 (sl_cons (se_var 2) (sl_cons (se_var 5) sl_nil))) (se_c (d := (.bl true)) True.intro))) (sb_val (se_opF op_ne'.v (se_opF op_eq'.v (se_opT op_ix' (se_var 5) (se_c (d := (.int 0)) True.intro)) (se_c (d := (.str "row")) (show PyData.strOk "row" = true by decide +kernel))) (se_opF op_gtA'.v (se_allF av_len (sl_cons (se_var 4) sl_nil)) (se_c (d := (.int 0)) True.intro))))) (ss_seq (ss_ret (se_c (d := (.bl false)) True.intro)) ss_nil) ss_nil) (ss_seq (ss_if (sb_and (sb_val (se_opF op_eq'.v (se_opT op_ix' (se_var 5) (se_c (d := (.int 0)) True.intro)) (se_c (d := (.str "row")) (show PyData.strOk "row" = true by decide +kernel)))) (sb_val (se_opF op_notIn'.v (se_opT op_ix' (se_var 5) (se_c (d := (.int 1)) True.intro)) (se_var 4)))) (ss_seq (ss_ret (se_c (d := (.bl false)) True.intro)) ss_nil) ss_nil) (ss_seq (ss_if (sb_and (sb_val (se_opF op_eq'.v (se_opT op_ix' (se_var 5) (se_c (d := (.int 0)) True.intro)) (se_c (d := (.str "lot")) (show PyData.strOk "lot" = true by decide +kernel)))) (sb_or (sb_not (sb_tru (se_callPF 2 D.s20 (sl_cons (se_var 2) (sl_cons (se_opT op_ix' (se_var 5) (se_c (d := (.int 1)) True.intro)) sl_nil))))) (sb_val (se_opF op_eqL'.v (se_allF av_list (sl_cons (se_opT op_ix' (se_var 5) (se_c (d := (.int 1)) True.intro)) sl_nil)) (se_sortSetC (se_opT op_ix' (se_var 5) (se_c (d := (.int 1)) True.intro))))))) (ss_seq (ss_ret (se_c (d := (.bl false)) True.intro)) ss_nil) ss_nil) (ss_seq (ss_set 6 (se_c (d := (.int 1)) True.intro)) (ss_seq (ss_for (sw_rng1 (se_callPF 1 D.s9 (sl_cons (se_var 2) sl_nil))) (sg_n 7) (ss_seq (ss_set 6 (se_opF op_mul'.v (se_var 6) (se_c (d := (.int 2)) True.intro))) ss_nil)) (ss_seq (ss_set 8 (se_allF av_lstL sl_nil)) (ss_seq (ss_for (sw_any (se_callPF 1 D.s17 (sl_cons (se_lc (sw_rng1 (se_allF av_len (sl_cons (se_var 2) sl_nil))) (sc_n 7) sb_yes (se_allF av_str (sl_cons (se_var 7) sl_nil))) sl_nil))) (sg_n 9) (ss_seq (ss_set 10 (se_allF av_tupL sl_nil)) (ss_seq (ss_for (sw_any (se_var 9)) (sg_n 7) (ss_seq (ss_set 10 (se_callPF 2 D.s11 (sl_cons (se_var 10) (sl_cons (se_opT op_ix' (se_opT op_ix' (se_var 2) (se_allF av_intS (sl_cons (se_var 7) sl_nil))) (se_c (d := (.int 0)) True.intro)) sl_nil)))) ss_nil)) (ss_seq (ss_app 8 (se_var 10)) ss_nil)))) (ss_seq (ss_if (sb_val (se_opF op_ne'.v (se_lenSet (se_var 8)) (se_var 6))) (ss_seq (ss_ret (se_c (d := (.bl false)) True.intro)) ss_nil) ss_nil) (ss_seq (ss_set 11 (se_opT op_ix' (se_callPF 1 D.s17 (sl_cons (se_var 3) sl_nil)) (se_callF 2 D.s16 (sl_cons (se_var 1) (sl_cons (se_c (d := (.int 32)) True.intro) sl_nil))))) (ss_seq (ss_if (sb_not (sb_tru (se_callPF 2 D.s19 (sl_cons (se_callPF 2 D.s8 (sl_cons (se_var 2) (sl_cons (se_allF av_tupL (sl_cons (se_c (d := (.str "row")) (show PyData.strOk "row" = true by decide +kernel)) (sl_cons (se_var 11) sl_nil))) sl_nil))) (sl_cons (se_opF op_in'.v (se_var 11) (se_var 4)) sl_nil))))) (ss_seq (ss_ret (se_c (d := (.bl false)) True.intro)) ss_nil) ss_nil) (ss_seq (ss_set 9 (se_allF av_tup (sl_cons (se_lc (sw_rng1 (se_allF av_len (sl_cons (se_var 2) sl_nil))) (sc_n 7) (sb_val (se_opF op_eq'.v (se_callF 2 D.s16 (sl_cons (se_var 1) (sl_cons (se_c (d := (.int 2)) True.intro) sl_nil))) (se_c (d := (.int 0)) True.intro))) (se_var 7)) sl_nil))) (ss_seq (ss_if (sb_not (sb_tru (se_callPF 2 D.s19 (sl_cons (se_callPF 2 D.s8 (sl_cons (se_var 2) (sl_cons (se_allF av_tupL (sl_cons (se_c (d := (.str "lot")) (show PyData.strOk "lot" = true by decide +kernel)) (sl_cons (se_var 9) sl_nil))) sl_nil))) (sl_cons (se_callPF 2 D.s20 (sl_cons (se_var 2) (sl_cons (se_var 9) sl_nil))) sl_nil))))) (ss_seq (ss_ret (se_c (d := (.bl false)) True.intro)) ss_nil) ss_nil) (ss_seq (ss_set 12 (se_opT op_ix' (se_allF av_lstL (sl_cons (se_c (d := .non) True.intro) (sl_cons (se_allF av_tupL sl_nil) (sl_cons (se_allF av_tupL (sl_cons (se_c (d := (.str "row")) (show PyData.strOk "row" = true by decide +kernel)) sl_nil)) (sl_cons (se_allF av_tupL (sl_cons (se_c (d := (.str "row")) (show PyData.strOk "row" = true by decide +kernel)) (sl_cons (se_c (d := .non) True.intro) sl_nil))) (sl_cons (se_allF av_tupL (sl_cons (se_c (d := (.str "row")) (show PyData.strOk "row" = true by decide +kernel)) (sl_cons (se_allF av_tupL (sl_cons (se_c (d := (.str "a")) (show PyData.strOk "a" = true by decide +kernel)) (sl_cons (se_c (d := (.str "a")) (show PyData.strOk "a" = true by decide +kernel)) sl_nil))) sl_nil))) (sl_cons (se_allF av_tupL (sl_cons (se_c (d := (.str "lot")) (show PyData.strOk "lot" = true by decide +kernel)) (sl_cons (se_allF av_tupL (sl_cons (se_c (d := (.int 99)) True.intro) sl_nil)) sl_nil))) (sl_cons (se_allF av_tupL (sl_cons (se_c (d := (.str "lot")) (show PyData.strOk "lot" = true by decide +kernel)) (sl_cons (se_c (d := .non) True.intro) sl_nil))) (sl_cons (se_allF av_tupL (sl_cons (se_c (d := (.str "lot")) (show PyData.strOk "lot" = true by decide +kernel)) (sl_cons (se_allF av_tupL (sl_cons (se_c (d := (.int 0)) True.intro) (sl_cons (se_c (d := (.int 0)) True.intro) (sl_cons (se_c (d := (.int 0)) True.intro) sl_nil)))) sl_nil))) (sl_cons (se_allF av_tupL (sl_cons (se_c (d := (.str "sum")) (show PyData.strOk "sum" = true by decide +kernel)) (sl_cons (se_var 9) sl_nil))) sl_nil)))))))))) (se_callF 2 D.s16 (sl_cons (se_var 1) (sl_cons (se_c (d := (.int 9)) True.intro) sl_nil))))) (ss_seq (ss_ret (se_opF op_is'.v (se_callPF 2 D.s8 (sl_cons (se_var 2) (sl_cons (se_var 12) sl_nil))) (se_c (d := (.bl false)) True.intro))) ss_nil)))))))))))))))))))
theorem sims : ∀ n, Sims (run n) (vrun n)
  | 0 => ⟨.none, .none, .none, .none, .none, .none, .none, .none, .none, .none, .none, .none, .none, .none, .none, .none, .none, .none⟩
  | n + 1 => by
    have D := sims n
    exact ⟨sfn_of _ (sv0 D), sfn_of _ (sv1 D), sfn_of _ (sv2 D), sfn_of _ (sv3 D), sfn_of _ (sv4 D), sfn_of _ (sv5 D), sfn_of _ (sv6 D), sfn_of _ (sv7 D), sfn_of _ (sv8 D), sfn_of _ (sv9 D), sfn_of _ (sv10 D), sfn_of _ (sv11 D), sfn_of _ (sv15 D), sfn_draw, sfn_of _ (sv17 D), sfn_of _ (sv18 D), sfn_of _ (sv19 D), sfn_of _ (sv20 D)⟩
theorem of_values (hv : ∀ ds : List Int, ∃ τ, vLaw (vrun 164) (none :: some .bx :: List.replicate 12 none) (some ds) = some (.rt (.p (.bl true)) τ)) : ∀ (ns : List Int) (o : O), ns.length ≤ 63 → o = .lst (ns.map D.int) ∨ o = .frz (ns.map D.int) → ∃ S', run 165 21 [.loc 0] [o] = some (.bl true, S') := fun ns o hl ho => by
  have hb : ∃ S', run 164 12 [.loc 0, .int 0, .int ((62 : Nat) : Int)] [o] = some (.loc 2, S') ∧ Box S' 2 ∧ S'.length = 3 ∧ [o] <+: S' := box_ok (last := 62) (ns := ns) (run 164 12) (run 163 13) (run 162 14) (fun _ _ => rfl) (fun _ _ => rfl) (fun _ _ => rfl) (by rcases ho with rfl | rfl <;> rfl) (by omega) (by decide)
  exact law_start (N := 12) (last := 62) [0] ho hb (sLaw (sims 164)) hv
end K18
end
section
set_option maxHeartbeats 4000000
namespace K18
open PySem Mini
open L2 (atI)
theorem okdraw {n : Nat} {m x : Int} {t t2 : List Int} (hn : 1 ≤ n) (h : drw m t = some (x, t2)) : vrun n 16 [.bx, .p (.int m)] (some t) = some (.p (.int x), some t2) := by
  obtain ⟨k, rfl⟩ : ∃ k, n = k + 1 := ⟨n - 1, by omega⟩
  rw [vrun_16]; exact uDraw_ok h
def T_is_number (a_value : D) : Option Bool := obn (isiD .int a_value) fun x2 => obn (if x2 = true then obn (isiD .bool a_value) fun x3 => obn (if (!x3) = true then obn (asI a_value) fun x4 => some (decide ((0 : Int) ≤ x4)) else some false) fun x8 => some x8 else some false) fun x13 => (some x13)
theorem ok_T_is_number {n : Nat} (hn : 1 ≤ n) {a_value : D}   {r : Bool} (h : T_is_number a_value = some r) : vrun n 0 [(W.p (eD a_value))] none = some ((fun x => W.p (D.bl x)) r, none) := by
  obtain ⟨n, rfl⟩ : ∃ m, n = m + 1 := ⟨n - 1, by omega⟩
  have key : PO (FnP (fun x => W.p (D.bl x)) none) (T_is_number a_value) (v0 (vrun n) [some (W.p (eD a_value))] none) := by
    unfold v0
    unfold T_is_number
    exact (po_obn fun x2 hx2 => (po_obn fun x13 hx13 => (po_some (f_ret (R := (fun x => W.p (D.bl x))) (u_andO (u_isiD rfl hx2) (fun _ y10 h9 => (obn_e h9 fun x3 hx3 h11 => (obn_e h11 fun x8 hx8 h12 => (by cases h12; exact (u_andO (u_not (u_isiD rfl hx3) rfl) (fun _ y6 h5 => (obn_e h5 fun x4 hx4 h7 => (by cases h7; exact (u_op (co_w (congrArg W.p (asI_ok hx4)) rfl) u_c rfl)))) hx8))))) hx13)))))
  rw [vrun_0]
  exact key _ h
def T_rows_of (a_names : (Str × Str × Str × Str × Str)) : Option (List (List Str)) := lett ([([] : (List Str))] : (List (List Str))) fun (found20 : (List (List Str))) => obn (foldO (fun (s21 : (List (List Str))) (x23 : Str) => obn (mapO (fun (x26 : (List Str)) => obn (appO x26 ([x23] : (List Str))) fun x28 => some x28) s21) fun x33 => obn (appO s21 x33) fun l34 => (some l34)) ([a_names.1, a_names.2.1, a_names.2.2.1, a_names.2.2.2.1, a_names.2.2.2.2] : (List Str)) found20) fun (s21 : (List (List Str))) => (some (srtE (eT D.str) s21))
theorem ok_T_rows_of {n : Nat} (hn : 1 ≤ n) {a_names : (Str × Str × Str × Str × Str)}   {r : (List (List Str))} (h : T_rows_of a_names = some r) : vrun n 1 [(W.p ((eP5 D.str D.str D.str D.str D.str) a_names))] none = some ((fun x => W.l (List.map (eT D.str) x)) r, none) := by
  obtain ⟨n, rfl⟩ : ∃ m, n = m + 1 := ⟨n - 1, by omega⟩
  have key : PO (FnP (fun x => W.l (List.map (eT D.str) x)) none) (T_rows_of a_names) (v1 (vrun n) [some (W.p ((eP5 D.str D.str D.str D.str D.str) a_names)), none, none, none] none) := by
    unfold v1
    unfold T_rows_of
    exact (p_set (R := (fun x => W.l (List.map (eT D.str) x))) (u_all (u_cons (u_all u_nil rfl) u_nil) rfl) (fun found20 _ => (p_foldO (k := D.str) (E := ((fun s21 u22 => [some (W.p ((eP5 D.str D.str D.str D.str D.str) a_names)), some (W.l (List.map (eT D.str) s21)), u22, none]) : (List (List Str)) → Option W → VEnv)) (st0 := found20) (u0 := none) (w_any rfl (rfl : itemsW (W.p ((eT D.str) ([a_names.1, a_names.2.1, a_names.2.2.1, a_names.2.2.2.1, a_names.2.2.2.2] : (List Str)))) = some (List.map D.str ([a_names.1, a_names.2.1, a_names.2.2.1, a_names.2.2.2.1, a_names.2.2.2.2] : (List Str))))) rfl (fun x23 _ s21 u22 => ⟨[some (W.p ((eP5 D.str D.str D.str D.str D.str) a_names)), some (W.l (List.map (eT D.str) s21)), some (W.p (D.str x23)), none], rfl, (po_obn fun x33 hx33 => (p_ext (e := (eT D.str)) rfl (u_lc (w_any rfl (rfl : itemsW (W.l (List.map (eT D.str) s21)) = some (List.map (eT D.str) s21))) (lcl_MO (e := (eT D.str)) (f := (eT D.str)) (k := fun (x26 : (List Str)) => obn (appO x26 ([x23] : (List Str))) fun x28 => some x28) (fun x26 _ y29 h30 => (obn_e h30 fun x28 hx28 h32 => (by obtain rfl := Option.some.inj h32; exact ⟨[some (W.p ((eP5 D.str D.str D.str D.str D.str) a_names)), some (W.l (List.map (eT D.str) s21)), some (W.p (D.str x23)), some (W.p ((eT D.str) x26))], rfl, (u_op rfl (u_all (u_cons rfl u_nil) rfl) (wPlus_t D.str hx28))⟩))) hx33)) (fun l34 _ => (po_some (l_nx (some (W.p (D.str x23))))))))⟩) (fun s21 u22 _ => (po_some (f_ret (R := (fun x => W.l (List.map (eT D.str) x))) (u_all (u_cons rfl u_nil) (wSortA_q (rfl : itemsW (W.l (List.map (eT D.str) s21)) = some (List.map (eT D.str) s21))))))))))
  rw [vrun_1]
  exact key _ h
def T_added (a_one : (List Str)) (a_two : (List Str)) : Option (List Str) := obn (appO (List.filter (fun (x38 : Str) => (!inL x38 a_two)) a_one) (List.filter (fun (x39 : Str) => (!inL x39 a_one)) a_two)) fun x40 => (some (srtE D.str x40))
theorem ok_T_added {n : Nat} (hn : 1 ≤ n) {a_one : (List Str)} {a_two : (List Str)}   {r : (List Str)} (h : T_added a_one a_two = some r) : vrun n 2 [(W.p ((eT D.str) a_one)), (W.p ((eT D.str) a_two))] none = some ((fun x => W.p ((eT D.str) x)) r, none) := by
  obtain ⟨n, rfl⟩ : ∃ m, n = m + 1 := ⟨n - 1, by omega⟩
  have key : PO (FnP (fun x => W.p ((eT D.str) x)) none) (T_added a_one a_two) (v2 (vrun n) [some (W.p ((eT D.str) a_one)), some (W.p ((eT D.str) a_two)), none] none) := by
    unfold v2
    unfold T_added
    exact (po_obn fun x40 hx40 => (po_some (f_ret (R := (fun x => W.p ((eT D.str) x))) (u_all (u_cons (u_all (u_cons (u_op (u_lc (w_any rfl (rfl : itemsW (W.p ((eT D.str) a_one)) = some (List.map D.str a_one))) (lcl_F (e := D.str) (c := fun (x38 : Str) => (!inL x38 a_two)) (fun x38 _ => ⟨[some (W.p ((eT D.str) a_one)), some (W.p ((eT D.str) a_two)), some (W.p (D.str x38))], rfl, (c_val (u_op rfl rfl (wNotIn_em D.str (a := x38) (l := a_two) (rfl : itemsW (W.p ((eT D.str) a_two)) = some (List.map D.str a_two))))), fun _ => rfl⟩))) (u_lc (w_any rfl (rfl : itemsW (W.p ((eT D.str) a_two)) = some (List.map D.str a_two))) (lcl_F (e := D.str) (c := fun (x39 : Str) => (!inL x39 a_one)) (fun x39 _ => ⟨[some (W.p ((eT D.str) a_one)), some (W.p ((eT D.str) a_two)), some (W.p (D.str x39))], rfl, (c_val (u_op rfl rfl (wNotIn_em D.str (a := x39) (l := a_one) (rfl : itemsW (W.p ((eT D.str) a_one)) = some (List.map D.str a_one))))), fun _ => rfl⟩))) (wPlus_lT D.str hx40)) u_nil) (wSortA_q (rfl : itemsW (W.l (List.map D.str x40)) = some (List.map D.str x40)))) u_nil) (wTupC_q (rfl : itemsW (W.l (List.map D.str (srtE D.str x40))) = some (List.map D.str (srtE D.str x40))))))))
  rw [vrun_2]
  exact key _ h
def T_is_kept (a_equation : ((List Str) × Int)) (a_row : D) : Option Bool := obn (cmpO (fun (x43 : Str) => obn (itD a_row) fun x45 => obn (inO (D.str x43) x45) fun x46 => if x46 = true then some (some x43) else some (none : Option Str)) a_equation.1) fun x54 => (some (decide (((x54.length : Int) % (2 : Int)) = a_equation.2)))
theorem ok_T_is_kept {n : Nat} (hn : 1 ≤ n) {a_equation : ((List Str) × Int)} {a_row : D}   {r : Bool} (h : T_is_kept a_equation a_row = some r) : vrun n 3 [(W.p ((eP2 (eT D.str) D.int) a_equation)), (W.p (eD a_row))] none = some ((fun x => W.p (D.bl x)) r, none) := by
  obtain ⟨n, rfl⟩ : ∃ m, n = m + 1 := ⟨n - 1, by omega⟩
  have key : PO (FnP (fun x => W.p (D.bl x)) none) (T_is_kept a_equation a_row) (v3 (vrun n) [some (W.p ((eP2 (eT D.str) D.int) a_equation)), some (W.p (eD a_row)), none] none) := by
    unfold v3
    unfold T_is_kept
    exact (po_obn fun x54 hx54 => (po_some (f_ret (R := (fun x => W.p (D.bl x))) (u_op (u_op (u_all (u_cons (u_lc (w_any (u_op rfl u_c rfl) (rfl : itemsW (W.p ((eT D.str) a_equation.1)) = some (List.map D.str a_equation.1))) (lcl_O (e := D.str) (f := D.str) (k := fun (x43 : Str) => obn (itD a_row) fun x45 => obn (inO (D.str x43) x45) fun x46 => if x46 = true then some (some x43) else some (none : Option Str)) (fun x43 _ y47 h48 => (obn_e h48 fun x45 hx45 h50 => (obn_e h50 fun x46 hx46 h51 => (ite_e h51 (fun q53 h52 => (by cases h52; exact one_of (e := D.str) (f := D.str) (ε1 := [some (W.p ((eP2 (eT D.str) D.int) a_equation)), some (W.p (eD a_row)), some (W.p (D.str x43))]) rfl (c_val (u_op rfl rfl (wIn_d (by first | exact (itemsW_d hx45) | exact ((itemsW_d hx45)).trans (congrArg some (map_eD _))) hx46))) (.inl ⟨q53, _, rfl, rfl⟩))) (fun q53 h52 => (by cases h52; exact one_of (e := D.str) (f := D.str) (ε1 := [some (W.p ((eP2 (eT D.str) D.int) a_equation)), some (W.p (eD a_row)), some (W.p (D.str x43))]) rfl (c_val (u_op rfl rfl (wIn_d (by first | exact (itemsW_d hx45) | exact ((itemsW_d hx45)).trans (congrArg some (map_eD _))) hx46))) (.inr ⟨Bool.eq_false_iff.mpr q53, rfl, rfl⟩))))))) hx54)) u_nil) (wLen_q (rfl : itemsW (W.l (List.map D.str x54)) = some (List.map D.str x54)))) u_c (wMod_c)) (u_op rfl u_c rfl) (wEq_em D.int (a := ((x54.length : Int) % (2 : Int))) (b := a_equation.2))))))
  rw [vrun_3]
  exact key _ h
def T_sum_of (a_equations : (List ((List Str) × Int))) (a_lot : D) : Option ((List Str) × Int) := lett ([] : (List Str)) fun (names58 : (List Str)) => lett (0 : Int) fun (total59 : Int) => obn (itD a_lot) fun x60 => obn (foldO (fun (s61 : (List Str) × Int) (x63 : D) => obn (asI x63) fun x65 => obn (atI a_equations x65) fun x66 => obn (T_added s61.1 x66.1) fun x67 => lett x67 fun (names68 : (List Str)) => obn (asI x63) fun x69 => obn (atI a_equations x69) fun x70 => lett ((s61.2 + x70.2) % (2 : Int)) fun (total71 : Int) => (some (names68, total71))) x60 (names58, total59)) fun (s61 : (List Str) × Int) => (some (s61.1, s61.2))
theorem ok_T_sum_of {n : Nat} (hn : 2 ≤ n) {a_equations : (List ((List Str) × Int))} {a_lot : D}   {r : ((List Str) × Int)} (h : T_sum_of a_equations a_lot = some r) : vrun n 4 [(W.p ((eT (eP2 (eT D.str) D.int)) a_equations)), (W.p (eD a_lot))] none = some ((fun x => W.p ((eP2 (eT D.str) D.int) x)) r, none) := by
  obtain ⟨n, rfl⟩ : ∃ m, n = m + 1 := ⟨n - 1, by omega⟩
  have key : PO (FnP (fun x => W.p ((eP2 (eT D.str) D.int) x)) none) (T_sum_of a_equations a_lot) (v4 (vrun n) [some (W.p ((eT (eP2 (eT D.str) D.int)) a_equations)), some (W.p (eD a_lot)), none, none, none] none) := by
    unfold v4
    unfold T_sum_of
    exact (p_set (R := (fun x => W.p ((eT D.str) x))) (u_all u_nil rfl) (fun names58 _ => (p_set (R := (fun x => W.p (D.int x))) u_c (fun total59 _ => (po_obn fun x60 hx60 => (p_foldO (k := eD) (E := ((fun s61 u62 => [some (W.p ((eT (eP2 (eT D.str) D.int)) a_equations)), some (W.p (eD a_lot)), some (W.p ((eT D.str) s61.1)), some (W.p (D.int s61.2)), u62]) : (List Str) × Int → Option W → VEnv)) (st0 := (names58, total59)) (u0 := none) (w_any rfl (itemsW_d hx60)) rfl (fun x63 _ s61 u62 => ⟨[some (W.p ((eT (eP2 (eT D.str) D.int)) a_equations)), some (W.p (eD a_lot)), some (W.p ((eT D.str) s61.1)), some (W.p (D.int s61.2)), some (W.p (eD x63))], rfl, (po_obn fun x65 hx65 => (po_obn fun x66 hx66 => (po_obn fun x67 hx67 => (p_set (R := (fun x => W.p ((eT D.str) x))) (u_callP (u_cons rfl (u_cons (u_op (u_op rfl (co_w (congrArg W.p (asI_ok hx65)) rfl) (wIx_T (eP2 (eT D.str) D.int) hx66)) u_c rfl) u_nil)) rfl (ok_T_added (by omega) (a_one := s61.1) (a_two := x66.1) hx67)) (fun names68 _ => (po_obn fun x69 hx69 => (po_obn fun x70 hx70 => (p_set (R := (fun x => W.p (D.int x))) (u_op (u_op rfl (u_op (u_op rfl (co_w (congrArg W.p (asI_ok hx69)) rfl) (wIx_T (eP2 (eT D.str) D.int) hx70)) u_c rfl) rfl) u_c (wMod_c)) (fun total71 _ => (po_some (l_nx (some (W.p (eD x63))))))))))))))⟩) (fun s61 u62 _ => (po_some (f_ret (R := (fun x => W.p ((eP2 (eT D.str) D.int) x))) (u_all (u_cons rfl (u_cons rfl u_nil)) rfl))))))))))
  rw [vrun_4]
  exact key _ h
def T_added__I (a_one : (List Int)) (a_two : (List Int)) : Option (List Int) := obn (appO (List.filter (fun (x75 : Int) => (!inL x75 a_two)) a_one) (List.filter (fun (x76 : Int) => (!inL x76 a_one)) a_two)) fun x77 => (some (srtE D.int x77))
theorem ok_T_added__I {n : Nat} (hn : 1 ≤ n) {a_one : (List Int)} {a_two : (List Int)}   {r : (List Int)} (h : T_added__I a_one a_two = some r) : vrun n 2 [(W.p ((eT D.int) a_one)), (W.p ((eT D.int) a_two))] none = some ((fun x => W.p ((eT D.int) x)) r, none) := by
  obtain ⟨n, rfl⟩ : ∃ m, n = m + 1 := ⟨n - 1, by omega⟩
  have key : PO (FnP (fun x => W.p ((eT D.int) x)) none) (T_added__I a_one a_two) (v2 (vrun n) [some (W.p ((eT D.int) a_one)), some (W.p ((eT D.int) a_two)), none] none) := by
    unfold v2
    unfold T_added__I
    exact (po_obn fun x77 hx77 => (po_some (f_ret (R := (fun x => W.p ((eT D.int) x))) (u_all (u_cons (u_all (u_cons (u_op (u_lc (w_any rfl (rfl : itemsW (W.p ((eT D.int) a_one)) = some (List.map D.int a_one))) (lcl_F (e := D.int) (c := fun (x75 : Int) => (!inL x75 a_two)) (fun x75 _ => ⟨[some (W.p ((eT D.int) a_one)), some (W.p ((eT D.int) a_two)), some (W.p (D.int x75))], rfl, (c_val (u_op rfl rfl (wNotIn_em D.int (a := x75) (l := a_two) (rfl : itemsW (W.p ((eT D.int) a_two)) = some (List.map D.int a_two))))), fun _ => rfl⟩))) (u_lc (w_any rfl (rfl : itemsW (W.p ((eT D.int) a_two)) = some (List.map D.int a_two))) (lcl_F (e := D.int) (c := fun (x76 : Int) => (!inL x76 a_one)) (fun x76 _ => ⟨[some (W.p ((eT D.int) a_one)), some (W.p ((eT D.int) a_two)), some (W.p (D.int x76))], rfl, (c_val (u_op rfl rfl (wNotIn_em D.int (a := x76) (l := a_one) (rfl : itemsW (W.p ((eT D.int) a_one)) = some (List.map D.int a_one))))), fun _ => rfl⟩))) (wPlus_lT D.int hx77)) u_nil) (wSortA_q (rfl : itemsW (W.l (List.map D.int x77)) = some (List.map D.int x77)))) u_nil) (wTupC_q (rfl : itemsW (W.l (List.map D.int (srtE D.int x77))) = some (List.map D.int (srtE D.int x77))))))))
  rw [vrun_2]
  exact key _ h
def T_joined (a_row : ((List Str) × Int × (List Int))) (a_fresh : ((List Str) × Int × (List Int))) : Option ((List Str) × Int × (List Int)) := obn (atI a_fresh.1 (0 : Int)) fun x79 => if (!inL x79 a_row.1) = true then (some a_row) else obn (T_added a_row.1 a_fresh.1) fun x80 => obn (T_added__I a_row.2.2 a_fresh.2.2) fun x81 => (some (x80, ((a_row.2.1 + a_fresh.2.1) % (2 : Int)), x81))
theorem ok_T_joined {n : Nat} (hn : 2 ≤ n) {a_row : ((List Str) × Int × (List Int))} {a_fresh : ((List Str) × Int × (List Int))}   {r : ((List Str) × Int × (List Int))} (h : T_joined a_row a_fresh = some r) : vrun n 6 [(W.p ((eP3 (eT D.str) D.int (eT D.int)) a_row)), (W.p ((eP3 (eT D.str) D.int (eT D.int)) a_fresh))] none = some ((fun x => W.p ((eP3 (eT D.str) D.int (eT D.int)) x)) r, none) := by
  obtain ⟨n, rfl⟩ : ∃ m, n = m + 1 := ⟨n - 1, by omega⟩
  have key : PO (FnP (fun x => W.p ((eP3 (eT D.str) D.int (eT D.int)) x)) none) (T_joined a_row a_fresh) (v6 (vrun n) [some (W.p ((eP3 (eT D.str) D.int (eT D.int)) a_row)), some (W.p ((eP3 (eT D.str) D.int (eT D.int)) a_fresh))] none) := by
    unfold v6
    unfold T_joined
    exact (po_obn fun x79 hx79 => (p_if (c_val (u_op (u_op (u_op rfl u_c rfl) u_c (wIx_T D.str hx79)) (u_op rfl u_c rfl) (wNotIn_em D.str (a := x79) (l := a_row.1) (rfl : itemsW (W.p ((eT D.str) a_row.1)) = some (List.map D.str a_row.1))))) (fun _ => (p_seqs (po_some (f_ret (R := (fun x => W.p ((eP3 (eT D.str) D.int (eT D.int)) x))) rfl)))) (fun _ => (p_nils (po_obn fun x80 hx80 => (po_obn fun x81 hx81 => (po_some (f_ret (R := (fun x => W.p ((eP3 (eT D.str) D.int (eT D.int)) x))) (u_all (u_cons (u_callP (u_cons (u_op rfl u_c rfl) (u_cons (u_op rfl u_c rfl) u_nil)) rfl (ok_T_added (by omega) (a_one := a_row.1) (a_two := a_fresh.1) hx80)) (u_cons (u_op (u_op (u_op rfl u_c rfl) (u_op rfl u_c rfl) rfl) u_c (wMod_c)) (u_cons (u_callP (u_cons (u_op rfl u_c rfl) (u_cons (u_op rfl u_c rfl) u_nil)) rfl (ok_T_added__I (by omega) (a_one := a_row.2.2) (a_two := a_fresh.2.2) hx81)) u_nil))) rfl)))))))))
  rw [vrun_6]
  exact key _ h
def T_reduced (a_equations : (List ((List Str) × Int))) : Option (List ((List Str) × Int × (List Int))) := lett ([] : (List ((List Str) × Int × (List Int)))) fun (found91 : (List ((List Str) × Int × (List Int)))) => obn (foldO (fun (s92 : (List ((List Str) × Int × (List Int)))) (x94 : (Int × ((List Str) × Int))) => lett ([x94.1] : (List Int)) fun (lot100 : (List Int)) => obn (foldO (fun (s101 : (List Int) × (List Str) × Int) (x103 : ((List Str) × Int × (List Int))) => obn (if (!x103.1.isEmpty) = true then obn (atI x103.1 (0 : Int)) fun x105 => some (inL x105 s101.2.1) else some false) fun x109 => if x109 = true then obn (T_added s101.2.1 x103.1) fun x110 => obn (T_added__I s101.1 x103.2.2) fun x111 => lett (x110, ((s101.2.2 + x103.2.1) % (2 : Int)), x111) fun (p112 : ((List Str) × Int × (List Int))) => (some (p112.2.2, p112.1, p112.2.1)) else (some (s101.1, s101.2.1, s101.2.2))) s92 (lot100, x94.2.1, x94.2.2)) fun (s101 : (List Int) × (List Str) × Int) => if (!s101.2.1.isEmpty) = true then obn (mapO (fun (x113 : ((List Str) × Int × (List Int))) => obn (T_joined x113 (s101.2.1, s101.2.2, s101.1)) fun x115 => some x115) s92) fun x120 => obn (appO x120 ([(s101.2.1, s101.2.2, s101.1)] : (List ((List Str) × Int × (List Int))))) fun x121 => lett x121 fun (found122 : (List ((List Str) × Int × (List Int)))) => (some found122) else obn (apnO s92 (s101.2.1, s101.2.2, s101.1)) fun l123 => (some l123)) (enT 0 a_equations) found91) fun (s92 : (List ((List Str) × Int × (List Int)))) => (some s92)
theorem ok_T_reduced {n : Nat} (hn : 3 ≤ n) {a_equations : (List ((List Str) × Int))}   {r : (List ((List Str) × Int × (List Int)))} (h : T_reduced a_equations = some r) : vrun n 5 [(W.p ((eT (eP2 (eT D.str) D.int)) a_equations))] none = some ((fun x => W.l (List.map (eP3 (eT D.str) D.int (eT D.int)) x)) r, none) := by
  obtain ⟨n, rfl⟩ : ∃ m, n = m + 1 := ⟨n - 1, by omega⟩
  have key : PO (FnP (fun x => W.l (List.map (eP3 (eT D.str) D.int (eT D.int)) x)) none) (T_reduced a_equations) (v5 (vrun n) [some (W.p ((eT (eP2 (eT D.str) D.int)) a_equations)), none, none, none, none, none, none, none, none, none] none) := by
    unfold v5
    unfold T_reduced
    exact (p_set (R := (fun x => W.l (List.map (eP3 (eT D.str) D.int (eT D.int)) x))) (u_all u_nil rfl) (fun found91 _ => (p_foldO (k := (eP2 D.int (eP2 (eT D.str) D.int))) (E := ((fun s92 u93 => [some (W.p ((eT (eP2 (eT D.str) D.int)) a_equations)), some (W.l (List.map (eP3 (eT D.str) D.int (eT D.int)) s92)), u93.2.2.2.1, u93.2.2.1, u93.2.2.2.2.2.1, u93.2.1, u93.1, u93.2.2.2.2.2.2, u93.2.2.2.2.1, none]) : (List ((List Str) × Int × (List Int))) → Option W × Option W × Option W × Option W × Option W × Option W × Option W → VEnv)) (st0 := found91) (u0 := (none, none, none, none, none, none, none)) (w_enumT rfl) rfl (fun x94 _ s92 u93 => ⟨[some (W.p ((eT (eP2 (eT D.str) D.int)) a_equations)), some (W.l (List.map (eP3 (eT D.str) D.int (eT D.int)) s92)), some (W.p (D.int x94.1)), some (W.p ((eT D.str) x94.2.1)), some (W.p (D.int x94.2.2)), u93.2.1, u93.1, u93.2.2.2.2.2.2, u93.2.2.2.2.1, none], rfl, (p_set (R := (fun x => W.p ((eT D.int) x))) (u_all (u_cons rfl u_nil) rfl) (fun lot100 _ => (p_foldO (k := (eP3 (eT D.str) D.int (eT D.int))) (E := ((fun s101 u102 => [some (W.p ((eT (eP2 (eT D.str) D.int)) a_equations)), some (W.l (List.map (eP3 (eT D.str) D.int (eT D.int)) s92)), some (W.p (D.int x94.1)), some (W.p ((eT D.str) s101.2.1)), some (W.p (D.int s101.2.2)), some (W.p ((eT D.int) s101.1)), u102.1, u102.2.2, u102.2.1, none]) : (List Int) × (List Str) × Int → Option W × Option W × Option W → VEnv)) (st0 := (lot100, x94.2.1, x94.2.2)) (u0 := (u93.1, u93.2.2.2.2.1, u93.2.2.2.2.2.2)) (w_any rfl (rfl : itemsW (W.l (List.map (eP3 (eT D.str) D.int (eT D.int)) s92)) = some (List.map (eP3 (eT D.str) D.int (eT D.int)) s92))) rfl (fun x103 _ s101 u102 => ⟨[some (W.p ((eT (eP2 (eT D.str) D.int)) a_equations)), some (W.l (List.map (eP3 (eT D.str) D.int (eT D.int)) s92)), some (W.p (D.int x94.1)), some (W.p ((eT D.str) s101.2.1)), some (W.p (D.int s101.2.2)), some (W.p ((eT D.int) s101.1)), some (W.p ((eT D.str) x103.1)), some (W.p (D.int x103.2.1)), some (W.p ((eT D.int) x103.2.2)), none], rfl, (po_obn fun x109 hx109 => (p_if (c_andO (c_tru rfl (truW_q (rfl : itemsW (W.p ((eT D.str) x103.1)) = some (List.map D.str x103.1)))) (fun _ y107 h106 => (obn_e h106 fun x105 hx105 h108 => (by cases h108; exact (c_val (u_op (u_op rfl u_c (wIx_T D.str hx105)) rfl (wIn_em D.str (a := x105) (l := s101.2.1) (rfl : itemsW (W.p ((eT D.str) s101.2.1)) = some (List.map D.str s101.2.1)))))))) hx109) (fun _ => (p_seqs (po_obn fun x110 hx110 => (po_obn fun x111 hx111 => (p_asgT (R := (eP3 (eT D.str) D.int (eT D.int))) (E := fun p112 => [some (W.p ((eT (eP2 (eT D.str) D.int)) a_equations)), some (W.l (List.map (eP3 (eT D.str) D.int (eT D.int)) s92)), some (W.p (D.int x94.1)), some (W.p ((eT D.str) p112.1)), some (W.p (D.int p112.2.1)), some (W.p ((eT D.int) p112.2.2)), some (W.p ((eT D.str) x103.1)), some (W.p (D.int x103.2.1)), some (W.p ((eT D.int) x103.2.2)), none]) (u_all (u_cons (u_callP (u_cons rfl (u_cons rfl u_nil)) rfl (ok_T_added (by omega) (a_one := s101.2.1) (a_two := x103.1) hx110)) (u_cons (u_op (u_op rfl rfl rfl) u_c (wMod_c)) (u_cons (u_callP (u_cons rfl (u_cons rfl u_nil)) rfl (ok_T_added__I (by omega) (a_one := s101.1) (a_two := x103.2.2) hx111)) u_nil))) rfl) (fun _ => rfl) (fun p112 _ => (p_nils (po_some (l_nx (some (W.p ((eT D.str) x103.1)), some (W.p ((eT D.int) x103.2.2)), some (W.p (D.int x103.2.1)))))))))))) (fun _ => (p_nils (po_some (l_nx (some (W.p ((eT D.str) x103.1)), some (W.p ((eT D.int) x103.2.2)), some (W.p (D.int x103.2.1)))))))))⟩) (fun s101 u102 _ => (p_if (c_tru rfl (truW_q (rfl : itemsW (W.p ((eT D.str) s101.2.1)) = some (List.map D.str s101.2.1)))) (fun _ => (p_seqs (po_obn fun x120 hx120 => (po_obn fun x121 hx121 => (p_set (R := (fun x => W.l (List.map (eP3 (eT D.str) D.int (eT D.int)) x))) (u_op (u_lc (w_any rfl (rfl : itemsW (W.l (List.map (eP3 (eT D.str) D.int (eT D.int)) s92)) = some (List.map (eP3 (eT D.str) D.int (eT D.int)) s92))) (lcl_MO (e := (eP3 (eT D.str) D.int (eT D.int))) (f := (eP3 (eT D.str) D.int (eT D.int))) (k := fun (x113 : ((List Str) × Int × (List Int))) => obn (T_joined x113 (s101.2.1, s101.2.2, s101.1)) fun x115 => some x115) (fun x113 _ y116 h117 => (obn_e h117 fun x115 hx115 h119 => (by obtain rfl := Option.some.inj h119; exact ⟨[some (W.p ((eT (eP2 (eT D.str) D.int)) a_equations)), some (W.l (List.map (eP3 (eT D.str) D.int (eT D.int)) s92)), some (W.p (D.int x94.1)), some (W.p ((eT D.str) s101.2.1)), some (W.p (D.int s101.2.2)), some (W.p ((eT D.int) s101.1)), u102.1, u102.2.2, u102.2.1, some (W.p ((eP3 (eT D.str) D.int (eT D.int)) x113))], rfl, (u_callP (u_cons rfl (u_cons (u_all (u_cons rfl (u_cons rfl (u_cons rfl u_nil))) rfl) u_nil)) rfl (ok_T_joined (by omega) (a_row := x113) (a_fresh := (s101.2.1, s101.2.2, s101.1)) hx115))⟩))) hx120)) (u_all (u_cons (u_all (u_cons rfl (u_cons rfl (u_cons rfl u_nil))) rfl) u_nil) rfl) (wPlus_lT (eP3 (eT D.str) D.int (eT D.int)) hx121)) (fun found122 _ => (p_nils (po_some (l_nx (u102.1, some (W.p ((eT D.int) s101.1)), some (W.p ((eT D.str) s101.2.1)), some (W.p (D.int x94.1)), u102.2.1, some (W.p (D.int s101.2.2)), u102.2.2)))))))))) (fun _ => (p_seqs (p_app (e := (eP3 (eT D.str) D.int (eT D.int))) rfl (u_all (u_cons rfl (u_cons rfl (u_cons rfl u_nil))) rfl) (fun l123 _ => (p_nils (po_some (l_nx (u102.1, some (W.p ((eT D.int) s101.1)), some (W.p ((eT D.str) s101.2.1)), some (W.p (D.int x94.1)), u102.2.1, some (W.p (D.int s101.2.2)), u102.2.2)))))))))))))⟩) (fun s92 u93 _ => (po_some (f_ret (R := (fun x => W.l (List.map (eP3 (eT D.str) D.int (eT D.int)) x))) rfl))))))
  rw [vrun_5]
  exact key _ h
def T_decide_equations (a_equations : (List ((List Str) × Int))) : Option (Str × (List D)) := obn (T_reduced a_equations) fun x125 => lett x125 fun (rows126 : (List ((List Str) × Int × (List Int)))) => lrk (loopP (fun (s127 : Unit) (x129 : ((List Str) × Int × (List Int))) => if ((!(!x129.1.isEmpty)) && (decide (x129.2.1 = (1 : Int)))) = true then (LR.rt (("lot" : Str), (List.map (fun (y130 : Int) => (D.int y130)) x129.2.2))) else (LR.nx ())) rows126 ()) (fun (s127 : Unit) => obn (cmpO (fun (x131 : ((List Str) × Int × (List Int))) => if ((!x131.1.isEmpty) && (decide (x131.2.1 = (1 : Int)))) = true then obn (atI x131.1 (0 : Int)) fun x133 => some (some x133) else some (none : Option Str)) rows126) fun x140 => (some (("row" : Str), (List.map (fun (y141 : Str) => (D.str y141)) (srtE D.str x140))))) (fun (r142 : (Str × (List D))) => (some r142))
theorem ok_T_decide_equations {n : Nat} (hn : 4 ≤ n) {a_equations : (List ((List Str) × Int))}   {r : (Str × (List D))} (h : T_decide_equations a_equations = some r) : vrun n 7 [(W.p ((eT (eP2 (eT D.str) D.int)) a_equations))] none = some ((fun x => W.p ((eP2 D.str (eT eD)) x)) r, none) := by
  obtain ⟨n, rfl⟩ : ∃ m, n = m + 1 := ⟨n - 1, by omega⟩
  have key : PO (FnP (fun x => W.p ((eP2 D.str (eT eD)) x)) none) (T_decide_equations a_equations) (v7 (vrun n) [some (W.p ((eT (eP2 (eT D.str) D.int)) a_equations)), none, none, none, none, none] none) := by
    unfold v7
    unfold T_decide_equations
    exact (po_obn fun x125 hx125 => (p_set (R := (fun x => W.l (List.map (eP3 (eT D.str) D.int (eT D.int)) x))) (u_callP (u_cons rfl u_nil) rfl (ok_T_reduced (by omega) (a_equations := a_equations) hx125)) (fun rows126 _ => (p_loop (R := (fun x => W.p ((eP2 D.str (eT eD)) x))) (k := (eP3 (eT D.str) D.int (eT D.int))) (E := ((fun s127 u128 => [some (W.p ((eT (eP2 (eT D.str) D.int)) a_equations)), some (W.l (List.map (eP3 (eT D.str) D.int (eT D.int)) rows126)), u128.2.1, u128.2.2, u128.1, none]) : Unit → Option W × Option W × Option W → VEnv)) (st0 := ()) (u0 := (none, none, none)) (w_any rfl (rfl : itemsW (W.l (List.map (eP3 (eT D.str) D.int (eT D.int)) rows126)) = some (List.map (eP3 (eT D.str) D.int (eT D.int)) rows126))) rfl (fun x129 _ s127 u128 => ⟨[some (W.p ((eT (eP2 (eT D.str) D.int)) a_equations)), some (W.l (List.map (eP3 (eT D.str) D.int (eT D.int)) rows126)), some (W.p ((eT D.str) x129.1)), some (W.p (D.int x129.2.1)), some (W.p ((eT D.int) x129.2.2)), none], rfl, (p_if (c_andB (c_not (c_tru rfl (truW_q (rfl : itemsW (W.p ((eT D.str) x129.1)) = some (List.map D.str x129.1))))) (fun _ => (c_val (u_op rfl u_c (wEq_em D.int (a := x129.2.1) (b := (1 : Int))))))) (fun _ => (p_seqs (x_rt (R := (fun x => W.p ((eP2 D.str (eT eD)) x))) (u_all (u_cons u_c (u_cons (co_T (e1 := D.int) (e2 := eD) (fun (y130 : Int) => (D.int y130)) (fun _ => rfl) rfl) u_nil)) rfl)))) (fun _ => (p_nils (x_nx (some (W.p ((eT D.int) x129.2.2)), some (W.p ((eT D.str) x129.1)), some (W.p (D.int x129.2.1)))))))⟩) (fun s127 u128 => (po_obn fun x140 hx140 => (po_some (f_ret (R := (fun x => W.p ((eP2 D.str (eT eD)) x))) (u_all (u_cons u_c (u_cons (co_T (e1 := D.str) (e2 := eD) (fun (y141 : Str) => (D.str y141)) (fun _ => rfl) (u_all (u_cons (u_all (u_cons (u_lc (w_any rfl (rfl : itemsW (W.l (List.map (eP3 (eT D.str) D.int (eT D.int)) rows126)) = some (List.map (eP3 (eT D.str) D.int (eT D.int)) rows126))) (lcl_O (e := (eP3 (eT D.str) D.int (eT D.int))) (f := D.str) (k := fun (x131 : ((List Str) × Int × (List Int))) => if ((!x131.1.isEmpty) && (decide (x131.2.1 = (1 : Int)))) = true then obn (atI x131.1 (0 : Int)) fun x133 => some (some x133) else some (none : Option Str)) (fun x131 _ y134 h135 => (ite_e h135 (fun q138 h137 => (obn_e h137 fun x133 hx133 h139 => (by cases h139; exact one_of (e := (eP3 (eT D.str) D.int (eT D.int))) (f := D.str) (ε1 := [some (W.p ((eT (eP2 (eT D.str) D.int)) a_equations)), some (W.l (List.map (eP3 (eT D.str) D.int (eT D.int)) rows126)), some (W.p ((eT D.str) x131.1)), some (W.p (D.int x131.2.1)), u128.1, some (W.p ((eT D.int) x131.2.2))]) rfl (c_andB (c_tru rfl (truW_q (rfl : itemsW (W.p ((eT D.str) x131.1)) = some (List.map D.str x131.1)))) (fun _ => (c_val (u_op rfl u_c (wEq_em D.int (a := x131.2.1) (b := (1 : Int))))))) (.inl ⟨q138, _, rfl, (u_op rfl u_c (wIx_T D.str hx133))⟩)))) (fun q138 h137 => (by cases h137; exact one_of (e := (eP3 (eT D.str) D.int (eT D.int))) (f := D.str) (ε1 := [some (W.p ((eT (eP2 (eT D.str) D.int)) a_equations)), some (W.l (List.map (eP3 (eT D.str) D.int (eT D.int)) rows126)), some (W.p ((eT D.str) x131.1)), some (W.p (D.int x131.2.1)), u128.1, some (W.p ((eT D.int) x131.2.2))]) rfl (c_andB (c_tru rfl (truW_q (rfl : itemsW (W.p ((eT D.str) x131.1)) = some (List.map D.str x131.1)))) (fun _ => (c_val (u_op rfl u_c (wEq_em D.int (a := x131.2.1) (b := (1 : Int))))))) (.inr ⟨Bool.eq_false_iff.mpr q138, rfl, rfl⟩))))) hx140)) u_nil) (wSortA_q (rfl : itemsW (W.l (List.map D.str x140)) = some (List.map D.str x140)))) u_nil) (wTupC_q (rfl : itemsW (W.l (List.map D.str (srtE D.str x140))) = some (List.map D.str (srtE D.str x140)))))) u_nil)) rfl))))) (fun r142 => (po_some rfl))))))
  rw [vrun_7]
  exact key _ h
def T_judge_equations (a_equations : (List ((List Str) × Int))) (a_paper : D) : Option Bool := obn (isiD .tuple a_paper) fun x144 => obn (if (!x144) = true then some true else obn (itD a_paper) fun x145 => obn (if (!decide ((x145.length : Int) = (2 : Int))) = true then some true else obn (ixD a_paper (0 : Int)) fun x146 => obn (isiD .str x146) fun x147 => some (!x147)) fun x152 => some x152) fun x157 => if x157 = true then (some false) else obn (ixD a_paper (1 : Int)) fun x158 => obn (isiD .tuple x158) fun x159 => if (!x159) = true then (some false) else obn (ixD a_paper (0 : Int)) fun x160 => obn (eqV x160 (D.str ("row" : Str))) fun x161 => if x161 = true then obn (ixD a_paper (1 : Int)) fun x162 => obn (itD x162) fun x163 => obn (allO (fun (x164 : D) => obn (isiD .str x164) fun x166 => some x166) x163) fun x170 => obn (if (!x170) = true then some true else obn (ixD a_paper (1 : Int)) fun x171 => obn (itD x171) fun x172 => obn (setLO x172) fun x173 => obn (ixD a_paper (1 : Int)) fun x174 => obn (itD x174) fun x175 => some (!decide (x173 = (x175.length : Int)))) fun x183 => if x183 = true then (some false) else obn (allO (fun (x184 : ((List Str) × Int)) => obn (ixD a_paper (1 : Int)) fun x186 => obn (T_is_kept x184 x186) fun x187 => some x187) a_equations) fun x192 => (some x192) else obn (ixD a_paper (0 : Int)) fun x193 => obn (eqV x193 (D.str ("lot" : Str))) fun x194 => obn (if (!x194) = true then some true else obn (ixD a_paper (1 : Int)) fun x195 => obn (itD x195) fun x196 => obn (allO (fun (x197 : D) => obn (T_is_number x197) fun x199 => obn (if x199 = true then obn (asI x197) fun x200 => some (decide (x200 < (a_equations.length : Int))) else some false) fun x204 => some x204) x196) fun x209 => some (!x209)) fun x215 => if x215 = true then (some false) else obn (ixD a_paper (1 : Int)) fun x216 => obn (itD x216) fun x217 => obn (setLO x217) fun x218 => obn (ixD a_paper (1 : Int)) fun x219 => obn (itD x219) fun x220 => obn (if (decide (x218 = (x220.length : Int))) = true then obn (ixD a_paper (1 : Int)) fun x221 => obn (T_sum_of a_equations x221) fun x222 => some (decide (x222 = (([] : (List Str)), (([] : List Empty), (1 : Int)).2))) else some false) fun x227 => (some x227)
theorem ok_T_judge_equations {n : Nat} (hn : 3 ≤ n) {a_equations : (List ((List Str) × Int))} {a_paper : D}   {r : Bool} (h : T_judge_equations a_equations a_paper = some r) : vrun n 8 [(W.p ((eT (eP2 (eT D.str) D.int)) a_equations)), (W.p (eD a_paper))] none = some ((fun x => W.p (D.bl x)) r, none) := by
  obtain ⟨n, rfl⟩ : ∃ m, n = m + 1 := ⟨n - 1, by omega⟩
  have key : PO (FnP (fun x => W.p (D.bl x)) none) (T_judge_equations a_equations a_paper) (v8 (vrun n) [some (W.p ((eT (eP2 (eT D.str) D.int)) a_equations)), some (W.p (eD a_paper)), none, none, none] none) := by
    unfold v8
    unfold T_judge_equations
    exact (po_obn fun x144 hx144 => (po_obn fun x157 hx157 => (p_if (c_orO (c_not (c_tru (u_isiD rfl hx144) rfl)) (fun _ y154 h153 => (obn_e h153 fun x145 hx145 h155 => (obn_e h155 fun x152 hx152 h156 => (by cases h156; exact (c_orO (c_val (u_op (u_all (u_cons (co_w (congrArg W.p (itD_ok hx145)) rfl) u_nil) (wLen_q (rfl : itemsW (W.p ((eT eD) x145)) = some (List.map eD x145)))) u_c (wNe_em D.int (a := (x145.length : Int)) (b := (2 : Int))))) (fun _ y149 h148 => (obn_e h148 fun x146 hx146 h150 => (obn_e h150 fun x147 hx147 h151 => (by cases h151; exact (c_not (c_tru (u_isiD (u_op rfl u_c (wIx_d hx146)) hx147) rfl)))))) hx152))))) hx157) (fun _ => (p_seqs (po_some (f_ret (R := (fun x => W.p (D.bl x))) u_c)))) (fun _ => (p_nils (po_obn fun x158 hx158 => (po_obn fun x159 hx159 => (p_if (c_not (c_tru (u_isiD (u_op rfl u_c (wIx_d hx158)) hx159) rfl)) (fun _ => (p_seqs (po_some (f_ret (R := (fun x => W.p (D.bl x))) u_c)))) (fun _ => (p_nils (po_obn fun x160 hx160 => (po_obn fun x161 hx161 => (p_if (c_val (u_op (u_op rfl u_c (wIx_d hx160)) u_c (wEq_d hx161))) (fun _ => (p_seqs (po_obn fun x162 hx162 => (po_obn fun x163 hx163 => (po_obn fun x170 hx170 => (po_obn fun x183 hx183 => (p_if (c_orO (c_not (c_tru (u_q (w_any (u_op rfl u_c (wIx_d hx162)) (itemsW_d hx163)) (ql_allO (e := eD) (k := fun (x164 : D) => obn (isiD .str x164) fun x166 => some x166) (fun x164 _ y168 h167 => (obn_e h167 fun x166 hx166 h169 => (by cases h169; exact .inr (one_q (ε1 := [some (W.p ((eT (eP2 (eT D.str) D.int)) a_equations)), some (W.p (eD a_paper)), some (W.p (eD x164)), none, none]) rfl (u_isiD rfl hx166))))) hx170)) rfl)) (fun _ y177 h176 => (obn_e h176 fun x171 hx171 h178 => (obn_e h178 fun x172 hx172 h179 => (obn_e h179 fun x173 hx173 h180 => (obn_e h180 fun x174 hx174 h181 => (obn_e h181 fun x175 hx175 h182 => (by cases h182; exact (c_val (u_op (u_lenDD (u_op rfl u_c (wIx_d hx171)) (itemsW_d hx172) hx173) (u_all (u_cons (co_w (congrArg W.p (itD_ok hx175)) (u_op rfl u_c (wIx_d hx174))) u_nil) (wLen_q (rfl : itemsW (W.p ((eT eD) x175)) = some (List.map eD x175)))) (wNe_em D.int (a := x173) (b := (x175.length : Int)))))))))))) hx183) (fun _ => (p_seqs (po_some (f_ret (R := (fun x => W.p (D.bl x))) u_c)))) (fun _ => (p_nils (p_seqs (po_obn fun x192 hx192 => (po_some (f_ret (R := (fun x => W.p (D.bl x))) (u_q (w_any rfl (rfl : itemsW (W.p ((eT (eP2 (eT D.str) D.int)) a_equations)) = some (List.map (eP2 (eT D.str) D.int) a_equations))) (ql_allO (e := (eP2 (eT D.str) D.int)) (k := fun (x184 : ((List Str) × Int)) => obn (ixD a_paper (1 : Int)) fun x186 => obn (T_is_kept x184 x186) fun x187 => some x187) (fun x184 _ y189 h188 => (obn_e h188 fun x186 hx186 h190 => (obn_e h190 fun x187 hx187 h191 => (by cases h191; exact .inr (one_q (ε1 := [some (W.p ((eT (eP2 (eT D.str) D.int)) a_equations)), some (W.p (eD a_paper)), none, some (W.p ((eP2 (eT D.str) D.int) x184)), none]) rfl (u_callP (u_cons rfl (u_cons (u_op rfl u_c (wIx_d hx186)) u_nil)) rfl (ok_T_is_kept (by omega) (a_equation := x184) (a_row := x186) hx187))))))) hx192))))))))))))))) (fun _ => (p_nils (po_obn fun x193 hx193 => (po_obn fun x194 hx194 => (po_obn fun x215 hx215 => (p_if (c_orO (c_val (u_op (u_op rfl u_c (wIx_d hx193)) u_c (wNe_d hx194))) (fun _ y211 h210 => (obn_e h210 fun x195 hx195 h212 => (obn_e h212 fun x196 hx196 h213 => (obn_e h213 fun x209 hx209 h214 => (by cases h214; exact (c_not (c_tru (u_q (w_any (u_op rfl u_c (wIx_d hx195)) (itemsW_d hx196)) (ql_allO (e := eD) (k := fun (x197 : D) => obn (T_is_number x197) fun x199 => obn (if x199 = true then obn (asI x197) fun x200 => some (decide (x200 < (a_equations.length : Int))) else some false) fun x204 => some x204) (fun x197 _ y206 h205 => (obn_e h205 fun x199 hx199 h207 => (obn_e h207 fun x204 hx204 h208 => (by cases h208; exact .inr (one_q (ε1 := [some (W.p ((eT (eP2 (eT D.str) D.int)) a_equations)), some (W.p (eD a_paper)), none, none, some (W.p (eD x197))]) rfl (u_andO (u_callP (u_cons rfl u_nil) rfl (ok_T_is_number (by omega) (a_value := x197) hx199)) (fun _ y202 h201 => (obn_e h201 fun x200 hx200 h203 => (by cases h203; exact (u_op (co_w (congrArg W.p (asI_ok hx200)) rfl) (u_all (u_cons rfl u_nil) (wLen_q (rfl : itemsW (W.p ((eT (eP2 (eT D.str) D.int)) a_equations)) = some (List.map (eP2 (eT D.str) D.int) a_equations)))) rfl)))) hx204)))))) hx209)) rfl))))))) hx215) (fun _ => (p_seqs (po_some (f_ret (R := (fun x => W.p (D.bl x))) u_c)))) (fun _ => (p_nils (po_obn fun x216 hx216 => (po_obn fun x217 hx217 => (po_obn fun x218 hx218 => (po_obn fun x219 hx219 => (po_obn fun x220 hx220 => (po_obn fun x227 hx227 => (po_some (f_ret (R := (fun x => W.p (D.bl x))) (u_andO (u_op (u_lenDD (u_op rfl u_c (wIx_d hx216)) (itemsW_d hx217) hx218) (u_all (u_cons (co_w (congrArg W.p (itD_ok hx220)) (u_op rfl u_c (wIx_d hx219))) u_nil) (wLen_q (rfl : itemsW (W.p ((eT eD) x220)) = some (List.map eD x220)))) (wEq_em D.int (a := x218) (b := (x220.length : Int)))) (fun _ y224 h223 => (obn_e h223 fun x221 hx221 h225 => (obn_e h225 fun x222 hx222 h226 => (by cases h226; exact (u_op (u_callP (u_cons rfl (u_cons (u_op rfl u_c (wIx_d hx221)) u_nil)) rfl (ok_T_sum_of (by omega) (a_equations := a_equations) (a_lot := x221) hx222)) (u_all (u_cons (u_all u_nil rfl) (u_cons u_c u_nil)) rfl) (wEq_em (eP2 (eT D.str) D.int) (a := x222) (b := (([] : (List Str)), (([] : List Empty), (1 : Int)).2)))))))) hx227))))))))))))))))))))))))))))))
  rw [vrun_8]
  exact key _ h
def T_rank (a_equations : (List ((List Str) × Int))) : Option Int := obn (T_reduced (List.map (fun (x230 : ((List Str) × Int)) => (x230.1, (0 : Int))) a_equations)) fun x231 => (some ((List.map (fun (x232 : ((List Str) × Int × (List Int))) => x232.1) (List.filter (fun (x232 : ((List Str) × Int × (List Int))) => (!x232.1.isEmpty)) x231)).length : Int))
theorem ok_T_rank {n : Nat} (hn : 4 ≤ n) {a_equations : (List ((List Str) × Int))}   {r : Int} (h : T_rank a_equations = some r) : vrun n 9 [(W.p ((eT (eP2 (eT D.str) D.int)) a_equations))] none = some ((fun x => W.p (D.int x)) r, none) := by
  obtain ⟨n, rfl⟩ : ∃ m, n = m + 1 := ⟨n - 1, by omega⟩
  have key : PO (FnP (fun x => W.p (D.int x)) none) (T_rank a_equations) (v9 (vrun n) [some (W.p ((eT (eP2 (eT D.str) D.int)) a_equations)), none, none] none) := by
    unfold v9
    unfold T_rank
    exact (po_obn fun x231 hx231 => (po_some (f_ret (R := (fun x => W.p (D.int x))) (u_all (u_cons (u_lc (w_any (u_callP (u_cons (u_tg (w_any rfl (rfl : itemsW (W.p ((eT (eP2 (eT D.str) D.int)) a_equations)) = some (List.map (eP2 (eT D.str) D.int) a_equations))) (lcl_M (e := (eP2 (eT D.str) D.int)) (f := (eP2 (eT D.str) D.int)) (k := fun (x230 : ((List Str) × Int)) => (x230.1, (0 : Int))) (fun x230 _ => ⟨[some (W.p ((eT (eP2 (eT D.str) D.int)) a_equations)), some (W.p ((eT D.str) x230.1)), some (W.p (D.int x230.2))], rfl, (u_all (u_cons rfl (u_cons u_c u_nil)) rfl)⟩))) u_nil) rfl (ok_T_reduced (by omega) (a_equations := (List.map (fun (x230 : ((List Str) × Int)) => (x230.1, (0 : Int))) a_equations)) hx231)) (rfl : itemsW (W.l (List.map (eP3 (eT D.str) D.int (eT D.int)) x231)) = some (List.map (eP3 (eT D.str) D.int (eT D.int)) x231))) (lcl_P (e := (eP3 (eT D.str) D.int (eT D.int))) (f := (eT D.str)) (c := fun (x232 : ((List Str) × Int × (List Int))) => (!x232.1.isEmpty)) (k := fun (x232 : ((List Str) × Int × (List Int))) => x232.1) (fun x232 _ => ⟨[some (W.p ((eT (eP2 (eT D.str) D.int)) a_equations)), some (W.p ((eT D.str) x232.1)), some (W.p ((eT D.int) x232.2.2))], rfl, (c_tru rfl (truW_q (rfl : itemsW (W.p ((eT D.str) x232.1)) = some (List.map D.str x232.1)))), fun _ => rfl⟩))) u_nil) (wLen_q (rfl : itemsW (W.l (List.map (eT D.str) (List.map (fun (x232 : ((List Str) × Int × (List Int))) => x232.1) (List.filter (fun (x232 : ((List Str) × Int × (List Int))) => (!x232.1.isEmpty)) x231)))) = some (List.map (eT D.str) (List.map (fun (x232 : ((List Str) × Int × (List Int))) => x232.1) (List.filter (fun (x232 : ((List Str) × Int × (List Int))) => (!x232.1.isEmpty)) x231)))))))))
  rw [vrun_9]
  exact key _ h
def T_kept_rows (a_names : (Str × Str × Str × Str × Str)) (a_equations : (List ((List Str) × Int))) : Option (List (List Str)) := obn (T_rows_of a_names) fun x234 => obn (cmpO (fun (x235 : (List Str)) => obn (allO (fun (x238 : ((List Str) × Int)) => obn (T_is_kept x238 ((eT D.str) x235)) fun x240 => some x240) a_equations) fun x244 => if x244 = true then some (some x235) else some (none : Option (List Str))) x234) fun x251 => (some x251)
theorem ok_T_kept_rows {n : Nat} (hn : 2 ≤ n) {a_names : (Str × Str × Str × Str × Str)} {a_equations : (List ((List Str) × Int))}   {r : (List (List Str))} (h : T_kept_rows a_names a_equations = some r) : vrun n 10 [(W.p ((eP5 D.str D.str D.str D.str D.str) a_names)), (W.p ((eT (eP2 (eT D.str) D.int)) a_equations))] none = some ((fun x => W.p ((eT (eT D.str)) x)) r, none) := by
  obtain ⟨n, rfl⟩ : ∃ m, n = m + 1 := ⟨n - 1, by omega⟩
  have key : PO (FnP (fun x => W.p ((eT (eT D.str)) x)) none) (T_kept_rows a_names a_equations) (v10 (vrun n) [some (W.p ((eP5 D.str D.str D.str D.str D.str) a_names)), some (W.p ((eT (eP2 (eT D.str) D.int)) a_equations)), none, none] none) := by
    unfold v10
    unfold T_kept_rows
    exact (po_obn fun x234 hx234 => (po_obn fun x251 hx251 => (po_some (f_ret (R := (fun x => W.p ((eT (eT D.str)) x))) (u_tg (w_any (u_callP (u_cons rfl u_nil) rfl (ok_T_rows_of (by omega) (a_names := a_names) hx234)) (rfl : itemsW (W.l (List.map (eT D.str) x234)) = some (List.map (eT D.str) x234))) (lcl_O (e := (eT D.str)) (f := (eT D.str)) (k := fun (x235 : (List Str)) => obn (allO (fun (x238 : ((List Str) × Int)) => obn (T_is_kept x238 ((eT D.str) x235)) fun x240 => some x240) a_equations) fun x244 => if x244 = true then some (some x235) else some (none : Option (List Str))) (fun x235 _ y245 h246 => (obn_e h246 fun x244 hx244 h248 => (ite_e h248 (fun q250 h249 => (by cases h249; exact one_of (e := (eT D.str)) (f := (eT D.str)) (ε1 := [some (W.p ((eP5 D.str D.str D.str D.str D.str) a_names)), some (W.p ((eT (eP2 (eT D.str) D.int)) a_equations)), some (W.p ((eT D.str) x235)), none]) rfl (c_tru (u_q (w_any rfl (rfl : itemsW (W.p ((eT (eP2 (eT D.str) D.int)) a_equations)) = some (List.map (eP2 (eT D.str) D.int) a_equations))) (ql_allO (e := (eP2 (eT D.str) D.int)) (k := fun (x238 : ((List Str) × Int)) => obn (T_is_kept x238 ((eT D.str) x235)) fun x240 => some x240) (fun x238 _ y242 h241 => (obn_e h241 fun x240 hx240 h243 => (by cases h243; exact .inr (one_q (ε1 := [some (W.p ((eP5 D.str D.str D.str D.str D.str) a_names)), some (W.p ((eT (eP2 (eT D.str) D.int)) a_equations)), some (W.p ((eT D.str) x235)), some (W.p ((eP2 (eT D.str) D.int) x238))]) rfl (u_callP (u_cons rfl (u_cons rfl u_nil)) rfl (ok_T_is_kept (by omega) (a_equation := x238) (a_row := ((eT D.str) x235)) hx240)))))) hx244)) rfl) (.inl ⟨q250, _, rfl, rfl⟩))) (fun q250 h249 => (by cases h249; exact one_of (e := (eT D.str)) (f := (eT D.str)) (ε1 := [some (W.p ((eP5 D.str D.str D.str D.str D.str) a_names)), some (W.p ((eT (eP2 (eT D.str) D.int)) a_equations)), some (W.p ((eT D.str) x235)), none]) rfl (c_tru (u_q (w_any rfl (rfl : itemsW (W.p ((eT (eP2 (eT D.str) D.int)) a_equations)) = some (List.map (eP2 (eT D.str) D.int) a_equations))) (ql_allO (e := (eP2 (eT D.str) D.int)) (k := fun (x238 : ((List Str) × Int)) => obn (T_is_kept x238 ((eT D.str) x235)) fun x240 => some x240) (fun x238 _ y242 h241 => (obn_e h241 fun x240 hx240 h243 => (by cases h243; exact .inr (one_q (ε1 := [some (W.p ((eP5 D.str D.str D.str D.str D.str) a_names)), some (W.p ((eT (eP2 (eT D.str) D.int)) a_equations)), some (W.p ((eT D.str) x235)), some (W.p ((eP2 (eT D.str) D.int) x238))]) rfl (u_callP (u_cons rfl (u_cons rfl u_nil)) rfl (ok_T_is_kept (by omega) (a_equation := x238) (a_row := ((eT D.str) x235)) hx240)))))) hx244)) rfl) (.inr ⟨Bool.eq_false_iff.mpr q250, rfl, rfl⟩)))))) hx251))))))
  rw [vrun_10]
  exact key _ h
def T_law_plus (a_one : (List Str)) (a_two : (List Str)) : Option (List Str) := obn (appO (List.filter (fun (x255 : Str) => (!inL x255 a_two)) a_one) (List.filter (fun (x256 : Str) => (!inL x256 a_one)) a_two)) fun x257 => (some (srtE D.str x257))
theorem ok_T_law_plus {n : Nat} (hn : 1 ≤ n) {a_one : (List Str)} {a_two : (List Str)}   {r : (List Str)} (h : T_law_plus a_one a_two = some r) : vrun n 11 [(W.p ((eT D.str) a_one)), (W.p ((eT D.str) a_two))] none = some ((fun x => W.p ((eT D.str) x)) r, none) := by
  obtain ⟨n, rfl⟩ : ∃ m, n = m + 1 := ⟨n - 1, by omega⟩
  have key : PO (FnP (fun x => W.p ((eT D.str) x)) none) (T_law_plus a_one a_two) (v11 (vrun n) [some (W.p ((eT D.str) a_one)), some (W.p ((eT D.str) a_two)), none] none) := by
    unfold v11
    unfold T_law_plus
    exact (po_obn fun x257 hx257 => (po_some (f_ret (R := (fun x => W.p ((eT D.str) x))) (u_all (u_cons (u_all (u_cons (u_op (u_lc (w_any rfl (rfl : itemsW (W.p ((eT D.str) a_one)) = some (List.map D.str a_one))) (lcl_F (e := D.str) (c := fun (x255 : Str) => (!inL x255 a_two)) (fun x255 _ => ⟨[some (W.p ((eT D.str) a_one)), some (W.p ((eT D.str) a_two)), some (W.p (D.str x255))], rfl, (c_val (u_op rfl rfl (wNotIn_em D.str (a := x255) (l := a_two) (rfl : itemsW (W.p ((eT D.str) a_two)) = some (List.map D.str a_two))))), fun _ => rfl⟩))) (u_lc (w_any rfl (rfl : itemsW (W.p ((eT D.str) a_two)) = some (List.map D.str a_two))) (lcl_F (e := D.str) (c := fun (x256 : Str) => (!inL x256 a_one)) (fun x256 _ => ⟨[some (W.p ((eT D.str) a_one)), some (W.p ((eT D.str) a_two)), some (W.p (D.str x256))], rfl, (c_val (u_op rfl rfl (wNotIn_em D.str (a := x256) (l := a_one) (rfl : itemsW (W.p ((eT D.str) a_one)) = some (List.map D.str a_one))))), fun _ => rfl⟩))) (wPlus_lT D.str hx257)) u_nil) (wSortA_q (rfl : itemsW (W.l (List.map D.str x257)) = some (List.map D.str x257)))) u_nil) (wTupC_q (rfl : itemsW (W.l (List.map D.str (srtE D.str x257))) = some (List.map D.str (srtE D.str x257))))))))
  rw [vrun_11]
  exact key _ h
def T_law_equations (a_most : Int) (t0 : List Int) : Option ((List ((List Str) × Int)) × List Int) := lett ([] : (List ((List Str) × Int))) fun (found258 : (List ((List Str) × Int))) => tbn (drw (a_most + (1 : Int)) t0) fun d259 t260 => obn (rngO 0 d259) fun x261 => tbn (foldT (fun (s262 : (List ((List Str) × Int))) (x264 : Int) (t273 : List Int) => tbn (cmpT (fun (x274 : Str) t279 => tbn (drw (3 : Int) t279) fun d280 t281 => if (decide (d280 = (0 : Int))) = true then some ((some x274), t281) else some ((none : Option Str), t281)) ([("a" : Str), ("b" : Str), ("c" : Str), ("d" : Str), ("e" : Str)] : (List Str)) t273) fun x288 t289 => tbn (drw (2 : Int) t289) fun d290 t291 => obn (apnO s262 (x288, d290)) fun l292 => (some (l292, t291))) x261 found258 t260) fun (s262 : (List ((List Str) × Int))) t293 => (some (s262, t293))
theorem ok_T_law_equations {n : Nat} (hn : 2 ≤ n) {a_most : Int}   {t0 t9 : List Int} {r : (List ((List Str) × Int))} (h : T_law_equations a_most t0 = some (r, t9)) : vrun n 15 [W.bx, (W.p (D.int a_most))] (some t0) = some ((fun x => W.p ((eT (eP2 (eT D.str) D.int)) x)) r, some t9) := by
  obtain ⟨n, rfl⟩ : ∃ m, n = m + 1 := ⟨n - 1, by omega⟩
  have key : PO (FnT (fun x => W.p ((eT (eP2 (eT D.str) D.int)) x))) (T_law_equations a_most t0) (v15 (vrun n) [some W.bx, some (W.p (D.int a_most)), none, none, none] (some t0)) := by
    unfold v15
    unfold T_law_equations
    exact (p_set (R := (fun x => W.l (List.map (eP2 (eT D.str) D.int) x))) (u_all u_nil rfl) (fun found258 _ => (po_tbn fun d259 t260 hd259 => (po_obn fun x261 hx261 => (p_foldT (k := D.int) (E := ((fun s262 u263 => [some W.bx, some (W.p (D.int a_most)), some (W.l (List.map (eP2 (eT D.str) D.int) s262)), u263, none]) : (List ((List Str) × Int)) → Option W → VEnv)) (st0 := found258) (u0 := none) (w_rngT1 (u_call (u_cons rfl (u_cons (u_op rfl u_c rfl) u_nil)) rfl (okdraw (by omega) hd259)) hx261) rfl (fun x264 _ s262 t273 u263 => ⟨[some W.bx, some (W.p (D.int a_most)), some (W.l (List.map (eP2 (eT D.str) D.int) s262)), some (W.p (D.int x264)), none], rfl, (po_tbn fun x288 t289 hx288 => (po_tbn fun d290 t291 hd290 => (p_app (e := (eP2 (eT D.str) D.int)) rfl (u_all (u_cons (u_all (u_cons (u_lc (w_any (u_all (u_cons u_c (u_cons u_c (u_cons u_c (u_cons u_c (u_cons u_c u_nil))))) rfl) (rfl : itemsW (W.l (List.map D.str ([("a" : Str), ("b" : Str), ("c" : Str), ("d" : Str), ("e" : Str)] : (List Str)))) = some (List.map D.str ([("a" : Str), ("b" : Str), ("c" : Str), ("d" : Str), ("e" : Str)] : (List Str))))) (lcl_T (e := D.str) (f := D.str) (k := fun (x274 : Str) t279 => tbn (drw (3 : Int) t279) fun d280 t281 => if (decide (d280 = (0 : Int))) = true then some ((some x274), t281) else some ((none : Option Str), t281)) (fun x274 _ t279 y282 t284 h283 => (tbn_e h283 fun d280 t281 hd280 h285 => (ite_e h285 (fun q287 h286 => (by cases h286; exact one_of (e := D.str) (f := D.str) (ε1 := [some W.bx, some (W.p (D.int a_most)), some (W.l (List.map (eP2 (eT D.str) D.int) s262)), some (W.p (D.int x264)), some (W.p (D.str x274))]) rfl (c_val (u_op (u_call (u_cons rfl (u_cons u_c u_nil)) rfl (okdraw (by omega) hd280)) u_c (wEq_em D.int (a := d280) (b := (0 : Int))))) (.inl ⟨q287, _, rfl, rfl⟩))) (fun q287 h286 => (by cases h286; exact one_of (e := D.str) (f := D.str) (ε1 := [some W.bx, some (W.p (D.int a_most)), some (W.l (List.map (eP2 (eT D.str) D.int) s262)), some (W.p (D.int x264)), some (W.p (D.str x274))]) rfl (c_val (u_op (u_call (u_cons rfl (u_cons u_c u_nil)) rfl (okdraw (by omega) hd280)) u_c (wEq_em D.int (a := d280) (b := (0 : Int))))) (.inr ⟨Bool.eq_false_iff.mpr q287, rfl, rfl⟩)))))) hx288)) u_nil) (wTupC_q (rfl : itemsW (W.l (List.map D.str x288)) = some (List.map D.str x288)))) (u_cons (u_call (u_cons rfl (u_cons u_c u_nil)) rfl (okdraw (by omega) hd290)) u_nil)) rfl) (fun l292 _ => (po_some (l_nxT (some (W.p (D.int x264)))))))))⟩) (fun s262 t293 u263 _ => (po_some (f_retT (R := (fun x => W.p ((eT (eP2 (eT D.str) D.int)) x))) (u_all (u_cons rfl u_nil) (wTupC_q (rfl : itemsW (W.l (List.map (eP2 (eT D.str) D.int) s262)) = some (List.map (eP2 (eT D.str) D.int) s262))))))))))))
  rw [vrun_15]
  exact key _ h
def T_law_rows (a_names : (List Str)) : Option (List (List Str)) := lett ([([] : (List Str))] : (List (List Str))) fun (rows300 : (List (List Str))) => obn (foldO (fun (s301 : (List (List Str))) (x303 : Str) => obn (mapO (fun (x306 : (List Str)) => obn (appO x306 ([x303] : (List Str))) fun x308 => some x308) s301) fun x313 => obn (appO s301 x313) fun x314 => lett x314 fun (rows315 : (List (List Str))) => (some rows315)) a_names rows300) fun (s301 : (List (List Str))) => (some (srtE (eT D.str) s301))
theorem ok_T_law_rows {n : Nat} (hn : 1 ≤ n) {a_names : (List Str)} {w_names : W} (hw_names : itemsW w_names = some (List.map D.str a_names)) {r : (List (List Str))} (h : T_law_rows a_names = some r) : vrun n 17 [w_names] none = some ((fun x => W.l (List.map (eT D.str) x)) r, none) := by
  obtain ⟨n, rfl⟩ : ∃ m, n = m + 1 := ⟨n - 1, by omega⟩
  have key : PO (FnP (fun x => W.l (List.map (eT D.str) x)) none) (T_law_rows a_names) (v17 (vrun n) [some w_names, none, none, none] none) := by
    unfold v17
    unfold T_law_rows
    exact (p_set (R := (fun x => W.l (List.map (eT D.str) x))) (u_all (u_cons (u_all u_nil rfl) u_nil) rfl) (fun rows300 _ => (p_foldO (k := D.str) (E := ((fun s301 u302 => [some w_names, some (W.l (List.map (eT D.str) s301)), u302, none]) : (List (List Str)) → Option W → VEnv)) (st0 := rows300) (u0 := none) (w_any rfl hw_names) rfl (fun x303 _ s301 u302 => ⟨[some w_names, some (W.l (List.map (eT D.str) s301)), some (W.p (D.str x303)), none], rfl, (po_obn fun x313 hx313 => (po_obn fun x314 hx314 => (p_set (R := (fun x => W.l (List.map (eT D.str) x))) (u_op rfl (u_lc (w_any rfl (rfl : itemsW (W.l (List.map (eT D.str) s301)) = some (List.map (eT D.str) s301))) (lcl_MO (e := (eT D.str)) (f := (eT D.str)) (k := fun (x306 : (List Str)) => obn (appO x306 ([x303] : (List Str))) fun x308 => some x308) (fun x306 _ y309 h310 => (obn_e h310 fun x308 hx308 h312 => (by obtain rfl := Option.some.inj h312; exact ⟨[some w_names, some (W.l (List.map (eT D.str) s301)), some (W.p (D.str x303)), some (W.p ((eT D.str) x306))], rfl, (u_op rfl (u_all (u_cons rfl u_nil) rfl) (wPlus_t D.str hx308))⟩))) hx313)) (wPlus_lT (eT D.str) hx314)) (fun rows315 _ => (po_some (l_nx (some (W.p (D.str x303)))))))))⟩) (fun s301 u302 _ => (po_some (f_ret (R := (fun x => W.l (List.map (eT D.str) x))) (u_all (u_cons rfl u_nil) (wSortA_q (rfl : itemsW (W.l (List.map (eT D.str) s301)) = some (List.map (eT D.str) s301))))))))))
  rw [vrun_17]
  exact key _ h
def T_law_even (a_equation : ((List Str) × Int)) (a_row : (List Str)) : Bool := lett ((List.filter (fun (x316 : Str) => (inL x316 a_row)) a_equation.1).length : Int) fun (many317 : Int) => (decide ((many317 - ((2 : Int) * (many317 / (2 : Int)))) = a_equation.2))
theorem ok_T_law_even {n : Nat} (hn : 1 ≤ n) {a_equation : ((List Str) × Int)} {a_row : (List Str)}   : vrun n 18 [(W.p ((eP2 (eT D.str) D.int) a_equation)), (W.p ((eT D.str) a_row))] none = some ((fun x => W.p (D.bl x)) (T_law_even a_equation a_row), none) := by
  obtain ⟨n, rfl⟩ : ∃ m, n = m + 1 := ⟨n - 1, by omega⟩
  have key : FnP (fun x => W.p (D.bl x)) none (T_law_even a_equation a_row) (v18 (vrun n) [some (W.p ((eP2 (eT D.str) D.int) a_equation)), some (W.p ((eT D.str) a_row)), none, none] none) := by
    unfold v18
    unfold T_law_even
    exact (p_set (R := (fun x => W.p (D.int x))) (u_all (u_cons (u_lc (w_any (u_op rfl u_c rfl) (rfl : itemsW (W.p ((eT D.str) a_equation.1)) = some (List.map D.str a_equation.1))) (lcl_F (e := D.str) (c := fun (x316 : Str) => (inL x316 a_row)) (fun x316 _ => ⟨[some (W.p ((eP2 (eT D.str) D.int) a_equation)), some (W.p ((eT D.str) a_row)), none, some (W.p (D.str x316))], rfl, (c_val (u_op rfl rfl (wIn_em D.str (a := x316) (l := a_row) (rfl : itemsW (W.p ((eT D.str) a_row)) = some (List.map D.str a_row))))), fun _ => rfl⟩))) u_nil) (wLen_q (rfl : itemsW (W.l (List.map D.str (List.filter (fun (x316 : Str) => (inL x316 a_row)) a_equation.1))) = some (List.map D.str (List.filter (fun (x316 : Str) => (inL x316 a_row)) a_equation.1))))) (fun many317 _ => (f_ret (R := (fun x => W.p (D.bl x))) (u_op (u_op rfl (u_op u_c (u_op rfl u_c (wDiv_c)) (wMul_1)) rfl) (u_op rfl u_c rfl) (wEq_em D.int (a := (many317 - ((2 : Int) * (many317 / (2 : Int))))) (b := a_equation.2))))))
  rw [vrun_18]
  exact key
def T_law_same : Nat → D → D → Option Bool
  | 0, _, _ => none
  | N + 1, a_actual, a_expected => obn (isiD .tuple a_expected) fun x318 => if x318 = true then obn (isiD .tuple a_actual) fun x319 => obn (if (!x319) = true then some true else obn (itD a_actual) fun x320 => obn (itD a_expected) fun x321 => some (!decide ((x320.length : Int) = (x321.length : Int)))) fun x326 => if x326 = true then (some false) else obn (itD a_expected) fun x327 => obn (rngO 0 (x327.length : Int)) fun x328 => obn (loopO (fun (s329 : Unit) (x331 : Int) => obn (ixD a_actual x331) fun x333 => obn (ixD a_expected x331) fun x334 => obn (T_law_same N x333 x334) fun x335 => if (!x335) = true then (some (LR.rt false)) else (some (LR.nx ()))) x328 ()) fun o => lrk o (fun (s329 : Unit) => (some true)) (fun (r336 : Bool) => (some r336)) else obn (isF a_expected .non) fun x337 => if x337 = true then obn (isF a_actual .non) fun x338 => (some x338) else obn (isiD .bool a_expected) fun x339 => if x339 = true then obn (isiD .bool a_actual) fun x340 => obn (if x340 = true then obn (eqV a_actual a_expected) fun x341 => some x341 else some false) fun x345 => (some x345) else obn (isiD .int a_expected) fun x346 => if x346 = true then obn (isiD .int a_actual) fun x347 => obn (if x347 = true then obn (isiD .bool a_actual) fun x348 => obn (if (!x348) = true then obn (eqV a_actual a_expected) fun x349 => some x349 else some false) fun x353 => some x353 else some false) fun x358 => (some x358) else obn (isiD .str a_actual) fun x359 => obn (if x359 = true then obn (eqV a_actual a_expected) fun x360 => some x360 else some false) fun x364 => (some x364)
theorem ok_T_law_same : ∀ {N n : Nat} (hn : N + 1 ≤ n) {a_actual : D} {a_expected : D}   {r : Bool}, T_law_same N a_actual a_expected = some r → vrun n 19 [(W.p (eD a_actual)), (W.p (eD a_expected))] none = some ((fun x => W.p (D.bl x)) r, none)
  | 0, n, hn, a_actual, a_expected, r, h => by cases h
  | N + 1, n, hn, a_actual, a_expected, r, h => by
    obtain ⟨n, rfl⟩ : ∃ m, n = m + 1 := ⟨n - 1, by omega⟩
    have key : PO (FnP (fun x => W.p (D.bl x)) none) (T_law_same (N + 1) a_actual a_expected) (v19 (vrun n) [some (W.p (eD a_actual)), some (W.p (eD a_expected)), none] none) := by
      unfold v19
      unfold T_law_same
      exact (po_obn fun x318 hx318 => (p_if (c_tru (u_isiD rfl hx318) rfl) (fun _ => (p_seqs (po_obn fun x319 hx319 => (po_obn fun x326 hx326 => (p_if (c_orO (c_not (c_tru (u_isiD rfl hx319) rfl)) (fun _ y323 h322 => (obn_e h322 fun x320 hx320 h324 => (obn_e h324 fun x321 hx321 h325 => (by cases h325; exact (c_val (u_op (u_all (u_cons (co_w (congrArg W.p (itD_ok hx320)) rfl) u_nil) (wLen_q (rfl : itemsW (W.p ((eT eD) x320)) = some (List.map eD x320)))) (u_all (u_cons (co_w (congrArg W.p (itD_ok hx321)) rfl) u_nil) (wLen_q (rfl : itemsW (W.p ((eT eD) x321)) = some (List.map eD x321)))) (wNe_em D.int (a := (x320.length : Int)) (b := (x321.length : Int))))))))) hx326) (fun _ => (p_seqs (po_some (f_ret (R := (fun x => W.p (D.bl x))) u_c)))) (fun _ => (p_nils (p_seqs (po_obn fun x327 hx327 => (po_obn fun x328 hx328 => (p_loopO (R := (fun x => W.p (D.bl x))) (k := D.int) (E := ((fun s329 u330 => [some (W.p (eD a_actual)), some (W.p (eD a_expected)), u330]) : Unit → Option W → VEnv)) (st0 := ()) (u0 := none) (w_rngT1 (u_all (u_cons (co_w (congrArg W.p (itD_ok hx327)) rfl) u_nil) (wLen_q (rfl : itemsW (W.p ((eT eD) x327)) = some (List.map eD x327)))) hx328) rfl (fun x331 _ s329 u330 => ⟨[some (W.p (eD a_actual)), some (W.p (eD a_expected)), some (W.p (D.int x331))], rfl, (po_obn fun x333 hx333 => (po_obn fun x334 hx334 => (po_obn fun x335 hx335 => (p_if (c_not (c_tru (u_callP (u_cons (u_op rfl rfl (wIx_d hx333)) (u_cons (u_op rfl rfl (wIx_d hx334)) u_nil)) rfl (ok_T_law_same (by omega) (a_actual := x333) (a_expected := x334) hx335)) rfl)) (fun _ => (p_seqs (po_some (x_rt (R := (fun x => W.p (D.bl x))) u_c)))) (fun _ => (p_nils (po_some (x_nx (some (W.p (D.int x331)))))))))))⟩) (fun s329 u330 => (p_seqs (po_some (f_ret (R := (fun x => W.p (D.bl x))) u_c)))) (fun r336 => (po_some rfl))))))))))))) (fun _ => (p_nils (po_obn fun x337 hx337 => (p_if (c_val (u_op rfl u_c (wIs_d hx337))) (fun _ => (p_seqs (po_obn fun x338 hx338 => (po_some (f_ret (R := (fun x => W.p (D.bl x))) (u_op rfl u_c (wIs_d hx338))))))) (fun _ => (p_nils (po_obn fun x339 hx339 => (p_if (c_tru (u_isiD rfl hx339) rfl) (fun _ => (p_seqs (po_obn fun x340 hx340 => (po_obn fun x345 hx345 => (po_some (f_ret (R := (fun x => W.p (D.bl x))) (u_andO (u_isiD rfl hx340) (fun _ y343 h342 => (obn_e h342 fun x341 hx341 h344 => (by cases h344; exact (u_op rfl rfl (wEq_d hx341))))) hx345))))))) (fun _ => (p_nils (po_obn fun x346 hx346 => (p_if (c_tru (u_isiD rfl hx346) rfl) (fun _ => (p_seqs (po_obn fun x347 hx347 => (po_obn fun x358 hx358 => (po_some (f_ret (R := (fun x => W.p (D.bl x))) (u_andO (u_isiD rfl hx347) (fun _ y355 h354 => (obn_e h354 fun x348 hx348 h356 => (obn_e h356 fun x353 hx353 h357 => (by cases h357; exact (u_andO (u_not (u_isiD rfl hx348) rfl) (fun _ y351 h350 => (obn_e h350 fun x349 hx349 h352 => (by cases h352; exact (u_op rfl rfl (wEq_d hx349))))) hx353))))) hx358))))))) (fun _ => (p_nils (po_obn fun x359 hx359 => (po_obn fun x364 hx364 => (po_some (f_ret (R := (fun x => W.p (D.bl x))) (u_andO (u_isiD rfl hx359) (fun _ y362 h361 => (obn_e h361 fun x360 hx360 h363 => (by cases h363; exact (u_op rfl rfl (wEq_d hx360))))) hx364)))))))))))))))))))))
    rw [vrun_19]
    exact key _ h
def T_law_comes (a_equations : (List ((List Str) × Int))) (a_lot : (List D)) : Option Bool := lett ([] : (List Str)) fun (names371 : (List Str)) => lett (0 : Int) fun (total372 : Int) => obn (foldO (fun (s373 : (List Str) × Int) (x375 : D) => obn (asI x375) fun x377 => obn (atI a_equations x377) fun x378 => obn (T_law_plus s373.1 x378.1) fun x379 => lett x379 fun (names380 : (List Str)) => obn (asI x375) fun x381 => obn (atI a_equations x381) fun x382 => lett (s373.2 + x382.2) fun (total383 : Int) => (some (names380, total383))) a_lot (names371, total372)) fun (s373 : (List Str) × Int) => (some ((decide (s373.1 = ([] : (List Str)))) && (decide ((s373.2 - ((2 : Int) * (s373.2 / (2 : Int)))) = (1 : Int)))))
theorem ok_T_law_comes {n : Nat} (hn : 2 ≤ n) {a_equations : (List ((List Str) × Int))} {a_lot : (List D)}   {r : Bool} (h : T_law_comes a_equations a_lot = some r) : vrun n 20 [(W.p ((eT (eP2 (eT D.str) D.int)) a_equations)), (W.p ((eT eD) a_lot))] none = some ((fun x => W.p (D.bl x)) r, none) := by
  obtain ⟨n, rfl⟩ : ∃ m, n = m + 1 := ⟨n - 1, by omega⟩
  have key : PO (FnP (fun x => W.p (D.bl x)) none) (T_law_comes a_equations a_lot) (v20 (vrun n) [some (W.p ((eT (eP2 (eT D.str) D.int)) a_equations)), some (W.p ((eT eD) a_lot)), none, none, none] none) := by
    unfold v20
    unfold T_law_comes
    exact (p_set (R := (fun x => W.p ((eT D.str) x))) (u_all u_nil rfl) (fun names371 _ => (p_set (R := (fun x => W.p (D.int x))) u_c (fun total372 _ => (p_foldO (k := eD) (E := ((fun s373 u374 => [some (W.p ((eT (eP2 (eT D.str) D.int)) a_equations)), some (W.p ((eT eD) a_lot)), some (W.p ((eT D.str) s373.1)), some (W.p (D.int s373.2)), u374]) : (List Str) × Int → Option W → VEnv)) (st0 := (names371, total372)) (u0 := none) (w_any rfl (rfl : itemsW (W.p ((eT eD) a_lot)) = some (List.map eD a_lot))) rfl (fun x375 _ s373 u374 => ⟨[some (W.p ((eT (eP2 (eT D.str) D.int)) a_equations)), some (W.p ((eT eD) a_lot)), some (W.p ((eT D.str) s373.1)), some (W.p (D.int s373.2)), some (W.p (eD x375))], rfl, (po_obn fun x377 hx377 => (po_obn fun x378 hx378 => (po_obn fun x379 hx379 => (p_set (R := (fun x => W.p ((eT D.str) x))) (u_callP (u_cons rfl (u_cons (u_op (u_op rfl (co_w (congrArg W.p (asI_ok hx377)) rfl) (wIx_T (eP2 (eT D.str) D.int) hx378)) u_c rfl) u_nil)) rfl (ok_T_law_plus (by omega) (a_one := s373.1) (a_two := x378.1) hx379)) (fun names380 _ => (po_obn fun x381 hx381 => (po_obn fun x382 hx382 => (p_set (R := (fun x => W.p (D.int x))) (u_op rfl (u_op (u_op rfl (co_w (congrArg W.p (asI_ok hx381)) rfl) (wIx_T (eP2 (eT D.str) D.int) hx382)) u_c rfl) rfl) (fun total383 _ => (po_some (l_nx (some (W.p (eD x375))))))))))))))⟩) (fun s373 u374 _ => (po_some (f_ret (R := (fun x => W.p (D.bl x))) (u_andB (u_op rfl (u_all u_nil rfl) (wEq_em (eT D.str) (a := s373.1) (b := ([] : (List Str))))) (fun _ => (u_op (u_op rfl (u_op u_c (u_op rfl u_c (wDiv_c)) (wMul_1)) rfl) u_c (wEq_em D.int (a := (s373.2 - ((2 : Int) * (s373.2 / (2 : Int))))) (b := (1 : Int))))))))))))))
  rw [vrun_20]
  exact key _ h
def T_law (N : Nat) (t0 : List Int) : Option (Bool × List Int) := tbn (T_law_equations (7 : Int) t0) fun x384 t385 => lett x384 fun (equations386 : (List ((List Str) × Int))) => lett (("a" : Str), ("b" : Str), ("c" : Str), ("d" : Str), ("e" : Str)) fun (names387 : (Str × Str × Str × Str × Str)) => obn (T_law_rows ([names387.1, names387.2.1, names387.2.2.1, names387.2.2.2.1, names387.2.2.2.2] : (List Str))) fun x388 => lett (List.filter (fun (x389 : (List Str)) => (decide (((List.filter (fun (x390 : ((List Str) × Int)) => (!(T_law_even x390 x389))) equations386).length : Int) = (0 : Int)))) x388) fun (good391 : (List (List Str))) => obn (T_kept_rows names387 equations386) fun x392 => obn (T_law_same N ((eT (eT D.str)) x392) ((eT (eT D.str)) good391)) fun x393 => if (!x393) = true then (some (false, t385)) else obn (T_decide_equations equations386) fun x394 => lett x394 fun (paper395 : (Str × (List D))) => obn (T_judge_equations equations386 ((eP2 D.str (eT eD)) paper395)) fun x396 => if ((x396 != true) || (!decide ((decide (paper395.1 = ("row" : Str))) = (decide ((0 : Int) < (good391.length : Int)))))) = true then (some (false, t385)) else obn (if (decide (paper395.1 = ("row" : Str))) = true then obn (inO ((eT eD) paper395.2) (List.map (eT D.str) good391)) fun x397 => some (!x397) else some false) fun x401 => if x401 = true then (some (false, t385)) else obn (if (decide (paper395.1 = ("lot" : Str))) = true then obn (T_law_comes equations386 paper395.2) fun x402 => obn (if (!x402) = true then some true else obn (wSetSort paper395.2) fun x403 => obn (eqLO paper395.2 x403) fun x404 => some (x404 == false)) fun x409 => some x409 else some false) fun x414 => if x414 = true then (some (false, t385)) else lett (1 : Int) fun (many415 : Int) => obn (T_rank equations386) fun x416 => obn (rngO 0 x416) fun x417 => lett (List.foldl (fun (s418 : Int) (x420 : Int) => lett (s418 * (2 : Int)) fun (many421 : Int) => many421) many415 x417) fun (s418 : Int) => lett ([] : (List (List Str))) fun (sums422 : (List (List Str))) => obn (rngO 0 (equations386.length : Int)) fun x423 => obn (mapO (fun (x424 : Int) => obn (strO x424) fun x426 => some x426) x423) fun x431 => obn (T_law_rows x431) fun x432 => obn (foldO (fun (s433 : (List (List Str))) (x435 : (List Str)) => lett ([] : (List Str)) fun (left441 : (List Str)) => obn (foldO (fun (s442 : (List Str)) (x444 : Str) => obn (intSO x444) fun x446 => obn (atI equations386 x446) fun x447 => obn (T_law_plus s442 x447.1) fun x448 => lett x448 fun (left449 : (List Str)) => (some left449)) x435 left441) fun (s442 : (List Str)) => obn (apnO s433 s442) fun l450 => (some l450)) x432 sums422) fun (s433 : (List (List Str))) => obn (setN s433) fun x451 => if (!decide (x451 = s418)) = true then (some (false, t385)) else obn (T_law_rows ([names387.1, names387.2.1, names387.2.2.1, names387.2.2.2.1, names387.2.2.2.2] : (List Str))) fun x452 => tbn (drw (32 : Int) t385) fun d453 t454 => obn (atI x452 d453) fun x455 => lett x455 fun (row456 : (List Str)) => obn (T_judge_equations equations386 (D.tup [(D.str ("row" : Str)), ((eT D.str) row456)])) fun x457 => obn (T_law_same N (D.bl x457) (D.bl (inL row456 good391))) fun x458 => if (!x458) = true then (some (false, t454)) else obn (rngO 0 (equations386.length : Int)) fun x459 => tbn (cmpT (fun (x460 : Int) t465 => tbn (drw (2 : Int) t465) fun d466 t467 => if (decide (d466 = (0 : Int))) = true then some ((some x460), t467) else some ((none : Option Int), t467)) x459 t454) fun x474 t475 => lett (List.map (fun (y476 : Int) => (D.int y476)) x474) fun (lot477 : (List D)) => obn (T_judge_equations equations386 (D.tup [(D.str ("lot" : Str)), ((eT eD) lot477)])) fun x478 => obn (T_law_comes equations386 lot477) fun x479 => obn (T_law_same N (D.bl x478) (D.bl x479)) fun x480 => if (!x480) = true then (some (false, t475)) else tbn (drw (9 : Int) t475) fun d481 t482 => obn (atI ([D.non, ((eT (fun x : Empty => nomatch x)) ([] : List Empty)), (D.tup [(D.str ("row" : Str))]), (D.tup [(D.str ("row" : Str)), D.non]), (D.tup [(D.str ("row" : Str)), ((eP2 D.str D.str) (("a" : Str), ("a" : Str)))]), (D.tup [(D.str ("lot" : Str)), ((eP1 D.int) (99 : Int))]), (D.tup [(D.str ("lot" : Str)), D.non]), (D.tup [(D.str ("lot" : Str)), ((eP3 D.int D.int D.int) ((0 : Int), (0 : Int), (0 : Int)))]), (D.tup [(D.str ("sum" : Str)), ((eT eD) lot477)])] : (List D)) d481) fun x483 => lett x483 fun (wrong484 : D) => obn (T_judge_equations equations386 wrong484) fun x485 => (some ((x485 == false), t482))
theorem ok_law {N n : Nat} (hn : N + 4 ≤ n) {t0 t9 : List Int} {r : Bool} (h : T_law N t0 = some (r, t9)) : vLaw (vrun n) [none, some W.bx, none, none, none, none, none, none, none, none, none, none, none, none] (some t0) = some (.rt (.p (.bl r)) (some t9)) := by
  have key : PO (FnT (fun x => W.p (D.bl x))) (T_law N t0) (vLaw (vrun n) [none, some W.bx, none, none, none, none, none, none, none, none, none, none, none, none] (some t0)) := by
    unfold vLaw
    unfold T_law
    exact (po_tbn fun x384 t385 hx384 => (p_set (R := (fun x => W.p ((eT (eP2 (eT D.str) D.int)) x))) (u_call (u_cons rfl (u_cons u_c u_nil)) rfl (ok_T_law_equations (by omega) (a_most := (7 : Int)) hx384)) (fun equations386 _ => (p_set (R := (fun x => W.p ((eP5 D.str D.str D.str D.str D.str) x))) (u_all (u_cons u_c (u_cons u_c (u_cons u_c (u_cons u_c (u_cons u_c u_nil))))) rfl) (fun names387 _ => (po_obn fun x388 hx388 => (p_set (R := (fun x => W.l (List.map (eT D.str) x))) (u_lc (w_any (u_callP (u_cons rfl u_nil) rfl (ok_T_law_rows (by omega) (a_names := ([names387.1, names387.2.1, names387.2.2.1, names387.2.2.2.1, names387.2.2.2.2] : (List Str))) (rfl : itemsW (W.p ((eT D.str) ([names387.1, names387.2.1, names387.2.2.1, names387.2.2.2.1, names387.2.2.2.2] : (List Str)))) = some (List.map D.str ([names387.1, names387.2.1, names387.2.2.1, names387.2.2.2.1, names387.2.2.2.2] : (List Str)))) hx388)) (rfl : itemsW (W.l (List.map (eT D.str) x388)) = some (List.map (eT D.str) x388))) (lcl_F (e := (eT D.str)) (c := fun (x389 : (List Str)) => (decide (((List.filter (fun (x390 : ((List Str) × Int)) => (!(T_law_even x390 x389))) equations386).length : Int) = (0 : Int)))) (fun x389 _ => ⟨[none, some W.bx, some (W.p ((eT (eP2 (eT D.str) D.int)) equations386)), some (W.p ((eP5 D.str D.str D.str D.str D.str) names387)), none, none, none, none, none, none, none, some (W.p ((eT D.str) x389)), none, none], rfl, (c_val (u_op (u_all (u_cons (u_lc (w_any rfl (rfl : itemsW (W.p ((eT (eP2 (eT D.str) D.int)) equations386)) = some (List.map (eP2 (eT D.str) D.int) equations386))) (lcl_F (e := (eP2 (eT D.str) D.int)) (c := fun (x390 : ((List Str) × Int)) => (!(T_law_even x390 x389))) (fun x390 _ => ⟨[none, some W.bx, some (W.p ((eT (eP2 (eT D.str) D.int)) equations386)), some (W.p ((eP5 D.str D.str D.str D.str D.str) names387)), none, none, none, none, none, none, none, some (W.p ((eT D.str) x389)), none, some (W.p ((eP2 (eT D.str) D.int) x390))], rfl, (c_not (c_tru (u_callP (u_cons rfl (u_cons rfl u_nil)) rfl (ok_T_law_even (by omega) (a_equation := x390) (a_row := x389))) rfl)), fun _ => rfl⟩))) u_nil) (wLen_q (rfl : itemsW (W.l (List.map (eP2 (eT D.str) D.int) (List.filter (fun (x390 : ((List Str) × Int)) => (!(T_law_even x390 x389))) equations386))) = some (List.map (eP2 (eT D.str) D.int) (List.filter (fun (x390 : ((List Str) × Int)) => (!(T_law_even x390 x389))) equations386))))) u_c (wEq_em D.int (a := ((List.filter (fun (x390 : ((List Str) × Int)) => (!(T_law_even x390 x389))) equations386).length : Int)) (b := (0 : Int))))), fun _ => rfl⟩))) (fun good391 _ => (po_obn fun x392 hx392 => (po_obn fun x393 hx393 => (p_if (c_not (c_tru (u_callP (u_cons (u_callP (u_cons rfl (u_cons rfl u_nil)) rfl (ok_T_kept_rows (by omega) (a_names := names387) (a_equations := equations386) hx392)) (u_cons (u_all (u_cons rfl u_nil) (wTupC_q (rfl : itemsW (W.l (List.map (eT D.str) good391)) = some (List.map (eT D.str) good391)))) u_nil)) rfl (ok_T_law_same (by omega) (a_actual := ((eT (eT D.str)) x392)) (a_expected := ((eT (eT D.str)) good391)) hx393)) rfl)) (fun _ => (p_seqs (po_some (f_retT (R := (fun x => W.p (D.bl x))) u_c)))) (fun _ => (p_nils (po_obn fun x394 hx394 => (p_set (R := (fun x => W.p ((eP2 D.str (eT eD)) x))) (u_callP (u_cons rfl u_nil) rfl (ok_T_decide_equations (by omega) (a_equations := equations386) hx394)) (fun paper395 _ => (po_obn fun x396 hx396 => (p_if (c_orB (c_val (u_op (u_callP (u_cons rfl (u_cons rfl u_nil)) rfl (ok_T_judge_equations (by omega) (a_equations := equations386) (a_paper := ((eP2 D.str (eT eD)) paper395)) hx396)) u_c (wIsNot_b))) (fun _ => (c_val (u_op (u_op (u_op rfl u_c rfl) u_c (wEq_em D.str (a := paper395.1) (b := ("row" : Str)))) (u_op (u_all (u_cons rfl u_nil) (wLen_q (rfl : itemsW (W.l (List.map (eT D.str) good391)) = some (List.map (eT D.str) good391)))) u_c rfl) (wNe_em D.bl (a := (decide (paper395.1 = ("row" : Str)))) (b := (decide ((0 : Int) < (good391.length : Int))))))))) (fun _ => (p_seqs (po_some (f_retT (R := (fun x => W.p (D.bl x))) u_c)))) (fun _ => (p_nils (po_obn fun x401 hx401 => (p_if (c_andO (c_val (u_op (u_op rfl u_c rfl) u_c (wEq_em D.str (a := paper395.1) (b := ("row" : Str))))) (fun _ y399 h398 => (obn_e h398 fun x397 hx397 h400 => (by cases h400; exact (c_val (u_op (u_op rfl u_c rfl) rfl (wNotIn_d (rfl : itemsW (W.l (List.map (eT D.str) good391)) = some (List.map (eT D.str) good391)) hx397)))))) hx401) (fun _ => (p_seqs (po_some (f_retT (R := (fun x => W.p (D.bl x))) u_c)))) (fun _ => (p_nils (po_obn fun x414 hx414 => (p_if (c_andO (c_val (u_op (u_op rfl u_c rfl) u_c (wEq_em D.str (a := paper395.1) (b := ("lot" : Str))))) (fun _ y411 h410 => (obn_e h410 fun x402 hx402 h412 => (obn_e h412 fun x409 hx409 h413 => (by cases h413; exact (c_orO (c_not (c_tru (u_callP (u_cons rfl (u_cons (u_op rfl u_c rfl) u_nil)) rfl (ok_T_law_comes (by omega) (a_equations := equations386) (a_lot := paper395.2) hx402)) rfl)) (fun _ y406 h405 => (obn_e h405 fun x403 hx403 h407 => (obn_e h407 fun x404 hx404 h408 => (by cases h408; exact (c_val (u_op (u_all (u_cons (u_op rfl u_c rfl) u_nil) (wList_q (rfl : itemsW (W.p ((eT eD) paper395.2)) = some (List.map eD paper395.2)))) (u_setDD (u_op rfl u_c rfl) (rfl : itemsW (W.p ((eT eD) paper395.2)) = some (List.map eD paper395.2)) hx403) (wEqL_d hx404))))))) hx409))))) hx414) (fun _ => (p_seqs (po_some (f_retT (R := (fun x => W.p (D.bl x))) u_c)))) (fun _ => (p_nils (p_set (R := (fun x => W.p (D.int x))) u_c (fun many415 _ => (po_obn fun x416 hx416 => (po_obn fun x417 hx417 => (p_fold (k := D.int) (E := ((fun s418 u419 => [none, some W.bx, some (W.p ((eT (eP2 (eT D.str) D.int)) equations386)), some (W.p ((eP5 D.str D.str D.str D.str D.str) names387)), some (W.l (List.map (eT D.str) good391)), some (W.p ((eP2 D.str (eT eD)) paper395)), some (W.p (D.int s418)), u419, none, none, none, none, none, none]) : Int → Option W → VEnv)) (st0 := many415) (u0 := none) (w_rngT1 (u_callP (u_cons rfl u_nil) rfl (ok_T_rank (by omega) (a_equations := equations386) hx416)) hx417) rfl (fun x420 _ s418 u419 => ⟨[none, some W.bx, some (W.p ((eT (eP2 (eT D.str) D.int)) equations386)), some (W.p ((eP5 D.str D.str D.str D.str D.str) names387)), some (W.l (List.map (eT D.str) good391)), some (W.p ((eP2 D.str (eT eD)) paper395)), some (W.p (D.int s418)), some (W.p (D.int x420)), none, none, none, none, none, none], rfl, (p_set (R := (fun x => W.p (D.int x))) (u_op rfl u_c (wMul_2)) (fun many421 _ => (l_nx (some (W.p (D.int x420))))))⟩) (fun s418 u419 _ => (p_set (R := (fun x => W.l (List.map (eT D.str) x))) (u_all u_nil rfl) (fun sums422 _ => (po_obn fun x423 hx423 => (po_obn fun x431 hx431 => (po_obn fun x432 hx432 => (p_foldO (k := (eT D.str)) (E := ((fun s433 u434 => [none, some W.bx, some (W.p ((eT (eP2 (eT D.str) D.int)) equations386)), some (W.p ((eP5 D.str D.str D.str D.str D.str) names387)), some (W.l (List.map (eT D.str) good391)), some (W.p ((eP2 D.str (eT eD)) paper395)), some (W.p (D.int s418)), u434.1, some (W.l (List.map (eT D.str) s433)), u434.2.2, u434.2.1, none, none, none]) : (List (List Str)) → Option W × Option W × Option W → VEnv)) (st0 := sums422) (u0 := (u419, none, none)) (w_any (u_callP (u_cons (u_lc (w_rngT1 (u_all (u_cons rfl u_nil) (wLen_q (rfl : itemsW (W.p ((eT (eP2 (eT D.str) D.int)) equations386)) = some (List.map (eP2 (eT D.str) D.int) equations386)))) hx423) (lcl_MO (e := D.int) (f := D.str) (k := fun (x424 : Int) => obn (strO x424) fun x426 => some x426) (fun x424 _ y427 h428 => (obn_e h428 fun x426 hx426 h430 => (by obtain rfl := Option.some.inj h430; exact ⟨[none, some W.bx, some (W.p ((eT (eP2 (eT D.str) D.int)) equations386)), some (W.p ((eP5 D.str D.str D.str D.str D.str) names387)), some (W.l (List.map (eT D.str) good391)), some (W.p ((eP2 D.str (eT eD)) paper395)), some (W.p (D.int s418)), some (W.p (D.int x424)), some (W.l (List.map (eT D.str) sums422)), none, none, none, none, none], rfl, (u_all (u_cons rfl u_nil) (wStr_i hx426))⟩))) hx431)) u_nil) rfl (ok_T_law_rows (by omega) (a_names := x431) (rfl : itemsW (W.l (List.map D.str x431)) = some (List.map D.str x431)) hx432)) (rfl : itemsW (W.l (List.map (eT D.str) x432)) = some (List.map (eT D.str) x432))) rfl (fun x435 _ s433 u434 => ⟨[none, some W.bx, some (W.p ((eT (eP2 (eT D.str) D.int)) equations386)), some (W.p ((eP5 D.str D.str D.str D.str D.str) names387)), some (W.l (List.map (eT D.str) good391)), some (W.p ((eP2 D.str (eT eD)) paper395)), some (W.p (D.int s418)), u434.1, some (W.l (List.map (eT D.str) s433)), some (W.p ((eT D.str) x435)), u434.2.1, none, none, none], rfl, (p_set (R := (fun x => W.p ((eT D.str) x))) (u_all u_nil rfl) (fun left441 _ => (p_foldO (k := D.str) (E := ((fun s442 u443 => [none, some W.bx, some (W.p ((eT (eP2 (eT D.str) D.int)) equations386)), some (W.p ((eP5 D.str D.str D.str D.str D.str) names387)), some (W.l (List.map (eT D.str) good391)), some (W.p ((eP2 D.str (eT eD)) paper395)), some (W.p (D.int s418)), u443, some (W.l (List.map (eT D.str) s433)), some (W.p ((eT D.str) x435)), some (W.p ((eT D.str) s442)), none, none, none]) : (List Str) → Option W → VEnv)) (st0 := left441) (u0 := u434.1) (w_any rfl (rfl : itemsW (W.p ((eT D.str) x435)) = some (List.map D.str x435))) rfl (fun x444 _ s442 u443 => ⟨[none, some W.bx, some (W.p ((eT (eP2 (eT D.str) D.int)) equations386)), some (W.p ((eP5 D.str D.str D.str D.str D.str) names387)), some (W.l (List.map (eT D.str) good391)), some (W.p ((eP2 D.str (eT eD)) paper395)), some (W.p (D.int s418)), some (W.p (D.str x444)), some (W.l (List.map (eT D.str) s433)), some (W.p ((eT D.str) x435)), some (W.p ((eT D.str) s442)), none, none, none], rfl, (po_obn fun x446 hx446 => (po_obn fun x447 hx447 => (po_obn fun x448 hx448 => (p_set (R := (fun x => W.p ((eT D.str) x))) (u_callP (u_cons rfl (u_cons (u_op (u_op rfl (u_all (u_cons rfl u_nil) (wIntS_s hx446)) (wIx_T (eP2 (eT D.str) D.int) hx447)) u_c rfl) u_nil)) rfl (ok_T_law_plus (by omega) (a_one := s442) (a_two := x447.1) hx448)) (fun left449 _ => (po_some (l_nx (some (W.p (D.str x444))))))))))⟩) (fun s442 u443 _ => (p_app (e := (eT D.str)) rfl rfl (fun l450 _ => (po_some (l_nx (u443, some (W.p ((eT D.str) s442)), some (W.p ((eT D.str) x435)))))))))))⟩) (fun s433 u434 _ => (po_obn fun x451 hx451 => (p_if (c_val (u_op (u_lenT (e := (eT D.str)) rfl (rfl : itemsW (W.l (List.map (eT D.str) s433)) = some (List.map (eT D.str) s433)) hx451) rfl (wNe_em D.int (a := x451) (b := s418)))) (fun _ => (p_seqs (po_some (f_retT (R := (fun x => W.p (D.bl x))) u_c)))) (fun _ => (p_nils (po_obn fun x452 hx452 => (po_tbn fun d453 t454 hd453 => (po_obn fun x455 hx455 => (p_set (R := (fun x => W.p ((eT D.str) x))) (u_op (u_callP (u_cons rfl u_nil) rfl (ok_T_law_rows (by omega) (a_names := ([names387.1, names387.2.1, names387.2.2.1, names387.2.2.2.1, names387.2.2.2.2] : (List Str))) (rfl : itemsW (W.p ((eT D.str) ([names387.1, names387.2.1, names387.2.2.1, names387.2.2.2.1, names387.2.2.2.2] : (List Str)))) = some (List.map D.str ([names387.1, names387.2.1, names387.2.2.1, names387.2.2.2.1, names387.2.2.2.2] : (List Str)))) hx452)) (u_call (u_cons rfl (u_cons u_c u_nil)) rfl (okdraw (by omega) hd453)) (wIx_lT (eT D.str) hx455)) (fun row456 _ => (po_obn fun x457 hx457 => (po_obn fun x458 hx458 => (p_if (c_not (c_tru (u_callP (u_cons (u_callP (u_cons rfl (u_cons (u_all (u_cons u_c (u_cons rfl u_nil)) rfl) u_nil)) rfl (ok_T_judge_equations (by omega) (a_equations := equations386) (a_paper := (D.tup [(D.str ("row" : Str)), ((eT D.str) row456)])) hx457)) (u_cons (u_op rfl rfl (wIn_em (eT D.str) (a := row456) (l := good391) (rfl : itemsW (W.l (List.map (eT D.str) good391)) = some (List.map (eT D.str) good391)))) u_nil)) rfl (ok_T_law_same (by omega) (a_actual := (D.bl x457)) (a_expected := (D.bl (inL row456 good391))) hx458)) rfl)) (fun _ => (p_seqs (po_some (f_retT (R := (fun x => W.p (D.bl x))) u_c)))) (fun _ => (p_nils (po_obn fun x459 hx459 => (po_tbn fun x474 t475 hx474 => (p_set (R := (fun x => W.p ((eT eD) x))) (co_T (e1 := D.int) (e2 := eD) (fun (y476 : Int) => (D.int y476)) (fun _ => rfl) (u_all (u_cons (u_lc (w_rngT1 (u_all (u_cons rfl u_nil) (wLen_q (rfl : itemsW (W.p ((eT (eP2 (eT D.str) D.int)) equations386)) = some (List.map (eP2 (eT D.str) D.int) equations386)))) hx459) (lcl_T (e := D.int) (f := D.int) (k := fun (x460 : Int) t465 => tbn (drw (2 : Int) t465) fun d466 t467 => if (decide (d466 = (0 : Int))) = true then some ((some x460), t467) else some ((none : Option Int), t467)) (fun x460 _ t465 y468 t470 h469 => (tbn_e h469 fun d466 t467 hd466 h471 => (ite_e h471 (fun q473 h472 => (by cases h472; exact one_of (e := D.int) (f := D.int) (ε1 := [none, some W.bx, some (W.p ((eT (eP2 (eT D.str) D.int)) equations386)), some (W.p ((eP5 D.str D.str D.str D.str D.str) names387)), some (W.l (List.map (eT D.str) good391)), some (W.p ((eP2 D.str (eT eD)) paper395)), some (W.p (D.int s418)), some (W.p (D.int x460)), some (W.l (List.map (eT D.str) s433)), u434.2.2, u434.2.1, some (W.p ((eT D.str) row456)), none, none]) rfl (c_val (u_op (u_call (u_cons rfl (u_cons u_c u_nil)) rfl (okdraw (by omega) hd466)) u_c (wEq_em D.int (a := d466) (b := (0 : Int))))) (.inl ⟨q473, _, rfl, rfl⟩))) (fun q473 h472 => (by cases h472; exact one_of (e := D.int) (f := D.int) (ε1 := [none, some W.bx, some (W.p ((eT (eP2 (eT D.str) D.int)) equations386)), some (W.p ((eP5 D.str D.str D.str D.str D.str) names387)), some (W.l (List.map (eT D.str) good391)), some (W.p ((eP2 D.str (eT eD)) paper395)), some (W.p (D.int s418)), some (W.p (D.int x460)), some (W.l (List.map (eT D.str) s433)), u434.2.2, u434.2.1, some (W.p ((eT D.str) row456)), none, none]) rfl (c_val (u_op (u_call (u_cons rfl (u_cons u_c u_nil)) rfl (okdraw (by omega) hd466)) u_c (wEq_em D.int (a := d466) (b := (0 : Int))))) (.inr ⟨Bool.eq_false_iff.mpr q473, rfl, rfl⟩)))))) hx474)) u_nil) (wTupC_q (rfl : itemsW (W.l (List.map D.int x474)) = some (List.map D.int x474))))) (fun lot477 _ => (po_obn fun x478 hx478 => (po_obn fun x479 hx479 => (po_obn fun x480 hx480 => (p_if (c_not (c_tru (u_callP (u_cons (u_callP (u_cons rfl (u_cons (u_all (u_cons u_c (u_cons rfl u_nil)) rfl) u_nil)) rfl (ok_T_judge_equations (by omega) (a_equations := equations386) (a_paper := (D.tup [(D.str ("lot" : Str)), ((eT eD) lot477)])) hx478)) (u_cons (u_callP (u_cons rfl (u_cons rfl u_nil)) rfl (ok_T_law_comes (by omega) (a_equations := equations386) (a_lot := lot477) hx479)) u_nil)) rfl (ok_T_law_same (by omega) (a_actual := (D.bl x478)) (a_expected := (D.bl x479)) hx480)) rfl)) (fun _ => (p_seqs (po_some (f_retT (R := (fun x => W.p (D.bl x))) u_c)))) (fun _ => (p_nils (po_tbn fun d481 t482 hd481 => (po_obn fun x483 hx483 => (p_set (R := (fun x => W.p (eD x))) (u_op (u_all (u_cons u_c (u_cons (u_all u_nil rfl) (u_cons (u_all (u_cons u_c u_nil) rfl) (u_cons (u_all (u_cons u_c (u_cons u_c u_nil)) rfl) (u_cons (u_all (u_cons u_c (u_cons (u_all (u_cons u_c (u_cons u_c u_nil)) rfl) u_nil)) rfl) (u_cons (u_all (u_cons u_c (u_cons (u_all (u_cons u_c u_nil) rfl) u_nil)) rfl) (u_cons (u_all (u_cons u_c (u_cons u_c u_nil)) rfl) (u_cons (u_all (u_cons u_c (u_cons (u_all (u_cons u_c (u_cons u_c (u_cons u_c u_nil))) rfl) u_nil)) rfl) (u_cons (u_all (u_cons u_c (u_cons rfl u_nil)) rfl) u_nil))))))))) rfl) (u_call (u_cons rfl (u_cons u_c u_nil)) rfl (okdraw (by omega) hd481)) (wIx_lT eD hx483)) (fun wrong484 _ => (po_obn fun x485 hx485 => (po_some (f_retT (R := (fun x => W.p (D.bl x))) (u_op (u_callP (u_cons rfl (u_cons rfl u_nil)) rfl (ok_T_judge_equations (by omega) (a_equations := equations386) (a_paper := wrong484) hx485)) u_c (wIs_b))))))))))))))))))))))))))))))))))))))))))))))))))))))))))))))))))))))))))
  exact fnT_rt (key _ h)
theorem law_end {N : Nat} (hn : N + 4 ≤ 164) (hv : ∀ t, ∃ t2, T_law N t = some (true, t2)) : ∀ (ns : List Int) (o : O), ns.length ≤ 63 → o = .lst (ns.map D.int) ∨ o = .frz (ns.map D.int) → ∃ S2, run 165 21 [.loc 0] [o] = some (.bl true, S2) :=
  of_values fun ds => let ⟨t2, h⟩ := hv ds; ⟨some t2, ok_law hn h⟩
end K18
end
section
namespace Mini
open PySem L2
inductive Fm where
  | at (x : Str) | no (f : Fm) | im (f g : Fm)
  deriving DecidableEq
def Fm.d : Fm → D
  | .at x => .tup [.str "letter", .str x]
  | .no f => .tup [.str "not", f.d]
  | .im f g => .tup [.str "if", f.d, g.d]
def Fm.size : Fm → Nat
  | .at _ => 1
  | .no f => f.size + 1
  | .im f g => f.size + g.size + 1
def Fm.ls : Fm → List Str
  | .at x => [x]
  | .no f => f.ls
  | .im f g => f.ls ++ g.ls
def Fm.ok (f : Fm) : Prop := ∀ x ∈ f.ls, PyData.strOk x = true
def ev : Fm → List Str → Bool
  | .at x, r => decide (x ∈ r)
  | .no f, r => !ev f r
  | .im f g, r => ev g r || !ev f r
def okS (l : List Str) : Prop := ∀ x ∈ l, PyData.strOk x = true
theorem okS.app {l m : List Str} (h : okS l) (k : okS m) : okS (l ++ m) := fun x hx => (List.mem_append.mp hx).elim (h x) (k x)
theorem okS.sub {l m : List Str} (h : okS m) (s : ∀ x ∈ l, x ∈ m) : okS l := fun x hx => h x (s x hx)
def addN (rs : List (List Str)) (x : Str) : List (List Str) := rs ++ rs.map (· ++ [x])
def rws (names : List Str) : List (List Str) := names.foldl addN [[]]
theorem rws_snoc (l : List Str) (x : Str) : rws (l ++ [x]) = addN (rws l) x := by unfold rws; rw [List.foldl_append]; rfl
theorem rws_sub : ∀ (n : Nat) (l : List Str), l.length = n → ∀ r, r ∈ rws l ↔ r.Sublist l
  | 0, l, h, r => by
    obtain rfl := List.length_eq_zero_iff.mp h
    simp [rws]
  | n + 1, l, h, r => by
    obtain ⟨l', x, rfl⟩ : ∃ l' x, l = l' ++ [x] := ⟨l.dropLast, l.getLast (by intro e; rw [e] at h; simp at h), (List.dropLast_concat_getLast _).symm⟩
    have ih := rws_sub n l' (by simpa using h)
    rw [rws_snoc]
    unfold addN
    rw [List.mem_append, ih, List.mem_map]
    constructor
    · rintro (h1 | ⟨s, h1, rfl⟩)
      · exact h1.trans (List.sublist_append_left _ _)
      · exact List.Sublist.append ((ih s).mp h1) (List.Sublist.refl _)
    · intro h1
      obtain ⟨a, b, rfl, h2, h3⟩ := List.sublist_append_iff.mp h1
      cases b with
      | nil => exact .inl (by rw [List.append_nil]; exact h2)
      | cons y b =>
        have q := h3.length_le
        have hb : b = [] := by cases b with
          | nil => rfl
          | cons _ _ => simp at q
        subst hb
        have e : y = x := by simpa using h3
        subst e
        exact .inr ⟨a, (ih a).mpr h2, rfl⟩
theorem mem_rws {l r : List Str} : r ∈ rws l ↔ r.Sublist l := rws_sub _ l rfl r
theorem rws_len : ∀ (n : Nat) (l : List Str), l.length = n → (rws l).length = 2 ^ n
  | 0, l, h => by
    obtain rfl := List.length_eq_zero_iff.mp h
    rfl
  | n + 1, l, h => by
    obtain ⟨l', x, rfl⟩ : ∃ l' x, l = l' ++ [x] := ⟨l.dropLast, l.getLast (by intro e; rw [e] at h; simp at h), (List.dropLast_concat_getLast _).symm⟩
    rw [rws_snoc]
    unfold addN
    rw [List.length_append, List.length_map, rws_len n l' (by simpa using h)]
    rw [Nat.pow_succ]; omega
def names (f : Fm) : List Str := usS f.ls
def lt : Fm → List Str
  | .at x => [x]
  | .no f => usS (lt f)
  | .im f g => usS (lt f ++ lt g)
def cut (l r : List Str) : List Str := l.filter fun x => decide (x ∈ r)
def sub : Fm → List Fm
  | .at x => [.at x]
  | .no f => .no f :: sub f
  | .im f g => .im f g :: (sub f ++ sub g)
end Mini
end
section
namespace Mini
open PySem L2
section
variable {a b c d e : D} {l m : List D}
theorem atI_nat {α : Type} {l : List α} {k : Nat} {x : α} (h : l[k]? = some x) : atI l (k : Int) = some x := by
  have hk : k < l.length := (List.getElem?_eq_some_iff.mp h).1
  unfold atI
  rw [ixN_nat hk]
  exact h
theorem at0 {α : Type} {x : α} {l : List α} : atI (x :: l) 0 = some x := atI_nat (k := 0) rfl
theorem at1 {α : Type} {x y : α} {l : List α} : atI (x :: y :: l) 1 = some y := atI_nat (k := 1) rfl
theorem at3 {α : Type} {x y z w : α} {l : List α} : atI (x :: y :: z :: w :: l) 3 = some w := atI_nat (k := 3) rfl
theorem ix10 : ixD (.tup (a :: l)) 0 = some a := at0
theorem ix21 : ixD (.tup (a :: b :: l)) 1 = some b := at1
theorem eqV_s {x y : Str} : eqV (.str x) (.str y) = some (decide (x = y)) := rfl
theorem dc_self {α : Type} [DecidableEq α] {x : α} : decide (x = x) = true := decide_eq_true rfl
theorem isi_tup : isiD .tuple (.tup l) = some true := rfl
end
theorem appO_some {α : Type} {l m : List α} (h : l.length + m.length ≤ 1000000) : appO l m = some (l ++ m) := by unfold appO; rw [if_pos h]
theorem cmpO_some {α β : Type} {f : α → Option (Option β)} {g : α → Option β} : ∀ {l : List α}, (∀ x ∈ l, f x = some (g x)) → cmpO f l = some (l.filterMap g)
  | [], _ => rfl
  | x :: l, h => by
    unfold cmpO
    rw [h x List.mem_cons_self]
    dsimp only [obn]
    rw [cmpO_some fun y hy => h y (List.mem_cons_of_mem _ hy), List.filterMap_cons]
    cases g x <;> rfl
theorem mapO_some {α β : Type} {f : α → Option β} {g : α → β} : ∀ {l : List α}, (∀ x ∈ l, f x = some (g x)) → mapO f l = some (l.map g)
  | [], _ => rfl
  | x :: l, h => by
    unfold mapO
    rw [h x List.mem_cons_self]
    dsimp only [obn]
    rw [mapO_some fun y hy => h y (List.mem_cons_of_mem _ hy)]
    rfl
theorem cmpO_map {α β γ : Type} {f : β → Option (Option γ)} {k : α → β} : ∀ {l : List α}, cmpO f (l.map k) = cmpO (fun x => f (k x)) l
  | [] => rfl
  | x :: l => by rw [List.map_cons]; unfold cmpO; rw [cmpO_map]
theorem fm_if {α β : Type} {p : α → Bool} {g : α → β} : ∀ {l : List α}, l.filterMap (fun x => if p x = true then some (g x) else none) = (l.filter p).map g
  | [] => rfl
  | x :: l => by
    rw [List.filterMap_cons, List.filter_cons, fm_if]
    cases p x <;> rfl
theorem mem_rngT {i j d : Int} : d ∈ rngT i j ↔ i ≤ d ∧ d < j := by
  unfold rngT
  rw [List.mem_map]
  constructor
  · rintro ⟨k, hk, rfl⟩
    have := List.mem_range.mp hk
    omega
  · rintro ⟨h1, h2⟩
    exact ⟨(d - i).toNat, List.mem_range.mpr (by omega), by omega⟩
mutual
/-- plain data of some depth -/
def Nice : Nat → D → Prop
  | n, .tup ds => match n with
    | 0 => False
    | n + 1 => ds.length ≤ 400000 ∧ Nices n ds
  | _, .loc _ => False
  | _, _ => True
def Nices : Nat → List D → Prop
  | _, [] => True
  | n, d :: ds => Nice n d ∧ Nices n ds
end
theorem nices_at {n : Nat} : ∀ {ds : List D}, Nices n ds → ∀ d ∈ ds, Nice n d
  | [], _, d, h => by cases h
  | e :: ds, h, d, hd => by
    unfold Nices at h
    rcases List.mem_cons.mp hd with rfl | hd
    · exact h.1
    · exact nices_at h.2 d hd
theorem nices_of {n : Nat} : ∀ {ds : List D}, (∀ d ∈ ds, Nice n d) → Nices n ds
  | [], _ => by unfold Nices; trivial
  | e :: ds, h => by
    unfold Nices
    exact ⟨h e List.mem_cons_self, nices_of fun d hd => h d (List.mem_cons_of_mem _ hd)⟩
theorem nice_tup {n : Nat} {ds : List D} : Nice (n + 1) (.tup ds) ↔ ds.length ≤ 400000 ∧ Nices n ds := by
  rw [Nice]
theorem nice_tup0 {ds : List D} : ¬ Nice 0 (.tup ds) := by rw [Nice]; exact id
theorem atI_some {α : Type} {l : List α} {i : Int} (h : 0 ≤ i) (h2 : i < l.length) : ∃ x ∈ l, atI l i = some x := by
  have hk : i.toNat < l.length := by omega
  refine ⟨l[i.toNat], List.getElem_mem _, ?_⟩
  rw [← atI_nat (l := l) (k := i.toNat) (List.getElem?_eq_getElem hk)]
  congr 1
  omega
theorem loopO_nx {α σ ρ : Type} {f : σ → α → Option (LR σ ρ)} {s : σ} : ∀ {l : List α}, (∀ x ∈ l, f s x = some (.nx s)) → loopO f l s = some (.nx s)
  | [], _ => rfl
  | x :: l, h => by
    unfold loopO
    rw [h x List.mem_cons_self]
    exact loopO_nx fun y hy => h y (List.mem_cons_of_mem _ hy)
theorem rngO_len {n : Nat} (h : n ≤ 400000) : rngO 0 (n : Int) = some (rngT 0 n) := by
  unfold rngO
  rw [if_pos]
  unfold smallL
  simp only [Bool.and_eq_true, decide_eq_true_eq]
  try omega
theorem f_same (F : Nat → D → D → Option Bool) (hF : ∀ N a b, F (N + 1) a b = obn (isiD .tuple b) fun x246 => if x246 = true then obn (isiD .tuple a) fun x247 => obn (if (!x247) = true then some true else obn (itD a) fun x248 => obn (itD b) fun x249 => some (!decide ((x248.length : Int) = (x249.length : Int)))) fun x254 => if x254 = true then (some false) else obn (itD b) fun x255 => obn (rngO 0 (x255.length : Int)) fun x256 => obn (loopO (fun (s257 : Unit) (x259 : Int) => obn (ixD a x259) fun x261 => obn (ixD b x259) fun x262 => obn (F N x261 x262) fun x263 => if (!x263) = true then (some (LR.rt false)) else (some (LR.nx ()))) x256 ()) fun o => lrk o (fun (s257 : Unit) => (some true)) (fun (r264 : Bool) => (some r264)) else obn (isF b .non) fun x265 => if x265 = true then obn (isF a .non) fun x266 => (some x266) else obn (isiD .bool b) fun x267 => if x267 = true then obn (isiD .bool a) fun x268 => obn (if x268 = true then obn (eqV a b) fun x269 => some x269 else some false) fun x273 => (some x273) else obn (isiD .int b) fun x274 => if x274 = true then obn (isiD .int a) fun x275 => obn (if x275 = true then obn (isiD .bool a) fun x276 => obn (if (!x276) = true then obn (eqV a b) fun x277 => some x277 else some false) fun x281 => some x281 else some false) fun x286 => (some x286) else obn (isiD .str a) fun x287 => obn (if x287 = true then obn (eqV a b) fun x288 => some x288 else some false) fun x292 => (some x292)) :
    ∀ (n N : Nat) (d : D), n < N → Nice n d → F N d d = some true
  | n, 0, d, h, _ => by omega
  | n, N + 1, d, h, hd => by
    rw [hF]
    cases d with
    | tup ds =>
      cases n with
      | zero => exact absurd hd nice_tup0
      | succ n =>
        obtain ⟨h1, h2⟩ := nice_tup.mp hd
        simp only [isi_tup, obn_some, if_true, itD, decide_true, if_true, Bool.not_true, Bool.false_eq_true, if_false]
        rw [rngO_len h1]
        simp only [obn_some]
        rw [loopO_nx]
        · rfl
        intro i hi
        obtain ⟨x, hx, e⟩ := atI_some (l := ds) (mem_rngT.mp hi).1 (mem_rngT.mp hi).2
        have e2 : ixD (.tup ds) i = some x := e
        simp only [e2, obn_some]
        rw [f_same F hF n N x (by omega) (nices_at h2 x hx)]
        rfl
    | non => rfl
    | bl b => cases b <;> rfl
    | int i =>
      show some (decide (i = i)) = _
      rw [dc_self]
    | str x =>
      show some (decide (x = x)) = _
      rw [dc_self]
    | loc k => rw [Nice] at hd; exact absurd hd id
theorem nice_s {n : Nat} {x : Str} : Nice n (.str x) := by cases n <;> simp [Nice]
theorem nice_b {n : Nat} {x : Bool} : Nice n (.bl x) := by cases n <;> simp [Nice]
theorem nice_T {α : Type} {e : α → D} {n : Nat} {l : List α} (h : l.length ≤ 400000) (k : ∀ x ∈ l, Nice n (e x)) : Nice (n + 1) (eT e l) := by
  refine nice_tup.mpr ⟨by rw [List.length_map]; exact h, nices_of fun d hd => ?_⟩
  obtain ⟨x, hx, rfl⟩ := List.mem_map.mp hd
  exact k x hx
end Mini
end
section
namespace Mini
open PySem L2
section
variable {α : Type} {e : α → D}
theorem insE_perm (x : α) : ∀ l : List α, (insE e x l).Perm (x :: l)
  | [] => .refl _
  | y :: r => by
    unfold insE
    split
    · exact .refl _
    · exact ((insE_perm x r).cons y).trans (.swap ..)
theorem srtE_perm : ∀ l : List α, (srtE e l).Perm l
  | [] => .refl _
  | x :: r => by
    unfold srtE
    exact (insE_perm x _).trans ((srtE_perm r).cons x)
theorem mem_srtE {x : α} {l : List α} : x ∈ srtE e l ↔ x ∈ l := (srtE_perm l).mem_iff
variable [DecidableEq α] [Em e] [EmA e]
end
theorem foldO_some {α σ : Type} {f : σ → α → Option σ} {g : σ → α → σ} {I : Nat → σ → Prop} : ∀ {l : List α} {s : σ}, I l.length s → (∀ m s x, x ∈ l → I (m + 1) s → f s x = some (g s x) ∧ I m (g s x)) → foldO f l s = some (l.foldl g s)
  | [], _, _, _ => rfl
  | x :: l, s, h0, h => by
    obtain ⟨h1, h2⟩ := h l.length s x List.mem_cons_self h0
    unfold foldO
    rw [h1]
    exact foldO_some h2 fun m s y hy => h m s y (List.mem_cons_of_mem _ hy)
theorem f_rows {F : List Str → Option (List (List Str))} (hF : ∀ names, F names = lett ([([] : (List Str))] : (List (List Str))) fun (rows215 : (List (List Str))) => obn (foldO (fun (s216 : (List (List Str))) (x218 : Str) => obn (mapO (fun (x221 : (List Str)) => obn (appO x221 ([x218] : (List Str))) fun x223 => some x223) s216) fun x228 => obn (appO s216 x228) fun x229 => lett x229 fun (rows230 : (List (List Str))) => (some rows230)) names rows215) fun (s216 : (List (List Str))) => (some (srtE (eT D.str) s216)))
    {names : List Str} (h : names.length ≤ 16) : F names = some (srtE (eT D.str) (rws names)) := by
  rw [hF]
  show obn (foldO _ names [[]]) _ = _
  rw [foldO_some (g := addN) (I := fun m s => m ≤ 16 ∧ s.length ≤ 2 ^ (16 - m) ∧ ∀ r ∈ s, r.length ≤ 16 - m) ⟨h, Nat.one_le_two_pow, fun r hr => by rw [List.mem_singleton.mp hr]; exact Nat.zero_le _⟩ fun m s x _ hI => ?_]
  · rfl
  · obtain ⟨i0, i1, i2⟩ := hI
    have p1 : 2 ^ (16 - (m + 1)) ≤ 2 ^ 16 := Nat.pow_le_pow_right (by decide) (by omega)
    have e1 : mapO (fun (r : List Str) => obn (appO r [x]) fun y => some y) s = some (s.map (· ++ [x])) := mapO_some fun r hr => by
      have := i2 r hr
      rw [appO_some (by simp; omega)]; rfl
    constructor
    · rw [e1, obn_some, appO_some (by rw [List.length_map]; have : (2 : Nat) ^ 16 = 65536 := by decide
                                      omega)]
      rfl
    · have e2 : 16 - m = (16 - (m + 1)) + 1 := by omega
      refine ⟨by omega, ?_, fun r hr => ?_⟩
      · unfold addN
        rw [List.length_append, List.length_map, e2, Nat.pow_succ]; omega
      · unfold addN at hr
        rcases List.mem_append.mp hr with hr | hr
        · have := i2 r hr; omega
        · obtain ⟨q, hq, rfl⟩ := List.mem_map.mp hr
          have := i2 q hq
          simp only [List.length_append, List.length_singleton]; omega
end Mini
end
section
namespace Mini
open PySem L2
theorem fl0 {α : Type} {p : α → Bool} {l : List α} : decide ((((l.filter p).length : Nat) : Int) = 0) = l.all fun x => !p x := by
  rw [Bool.eq_iff_iff, decide_eq_true_eq, List.all_eq_true]
  constructor
  · intro z y hy
    have z' : l.filter p = [] := List.length_eq_zero_iff.mp (by omega)
    have := List.filter_eq_nil_iff.mp z' y hy
    simpa using this
  · intro z
    have : l.filter p = [] := List.filter_eq_nil_iff.mpr fun y hy => by have := z y hy; simpa using this
    rw [this]; rfl
abbrev eLt : Str × Bool → D := eP2 D.str D.bl
theorem srtE_pw {α : Type} {e : α → D} (l : List α) : (srtE e l).Pairwise fun a b => leD (e a) (e b) = true := by
  have := srtD_pw (l.map e)
  rw [srtE_map, List.pairwise_map] at this
  exact this
def nOrd (c : List (Str × Bool)) : Prop := (c.map (·.1)).Pairwise fun a b => ltS a b = true
theorem nOrd.nodup {c : List (Str × Bool)} (h : nOrd c) : (c.map (·.1)).Nodup := by
  haveI : Tabs := ⟨fun _ => False⟩
  exact h.imp fun h e => by subst e; exact ltS_irr _ h
theorem nOrd.nd {c : List (Str × Bool)} (h : nOrd c) : c.Nodup := by
  have := h.nodup
  rw [List.Nodup, List.pairwise_map] at this
  exact this.imp fun h e => h (by rw [e])
def wide (l : List (List (Str × Bool))) : List (List (Str × Bool)) := (srtE (eT eLt) (dedE l)).filter fun c => (srtE (eT eLt) (dedE l)).all fun o => !(!decide (o = c) && o.all fun y => inL y c)
end Mini
end
section
set_option maxHeartbeats 4000000
namespace Mini
open PySem L2
theorem allO_some {α : Type} {f : α → Option Bool} {g : α → Bool} : ∀ {l : List α}, (∀ x ∈ l, f x = some (g x)) → allO f l = some (l.all g)
  | [], _ => rfl
  | x :: l, h => by
    unfold allO
    rw [h x List.mem_cons_self, obn_some, allO_some fun y hy => h y (List.mem_cons_of_mem _ hy), List.all_cons]
    cases g x <;> rfl
theorem all_true {α : Type} {f : α → Option Bool} {l : List α} (h : ∀ x ∈ l, f x = some true) : allO f l = some true := by
  rw [allO_some (g := fun _ => true) h]; simp
theorem apnO_ok {α : Type} {l : List α} {x : α} (h : l.length < 1000000) : apnO l x = some (l ++ [x]) := by unfold apnO; rw [if_pos h]
end Mini
end
section
set_option maxHeartbeats 4000000
namespace FrK
open PySem Mini
open L2 (atI)
theorem tt_foldK {α σ : Type} {f : σ → α → List Int → Option (σ × List Int)} {I : Nat → σ → Prop} : ∀ {l : List α} {s : σ} {t : List Int}, (∀ m s x t, x ∈ l → I (m + 1) s → TT (f s x t) (I m)) → I l.length s → TT (foldT f l s t) (I 0)
  | [], s, t, _, h0 => ⟨s, t, rfl, h0⟩
  | x :: l, s, t, h, h0 => by
    obtain ⟨r, t2, e, h2⟩ := h l.length s x t List.mem_cons_self h0
    unfold foldT
    rw [e]
    exact tt_foldK (fun m s y t hy => h m s y t (List.mem_cons_of_mem _ hy)) h2
theorem allO_map {α β : Type} {f : β → Option Bool} {g : α → β} : ∀ {l : List α}, allO f (l.map g) = allO (fun x => f (g x)) l
  | [] => rfl
  | x :: l => by
    rw [List.map_cons]
    unfold allO
    rw [allO_map]
theorem enT_mapF {α β : Type} {g : α → β} : ∀ (n : Nat) (l : List α), enT n (l.map g) = (enT n l).map fun p => (p.1, g p.2)
  | _, [] => rfl
  | n, x :: l => by rw [List.map_cons, enT, enT, List.map_cons, enT_mapF]
theorem mem_enT {α : Type} {i : Int} {y : α} : ∀ {n : Nat} {l : List α}, (i, y) ∈ enT n l ↔ ∃ k : Nat, i = ((n + k : Nat) : Int) ∧ l[k]? = some y
  | _, [] => by simp [enT]
  | n, x :: l => by
    rw [enT, List.mem_cons, mem_enT (n := n + 1) (l := l)]
    constructor
    · rintro (h | ⟨k, h1, h2⟩)
      · cases h; exact ⟨0, by simp, rfl⟩
      · exact ⟨k + 1, by rw [h1]; omega, by simpa using h2⟩
    · rintro ⟨k, h1, h2⟩
      cases k with
      | zero => left; simp at h2; subst h2; rw [h1]; simp
      | succ k => right; exact ⟨k, by rw [h1]; omega, by simpa using h2⟩
theorem inO_em (e : α → D) [DecidableEq α] [Em e] {a : α} {l : List α} (h : Em.k e ≤ 100 := by decide) : inO (e a) (l.map e) = some (inL a l) := by
  unfold inO
  rw [Em.dok a 100 h, doks_map h, if_pos (by rfl), inB_em]
theorem atI_get {α : Type} {l : List α} {i : Int} (h : 0 ≤ i) (h2 : i < l.length) : ∃ x, l[i.toNat]? = some x ∧ atI l i = some x := by
  have hk : i.toNat < l.length := by omega
  refine ⟨l[i.toNat], List.getElem?_eq_getElem hk, ?_⟩
  rw [← atI_nat (l := l) (k := i.toNat) (List.getElem?_eq_getElem hk)]
  congr 1
  omega
def okR (m : Nat) (r : List Int) : Prop := r.Pairwise (· < ·) ∧ ∀ x ∈ r, 0 ≤ x ∧ x < (m : Int)
def okS2 (r : List Str) : Prop := r.Pairwise (fun a b => ltS a b = true)
theorem us_id {m : Nat} {r : List Int} (h : okR m r) : usI r = r := by
  haveI : Tabs := ⟨fun _ => False⟩
  exact (usI_is h.1 fun k => Iff.rfl).symm
theorem rng_pw (m : Int) : (rngT 0 m).Pairwise (· < ·) := by
  unfold rngT
  rw [List.pairwise_map]
  exact List.pairwise_lt_range.imp fun h => by omega
theorem okR_len {m : Nat} : ∀ {r : List Int} {a : Int}, r.Pairwise (· < ·) → (∀ x ∈ r, a ≤ x ∧ x < (m : Int)) → a ≤ m → (r.length : Int) ≤ m - a
  | [], a, _, _, h => by simp; omega
  | x :: r, a, h, k, hm => by
    have h1 := List.pairwise_cons.mp h
    have := k x List.mem_cons_self
    have := okR_len (a := x + 1) h1.2 (fun y hy => ⟨by have := h1.1 y hy; omega, (k y (List.mem_cons_of_mem _ hy)).2⟩) (by omega)
    rw [List.length_cons]; omega
theorem okR_le {m : Nat} {r : List Int} (h : okR m r) : r.length ≤ m := by
  have := okR_len h.1 (a := 0) h.2 (by omega)
  omega
structure Fr (m : Nat) (sees : List (List Int)) (tr : List (List Str)) : Prop where
  l1 : sees.length = m
  l2 : tr.length = m
  m1 : 1 ≤ m
  m4 : m ≤ 4
  rw_ : ∀ r ∈ sees, okR m r
  ns : ∀ r ∈ tr, okS2 r
def row (sees : List (List Int)) (v : Int) : List Int := sees[v.toNat]?.getD []
theorem itD_tup {l : List D} : itD (.tup l) = some l := rfl
theorem rngT_len {d : Nat} : (rngT 0 (d : Int)).length = d := by unfold rngT; simp
inductive Bm where
  | at (x : Str) | no (f : Bm) | bx (f : Bm) | im (f g : Bm)
def Bm.d : Bm → D
  | .at x => .tup [.str "letter", .str x]
  | .no f => .tup [.str "not", f.d]
  | .bx f => .tup [.str "box", f.d]
  | .im f g => .tup [.str "if", f.d, g.d]
theorem nl : decide (("not" : Str) = "letter") = false := by decide +kernel
theorem bl : decide (("box" : Str) = "letter") = false := by decide +kernel
theorem bn : decide (("box" : Str) = "not") = false := by decide +kernel
theorem bi : decide (("box" : Str) = "if") = false := by decide +kernel
theorem il : decide (("if" : Str) = "letter") = false := by decide +kernel
theorem nb : decide (("not" : Str) = "box") = false := by decide +kernel
end FrK
end
section
set_option maxHeartbeats 4000000
namespace K18
open PySem Mini
open L2 (atI)
abbrev V5 := BitVec 5
def nv (v : V5) : List Str := (if v.getLsbD 0 then [("a" : Str)] else []) ++ (if v.getLsbD 1 then [("b" : Str)] else []) ++ (if v.getLsbD 2 then [("c" : Str)] else []) ++ (if v.getLsbD 3 then [("d" : Str)] else []) ++ (if v.getLsbD 4 then [("e" : Str)] else [])
def all32 : List V5 := (List.range 32).map fun k => BitVec.ofNat 5 k
theorem mem32 (v : V5) : v ∈ all32 := by
  unfold all32
  rw [List.mem_map]
  exact ⟨v.toNat, List.mem_range.mpr v.isLt, by simp⟩
theorem by32 {p : V5 → Bool} (h : all32.all p = true) (v : V5) : p v = true := List.all_eq_true.mp h v (mem32 v)
theorem by32b {p : V5 → V5 → Bool} (h : (all32.all fun u => all32.all (p u)) = true) (u v : V5) : p u v = true := by32 (by32 (p := fun u => all32.all (p u)) h u) v
theorem added_ok (u v : V5) : T_added (nv u) (nv v) = some (nv (u ^^^ v)) := of_decide_eq_true (by32b (p := fun u v => decide (T_added (nv u) (nv v) = some (nv (u ^^^ v)))) (by decide +kernel) u v)
theorem plus_ok (u v : V5) : T_law_plus (nv u) (nv v) = some (nv (u ^^^ v)) := of_decide_eq_true (by32b (p := fun u v => decide (T_law_plus (nv u) (nv v) = some (nv (u ^^^ v)))) (by decide +kernel) u v)
theorem nv_inj {u v : V5} (h : nv u = nv v) : u = v := by
  have := by32b (p := fun u v => !decide (nv u = nv v) || decide (u = v)) (by decide +kernel) u v
  rw [decide_eq_true h, Bool.not_true, Bool.false_or] at this
  exact of_decide_eq_true this
def dot (u v : V5) : Bool := ((u &&& v).getLsbD 0) ^^ ((u &&& v).getLsbD 1) ^^ ((u &&& v).getLsbD 2) ^^ ((u &&& v).getLsbD 3) ^^ ((u &&& v).getLsbD 4)
def bi (b : Bool) : Int := if b = true then 1 else 0
theorem even_ok (u v : V5) (b : Bool) : T_law_even (nv u, bi b) (nv v) = (dot u v == b) := by
  cases b
  · exact of_decide_eq_true (by32b (p := fun u v => decide (T_law_even (nv u, bi false) (nv v) = (dot u v == false))) (by decide +kernel) u v)
  · exact of_decide_eq_true (by32b (p := fun u v => decide (T_law_even (nv u, bi true) (nv v) = (dot u v == true))) (by decide +kernel) u v)
theorem kept_ok (u v : V5) (b : Bool) : T_is_kept (nv u, bi b) (eT D.str (nv v)) = some (dot u v == b) := by
  cases b
  · exact of_decide_eq_true (by32b (p := fun u v => decide (T_is_kept (nv u, bi false) (eT D.str (nv v)) = some (dot u v == false))) (by decide +kernel) u v)
  · exact of_decide_eq_true (by32b (p := fun u v => decide (T_is_kept (nv u, bi true) (eT D.str (nv v)) = some (dot u v == true))) (by decide +kernel) u v)
theorem dot_xor (u v w : V5) : dot (u ^^^ v) w = (dot u w ^^ dot v w) := by
  have h := by32b (p := fun u v => all32.all fun w => dot (u ^^^ v) w == (dot u w ^^ dot v w)) (by decide +kernel) u v
  exact eq_of_beq (by32 h w)
theorem emp_ok (u : V5) : (nv u).isEmpty = (u == 0#5) := eq_of_beq (by32 (p := fun u => (nv u).isEmpty == (u == 0#5)) (by decide +kernel) u)
def lo (u : V5) : V5 := u &&& (0#5 - u)
theorem first_ok (u v : V5) (h : (u == 0#5) = false) : ∃ x, atI (nv u) 0 = some x ∧ inL x (nv v) = !(v &&& lo u == 0#5) := by
  have k := by32b (p := fun u v => (u == 0#5) || match atI (nv u) 0 with | some x => inL x (nv v) == !(v &&& lo u == 0#5) | none => false) (by decide +kernel) u v
  rw [h, Bool.false_or] at k
  cases e : atI (nv u) 0 with
  | none => rw [e] at k; cases k
  | some x => rw [e] at k; exact ⟨x, rfl, eq_of_beq k⟩
end K18
end
section
set_option maxHeartbeats 4000000
namespace K18
open PySem Mini FrK
open L2 (atI)
abbrev Rw := V5 × Bool × List Int
def enc (r : Rw) : List Str × Int × List Int := (nv r.1, bi r.2.1, r.2.2)
def adI (l m : List Int) : List Int := srtE D.int ((l.filter fun x => !inL x m) ++ m.filter fun x => !inL x l)
theorem adI_ok {l m : List Int} (h : l.length + m.length ≤ 1000000) : T_added__I l m = some (adI l m) := by
  unfold T_added__I
  have h1 := List.length_filter_le (fun x => !inL x m) l
  have h2 := List.length_filter_le (fun x => !inL x l) m
  rw [appO_some (by omega)]
  rfl
theorem bi_add (a b : Bool) : (bi a + bi b) % 2 = bi (a ^^ b) := by cases a <;> cases b <;> decide
def jn (r f : Rw) : Rw := if (r.1 &&& lo f.1 == 0#5) = true then r else (r.1 ^^^ f.1, r.2.1 ^^ f.2.1, adI r.2.2 f.2.2)
theorem joined_ok {r f : Rw} (hf : (f.1 == 0#5) = false) (h : r.2.2.length + f.2.2.length ≤ 1000000) : T_joined (enc r) (enc f) = some (enc (jn r f)) := by
  unfold T_joined jn enc
  obtain ⟨x, e1, e2⟩ := first_ok f.1 r.1 hf
  dsimp only
  rw [e1, obn_some, e2, Bool.not_not]
  cases c : r.1 &&& lo f.1 == 0#5 with
  | true => rw [if_pos rfl, if_pos rfl]
  | false => rw [if_neg (by decide), if_neg (by decide), added_ok, obn_some, adI_ok h, obn_some, bi_add]
def rd (a r : Rw) : Rw := if (r.1 == 0#5 || a.1 &&& lo r.1 == 0#5) = true then a else (a.1 ^^^ r.1, a.2.1 ^^ r.2.1, adI a.2.2 r.2.2)
def st1 (rows : List Rw) (e : Rw) : List Rw := if (rows.foldl rd e).1 == 0#5 then rows ++ [rows.foldl rd e] else rows.map (fun r => jn r (rows.foldl rd e)) ++ [rows.foldl rd e]
def Lot (l : List Int) : Prop := l.Nodup ∧ ∀ x ∈ l, 0 ≤ x ∧ x < 7
theorem Lot.len {l : List Int} (h : Lot l) : l.length ≤ 7 := by
  have := len_sub h.1 (m := rngT 0 7) fun x hx => mem_rngT.mpr (h.2 x hx)
  exact this
theorem mem_adI {l m : List Int} {x : Int} : x ∈ adI l m ↔ (x ∈ l ∧ x ∉ m) ∨ (x ∈ m ∧ x ∉ l) := by
  unfold adI
  rw [mem_srtE, List.mem_append, List.mem_filter, List.mem_filter, Bool.not_eq_true', Bool.not_eq_true', ← Bool.not_eq_true, ← Bool.not_eq_true, inL_iff, inL_iff]
theorem Lot.ad {l m : List Int} (h : Lot l) (k : Lot m) : Lot (adI l m) := by
  refine ⟨?_, fun x hx => ?_⟩
  · unfold adI
    refine (srtE_perm _).nodup_iff.mpr (List.nodup_append.mpr ⟨h.1.sublist List.filter_sublist, k.1.sublist List.filter_sublist, fun a ha b hb e => ?_⟩)
    have h1 := List.mem_filter.mp ha
    have h2 := List.mem_filter.mp hb
    rw [e, inL_iff.mpr h2.1] at h1
    cases h1.2
  · rcases mem_adI.mp hx with z | z
    · exact h.2 x z.1
    · exact k.2 x z.1
theorem Lot.rd {a r : Rw} (h : Lot a.2.2) (k : Lot r.2.2) : Lot (rd a r).2.2 := by
  unfold K18.rd
  split
  · exact h
  · exact h.ad k
theorem Lot.jn {r f : Rw} (h : Lot r.2.2) (k : Lot f.2.2) : Lot (jn r f).2.2 := by
  unfold K18.jn
  split
  · exact h
  · exact h.ad k
theorem rd_fold : ∀ {rows : List Rw} {a : Rw}, Lot a.2.2 → (∀ r ∈ rows, Lot r.2.2) → foldO (fun (s101 : (List Int) × (List Str) × Int) (x103 : ((List Str) × Int × (List Int))) => obn (if (!x103.1.isEmpty) = true then obn (atI x103.1 (0 : Int)) fun x105 => some (inL x105 s101.2.1) else some false) fun x109 => if x109 = true then obn (T_added s101.2.1 x103.1) fun x110 => obn (T_added__I s101.1 x103.2.2) fun x111 => lett (x110, ((s101.2.2 + x103.2.1) % (2 : Int)), x111) fun (p112 : ((List Str) × Int × (List Int))) => (some (p112.2.2, p112.1, p112.2.1)) else (some (s101.1, s101.2.1, s101.2.2))) (rows.map enc) (a.2.2, nv a.1, bi a.2.1) = some ((rows.foldl rd a).2.2, nv (rows.foldl rd a).1, bi (rows.foldl rd a).2.1) ∧ Lot (rows.foldl rd a).2.2
  | [], a, h, _ => ⟨rfl, h⟩
  | r :: rows, a, h, k => by
    have hr := k r List.mem_cons_self
    have ih := rd_fold (rows := rows) (a := rd a r) (h.rd hr) fun q hq => k q (List.mem_cons_of_mem _ hq)
    rw [List.foldl_cons]
    refine ⟨?_, ih.2⟩
    rw [List.map_cons]
    unfold foldO
    rw [← ih.1]
    have l1 := h.len
    have l2 := hr.len
    unfold rd enc
    dsimp only [lett]
    rw [emp_ok]
    cases c : r.1 == 0#5 with
    | true => rw [Bool.not_true, if_neg (by decide), obn_some, if_neg (by decide), obn_some, Bool.true_or, if_pos rfl]
    | false =>
      obtain ⟨x, e1, e2⟩ := first_ok r.1 a.1 c
      rw [Bool.not_false, if_pos rfl, e1, obn_some, e2, obn_some, Bool.false_or]
      cases c2 : a.1 &&& lo r.1 == 0#5 with
      | true => rw [Bool.not_true, if_neg (by decide), obn_some, if_pos rfl]
      | false => rw [Bool.not_false, if_pos rfl, added_ok, obn_some, adI_ok (by omega), obn_some, bi_add, obn_some, if_neg (by decide)]
theorem map_jn {rows : List Rw} {f : Rw} (hf : (f.1 == 0#5) = false) (l : Lot f.2.2) (k : ∀ r ∈ rows, Lot r.2.2) : mapO (fun (x113 : ((List Str) × Int × (List Int))) => obn (T_joined x113 (enc f)) fun x115 => some x115) (rows.map enc) = some ((rows.map fun r => jn r f).map enc) := by
  have : ∀ q : List Rw, (∀ r ∈ q, Lot r.2.2) → mapO (fun (x113 : ((List Str) × Int × (List Int))) => obn (T_joined x113 (enc f)) fun x115 => some x115) (q.map enc) = some ((q.map fun r => jn r f).map enc) := fun q => by
    induction q with
    | nil => intro _; rfl
    | cons r q ih =>
      intro hq
      rw [List.map_cons]
      unfold mapO
      have h1 := (hq r List.mem_cons_self).len
      have h2 := l.len
      rw [joined_ok hf (by omega), obn_some, obn_some, ih fun x hx => hq x (List.mem_cons_of_mem _ hx), obn_some]
      rfl
  exact this rows k
abbrev Eq5 := V5 × Bool
def eE (e : Eq5) : List Str × Int := (nv e.1, bi e.2)
def red (eqs : List Eq5) : List Rw := (enT 0 eqs).foldl (fun rows p => st1 rows (p.2.1, p.2.2, [p.1])) []
theorem Lot.one {i : Int} (h : 0 ≤ i) (h2 : i < 7) : Lot [i] := ⟨List.pairwise_singleton _ _, fun x hx => by rw [List.mem_singleton.mp hx]; exact ⟨h, h2⟩⟩
theorem reduced_ok {eqs : List Eq5} (h : eqs.length ≤ 7) : T_reduced (eqs.map eE) = some ((red eqs).map enc) ∧ ∀ r ∈ red eqs, Lot r.2.2 := by
  have key : ∀ (q : List (Int × Eq5)) (rows : List Rw), (∀ p ∈ q, 0 ≤ p.1 ∧ p.1 < 7) → rows.length + q.length ≤ 7 → (∀ r ∈ rows, Lot r.2.2) → foldO (fun (s92 : (List ((List Str) × Int × (List Int)))) (x94 : (Int × ((List Str) × Int))) => lett ([x94.1] : (List Int)) fun (lot100 : (List Int)) => obn (foldO (fun (s101 : (List Int) × (List Str) × Int) (x103 : ((List Str) × Int × (List Int))) => obn (if (!x103.1.isEmpty) = true then obn (atI x103.1 (0 : Int)) fun x105 => some (inL x105 s101.2.1) else some false) fun x109 => if x109 = true then obn (T_added s101.2.1 x103.1) fun x110 => obn (T_added__I s101.1 x103.2.2) fun x111 => lett (x110, ((s101.2.2 + x103.2.1) % (2 : Int)), x111) fun (p112 : ((List Str) × Int × (List Int))) => (some (p112.2.2, p112.1, p112.2.1)) else (some (s101.1, s101.2.1, s101.2.2))) s92 (lot100, x94.2.1, x94.2.2)) fun (s101 : (List Int) × (List Str) × Int) => if (!s101.2.1.isEmpty) = true then obn (mapO (fun (x113 : ((List Str) × Int × (List Int))) => obn (T_joined x113 (s101.2.1, s101.2.2, s101.1)) fun x115 => some x115) s92) fun x120 => obn (appO x120 ([(s101.2.1, s101.2.2, s101.1)] : (List ((List Str) × Int × (List Int))))) fun x121 => lett x121 fun (found122 : (List ((List Str) × Int × (List Int)))) => (some found122) else obn (apnO s92 (s101.2.1, s101.2.2, s101.1)) fun l123 => (some l123)) (q.map fun p => (p.1, eE p.2)) (rows.map enc) = some ((q.foldl (fun rows p => st1 rows (p.2.1, p.2.2, [p.1])) rows).map enc) ∧ ∀ r ∈ q.foldl (fun rows p => st1 rows (p.2.1, p.2.2, [p.1])) rows, Lot r.2.2 := fun q => by
    induction q with
    | nil => intro rows _ _ k; exact ⟨rfl, k⟩
    | cons p q ih =>
      intro rows hq hl k
      have hp := hq p List.mem_cons_self
      obtain ⟨f1, f2⟩ := rd_fold (rows := rows) (a := (p.2.1, p.2.2, [p.1])) (Lot.one hp.1 hp.2) k
      rw [List.length_cons] at hl
      have lots : ∀ r ∈ st1 rows (p.2.1, p.2.2, [p.1]), Lot r.2.2 := fun r hr => by
        unfold st1 at hr
        split at hr
        · rcases List.mem_append.mp hr with z | z
          · exact k r z
          · rw [List.mem_singleton.mp z]; exact f2
        · rcases List.mem_append.mp hr with z | z
          · obtain ⟨r0, h0, rfl⟩ := List.mem_map.mp z
            exact (k r0 h0).jn f2
          · rw [List.mem_singleton.mp z]; exact f2
      have len : (st1 rows (p.2.1, p.2.2, [p.1])).length = rows.length + 1 := by
        unfold st1
        split
        · rw [List.length_append]; rfl
        · rw [List.length_append, List.length_map]; rfl
      have ih := ih (st1 rows (p.2.1, p.2.2, [p.1])) (fun x hx => hq x (List.mem_cons_of_mem _ hx)) (by omega) lots
      rw [List.foldl_cons]
      refine ⟨?_, ih.2⟩
      rw [List.map_cons]
      unfold foldO
      rw [← ih.1]
      dsimp only [lett, eE] at f1 ⊢
      rw [f1, obn_some]
      dsimp only
      rw [emp_ok]
      unfold st1
      cases c : (rows.foldl rd (p.2.1, p.2.2, [p.1])).1 == 0#5 with
      | true =>
        rw [Bool.not_true, if_neg (by decide), apnO_ok (by rw [List.length_map]; omega), obn_some, obn_some, if_pos rfl, List.map_append]
        rfl
      | false =>
        have mj := map_jn (f := rows.foldl rd (p.2.1, p.2.2, [p.1])) c f2 k
        unfold enc at mj
        rw [Bool.not_false, if_pos rfl]
        unfold enc
        rw [mj, obn_some, appO_some (by rw [List.length_map, List.length_map]; simp; omega), obn_some, obn_some, if_neg (by decide), List.map_append]
        rfl
  have en : ∀ p ∈ enT 0 eqs, 0 ≤ p.1 ∧ p.1 < 7 := fun p hp => by
    obtain ⟨i, e1, e2⟩ := mem_enT.mp (show (p.1, p.2) ∈ enT 0 eqs from hp)
    have := (List.getElem?_eq_some_iff.mp e2).1
    omega
  have el : ∀ (n : Nat) (l : List Eq5), (enT n l).length = l.length := fun n l => by
    induction l generalizing n with
    | nil => rfl
    | cons x l ih => show (enT (n + 1) l).length + 1 = _; rw [ih]; rfl
  have := key (enT 0 eqs) [] en (by rw [el]; simpa using h) fun r hr => by cases hr
  refine ⟨?_, this.2⟩
  unfold T_reduced
  rw [enT_mapF]
  exact congrArg (fun o => obn o fun s => some s) this.1
end K18
end
section
set_option maxHeartbeats 4000000
namespace K18
open PySem Mini FrK
def has (v u : V5) : Bool := !(v &&& lo u == 0#5)
theorem has_self (u : V5) (h : (u == 0#5) = false) : has u u = true := by
  have k := by32 (p := fun u => (u == 0#5) || has u u) (by decide +kernel) u
  rwa [h, Bool.false_or] at k
theorem has_zero (u : V5) : has 0#5 u = false := by
  have k := by32 (p := fun u => !has 0#5 u) (by decide +kernel) u
  simpa using k
theorem has_xor (u v w : V5) (h : (w == 0#5) = false) : has (u ^^^ v) w = (has u w ^^ has v w) := by
  have k := by32b (p := fun u v => all32.all fun w => (w == 0#5) || has (u ^^^ v) w == (has u w ^^ has v w)) (by decide +kernel) u v
  have k := by32 (p := fun w => (w == 0#5) || has (u ^^^ v) w == (has u w ^^ has v w)) k w
  rw [h, Bool.false_or] at k
  exact eq_of_beq k
end K18
end
section
set_option maxHeartbeats 4000000
namespace K18
open PySem Mini FrK
open L2 (atI)
def kp (x : V5) (v : V5) (b : Bool) : Bool := dot v x == b
theorem kp_xor {x u v : V5} {b c : Bool} (h : kp x v c = true) : kp x (u ^^^ v) (b ^^ c) = kp x u b := by
  have h := eq_of_beq h
  unfold kp
  rw [dot_xor, h]
  cases dot u x <;> cases b <;> cases c <;> rfl
theorem kp_rd {x : V5} {a r : Rw} (h : kp x r.1 r.2.1 = true) : kp x (rd a r).1 (rd a r).2.1 = kp x a.1 a.2.1 := by
  unfold rd
  split
  · rfl
  · exact kp_xor h
theorem kp_jn {x : V5} {r f : Rw} (h : kp x f.1 f.2.1 = true) : kp x (jn r f).1 (jn r f).2.1 = kp x r.1 r.2.1 := by
  unfold jn
  split
  · rfl
  · exact kp_xor h
theorem kp_fold {x : V5} : ∀ {rows : List Rw} {a : Rw}, (∀ r ∈ rows, kp x r.1 r.2.1 = true) → kp x (rows.foldl rd a).1 (rows.foldl rd a).2.1 = kp x a.1 a.2.1
  | [], a, _ => rfl
  | r :: rows, a, h => by
    rw [List.foldl_cons, kp_fold fun q hq => h q (List.mem_cons_of_mem _ hq), kp_rd (h r List.mem_cons_self)]
theorem kp_st1 {x : V5} {rows : List Rw} {e : Rw} : ((st1 rows e).all fun r => kp x r.1 r.2.1) = ((rows.all fun r => kp x r.1 r.2.1) && kp x e.1 e.2.1) := by
  rw [Bool.eq_iff_iff, List.all_eq_true, Bool.and_eq_true, List.all_eq_true]
  unfold st1
  constructor
  · intro h
    split at h
    · have h1 : ∀ r ∈ rows, kp x r.1 r.2.1 = true := fun r hr => h r (List.mem_append_left _ hr)
      refine ⟨h1, ?_⟩
      rw [← kp_fold h1]
      exact h _ (List.mem_append_right _ (List.mem_singleton.mpr rfl))
    · have hf := h _ (List.mem_append_right _ (List.mem_singleton.mpr rfl))
      have h1 : ∀ r ∈ rows, kp x r.1 r.2.1 = true := fun r hr => by
        have := h _ (List.mem_append_left _ (List.mem_map.mpr ⟨r, hr, rfl⟩))
        rwa [kp_jn hf] at this
      exact ⟨h1, by rw [← kp_fold h1]; exact hf⟩
  · intro ⟨h1, h2⟩ r hr
    rw [← kp_fold h1] at h2
    split at hr
    · rcases List.mem_append.mp hr with z | z
      · exact h1 r z
      · rw [List.mem_singleton.mp z]; exact h2
    · rcases List.mem_append.mp hr with z | z
      · obtain ⟨q, hq, rfl⟩ := List.mem_map.mp z
        rw [kp_jn h2]; exact h1 q hq
      · rw [List.mem_singleton.mp z]; exact h2
theorem kp_red {x : V5} {eqs : List Eq5} : ((red eqs).all fun r => kp x r.1 r.2.1) = eqs.all fun e => kp x e.1 e.2 := by
  have key : ∀ (q : List Eq5) (n : Nat) (rows : List Rw), (((enT n q).foldl (fun rows p => st1 rows (p.2.1, p.2.2, [p.1])) rows).all fun r => kp x r.1 r.2.1) = ((rows.all fun r => kp x r.1 r.2.1) && q.all fun e => kp x e.1 e.2) := fun q => by
    induction q with
    | nil => intro n rows; show _ = (_ && true); rw [Bool.and_true]; rfl
    | cons e q ih =>
      intro n rows
      show (((enT (n + 1) q).foldl (fun rows p => st1 rows (p.2.1, p.2.2, [p.1])) (st1 rows (e.1, e.2, [(n : Int)]))).all fun r => kp x r.1 r.2.1) = _
      rw [ih, kp_st1, List.all_cons, Bool.and_assoc]
  unfold red
  rw [key eqs 0 []]
  rfl
def Apart (r s : Rw) : Prop := has r.1 s.1 = false ∧ has s.1 r.1 = false
theorem lo_xor (r f : V5) (h1 : has r f = true) (h2 : has f r = false) : lo (r ^^^ f) = lo r := by
  have k := by32b (p := fun r f => !has r f || has f r || decide (lo (r ^^^ f) = lo r)) (by decide +kernel) r f
  rw [h1, h2] at k
  exact of_decide_eq_true k
theorem has_lo {u v w : V5} (h : lo u = lo w) : has v u = has v w := by unfold has; rw [h]
theorem has_u0 (v : V5) : has v 0#5 = false := by
  have k := by32 (p := fun v => !has v 0#5) (by decide +kernel) v
  simpa using k
theorem nz {v : V5} (h : ¬ (v == 0#5) = true) : (v == 0#5) = false := by simpa using h
theorem has_xor' (u v w : V5) : has (u ^^^ v) w = (has u w ^^ has v w) := by
  by_cases h : (w == 0#5) = true
  · rw [eq_of_beq h, has_u0, has_u0, has_u0]; rfl
  · exact has_xor u v w (nz h)
theorem rd_eq {a r : Rw} : (rd a r).1 = if has a.1 r.1 = true then a.1 ^^^ r.1 else a.1 := by
  unfold rd
  by_cases h : (r.1 == 0#5) = true
  · rw [h, Bool.true_or, if_pos rfl, eq_of_beq h, has_u0, if_neg (by decide)]
  · rw [nz h, Bool.false_or]
    unfold has
    cases c : a.1 &&& lo r.1 == 0#5
    · rw [if_neg (by decide)]; rfl
    · rw [if_pos rfl]; rfl
theorem jn_eq {r f : Rw} : (jn r f).1 = if has r.1 f.1 = true then r.1 ^^^ f.1 else r.1 := by
  unfold jn has
  cases c : r.1 &&& lo f.1 == 0#5
  · rw [if_neg (by decide)]; rfl
  · rw [if_pos rfl]; rfl
theorem rd_self {a r : Rw} : has (rd a r).1 r.1 = false := by
  rw [rd_eq]
  by_cases h : has a.1 r.1 = true
  · rw [if_pos h, has_xor', h]
    by_cases z : (r.1 == 0#5) = true
    · rw [eq_of_beq z, has_u0] at h; cases h
    · rw [has_self _ (nz z)]; rfl
  · rw [if_neg h]; simpa using h
theorem rd_keep {a r s : Rw} (h : has r.1 s.1 = false) (k : has a.1 s.1 = false) : has (rd a r).1 s.1 = false := by
  rw [rd_eq]
  split
  · rw [has_xor', h, k]; rfl
  · exact k
theorem fold_keep {s : Rw} : ∀ {rows : List Rw} {a : Rw}, (∀ r ∈ rows, has r.1 s.1 = false) → has a.1 s.1 = false → has (rows.foldl rd a).1 s.1 = false
  | [], a, _, k => k
  | r :: rows, a, h, k => fold_keep (rows := rows) (fun q hq => h q (List.mem_cons_of_mem _ hq)) (rd_keep (h r List.mem_cons_self) k)
theorem fold_none : ∀ {rows : List Rw} {a : Rw}, rows.Pairwise Apart → ∀ s ∈ rows, has (rows.foldl rd a).1 s.1 = false
  | r :: rows, a, h, s, hs => by
    obtain ⟨h1, h2⟩ := List.pairwise_cons.mp h
    rw [List.foldl_cons]
    rcases List.mem_cons.mp hs with rfl | z
    · exact fold_keep (fun q hq => (h1 q hq).2) rd_self
    · exact fold_none h2 s z
theorem jn_lo {r f : Rw} (h : has f.1 r.1 = false) : lo (jn r f).1 = lo r.1 := by
  rw [jn_eq]
  split
  · rename_i c; exact lo_xor _ _ c h
  · rfl
theorem jn_has {s f : Rw} {u : V5} (h : has s.1 u = false) (k : has f.1 u = false) : has (jn s f).1 u = false := by
  rw [jn_eq]
  split
  · rw [has_xor', h, k]; rfl
  · exact h
theorem st1_apart {rows : List Rw} {e : Rw} (h : rows.Pairwise Apart) : (st1 rows e).Pairwise Apart := by
  have hn := fold_none (a := e) h
  unfold st1
  split
  · rename_i c
    refine List.pairwise_append.mpr ⟨h, List.pairwise_singleton _ _, fun r hr s hs => ?_⟩
    rw [List.mem_singleton.mp hs]
    refine ⟨?_, hn r hr⟩
    rw [eq_of_beq c, has_u0]
  · rename_i c
    refine List.pairwise_append.mpr ⟨List.pairwise_map.mpr ?_, List.pairwise_singleton _ _, fun r hr s hs => ?_⟩
    · refine List.Pairwise.imp_of_mem ?_ h
      intro r s hr hs hp
      refine ⟨?_, ?_⟩
      · rw [has_lo (jn_lo (hn s hs))]; exact jn_has hp.1 (hn s hs)
      · rw [has_lo (jn_lo (hn r hr))]; exact jn_has hp.2 (hn r hr)
    · rw [List.mem_singleton.mp hs]
      obtain ⟨q, hq, rfl⟩ := List.mem_map.mp hr
      refine ⟨?_, ?_⟩
      · rw [jn_eq]
        split
        · rename_i k; rw [has_xor', k, has_self _ (nz c)]; rfl
        · rename_i k; simpa using k
      · rw [has_lo (jn_lo (hn q hq))]; exact hn q hq
theorem red_apart {eqs : List Eq5} : (red eqs).Pairwise Apart := by
  have key : ∀ (q : List (Int × Eq5)) (rows : List Rw), rows.Pairwise Apart → (q.foldl (fun rows p => st1 rows (p.2.1, p.2.2, [p.1])) rows).Pairwise Apart := fun q => by
    induction q with
    | nil => intro rows h; exact h
    | cons p q ih => intro rows h; exact ih _ (st1_apart h)
  exact key _ _ .nil
def pick (r : Rw) : Bool := !(r.1 == 0#5) && r.2.1
def xOf : List Rw → V5
  | [] => 0#5
  | r :: l => (if pick r = true then lo r.1 else 0#5) ^^^ xOf l
theorem dot_lo (v u : V5) : dot v (lo u) = has v u := eq_of_beq (by32b (p := fun v u => dot v (lo u) == has v u) (by decide +kernel) v u)
theorem dot_xr (u v w : V5) : dot w (u ^^^ v) = (dot w u ^^ dot w v) := by
  have h := by32b (p := fun u v => all32.all fun w => dot w (u ^^^ v) == (dot w u ^^ dot w v)) (by decide +kernel) u v
  exact eq_of_beq (by32 h w)
theorem dot_x0 (w : V5) : dot w 0#5 = false := by
  have k := by32 (p := fun v => !dot v 0#5) (by decide +kernel) w
  simpa using k
theorem dot_xOf_no {v : V5} : ∀ {l : List Rw}, (∀ s ∈ l, has v s.1 = false) → dot v (xOf l) = false
  | [], _ => dot_x0 v
  | s :: l, h => by
    show dot v (_ ^^^ _) = false
    rw [dot_xr, dot_xOf_no fun q hq => h q (List.mem_cons_of_mem _ hq)]
    split
    · rw [dot_lo, h s List.mem_cons_self]; rfl
    · rw [dot_x0]; rfl
theorem dot_xOf : ∀ {l : List Rw}, l.Pairwise Apart → ∀ r ∈ l, (r.1 == 0#5) = false → dot r.1 (xOf l) = r.2.1
  | s :: l, h, r, hr, nz => by
    obtain ⟨h1, h2⟩ := List.pairwise_cons.mp h
    show dot r.1 (_ ^^^ _) = r.2.1
    rw [dot_xr]
    rcases List.mem_cons.mp hr with rfl | z
    · rw [dot_xOf_no fun q hq => (h1 q hq).1]
      unfold pick
      rw [nz]
      cases r.2.1
      · rw [if_neg (by decide), dot_x0]; rfl
      · rw [if_pos (by decide), dot_lo, has_self _ nz]; rfl
    · rw [dot_xOf h2 r z nz]
      split
      · rw [dot_lo, (h1 r z).2]; cases r.2.1 <;> rfl
      · rw [dot_x0]; cases r.2.1 <;> rfl
theorem ins_nv (u w : V5) (h : (u == 0#5) = false) (k : has w u = false) : ∃ x, atI (nv u) 0 = some x ∧ insE D.str x (nv w) = nv (lo u ^^^ w) := by
  have q := by32b (p := fun u w => (u == 0#5) || has w u || match atI (nv u) 0 with | some x => decide (insE D.str x (nv w) = nv (lo u ^^^ w)) | none => false) (by decide +kernel) u w
  rw [h, k, Bool.false_or, Bool.false_or] at q
  cases e : atI (nv u) 0 with
  | none => rw [e] at q; cases q
  | some x => rw [e] at q; exact ⟨x, rfl, of_decide_eq_true q⟩
theorem lo_has (s a : V5) (h : has s a = false) : has (lo s) a = false := by
  have k := by32b (p := fun s a => has s a || !has (lo s) a) (by decide +kernel) s a
  rw [h, Bool.false_or] at k
  simpa using k
theorem has_xOf {u : V5} : ∀ {l : List Rw}, (∀ s ∈ l, has s.1 u = false) → has (xOf l) u = false
  | [], _ => has_zero u
  | s :: l, h => by
    show has (_ ^^^ _) u = false
    rw [has_xor', has_xOf fun q hq => h q (List.mem_cons_of_mem _ hq)]
    split
    · rw [lo_has _ _ (h s List.mem_cons_self)]; rfl
    · rw [has_zero]; rfl
theorem firsts_ok : ∀ {l : List Rw}, l.Pairwise Apart → ∃ fs, cmpO (fun (x131 : ((List Str) × Int × (List Int))) => if ((!x131.1.isEmpty) && (decide (x131.2.1 = (1 : Int)))) = true then obn (atI x131.1 (0 : Int)) fun x133 => some (some x133) else some (none : Option Str)) (l.map enc) = some fs ∧ srtE D.str fs = nv (xOf l)
  | [], _ => ⟨[], rfl, by decide +kernel⟩
  | r :: l, h => by
    obtain ⟨h1, h2⟩ := List.pairwise_cons.mp h
    obtain ⟨fs, e1, e2⟩ := firsts_ok h2
    rw [List.map_cons]
    unfold cmpO
    have pe : ((!(enc r).1.isEmpty) && (decide ((enc r).2.1 = (1 : Int)))) = pick r := by
      unfold enc pick
      dsimp only
      rw [emp_ok]
      cases r.2.1 <;> rfl
    rw [pe, e1]
    show ∃ fs, _ ∧ srtE D.str fs = nv (_ ^^^ _)
    cases c : pick r with
    | false =>
      refine ⟨fs, rfl, ?_⟩
      rw [if_neg (by decide), BitVec.zero_xor]; exact e2
    | true =>
      have nz : (r.1 == 0#5) = false := by
        unfold pick at c
        rw [Bool.and_eq_true] at c
        simpa using c.1
      obtain ⟨x, a1, a2⟩ := ins_nv r.1 (xOf l) nz (has_xOf fun s hs => (h1 s hs).2)
      refine ⟨x :: fs, ?_, ?_⟩
      · rw [if_pos rfl]
        show obn (obn (atI (nv r.1) 0) _) _ = _
        rw [a1]; rfl
      · rw [if_pos rfl]
        show insE D.str x (srtE D.str fs) = _
        rw [e2, a2]
end K18
end
section
set_option maxHeartbeats 4000000
namespace K18
open PySem Mini FrK
open L2 (atI)
abbrev VB2 := V5 × Bool
def xr (a b : VB2) : VB2 := (a.1 ^^^ b.1, a.2 ^^ b.2)
theorem xr_comm (a b : VB2) : xr a b = xr b a := by unfold xr; rw [BitVec.xor_comm, Bool.xor_comm]
theorem xr_assoc (a b c : VB2) : xr (xr a b) c = xr a (xr b c) := by unfold xr; rw [BitVec.xor_assoc, Bool.xor_assoc]
theorem xr_self (a : VB2) : xr a a = (0#5, false) := by unfold xr; rw [BitVec.xor_self, Bool.xor_self]
theorem xr_zero (a : VB2) : xr a (0#5, false) = a := by unfold xr; rw [BitVec.xor_zero, Bool.xor_false]
theorem zero_xr (a : VB2) : xr (0#5, false) a = a := by rw [xr_comm, xr_zero]
def at5 (eqs : List Eq5) (i : Int) : VB2 := eqs[i.toNat]?.getD (0#5, false)
def sumL (eqs : List Eq5) : List Int → VB2
  | [] => (0#5, false)
  | i :: l => xr (at5 eqs i) (sumL eqs l)
theorem sumL_perm {eqs : List Eq5} {l m : List Int} (h : l.Perm m) : sumL eqs l = sumL eqs m := by
  induction h with
  | nil => rfl
  | cons x _ ih => show xr _ _ = xr _ _; rw [ih]
  | swap x y l => show xr _ (xr _ _) = xr _ (xr _ _); rw [← xr_assoc, ← xr_assoc, xr_comm (at5 eqs y)]
  | trans _ _ h1 h2 => rw [h1, h2]
theorem sumL_app {eqs : List Eq5} {l m : List Int} : sumL eqs (l ++ m) = xr (sumL eqs l) (sumL eqs m) := by
  induction l with
  | nil => show sumL eqs m = xr (0#5, false) _; rw [zero_xr]
  | cons x l ih => show xr _ (sumL eqs (l ++ m)) = xr (xr _ _) _; rw [ih, xr_assoc]
theorem sumL_split {eqs : List Eq5} {p : Int → Bool} {l : List Int} : sumL eqs l = xr (sumL eqs (l.filter fun x => !p x)) (sumL eqs (l.filter p)) := by
  rw [← sumL_app]
  refine sumL_perm ?_
  induction l with
  | nil => exact .nil
  | cons x l ih =>
    rw [List.filter_cons, List.filter_cons]
    cases p x
    · exact ih.cons x
    · exact (ih.cons x).trans List.perm_middle.symm
theorem sumL_ad {eqs : List Eq5} {l m : List Int} (h : l.Nodup) (k : m.Nodup) : sumL eqs (adI l m) = xr (sumL eqs l) (sumL eqs m) := by
  unfold adI
  rw [sumL_perm (srtE_perm _), sumL_app, sumL_split (l := l) (p := fun x => inL x m), sumL_split (l := m) (p := fun x => inL x l)]
  have e : sumL eqs (l.filter fun x => inL x m) = sumL eqs (m.filter fun x => inL x l) := by
    refine sumL_perm ((List.perm_ext_iff_of_nodup (h.sublist List.filter_sublist) (k.sublist List.filter_sublist)).mpr fun x => ?_)
    rw [List.mem_filter, List.mem_filter, inL_iff, inL_iff, and_comm]
  rw [e, xr_assoc, xr_comm (sumL eqs (m.filter fun x => inL x l)), xr_assoc, xr_self, xr_zero]
def Sum (eqs : List Eq5) (r : Rw) : Prop := Lot r.2.2 ∧ r.2.2.Pairwise (· < ·) ∧ (∀ i ∈ r.2.2, i < (eqs.length : Int)) ∧ sumL eqs r.2.2 = (r.1, r.2.1)
theorem ad_pw {l m : List Int} (h : Lot l) (k : Lot m) : (adI l m).Pairwise (· < ·) := by
  have nd := (h.ad k).1
  have le : (adI l m).Pairwise fun a b => leD (D.int a) (D.int b) = true := srtE_pw (e := D.int) _
  refine List.Pairwise.imp_of_mem ?_ (List.Pairwise.and le nd)
  intro a b ha hb ⟨h1, h2⟩
  have : a ≤ b := by
    by_cases c : a ≤ b
    · exact c
    · exfalso
      have q : leD (D.int a) (D.int b) = false := by
        unfold leD
        rw [show ltD (.int b) (.int a) = decide (b < a) from by
          unfold ltD
          show PySem.W.dataLt (.int b) (.int a) = _
          rw [PySem.W.dataLt_int], decide_eq_true (by omega)]; rfl
      rw [q] at h1; cases h1
  omega
theorem sum_rd {eqs : List Eq5} {a r : Rw} (h : Sum eqs a) (k : Sum eqs r) : Sum eqs (rd a r) := by
  unfold K18.rd
  split
  · exact h
  · refine ⟨h.1.ad k.1, ad_pw h.1 k.1, fun i hi => ?_, ?_⟩
    · rcases mem_adI.mp hi with z | z
      · exact h.2.2.1 i z.1
      · exact k.2.2.1 i z.1
    · show sumL eqs (adI _ _) = _
      rw [sumL_ad h.1.1 k.1.1, h.2.2.2, k.2.2.2]; rfl
theorem sum_jn {eqs : List Eq5} {r f : Rw} (h : Sum eqs r) (k : Sum eqs f) : Sum eqs (jn r f) := by
  unfold K18.jn
  split
  · exact h
  · refine ⟨h.1.ad k.1, ad_pw h.1 k.1, fun i hi => ?_, ?_⟩
    · rcases mem_adI.mp hi with z | z
      · exact h.2.2.1 i z.1
      · exact k.2.2.1 i z.1
    · show sumL eqs (adI _ _) = _
      rw [sumL_ad h.1.1 k.1.1, h.2.2.2, k.2.2.2]; rfl
theorem sum_fold {eqs : List Eq5} : ∀ {rows : List Rw} {a : Rw}, (∀ r ∈ rows, Sum eqs r) → Sum eqs a → Sum eqs (rows.foldl rd a)
  | [], a, _, h => h
  | r :: rows, a, k, h => sum_fold (rows := rows) (fun q hq => k q (List.mem_cons_of_mem _ hq)) (sum_rd h (k r List.mem_cons_self))
theorem sum_st1 {eqs : List Eq5} {rows : List Rw} {e : Rw} (k : ∀ r ∈ rows, Sum eqs r) (h : Sum eqs e) : ∀ r ∈ st1 rows e, Sum eqs r := fun r hr => by
  have f := sum_fold k h
  unfold K18.st1 at hr
  split at hr
  · rcases List.mem_append.mp hr with z | z
    · exact k r z
    · rw [List.mem_singleton.mp z]; exact f
  · rcases List.mem_append.mp hr with z | z
    · obtain ⟨q, hq, rfl⟩ := List.mem_map.mp z
      exact sum_jn (k q hq) f
    · rw [List.mem_singleton.mp z]; exact f
theorem red_sum {eqs : List Eq5} (h : eqs.length ≤ 7) : ∀ r ∈ red eqs, Sum eqs r := by
  have key : ∀ (q : List (Int × Eq5)) (rows : List Rw), (∀ p ∈ q, Sum eqs (p.2.1, p.2.2, [p.1])) → (∀ r ∈ rows, Sum eqs r) → ∀ r ∈ q.foldl (fun rows p => st1 rows (p.2.1, p.2.2, [p.1])) rows, Sum eqs r := fun q => by
    induction q with
    | nil => intro rows _ h; exact h
    | cons p q ih => intro rows hq h; exact ih _ (fun x hx => hq x (List.mem_cons_of_mem _ hx)) (sum_st1 h (hq p List.mem_cons_self))
  refine key _ _ (fun p hp => ?_) fun r hr => by cases hr
  obtain ⟨k, e1, e2⟩ := mem_enT.mp (show (p.1, p.2) ∈ enT 0 eqs from hp)
  have lt := (List.getElem?_eq_some_iff.mp e2).1
  rw [Nat.zero_add] at e1
  refine ⟨Lot.one (by omega) (by omega), List.pairwise_singleton _ _, fun i hi => ?_, ?_⟩
  · rw [List.mem_singleton.mp hi]; omega
  · show xr (at5 eqs p.1) (0#5, false) = _
    rw [xr_zero]
    unfold at5
    rw [e1, Int.toNat_natCast, e2]; rfl
def spn : List V5 → List V5
  | [] => [0#5]
  | u :: l => spn l ++ (spn l).map (u ^^^ ·)
theorem spn_zero : ∀ {l : List V5}, 0#5 ∈ spn l
  | [] => List.mem_singleton.mpr rfl
  | u :: l => List.mem_append_left _ spn_zero
theorem spn_xor : ∀ {l : List V5} {a b : V5}, a ∈ spn l → b ∈ spn l → a ^^^ b ∈ spn l
  | [], a, b, h, k => by rw [List.mem_singleton.mp h, List.mem_singleton.mp k]; exact List.mem_singleton.mpr rfl
  | u :: l, a, b, h, k => by
    rcases List.mem_append.mp h with h | h
    · rcases List.mem_append.mp k with k | k
      · exact List.mem_append_left _ (spn_xor h k)
      · obtain ⟨c, hc, rfl⟩ := List.mem_map.mp k
        exact List.mem_append_right _ (List.mem_map.mpr ⟨a ^^^ c, spn_xor h hc, by rw [← BitVec.xor_assoc, ← BitVec.xor_assoc, BitVec.xor_comm u]⟩)
    · obtain ⟨c, hc, rfl⟩ := List.mem_map.mp h
      rcases List.mem_append.mp k with k | k
      · exact List.mem_append_right _ (List.mem_map.mpr ⟨c ^^^ b, spn_xor hc k, by rw [BitVec.xor_assoc]⟩)
      · obtain ⟨d, hd, rfl⟩ := List.mem_map.mp k
        refine List.mem_append_left _ ?_
        have e : u ^^^ c ^^^ (u ^^^ d) = c ^^^ d := by
          rw [BitVec.xor_comm u c, BitVec.xor_assoc, ← BitVec.xor_assoc u u d, BitVec.xor_self, BitVec.zero_xor]
        rw [e]; exact spn_xor hc hd
theorem spn_gen : ∀ {l : List V5} {u : V5}, u ∈ l → u ∈ spn l
  | w :: l, u, h => by
    rcases List.mem_cons.mp h with rfl | h
    · exact List.mem_append_right _ (List.mem_map.mpr ⟨0#5, spn_zero, by rw [BitVec.xor_zero]⟩)
    · exact List.mem_append_left _ (spn_gen h)
theorem spn_sub : ∀ {l m : List V5}, (∀ u ∈ l, u ∈ spn m) → ∀ v ∈ spn l, v ∈ spn m
  | [], m, _, v, hv => by rw [List.mem_singleton.mp hv]; exact spn_zero
  | u :: l, m, h, v, hv => by
    have ih := spn_sub fun q hq => h q (List.mem_cons_of_mem _ hq)
    rcases List.mem_append.mp hv with z | z
    · exact ih v z
    · obtain ⟨c, hc, rfl⟩ := List.mem_map.mp z
      exact spn_xor (h u List.mem_cons_self) (ih c hc)
def lf (rows : List Rw) : List V5 := rows.map (·.1)
theorem fold_spn : ∀ {m : List V5} {rows : List Rw} {a : Rw}, (∀ r ∈ rows, r.1 ∈ spn m) → ((rows.foldl rd a).1 ∈ spn m ↔ a.1 ∈ spn m)
  | m, [], a, _ => Iff.rfl
  | m, r :: rows, a, h => by
    rw [List.foldl_cons, fold_spn fun q hq => h q (List.mem_cons_of_mem _ hq), rd_eq]
    have hr := h r List.mem_cons_self
    split
    · constructor
      · intro k
        have := spn_xor k hr
        rwa [BitVec.xor_assoc, BitVec.xor_self, BitVec.xor_zero] at this
      · intro k; exact spn_xor k hr
    · exact Iff.rfl
theorem st1_spn {rows : List Rw} {e : Rw} (v : V5) : v ∈ spn (lf (st1 rows e)) ↔ v ∈ spn (e.1 :: lf rows) := by
  have in_r : ∀ r ∈ rows, r.1 ∈ spn (e.1 :: lf rows) := fun r hr => spn_gen (List.mem_cons_of_mem _ (List.mem_map.mpr ⟨r, hr, rfl⟩))
  have in_e : e.1 ∈ spn (e.1 :: lf rows) := spn_gen List.mem_cons_self
  have in_f : (rows.foldl rd e).1 ∈ spn (e.1 :: lf rows) := (fold_spn in_r).mpr in_e
  constructor
  · refine spn_sub (fun u hu => ?_) v
    obtain ⟨r, hr, rfl⟩ := List.mem_map.mp hu
    unfold st1 at hr
    split at hr
    · rcases List.mem_append.mp hr with z | z
      · exact in_r r z
      · rw [List.mem_singleton.mp z]; exact in_f
    · rcases List.mem_append.mp hr with z | z
      · obtain ⟨q, hq, rfl⟩ := List.mem_map.mp z
        rw [jn_eq]
        split
        · exact spn_xor (in_r q hq) in_f
        · exact in_r q hq
      · rw [List.mem_singleton.mp z]; exact in_f
  · have f_in : (rows.foldl rd e).1 ∈ spn (lf (st1 rows e)) := by
      refine spn_gen (List.mem_map.mpr ⟨rows.foldl rd e, ?_, rfl⟩)
      unfold st1
      split <;> exact List.mem_append_right _ (List.mem_singleton.mpr rfl)
    have r_in : ∀ r ∈ rows, r.1 ∈ spn (lf (st1 rows e)) := fun r hr => by
      by_cases c : ((rows.foldl rd e).1 == 0#5) = true
      · refine spn_gen (List.mem_map.mpr ⟨r, ?_, rfl⟩)
        unfold st1
        rw [if_pos c]; exact List.mem_append_left _ hr
      · have : (jn r (rows.foldl rd e)).1 ∈ spn (lf (st1 rows e)) := by
          refine spn_gen (List.mem_map.mpr ⟨jn r (rows.foldl rd e), ?_, rfl⟩)
          unfold st1
          rw [if_neg c]; exact List.mem_append_left _ (List.mem_map.mpr ⟨r, hr, rfl⟩)
        rw [jn_eq] at this
        split at this
        · have q := spn_xor this f_in
          rwa [BitVec.xor_assoc, BitVec.xor_self, BitVec.xor_zero] at q
        · exact this
    refine spn_sub (fun u hu => ?_) v
    rcases List.mem_cons.mp hu with rfl | z
    · exact (fold_spn r_in).mp f_in
    · obtain ⟨r, hr, rfl⟩ := List.mem_map.mp z
      exact r_in r hr
theorem red_spn {eqs : List Eq5} (v : V5) : v ∈ spn (lf (red eqs)) ↔ v ∈ spn (eqs.map (·.1)) := by
  have key : ∀ (q : List Eq5) (n : Nat) (rows : List Rw) (m : List V5), (∀ v, v ∈ spn (lf rows) ↔ v ∈ spn m) → ∀ v, v ∈ spn (lf ((enT n q).foldl (fun rows p => st1 rows (p.2.1, p.2.2, [p.1])) rows)) ↔ v ∈ spn (m ++ q.map (·.1)) := fun q => by
    induction q with
    | nil => intro n rows m h v; rw [List.map_nil, List.append_nil]; exact h v
    | cons e q ih =>
      intro n rows m h v
      show v ∈ spn (lf ((enT (n + 1) q).foldl (fun rows p => st1 rows (p.2.1, p.2.2, [p.1])) (st1 rows (e.1, e.2, [(n : Int)])))) ↔ _
      rw [ih (n + 1) _ (m ++ [e.1]) (fun w => ?_), List.map_cons, List.append_assoc]
      · rfl
      · rw [st1_spn]
        constructor
        · refine spn_sub (fun u hu => ?_) w
          rcases List.mem_cons.mp hu with rfl | z
          · exact spn_gen (List.mem_append_right _ (List.mem_singleton.mpr rfl))
          · have := (h u).mp (spn_gen z)
            exact spn_sub (fun x hx => spn_gen (List.mem_append_left _ hx)) u this
        · refine spn_sub (fun u hu => ?_) w
          rcases List.mem_append.mp hu with z | z
          · have := (h u).mpr (spn_gen z)
            exact spn_sub (fun x hx => spn_gen (List.mem_cons_of_mem _ hx)) u this
          · rw [List.mem_singleton.mp z]; exact spn_gen List.mem_cons_self
  exact key eqs 0 [] [] (fun _ => Iff.rfl) v
theorem spn_has {u : V5} : ∀ {l : List V5}, (∀ s ∈ l, has s u = false) → ∀ v ∈ spn l, has v u = false
  | [], _, v, hv => by rw [List.mem_singleton.mp hv]; exact has_zero u
  | s :: l, h, v, hv => by
    have ih := spn_has fun q hq => h q (List.mem_cons_of_mem _ hq)
    rcases List.mem_append.mp hv with z | z
    · exact ih v z
    · obtain ⟨c, hc, rfl⟩ := List.mem_map.mp z
      rw [has_xor', h s List.mem_cons_self, ih c hc]; rfl
theorem spn_nd : ∀ {l : List V5}, l.Pairwise (fun a b => has b a = false) → (∀ u ∈ l, (u == 0#5) = false) → (spn l).Nodup
  | [], _, _ => List.pairwise_singleton _ _
  | u :: l, h, n => by
    obtain ⟨h1, h2⟩ := List.pairwise_cons.mp h
    have ih := spn_nd h2 fun q hq => n q (List.mem_cons_of_mem _ hq)
    refine List.nodup_append.mpr ⟨ih, ?_, fun a ha b hb e => ?_⟩
    · refine List.pairwise_map.mpr (ih.imp fun {a b} hab e => hab ?_)
      have := congrArg (u ^^^ ·) e
      simpa [← BitVec.xor_assoc] using this
    · subst e
      obtain ⟨c, hc, rfl⟩ := List.mem_map.mp hb
      have k := spn_has h1 _ ha
      rw [has_xor', has_self _ (n u List.mem_cons_self), spn_has h1 c hc] at k
      cases k
theorem spn_len : ∀ l : List V5, (spn l).length = 2 ^ l.length
  | [] => rfl
  | u :: l => by
    show (spn l ++ _).length = _
    rw [List.length_append, List.length_map, spn_len l, List.length_cons, Nat.pow_succ]; omega
theorem spn_nz {l : List V5} (v : V5) : v ∈ spn (l.filter fun u => !(u == 0#5)) ↔ v ∈ spn l := by
  constructor
  · exact spn_sub (fun u hu => spn_gen (List.mem_filter.mp hu).1) v
  · refine spn_sub (fun u hu => ?_) v
    by_cases c : (u == 0#5) = true
    · rw [eq_of_beq c]; exact spn_zero
    · exact spn_gen (List.mem_filter.mpr ⟨hu, by simpa using c⟩)
theorem red_many {eqs : List Eq5} : ∃ s : List V5, s.Nodup ∧ s.length = 2 ^ ((lf (red eqs)).filter fun u => !(u == 0#5)).length ∧ ∀ v, v ∈ s ↔ v ∈ spn (eqs.map (·.1)) := by
  refine ⟨spn ((lf (red eqs)).filter fun u => !(u == 0#5)), spn_nd ?_ (fun u hu => ?_), spn_len _, fun v => by rw [spn_nz, red_spn]⟩
  · exact (List.pairwise_map.mpr ((red_apart (eqs := eqs)).imp fun h => h.2)).sublist List.filter_sublist
  · simpa using (List.mem_filter.mp hu).2
theorem dedE_many {α : Type} [DecidableEq α] {l s : List α} (n : s.Nodup) (h : ∀ x, x ∈ s ↔ x ∈ l) : (dedE l).length = s.length := by
  have nd : (dedE l).Nodup := by
    clear h
    induction l with
    | nil => exact .nil
    | cons x l ih =>
      unfold dedE
      split
      · exact ih
      · rename_i c
        exact List.nodup_cons.mpr ⟨fun z => c (inL_iff.mpr (mem_dedE.mp z)), ih⟩
  exact ((List.perm_ext_iff_of_nodup nd n).mpr fun x => by rw [mem_dedE]; exact (h x).symm).length_eq
end K18
end
section
set_option maxHeartbeats 4000000
namespace K18
open PySem Mini FrK
open L2 (atI)
theorem same_ok {n N : Nat} {d : D} (h : n < N) (k : Nice n d) : T_law_same N d d = some true := f_same T_law_same (fun _ _ _ => rfl) n N d h k
theorem tt_at {α β : Type} {l : List α} {i : Int} {k : α → Option (β × List Int)} {P : α → Prop} {Q : β → Prop} (h : ∀ x ∈ l, P x) (h0 : 0 ≤ i) (h1 : i < l.length) (g : ∀ x, P x → TT (k x) Q) : TT (obn (atI l i) k) Q := by
  obtain ⟨x, hx, e⟩ := atI_some h0 h1
  exact tt_eq e (g x (h x hx))
abbrev abc : List Str := [("a" : Str), ("b" : Str), ("c" : Str), ("d" : Str), ("e" : Str)]
theorem sub_nv {m : List Str} (h : m.Sublist abc) : ∃ v, m = nv v := by
  have k : ((subs abc).all fun m => all32.any fun v => decide (m = nv v)) = true := by decide +kernel
  obtain ⟨v, _, e⟩ := List.any_eq_true.mp (List.all_eq_true.mp k m (mem_subs h))
  exact ⟨v, of_decide_eq_true e⟩
theorem nv_sub (v : V5) : (nv v).Sublist abc := by
  have k := by32 (p := fun v => (subs abc).any fun m => decide (m = nv v)) (by decide +kernel) v
  obtain ⟨m, hm, e⟩ := List.any_eq_true.mp k
  have e := of_decide_eq_true e
  subst e
  clear k
  revert hm
  have : ∀ (l m : List Str), m ∈ subs l → m.Sublist l := fun l => by
    induction l with
    | nil => intro m hm; rw [List.mem_singleton.mp hm]; exact .slnil
    | cons x l ih =>
      intro m hm
      rcases List.mem_append.mp hm with z | z
      · exact (ih m z).cons x
      · obtain ⟨q, hq, rfl⟩ := List.mem_map.mp z
        exact (ih q hq).cons_cons x
  exact this _ _
theorem eqs_ok (t : List Int) : TT (T_law_equations 7 t) fun l => ∃ eqs : List Eq5, l = eqs.map eE ∧ eqs.length ≤ 7 := by
  unfold T_law_equations
  refine tt_lett (tt_tbn (tt_drw (by decide)) fun d t1 hd => ?_)
  obtain ⟨n, rfl⟩ : ∃ n : Nat, d = (n : Int) := ⟨d.toNat, by omega⟩
  refine tt_eq (rngO_len (by omega)) ?_
  refine tt_tbn (tt_foldK (I := fun m l => ∃ eqs : List Eq5, l = eqs.map eE ∧ eqs.length + m ≤ n) (fun m s x t _ ⟨eqs, e1, e2⟩ => ?_) ?_) fun s t2 ⟨eqs, e1, e2⟩ => tt_some ⟨eqs, e1, by omega⟩
  · refine tt_tbn (tt_filter fun x hx t => tt_tbn (tt_drw (by decide)) fun d t _ => tt_if (fun _ => tt_some fun y h => by cases h; rfl) fun _ => tt_some fun y h => by cases h) fun r t2 hr => tt_tbn (tt_drw (by decide)) fun b t3 hb => ?_
    obtain ⟨v, rfl⟩ := sub_nv hr
    refine tt_eq (apnO_ok (by rw [e1, List.length_map]; omega)) (tt_some ⟨eqs ++ [(v, decide (b = 1))], ?_, by rw [List.length_append]; show eqs.length + 1 + m ≤ n; omega⟩)
    rw [e1, List.map_append]
    have : bi (decide (b = 1)) = b := by
      unfold bi
      by_cases c : b = 1
      · rw [decide_eq_true c, if_pos rfl, c]
      · rw [decide_eq_false c, if_neg (by decide)]; omega
    show _ = _ ++ [(nv v, bi (decide (b = 1)))]
    rw [this]
  · refine ⟨[], rfl, ?_⟩
    rw [rngT_len]; simp
def S32 : List V5 := (srtE (eT D.str) (rws abc)).filterMap fun r => all32.find? fun v => decide (nv v = r)
theorem S32_rows : srtE (eT D.str) (rws abc) = S32.map nv := by decide +kernel
theorem mem_S32 (v : V5) : v ∈ S32 := by
  have k := by32 (p := fun v => decide (v ∈ S32)) (by decide +kernel) v
  exact of_decide_eq_true k
theorem rows_ok : T_law_rows abc = some (S32.map nv) := by
  rw [← S32_rows]
  exact f_rows (F := T_law_rows) (fun _ => rfl) (by decide)
theorem rowsof_ok : T_rows_of (("a" : Str), ("b" : Str), ("c" : Str), ("d" : Str), ("e" : Str)) = some (S32.map nv) := by
  rw [← S32_rows]
  decide +kernel
def good (eqs : List Eq5) (v : V5) : Bool := eqs.all fun e => kp v e.1 e.2
theorem good_ok {eqs : List Eq5} : List.filter (fun (x389 : (List Str)) => (decide (((List.filter (fun (x390 : ((List Str) × Int)) => (!(T_law_even x390 x389))) (eqs.map eE)).length : Int) = (0 : Int)))) (S32.map nv) = (S32.filter (good eqs)).map nv := by
  rw [List.filter_map]
  congr 1
  refine List.filter_congr fun v _ => ?_
  show decide (((List.filter (fun (x390 : ((List Str) × Int)) => (!(T_law_even x390 (nv v)))) (eqs.map eE)).length : Int) = 0) = good eqs v
  rw [fl0, List.all_map]
  unfold good
  congr 1
  funext e
  show (!(!T_law_even (nv e.1, bi e.2) (nv v))) = _
  rw [Bool.not_not, even_ok]; rfl
theorem all_kept {eqs : List Eq5} {v : V5} : allO (fun (x238 : ((List Str) × Int)) => obn (T_is_kept x238 ((eT D.str) (nv v))) fun x240 => some x240) (eqs.map eE) = some (good eqs v) := by
  rw [allO_map]
  refine allO_some fun e _ => ?_
  show obn (T_is_kept (nv e.1, bi e.2) _) _ = _
  rw [kept_ok]; rfl
theorem keptrows_ok {eqs : List Eq5} : T_kept_rows (("a" : Str), ("b" : Str), ("c" : Str), ("d" : Str), ("e" : Str)) (eqs.map eE) = some ((S32.filter (good eqs)).map nv) := by
  unfold T_kept_rows
  rw [rowsof_ok, obn_some, cmpO_map, cmpO_some (g := fun v => if good eqs v = true then some (nv v) else none) fun v _ => ?_, obn_some, fm_if]
  rw [all_kept, obn_some]
  cases good eqs v <;> rfl
theorem row_len (v : V5) : setLO ((nv v).map D.str) = some ((nv v).length : Int) := of_decide_eq_true (by32 (p := fun v => decide (setLO ((nv v).map D.str) = some ((nv v).length : Int))) (by decide +kernel) v)
theorem isi_str {x : Str} : isiD .str (.str x) = some true := rfl
theorem strs_all {l : List Str} : allO (fun (x164 : D) => obn (isiD .str x164) fun x166 => some x166) (l.map D.str) = some true := by
  refine all_true fun x hx => ?_
  obtain ⟨y, _, rfl⟩ := List.mem_map.mp hx
  rfl
theorem judge_row {eqs : List Eq5} {v : V5} : T_judge_equations (eqs.map eE) (.tup [.str ("row" : Str), eT D.str (nv v)]) = some (good eqs v) := by
  unfold T_judge_equations
  simp only [isi_tup, obn_some, itD_tup, ix10, ix21, isi_str, eT, eqV_s, strs_all, row_len, List.length_map, decide_true, Bool.not_true, if_true, Bool.false_eq_true, if_false, List.length_cons, List.length_nil]
  have := all_kept (eqs := eqs) (v := v)
  simp only [eT] at this
  simp [this]
  rfl
theorem at_eq {eqs : List Eq5} {i : Int} (h : 0 ≤ i) (k : i < (eqs.length : Int)) : atI (eqs.map eE) i = some (nv (at5 eqs i).1, bi (at5 eqs i).2) := by
  obtain ⟨x, e1, e2⟩ := atI_get (l := eqs) h (by omega)
  rw [atI_map, e2]
  unfold at5
  rw [e1]; rfl
theorem comes_fold {eqs : List Eq5} : ∀ {lot : List Int} {u : V5} {c : Bool} {T : Int}, (∀ i ∈ lot, 0 ≤ i ∧ i < (eqs.length : Int)) → T % 2 = bi c → ∃ T', foldO (fun (s373 : (List Str) × Int) (x375 : D) => obn (asI x375) fun x377 => obn (atI (eqs.map eE) x377) fun x378 => obn (T_law_plus s373.1 x378.1) fun x379 => lett x379 fun (names380 : (List Str)) => obn (asI x375) fun x381 => obn (atI (eqs.map eE) x381) fun x382 => lett (s373.2 + x382.2) fun (total383 : Int) => (some (names380, total383))) (lot.map D.int) (nv u, T) = some (nv (xr (u, c) (sumL eqs lot)).1, T') ∧ T' % 2 = bi (xr (u, c) (sumL eqs lot)).2
  | [], u, c, T, _, h => ⟨T, by show some _ = some (nv (xr (u, c) (0#5, false)).1, T); rw [xr_zero], by show T % 2 = bi (xr (u, c) (0#5, false)).2; rw [xr_zero]; exact h⟩
  | i :: lot, u, c, T, hl, h => by
    have hi := hl i List.mem_cons_self
    obtain ⟨T', e1, e2⟩ := comes_fold (lot := lot) (u := u ^^^ (at5 eqs i).1) (c := c ^^ (at5 eqs i).2) (T := T + bi (at5 eqs i).2) (fun q hq => hl q (List.mem_cons_of_mem _ hq)) (by rw [← bi_add, ← h]; omega)
    have e : xr (u, c) (sumL eqs (i :: lot)) = xr (u ^^^ (at5 eqs i).1, c ^^ (at5 eqs i).2) (sumL eqs lot) := by
      show xr (u, c) (xr _ _) = _
      rw [← xr_assoc]; rfl
    refine ⟨T', ?_, by rw [e]; exact e2⟩
    rw [List.map_cons]
    unfold foldO
    rw [e, ← e1]
    show obn (obn (some i) _) _ = _
    rw [obn_some, at_eq hi.1 hi.2, obn_some, plus_ok, obn_some]
    dsimp only [lett, asI]
    rw [obn_some, at_eq hi.1 hi.2, obn_some, obn_some]
theorem comes_ok {eqs : List Eq5} {lot : List Int} (h : ∀ i ∈ lot, 0 ≤ i ∧ i < (eqs.length : Int)) : T_law_comes (eqs.map eE) (lot.map D.int) = some (decide (sumL eqs lot = (0#5, true))) := by
  unfold T_law_comes
  dsimp only [lett]
  obtain ⟨T, e1, e2⟩ := comes_fold (u := 0#5) (c := false) (T := 0) h rfl
  rw [zero_xr] at e1 e2
  have z : nv 0#5 = [] := by decide
  rw [z] at e1
  dsimp only [lett] at e1
  rw [e1, obn_some]
  dsimp only
  congr 1
  have : T - 2 * (T / 2) = bi (sumL eqs lot).2 := by rw [← e2]; omega
  rw [this]
  cases e : sumL eqs lot with
  | mk v b =>
    dsimp only
    rw [Bool.eq_iff_iff, Bool.and_eq_true, decide_eq_true_iff, decide_eq_true_iff, decide_eq_true_iff, Prod.mk.injEq]
    have : nv v = [] ↔ v = 0#5 := ⟨fun e => nv_inj (by rw [e, z]), fun e => by rw [e, z]⟩
    rw [this]
    cases b <;> simp [bi]
theorem sumof_fold {eqs : List Eq5} : ∀ {lot : List Int} {u : V5} {c : Bool}, (∀ i ∈ lot, 0 ≤ i ∧ i < (eqs.length : Int)) → foldO (fun (s61 : (List Str) × Int) (x63 : D) => obn (asI x63) fun x65 => obn (atI (eqs.map eE) x65) fun x66 => obn (T_added s61.1 x66.1) fun x67 => lett x67 fun (names68 : (List Str)) => obn (asI x63) fun x69 => obn (atI (eqs.map eE) x69) fun x70 => lett ((s61.2 + x70.2) % (2 : Int)) fun (total71 : Int) => (some (names68, total71))) (lot.map D.int) (nv u, bi c) = some (nv (xr (u, c) (sumL eqs lot)).1, bi (xr (u, c) (sumL eqs lot)).2)
  | [], u, c, _ => by show some _ = some (nv (xr (u, c) (0#5, false)).1, bi (xr (u, c) (0#5, false)).2); rw [xr_zero]
  | i :: lot, u, c, hl => by
    have hi := hl i List.mem_cons_self
    have e1 := sumof_fold (lot := lot) (u := u ^^^ (at5 eqs i).1) (c := c ^^ (at5 eqs i).2) (fun q hq => hl q (List.mem_cons_of_mem _ hq))
    have e : xr (u, c) (sumL eqs (i :: lot)) = xr (u ^^^ (at5 eqs i).1, c ^^ (at5 eqs i).2) (sumL eqs lot) := by
      show xr (u, c) (xr _ _) = _
      rw [← xr_assoc]; rfl
    rw [List.map_cons]
    unfold foldO
    rw [e, ← e1]
    show obn (obn (some i) _) _ = _
    rw [obn_some, at_eq hi.1 hi.2, obn_some, added_ok, obn_some]
    dsimp only [lett, asI]
    rw [obn_some, at_eq hi.1 hi.2, obn_some, obn_some, bi_add]
theorem sumof_ok {eqs : List Eq5} {lot : List Int} (h : ∀ i ∈ lot, 0 ≤ i ∧ i < (eqs.length : Int)) : T_sum_of (eqs.map eE) (.tup (lot.map D.int)) = some (nv (sumL eqs lot).1, bi (sumL eqs lot).2) := by
  unfold T_sum_of
  dsimp only [lett]
  have e1 := sumof_fold (u := 0#5) (c := false) h
  rw [zero_xr] at e1
  have z : nv 0#5 = [] := by decide
  rw [z] at e1
  dsimp only [lett, bi] at e1
  rw [itD_tup, obn_some]
  have e1' := e1
  rw [if_neg (by decide)] at e1'
  rw [e1', obn_some]; rfl
theorem set_ints {m : Nat} {lot : List Int} (h : okR m lot) (h4 : lot.length < 4000) : setLO (lot.map D.int) = some (lot.length : Int) := by
  unfold setLO wSetLen
  rw [asInts_map]
  dsimp only
  rw [List.length_map, if_pos h4, us_id h]
theorem number_ok {i : Int} (h : 0 ≤ i) : T_is_number (.int i) = some true := by
  unfold T_is_number
  rw [show isiD .int (.int i) = some true from rfl, obn_some, if_pos rfl, show isiD .bool (.int i) = some false from rfl, obn_some]
  show obn (obn (obn (some (decide (0 ≤ i))) _) _) _ = _
  rw [decide_eq_true h]; rfl
theorem judge_lot {eqs : List Eq5} {lot : List Int} (h : okR eqs.length lot) (h7 : eqs.length ≤ 7) : T_judge_equations (eqs.map eE) (.tup [.str ("lot" : Str), .tup (lot.map D.int)]) = some (decide (sumL eqs lot = (0#5, true))) := by
  unfold T_judge_equations
  have al : allO (fun (x197 : D) => obn (T_is_number x197) fun x199 => obn (if x199 = true then obn (asI x197) fun x200 => some (decide (x200 < ((eqs.map eE).length : Int))) else some false) fun x204 => some x204) (lot.map D.int) = some true := by
    refine all_true fun x hx => ?_
    obtain ⟨i, hi, rfl⟩ := List.mem_map.mp hx
    have := h.2 i hi
    rw [number_ok this.1, obn_some, if_pos rfl]
    show obn (some (decide (i < _))) _ = _
    rw [List.length_map, decide_eq_true (by omega)]; rfl
  have l7 := okR_le h
  have ne : decide (("lot" : Str) = "row") = false := by decide +kernel
  simp only [isi_tup, obn_some, itD_tup, ix10, ix21, isi_str, eqV_s, ne, decide_true, Bool.not_true, if_true, Bool.false_eq_true, if_false, List.length_cons, List.length_nil]
  rw [al, set_ints h (by omega), sumof_ok h.2]
  have fin : decide ((nv (sumL eqs lot).1, bi (sumL eqs lot).2) = (([] : List Str), (1 : Int))) = decide (sumL eqs lot = (0#5, true)) := by
    rw [Bool.eq_iff_iff, decide_eq_true_iff, decide_eq_true_iff]
    cases sumL eqs lot with
    | mk v b =>
      have z : nv 0#5 = [] := by decide
      have : nv v = [] ↔ v = 0#5 := ⟨fun e => nv_inj (by rw [e, z]), fun e => by rw [e, z]⟩
      show (nv v, bi b) = ([], 1) ↔ _
      rw [Prod.mk.injEq, Prod.mk.injEq, this]
      cases b <;> simp [bi]
  rw [← fin]
  simp only [obn_some, List.length_map, decide_true, Bool.not_true, if_true, Bool.false_eq_true, if_false]
  rfl
theorem decide_ok {eqs : List Eq5} (h : eqs.length ≤ 7) : (∃ v, T_decide_equations (eqs.map eE) = some (("row" : Str), (nv v).map D.str) ∧ good eqs v = true) ∨ (∃ lot, T_decide_equations (eqs.map eE) = some (("lot" : Str), lot.map D.int) ∧ okR eqs.length lot ∧ sumL eqs lot = (0#5, true)) := by
  unfold T_decide_equations
  obtain ⟨e1, e2⟩ := reduced_ok h
  rw [e1, obn_some]
  dsimp only [lett]
  have fd : ∀ (l : List Rw), loopP (fun (s127 : Unit) (x129 : ((List Str) × Int × (List Int))) => if ((!(!x129.1.isEmpty)) && (decide (x129.2.1 = (1 : Int)))) = true then (LR.rt (("lot" : Str), (List.map (fun (y130 : Int) => (D.int y130)) x129.2.2))) else (LR.nx ())) (l.map enc) () = match l.find? fun r => (r.1 == 0#5) && r.2.1 with
      | some r => .rt (("lot" : Str), r.2.2.map D.int)
      | none => .nx () := fun l => by
    induction l with
    | nil => rfl
    | cons r l ih =>
      rw [List.map_cons, List.find?_cons]
      unfold loopP
      have pe : ((!(!(enc r).1.isEmpty)) && (decide ((enc r).2.1 = (1 : Int)))) = ((r.1 == 0#5) && r.2.1) := by
        unfold enc
        dsimp only
        rw [emp_ok, Bool.not_not]
        cases r.2.1 <;> rfl
      rw [pe]
      cases c : (r.1 == 0#5) && r.2.1 with
      | true => rw [if_pos rfl]; rfl
      | false => rw [if_neg (by decide)]; exact ih
  rw [fd]
  cases c : (red eqs).find? fun r => (r.1 == 0#5) && r.2.1 with
  | some r =>
    refine .inr ⟨r.2.2, rfl, ?_, ?_⟩
    all_goals
      have hr := List.mem_of_find?_eq_some c
      have hp := List.find?_some c
      rw [Bool.and_eq_true] at hp
      have s := red_sum h r hr
    · exact ⟨s.2.1, fun i hi => ⟨(s.1.2 i hi).1, s.2.2.1 i hi⟩⟩
    · rw [s.2.2.2, eq_of_beq hp.1, hp.2]
  | none =>
    refine .inl ⟨xOf (red eqs), ?_, ?_⟩
    · obtain ⟨fs, f1, f2⟩ := firsts_ok (red_apart (eqs := eqs))
      show obn _ _ = _
      rw [f1, obn_some, f2]
    · unfold good
      rw [← kp_red]
      refine List.all_eq_true.mpr fun r hr => ?_
      unfold kp
      by_cases z : (r.1 == 0#5) = true
      · have := List.find?_eq_none.mp c r hr
        rw [z, Bool.true_and] at this
        have d0 : dot 0#5 (xOf (red eqs)) = false := by
          have k := by32 (p := fun v => !dot 0#5 v) (by decide +kernel) (xOf (red eqs))
          simpa using k
        rw [eq_of_beq z, d0]
        cases q : r.2.1
        · rfl
        · rw [q] at this; exact absurd rfl this
      · rw [dot_xOf (red_apart (eqs := eqs)) r hr (nz z)]; exact beq_self_eq_true _
theorem no_good {eqs : List Eq5} {lot : List Int} (h : okR eqs.length lot) (k : sumL eqs lot = (0#5, true)) (v : V5) : good eqs v = false := by
  cases g : good eqs v with
  | false => rfl
  | true =>
    exfalso
    have key : ∀ l : List Int, (∀ i ∈ l, 0 ≤ i ∧ i < (eqs.length : Int)) → dot (sumL eqs l).1 v = (sumL eqs l).2 := fun l => by
      induction l with
      | nil =>
        intro _
        have k := by32 (p := fun v => !dot 0#5 v) (by decide +kernel) v
        show dot 0#5 v = false
        simpa using k
      | cons i l ih =>
        intro hl
        have hi := hl i List.mem_cons_self
        show dot (_ ^^^ _) v = (_ ^^ _)
        rw [dot_xor, ih fun q hq => hl q (List.mem_cons_of_mem _ hq)]
        congr 1
        obtain ⟨x, e1, _⟩ := atI_get (l := eqs) hi.1 (by omega)
        unfold at5
        rw [e1]
        exact eq_of_beq (List.all_eq_true.mp g x (List.mem_of_getElem? e1))
    have := key lot h.2
    rw [k] at this
    have k := by32 (p := fun v => !dot 0#5 v) (by decide +kernel) v
    rw [this] at k
    cases k
end K18
end
section
set_option maxHeartbeats 4000000
namespace K18
open PySem Mini FrK
open L2 (atI)
def vl (eqs : List Eq5) (k : Str) : V5 := (at5 eqs ((intSO k).getD 0)).1
def xs (g : Str → V5) : List Str → V5
  | [] => 0#5
  | k :: l => g k ^^^ xs g l
theorem mem_spn {g : Str → V5} : ∀ {l : List Str} (v : V5), v ∈ spn (l.map g) ↔ ∃ r, r.Sublist l ∧ v = xs g r
  | [], v => ⟨fun h => ⟨[], .slnil, List.mem_singleton.mp h⟩, fun ⟨r, h, e⟩ => by rw [List.sublist_nil.mp h] at e; exact List.mem_singleton.mpr e⟩
  | k :: l, v => by
    show v ∈ spn (l.map g) ++ (spn (l.map g)).map (g k ^^^ ·) ↔ _
    rw [List.mem_append, mem_spn, List.mem_map]
    constructor
    · rintro (⟨r, h, e⟩ | ⟨c, hc, rfl⟩)
      · exact ⟨r, h.cons k, e⟩
      · obtain ⟨r, h, rfl⟩ := (mem_spn c).mp hc
        exact ⟨k :: r, h.cons_cons k, rfl⟩
    · rintro ⟨r, h, e⟩
      cases h with
      | cons _ h => exact .inl ⟨r, h, e⟩
      | cons_cons _ h => exact .inr ⟨_, (mem_spn _).mpr ⟨_, h, rfl⟩, e.symm⟩
def dig (n : Nat) : List Str := (rngT 0 (n : Int)).map numT
theorem dig_ok {n : Nat} (h : n ≤ 7) : mapO (fun (x424 : Int) => obn (strO x424) fun x426 => some x426) (rngT 0 (n : Int)) = some (dig n) := by
  refine mapO_some fun x hx => ?_
  have := mem_rngT.mp hx
  unfold strO
  rw [if_pos (by omega), obn_some]
theorem int_dig : ∀ i : Int, 0 ≤ i → i < 7 → intSO (numT i) = some i := by
  have k : ((rngT 0 7).all fun i => decide (intSO (numT i) = some i)) = true := by decide +kernel
  intro i h0 h1
  exact of_decide_eq_true (List.all_eq_true.mp k i (mem_rngT.mpr ⟨h0, h1⟩))
theorem dig_vl {eqs : List Eq5} (h : eqs.length ≤ 7) : (dig eqs.length).map (vl eqs) = eqs.map (·.1) := by
  unfold dig rngT
  rw [List.map_map, List.map_map]
  apply List.ext_getElem?
  intro i
  rw [List.getElem?_map, List.getElem?_map]
  by_cases c : i < eqs.length
  · rw [List.getElem?_range (show i < ((eqs.length : Int) - 0).toNat by omega), List.getElem?_eq_getElem c]
    show some (vl eqs (numT (0 + (i : Int)))) = some _
    unfold vl
    rw [int_dig _ (by omega) (by omega)]
    unfold at5
    simp [c]
  · rw [List.getElem?_eq_none (by simp; omega), List.getElem?_eq_none (by omega)]; rfl
theorem left_ok {eqs : List Eq5} (h : eqs.length ≤ 7) : ∀ {lot : List Str} {u : V5}, (∀ k ∈ lot, k ∈ dig eqs.length) → foldO (fun (s442 : (List Str)) (x444 : Str) => obn (intSO x444) fun x446 => obn (atI (eqs.map eE) x446) fun x447 => obn (T_law_plus s442 x447.1) fun x448 => lett x448 fun (left449 : (List Str)) => (some left449)) lot (nv u) = some (nv (u ^^^ xs (vl eqs) lot))
  | [], u, _ => by show some _ = some (nv (u ^^^ 0#5)); rw [BitVec.xor_zero]
  | k :: lot, u, hl => by
    obtain ⟨i, hi, rfl⟩ := List.mem_map.mp (hl k List.mem_cons_self)
    have hi := mem_rngT.mp hi
    have ei := int_dig i hi.1 (by omega)
    unfold foldO
    rw [ei, obn_some, at_eq hi.1 hi.2, obn_some, plus_ok, obn_some]
    dsimp only [lett]
    rw [obn_some]
    have := left_ok h (lot := lot) (u := u ^^^ (at5 eqs i).1) fun q hq => hl q (List.mem_cons_of_mem _ hq)
    dsimp only [lett] at this
    rw [this]
    show _ = some (nv (u ^^^ (vl eqs (numT i) ^^^ _)))
    unfold vl
    rw [ei, BitVec.xor_assoc]; rfl
theorem sums_ok {eqs : List Eq5} (h : eqs.length ≤ 7) : ∃ L : List V5, (obn (mapO (fun (x424 : Int) => obn (strO x424) fun x426 => some x426) (rngT 0 (eqs.length : Int))) fun x431 => obn (T_law_rows x431) fun x432 => foldO (fun (s433 : (List (List Str))) (x435 : (List Str)) => lett ([] : (List Str)) fun (left441 : (List Str)) => obn (foldO (fun (s442 : (List Str)) (x444 : Str) => obn (intSO x444) fun x446 => obn (atI (eqs.map eE) x446) fun x447 => obn (T_law_plus s442 x447.1) fun x448 => lett x448 fun (left449 : (List Str)) => (some left449)) x435 left441) fun (s442 : (List Str)) => obn (apnO s433 s442) fun l450 => (some l450)) x432 []) = some (L.map nv) ∧ ∀ v, v ∈ L ↔ v ∈ spn (eqs.map (·.1)) := by
  have dl : (dig eqs.length).length ≤ 16 := by unfold dig; rw [List.length_map, rngT_len]; omega
  rw [dig_ok h, obn_some, f_rows (F := T_law_rows) (fun _ => rfl) dl, obn_some]
  have key : ∀ (ls : List (List Str)) (acc : List V5), (∀ l ∈ ls, ∀ k ∈ l, k ∈ dig eqs.length) → acc.length + ls.length ≤ 1000 → foldO (fun (s433 : (List (List Str))) (x435 : (List Str)) => lett ([] : (List Str)) fun (left441 : (List Str)) => obn (foldO (fun (s442 : (List Str)) (x444 : Str) => obn (intSO x444) fun x446 => obn (atI (eqs.map eE) x446) fun x447 => obn (T_law_plus s442 x447.1) fun x448 => lett x448 fun (left449 : (List Str)) => (some left449)) x435 left441) fun (s442 : (List Str)) => obn (apnO s433 s442) fun l450 => (some l450)) ls (acc.map nv) = some ((acc ++ ls.map (xs (vl eqs))).map nv) := fun ls => by
    induction ls with
    | nil => intro acc _ _; rw [List.map_nil, List.append_nil]; rfl
    | cons l ls ih =>
      intro acc hl ha
      rw [List.length_cons] at ha
      unfold foldO
      have e := left_ok h (lot := l) (u := 0#5) (hl l List.mem_cons_self)
      rw [show nv 0#5 = [] by decide, BitVec.zero_xor] at e
      dsimp only [lett] at e ih ⊢
      rw [e, obn_some, apnO_ok (by rw [List.length_map]; omega), obn_some, obn_some]
      have ih := ih (acc ++ [xs (vl eqs) l]) (fun q hq => hl q (List.mem_cons_of_mem _ hq)) (by rw [List.length_append]; show acc.length + 1 + _ ≤ _; omega)
      rw [List.map_append] at ih
      refine ih.trans ?_
      rw [List.map_cons, List.append_assoc]; rfl
  refine ⟨(srtE (eT D.str) (rws (dig eqs.length))).map (xs (vl eqs)), ?_, fun v => ?_⟩
  · refine key _ [] (fun l hl k hk => (mem_rws.mp (mem_srtE.mp hl)).subset hk) ?_
    rw [(srtE_perm _).length_eq, rws_len _ _ rfl]
    have : (dig eqs.length).length ≤ 7 := by unfold dig; rw [List.length_map, rngT_len]; omega
    have : 2 ^ (dig eqs.length).length ≤ 2 ^ 7 := Nat.pow_le_pow_right (by decide) this
    show 0 + _ ≤ _
    omega
  · rw [← dig_vl h, mem_spn, List.mem_map]
    constructor
    · rintro ⟨r, hr, e⟩; exact ⟨r, mem_rws.mp (mem_srtE.mp hr), e.symm⟩
    · rintro ⟨r, hr, e⟩; exact ⟨r, mem_srtE.mpr (mem_rws.mpr hr), e.symm⟩
def rdV (a r : V5) : V5 := if has a r = true then a ^^^ r else a
def st1V (rows : List V5) (e : V5) : List V5 := if (rows.foldl rdV e) == 0#5 then rows ++ [rows.foldl rdV e] else rows.map (fun r => rdV r (rows.foldl rdV e)) ++ [rows.foldl rdV e]
theorem fold_lf : ∀ {rows : List Rw} {a : Rw}, (rows.foldl rd a).1 = (lf rows).foldl rdV a.1
  | [], a => rfl
  | r :: rows, a => by
    rw [List.foldl_cons, fold_lf, rd_eq]; rfl
theorem st1_lf {rows : List Rw} {e : Rw} : lf (st1 rows e) = st1V (lf rows) e.1 := by
  unfold st1 st1V
  rw [← fold_lf]
  split
  · unfold lf; rw [List.map_append]; rfl
  · unfold lf
    rw [List.map_append, List.map_map, List.map_map]
    congr 1
    refine List.map_congr_left fun r _ => ?_
    show (jn r _).1 = _
    rw [jn_eq]; rfl
theorem red_lf {eqs : List Eq5} : lf (red eqs) = (eqs.map (·.1)).foldl st1V [] := by
  have key : ∀ (q : List Eq5) (n : Nat) (rows : List Rw), lf ((enT n q).foldl (fun rows p => st1 rows (p.2.1, p.2.2, [p.1])) rows) = (q.map (·.1)).foldl st1V (lf rows) := fun q => by
    induction q with
    | nil => intro n rows; rfl
    | cons e q ih =>
      intro n rows
      show lf ((enT (n + 1) q).foldl (fun rows p => st1 rows (p.2.1, p.2.2, [p.1])) (st1 rows (e.1, e.2, [(n : Int)]))) = _
      rw [ih, st1_lf]; rfl
  exact key eqs 0 []
theorem rank_ok {eqs : List Eq5} (h : eqs.length ≤ 7) : ∃ k : Nat, T_rank (eqs.map eE) = some (k : Int) ∧ k ≤ 7 ∧ ∃ s : List V5, s.Nodup ∧ s.length = 2 ^ k ∧ ∀ v, v ∈ s ↔ v ∈ spn (eqs.map (·.1)) := by
  have e0 : List.map (fun (x230 : ((List Str) × Int)) => (x230.1, (0 : Int))) (eqs.map eE) = (eqs.map fun e => (e.1, false)).map eE := by
    rw [List.map_map, List.map_map]; rfl
  obtain ⟨e1, _⟩ := reduced_ok (eqs := eqs.map fun e => (e.1, false)) (by rw [List.length_map]; exact h)
  obtain ⟨s, s1, s2, s3⟩ := red_many (eqs := eqs)
  refine ⟨((lf (red eqs)).filter fun u => !(u == 0#5)).length, ?_, ?_, s, s1, s2, s3⟩
  · unfold T_rank
    rw [e0, e1, obn_some, List.length_map, List.filter_map, List.length_map]
    have : lf (red (eqs.map fun e => (e.1, false))) = lf (red eqs) := by
      rw [red_lf, red_lf, List.map_map]; rfl
    rw [← this]
    unfold lf
    rw [List.filter_map, List.length_map]
    congr 3
    refine List.filter_congr fun r _ => ?_
    show (!(nv r.1).isEmpty) = !(r.1 == 0#5)
    rw [emp_ok]
  · have hl : ∀ (q : List V5) (rows : List V5), (q.foldl st1V rows).length = rows.length + q.length := fun q => by
      induction q with
      | nil => intro rows; rfl
      | cons e q ih =>
        intro rows
        rw [List.foldl_cons, ih]
        have : (st1V rows e).length = rows.length + 1 := by
          unfold st1V
          split
          · rw [List.length_append]; rfl
          · rw [List.length_append, List.length_map]; rfl
        rw [this, List.length_cons]; omega
    have z : (lf (red eqs)).length = eqs.length := by rw [red_lf, hl, List.length_map]; exact Nat.zero_add _
    exact Nat.le_trans (List.length_filter_le _ _) (by omega)
theorem two_pow (k : Nat) : List.foldl (fun (s418 : Int) (x420 : Int) => lett (s418 * (2 : Int)) fun (many421 : Int) => many421) 1 (rngT 0 (k : Int)) = ((2 ^ k : Nat) : Int) := by
  unfold rngT
  rw [List.foldl_map]
  have : ∀ (l : List Nat) (a : Int), l.foldl (fun (s : Int) (_ : Nat) => lett (s * (2 : Int)) fun (many421 : Int) => many421) a = a * ((2 ^ l.length : Nat) : Int) := fun l => by
    induction l with
    | nil => intro a; simp
    | cons x l ih =>
      intro a
      rw [List.foldl_cons, ih, List.length_cons, Nat.pow_succ]
      dsimp only [lett]
      push_cast
      rw [Int.mul_assoc, Int.mul_comm 2]
  rw [this, List.length_range]
  rw [show ((k : Int) - 0).toNat = k by omega]
  omega
theorem nice_rows {l : List V5} (h : l.length ≤ 1000) : Nice 3 (eT (eT D.str) (l.map nv)) := by
  refine nice_T (by rw [List.length_map]; omega) fun x hx => ?_
  obtain ⟨v, _, rfl⟩ := List.mem_map.mp hx
  refine nice_T ?_ fun y _ => nice_s
  have := (nv_sub v).length_le
  have : abc.length = 5 := rfl
  omega
theorem in_good {eqs : List Eq5} {v : V5} : inL (nv v) ((S32.filter (good eqs)).map nv) = good eqs v := by
  rw [Bool.eq_iff_iff, inL_iff, List.mem_map]
  constructor
  · rintro ⟨w, hw, e⟩
    rw [← nv_inj e]
    exact (List.mem_filter.mp hw).2
  · intro h; exact ⟨v, List.mem_filter.mpr ⟨mem_S32 v, h⟩, rfl⟩
theorem bad_ok {eqs : List Eq5} (h : eqs.length ≤ 7) {lot : List D} : ∀ x ∈ ([D.non, ((eT (fun x : Empty => nomatch x)) ([] : List Empty)), (D.tup [(D.str ("row" : Str))]), (D.tup [(D.str ("row" : Str)), D.non]), (D.tup [(D.str ("row" : Str)), ((eP2 D.str D.str) (("a" : Str), ("a" : Str)))]), (D.tup [(D.str ("lot" : Str)), ((eP1 D.int) (99 : Int))]), (D.tup [(D.str ("lot" : Str)), D.non]), (D.tup [(D.str ("lot" : Str)), ((eP3 D.int D.int D.int) ((0 : Int), (0 : Int), (0 : Int)))]), (D.tup [(D.str ("sum" : Str)), ((eT eD) lot)])] : List (D)), T_judge_equations (eqs.map eE) x = some false := by
  have ne : decide (("lot" : Str) = "row") = false := by decide +kernel
  have ne2 : decide (("sum" : Str) = "row") = false := by decide +kernel
  have ne3 : decide (("sum" : Str) = "lot") = false := by decide +kernel
  have aa : setLO [D.str "a", D.str "a"] = some 1 := by decide +kernel
  have zz : setLO [D.int 0, D.int 0, D.int 0] = some 1 := by decide +kernel
  have n99 : T_is_number (.int 99) = some true := number_ok (by decide)
  have n0 : T_is_number (.int 0) = some true := number_ok (by decide)
  intro x hx
  simp only [List.mem_cons, List.not_mem_nil, or_false] at hx
  rcases hx with rfl | rfl | rfl | rfl | rfl | rfl | rfl | rfl | rfl
  · rfl
  · rfl
  · unfold T_judge_equations; simp [isi_tup, obn_some, itD_tup]
  · unfold T_judge_equations; simp [isi_tup, obn_some, itD_tup, ix10, ix21, isi_str]; rfl
  · unfold T_judge_equations
    simp only [eP2, isi_tup, obn_some, itD_tup, ix10, ix21, isi_str, eqV_s, aa, decide_true, Bool.not_true, if_true, Bool.false_eq_true, if_false, List.length_cons, List.length_nil, allO]
    simp
    rfl
  · unfold T_judge_equations
    simp only [eP1, isi_tup, obn_some, itD_tup, ix10, ix21, isi_str, eqV_s, ne, n99, allO, asI, decide_true, Bool.not_true, if_true, Bool.false_eq_true, if_false, List.length_cons, List.length_nil, List.length_map]
    rw [decide_eq_false (show ¬ (99 : Int) < (eqs.length : Int) by omega)]
    simp
    rfl
  · unfold T_judge_equations; simp [isi_tup, obn_some, itD_tup, ix10, ix21, isi_str]; rfl
  · unfold T_judge_equations
    simp only [eP3, isi_tup, obn_some, itD_tup, ix10, ix21, isi_str, eqV_s, ne, n0, zz, allO, asI, decide_true, Bool.not_true, if_true, Bool.false_eq_true, if_false, List.length_cons, List.length_nil, List.length_map]
    by_cases c : (0 : Int) < (eqs.length : Int)
    · rw [decide_eq_true c]; simp; rfl
    · rw [decide_eq_false c]; simp; rfl
  · unfold T_judge_equations
    simp only [eT, isi_tup, obn_some, itD_tup, ix10, ix21, isi_str, eqV_s, ne2, ne3, decide_true, Bool.not_true, Bool.not_false, if_true, Bool.false_eq_true, if_false, List.length_cons, List.length_nil, List.length_map]
    simp
    rfl
theorem decs (l : List Str) : (eT eD) (l.map D.str) = eT D.str l := by unfold eT; rw [map_eD]
theorem deci (l : List Int) : (eT eD) (l.map D.int) = .tup (l.map D.int) := by unfold eT; rw [map_eD]
theorem law_true : ∀ t, ∃ t2, T_law 60 t = some (true, t2) := by
  intro t
  apply end_of
  unfold T_law
  refine tt_tbn (eqs_ok t) fun l t1 ⟨eqs, el, h7⟩ => ?_
  subst el
  refine tt_lett (tt_lett ?_)
  dsimp only
  rw [rows_ok]
  refine tt_eq rfl ?_
  rw [good_ok]
  refine tt_lett (tt_eq keptrows_ok (tt_eq (same_ok (by decide) (nice_rows ?_)) ?_))
  · have := List.length_filter_le (good eqs) S32
    have : S32.length = 32 := by decide +kernel
    omega
  rw [Bool.not_true]
  refine tt_if (fun h => by cases h) fun _ => ?_
  have P : OT (T_decide_equations (eqs.map eE)) fun p => T_judge_equations (eqs.map eE) ((eP2 D.str (eT eD)) p) = some true ∧ ((decide (p.1 = ("row" : Str))) = (decide ((0 : Int) < (((S32.filter (good eqs)).map nv).length : Int)))) ∧ (decide (p.1 = ("row" : Str)) = true → inO ((eT eD) p.2) (List.map (eT D.str) ((S32.filter (good eqs)).map nv)) = some true) ∧ (decide (p.1 = ("lot" : Str)) = true → T_law_comes (eqs.map eE) p.2 = some true ∧ ∃ q, wSetSort p.2 = some q ∧ eqLO p.2 q = some true) := by
    have nrl : decide (("row" : Str) = "lot") = false := by decide +kernel
    have nlr : decide (("lot" : Str) = "row") = false := by decide +kernel
    rcases decide_ok h7 with ⟨v, e, g⟩ | ⟨lot, e, ok, sm⟩
    · refine ⟨_, e, ?_, ?_, fun _ => ?_, fun h => ?_⟩
      · show T_judge_equations _ (.tup [.str ("row" : Str), (eT eD) ((nv v).map D.str)]) = _
        rw [decs, judge_row, g]
      · dsimp only
        rw [dc_self, decide_eq_true]
        have : 0 < ((S32.filter (good eqs)).map nv).length := List.length_pos_of_mem (List.mem_map.mpr ⟨v, List.mem_filter.mpr ⟨mem_S32 v, g⟩, rfl⟩)
        omega
      · dsimp only
        rw [decs, inO_em (eT D.str), in_good, g]
      · dsimp only at h
        rw [nrl] at h; cases h
    · have ln := okR_le ok
      refine ⟨_, e, ?_, ?_, fun h => ?_, fun _ => ⟨?_, ?_⟩⟩
      · show T_judge_equations _ (.tup [.str ("lot" : Str), (eT eD) (lot.map D.int)]) = _
        rw [deci, judge_lot ok h7, decide_eq_true sm]
      · dsimp only
        rw [nlr, List.filter_eq_nil_iff.mpr fun v _ => by rw [no_good ok sm v]; decide]
        rfl
      · dsimp only at h
        rw [nlr] at h; cases h
      · rw [comes_ok ok.2, decide_eq_true sm]
      · refine ⟨lot.map D.int, ?_, ?_⟩
        · unfold wSetSort
          dsimp only
          rw [asInts_map]
          dsimp only
          rw [List.length_map, if_pos (by omega), us_id ok]
        · unfold eqLO
          dsimp only
          rw [doks_map (e := D.int) (by decide), eqBs_map, dc_self]; rfl
  refine tt_obn P fun p ⟨p1, p2, p3, p4⟩ => tt_lett (tt_eq p1 ?_)
  rw [p2, dc_self]
  refine tt_if (fun h => by cases h) fun _ => ?_
  refine tt_obn (P := fun b => b = false) ?_ fun b hb => ?_
  · refine ot_if (fun h => ?_) fun _ => ot_some rfl
    rw [p3 (by rw [p2]; exact h)]; exact ot_some rfl
  subst hb
  refine tt_if (fun h => by cases h) fun _ => ?_
  refine tt_obn (P := fun b => b = false) ?_ fun b hb => ?_
  · refine ot_if (fun h => ?_) fun _ => ot_some rfl
    obtain ⟨q1, q, q2, q3⟩ := p4 h
    refine ot_eq q1 ?_
    rw [Bool.not_true]
    refine ot_obn (P := fun b => b = false) (ot_if (fun h => by cases h) fun _ => ot_eq q2 (ot_eq q3 (ot_some rfl))) fun b hb => ot_some hb
  subst hb
  refine tt_if (fun h => by cases h) fun _ => tt_lett ?_
  obtain ⟨k, k1, k2, s, s1, s2, s3⟩ := rank_ok h7
  refine tt_eq k1 (tt_eq (rngO_len (by omega)) ?_)
  rw [two_pow]
  refine tt_lett (tt_lett ?_)
  rw [List.length_map]
  refine tt_eq (rngO_len (by omega)) ?_
  obtain ⟨L, e1, e2⟩ := sums_ok h7
  obtain ⟨x1, f1, f2⟩ := obn_ex e1
  obtain ⟨x2, f3, f4⟩ := obn_ex f2
  refine tt_eq f1 (tt_eq f3 (tt_eq f4 ?_))
  have many : (dedE (L.map nv)).length = 2 ^ k := by
    rw [← s2, ← List.length_map (f := nv) (as := s)]
    refine dedE_many (List.pairwise_map.mpr (s1.imp fun h e => h (nv_inj e))) fun r => ?_
    rw [List.mem_map, List.mem_map]
    constructor
    · rintro ⟨v, hv, e⟩; exact ⟨v, (e2 v).mpr ((s3 v).mp hv), e⟩
    · rintro ⟨v, hv, e⟩; exact ⟨v, (s3 v).mpr ((e2 v).mp hv), e⟩
  have l32 : 2 ^ k ≤ 32 := by
    rw [← s2]
    have := List.Nodup.length_le_of_subset s1 (l₂ := all32) fun v _ => mem32 v
    exact this
  have sn : setN (L.map nv) = some ((2 ^ k : Nat) : Int) := by
    unfold setN
    rw [many, if_pos (by omega)]
  refine tt_eq sn ?_
  rw [dc_self]
  refine tt_if (fun h => by cases h) fun _ => ?_
  refine tt_eq rfl (tt_tbn (tt_drw (by decide)) fun d t2 hd => ?_)
  refine tt_at (P := fun r => ∃ v, r = nv v) (fun r hr => by obtain ⟨v, _, e⟩ := List.mem_map.mp hr; exact ⟨v, e.symm⟩) hd.1 (by rw [List.length_map, show S32.length = 32 by decide +kernel]; exact hd.2) fun r ⟨v, hv⟩ => ?_
  subst hv
  refine tt_lett (tt_eq judge_row ?_)
  rw [in_good]
  refine tt_eq (same_ok (n := 0) (by decide) nice_b) ?_
  rw [Bool.not_true]
  refine tt_if (fun h => by cases h) fun _ => tt_eq (rngO_len (by omega)) (tt_tbn (tt_filter fun x hx t => tt_tbn (tt_drw (by decide)) fun d t _ => tt_if (fun _ => tt_some fun y h => by cases h; rfl) fun _ => tt_some fun y h => by cases h) fun lot t3 hl => tt_lett ?_)
  have ok : okR eqs.length lot := ⟨(FrK.rng_pw _).sublist hl, fun i hi => mem_rngT.mp (hl.subset hi)⟩
  have lm : List.map (fun (y476 : Int) => (D.int y476)) lot = lot.map D.int := rfl
  rw [lm]
  have j : T_judge_equations (eqs.map eE) (D.tup [(D.str ("lot" : Str)), ((eT eD) (lot.map D.int))]) = some (decide (sumL eqs lot = (0#5, true))) := by rw [deci, judge_lot ok h7]
  refine tt_eq j (tt_eq (comes_ok ok.2) (tt_eq (same_ok (n := 0) (by decide) nice_b) ?_))
  rw [Bool.not_true]
  refine tt_if (fun h => by cases h) fun _ => tt_tbn (tt_drw (by decide)) fun d t4 hd => ?_
  refine tt_at (bad_ok h7 (lot := lot.map D.int)) hd.1 hd.2 fun x hx => tt_lett (tt_eq hx (tt_some rfl))
end K18
end
open PySem PySem.W PyProof.Rows
set_option maxRecDepth 100000 in
set_option maxHeartbeats 0 in
theorem PySem.Challenge.cw_proofabode_k18_equations_by_twos_holds : PySem.Challenge.rw_proofabode_k18_equations_by_twos.Holds := by
  w_on; o_law; k_head; (case hw => w_witness2)
  k_fill
  refine K18.walk (l := PySem.Challenge.rw_proofabode_k18_equations_by_twos) rfl rfl rfl (by decide +kernel) (fun w h Y => by first | exact PySem.W.kIn_of Y | exact PySem.W.km_in_of Y) (K18.law_end (by decide) K18.law_true) ?F
  case F =>
    intro w mg fa h KX G hmg
    refine' Exists.imp (fun t q => ⟨⟨_, rfl⟩, q.2⟩) (K18.all_mk KX G ?a0 ?l0 ?e0 ?a1 ?l1 ?e1 ?a2 ?l2 ?e2 ?a3 ?l3 ?e3 ?a4 ?l4 ?e4 ?a5 ?l5 ?e5 ?a6 ?l6 ?e6 ?a7 ?l7 ?e7 ?a8 ?l8 ?e8 ?a9 ?l9 ?e9 ?a10 ?l10 ?e10 ?a11 ?l11 ?e11 ?a12 ?l12 ?e12 ?a13 ?l13 ?e13 ?a14 ?l14 ?e14 ?a15 ?l15 ?e15 ?a16 ?l16 ?e16 ?a17 ?l17 ?e17 ?a18 ?l18 ?e18 ?a19 ?l19 ?e19 ?a20 ?l20 ?e20 ?a21 ?l21 ?e21 ?z_all ?z_bool ?z_enumerate ?z_int ?z_isinstance ?z_len ?z_list ?z_range ?z_set ?z_sorted ?z_str ?z_tuple)
    (case a0 => k_is)
    (case l0 => k_is)
    (case e0 => k_is)
    (case a1 => k_is)
    (case l1 => k_is)
    (case e1 => k_is)
    (case a2 => k_is)
    (case l2 => k_is)
    (case e2 => k_is)
    (case a3 => k_is)
    (case l3 => k_is)
    (case e3 => k_is)
    (case a4 => k_is)
    (case l4 => k_is)
    (case e4 => k_is)
    (case a5 => k_is)
    (case l5 => k_is)
    (case e5 => k_is)
    (case a6 => k_is)
    (case l6 => k_is)
    (case e6 => k_is)
    (case a7 => k_is)
    (case l7 => k_is)
    (case e7 => k_is)
    (case a8 => k_is)
    (case l8 => k_is)
    (case e8 => k_is)
    (case a9 => k_is)
    (case l9 => k_is)
    (case e9 => k_is)
    (case a10 => k_is)
    (case l10 => k_is)
    (case e10 => k_is)
    (case a11 => k_is)
    (case l11 => k_is)
    (case e11 => k_is)
    (case a12 => k_is)
    (case l12 => k_is)
    (case e12 => k_is)
    (case a13 => k_is)
    (case l13 => k_is)
    (case e13 => k_is)
    (case a14 => k_is)
    (case l14 => k_is)
    (case e14 => k_is)
    (case a15 => k_is)
    (case l15 => k_is)
    (case e15 => k_is)
    (case a16 => k_is)
    (case l16 => k_is)
    (case e16 => k_is)
    (case a17 => k_is)
    (case l17 => k_is)
    (case e17 => k_is)
    (case a18 => k_is)
    (case l18 => k_is)
    (case e18 => k_is)
    (case a19 => k_is)
    (case l19 => k_is)
    (case e19 => k_is)
    (case a20 => k_is)
    (case l20 => k_is)
    (case e20 => k_is)
    (case a21 => k_is)
    (case l21 => k_is)
    (case e21 => k_is)
    (case z_all => k_is)
    (case z_bool => k_is)
    (case z_enumerate => k_is)
    (case z_int => k_is)
    (case z_isinstance => k_is)
    (case z_len => k_is)
    (case z_list => k_is)
    (case z_range => k_is)
    (case z_set => k_is)
    (case z_sorted => k_is)
    (case z_str => k_is)
    (case z_tuple => k_is)
