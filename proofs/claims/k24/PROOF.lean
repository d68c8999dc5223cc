import PyProof.Rows.All
import Wide.All
import OpenK.AllK
import Wide.FinOn
import HandS.ForMost
import HandS.IsInst
import HandS.Style
import HandS.Flow
import HandS.AnyAll
import HandS.TupAny
import HandS.Comp
import HandS.GenList
import PyProof.TupleOfGen
import HandS.EndTab
import HandS.HeadHook4
import HandS.SetFor
import HandS.SetKeys
import HandS.TupSets
import HandS.SortInts
import HandS.Codes
import KE.SortData
import HandS.SetBool
import HandS.Dict
import KE.KeyNested
import KE.DataFind
import HandS.Deep
import KE.GoesEnum
import HandS.Zip
import PyProof.SumAny
import KE.DataMinMax
import KE.DataCmp
import HandS.FStr
import HandS.TupMul
import PySem.Challenge.RW_proofabode_k24_classes_of_gates
set_option Elab.async false
set_option linter.all false
set_option maxRecDepth 100000
section
namespace Mini
open PySem L2

inductive D where
  | non | bl (b : Bool) | int (i : Int) | str (x : Str) | tup (ds : List D) | loc (n : Nat)
  deriving Inhabited

inductive O where
  | lst (ds : List D)
  | frz (ds : List D)
  | dct (kvs : List (Key × D))
  deriving Inhabited

abbrev Sto := List O
class Tabs where
  ts : Addr → Prop
variable [Tabs]
abbrev EnvD := List (Option D)

mutual
inductive Rep (K : PySem.W.Frag) (ρ : List Addr) (H : Hp) : D → V → Prop
  | non : Rep K ρ H .non .non
  | bl (b : Bool) : Rep K ρ H (.bl b) (.bl b)
  | int (i : Int) : Rep K ρ H (.int i) (.int i)
  | str (x : Str) : Rep K ρ H (.str x) (.str x)
  | tup {ds : List D} {a : Addr} {vs : List V} : SqT K H a vs → Reps K ρ H ds vs → Rep K ρ H (.tup ds) (.ref a)
  | loc {n : Nat} {a : Addr} : ρ[n]? = some a → Rep K ρ H (.loc n) (.ref a)
inductive Reps (K : PySem.W.Frag) (ρ : List Addr) (H : Hp) : List D → List V → Prop
  | nil : Reps K ρ H [] []
  | cons {d : D} {v : V} {ds : List D} {vs : List V} : Rep K ρ H d v → Reps K ρ H ds vs → Reps K ρ H (d :: ds) (v :: vs)
end

def RepH (K : PySem.W.Frag) (ρ : List Addr) (H : Hp) : O → HO → Prop
  | .lst ds, .lst vs => Reps K ρ H ds vs
  | .dct ks, .dK vs => ks.map (·.1) = vs.map (·.1) ∧ Reps K ρ H (ks.map (·.2)) (vs.map (·.2))
  | _, _ => False
def RepO (K : PySem.W.Frag) (ρ : List Addr) (H : Hp) (a : Addr) (o : O) : Prop := match o with
  | .frz ds => ∃ vs, ((∃ u, H a = some (.frz u (.lst vs))) ∨ SqL K (fun _ => none) a vs) ∧ Reps K ρ H ds vs
  | o => ∃ h, H a = some h ∧ RepH K ρ H o h
def O.mut : O → Bool
  | .frz _ => false
  | _ => true

def CodeOb (o : Obj) (c P : Addr) : Prop :=
  ∃ vs file tf flags tg inF text tt, o.cls = .type "code" ∧ o.data = .fields vs ∧ vs[11]? = some (.ref P) ∧ vs.getD 11 .none = .ref P ∧ vs.getD 18 .none = .str file tf ∧
    vs.getD 7 .none = .int flags tg ∧ vs.getD 9 .none = .bool inF ∧ vs.getD 10 .none = .int text tt ∧ c ≠ P
theorem codeOb_of {h : Heap} {c P : Addr} (x : PySem.W.CodeHd h c P) : ∃ o, h.get? c = some o ∧ CodeOb o c P := by
  obtain ⟨o, vs, file, tf, flags, tg, inF, text, tt, e, r⟩ := x
  exact ⟨o, e, vs, file, tf, flags, tg, inF, text, tt, r⟩
theorem CodeOb.hd {h : Heap} {o : Obj} {c P : Addr} (x : CodeOb o c P) (e : h.get? c = some o) : PySem.W.CodeHd h c P := by
  obtain ⟨vs, file, tf, flags, tg, inF, text, tt, r⟩ := x
  exact ⟨o, vs, file, tf, flags, tg, inF, text, tt, e, r⟩
theorem CodeOb.uniq {o : Obj} {c P Q : Addr} (x : CodeOb o c P) (y : CodeOb o c Q) : P = Q := by
  obtain ⟨vs, _, _, _, _, _, _, _, _, d, _, r, _⟩ := x
  obtain ⟨us, _, _, _, _, _, _, _, _, d', _, r', _⟩ := y
  rw [d] at d'
  cases d'
  rw [r] at r'
  cases r'
  rfl
def TabD : Nat → Hp → Addr → Prop
  | 0, H, P => ∃ ps : Array Value, H P = some (.tbl ps) ∧ TriplesOk ps.toList
  | k + 1, H, P => ∃ ps : Array Value, H P = some (.tbl ps) ∧ TriplesOk ps.toList ∧ ∀ (pos : Pos) (cv : Value), codeAmong pos ps.toList = some cv →
      ∃ (c Q : Addr) (o : Obj) (u : HO), cv = .ref c ∧ H c = some (.frz o u) ∧ CodeOb o c Q ∧ TabD k H Q
def TabI (H : Hp) (P : Addr) : Prop := ∀ k, TabD k H P
def TabsOk (H : Hp) : Prop := ∀ P, Tabs.ts P → TabI H P
theorem TabI.g {H : Hp} {P : Addr} (t : TabI H P) : GxR.TabG H P := t 0
theorem TabI.nil {H : Hp} {P : Addr} (e : H P = some (.tbl #[])) : TabI H P := fun k => by
  cases k with
  | zero => exact ⟨#[], e, trivial⟩
  | succ k =>
    refine ⟨#[], e, trivial, fun pos cv hc => ?_⟩
    have z : codeAmong pos [] = some cv := hc
    simp [codeAmong] at z
theorem TabD.ext {H H' : Hp} (t : ∀ b ps, H b = some (.tbl ps) → H' b = some (.tbl ps)) (f : ∀ b o u, H b = some (.frz o u) → H' b = some (.frz o u)) : ∀ {k : Nat} {P : Addr}, TabD k H P → TabD k H' P
  | 0, P, ⟨ps, h1, h2⟩ => ⟨ps, t _ _ h1, h2⟩
  | k + 1, P, ⟨ps, h1, h2, h3⟩ => ⟨ps, t _ _ h1, h2, fun pos cv hc => by
    obtain ⟨c, Q, o, u, e1, e2, e3, e4⟩ := h3 pos cv hc
    exact ⟨c, Q, o, u, e1, f _ _ _ e2, e3, TabD.ext t f e4⟩⟩
theorem TabsOk.ext {H H' : Hp} (x : TabsOk H) (t : ∀ b ps, H b = some (.tbl ps) → H' b = some (.tbl ps)) (f : ∀ b o u, H b = some (.frz o u) → H' b = some (.frz o u)) : TabsOk H' := fun P hP k => (x P hP k).ext t f
def TabbedI (H H' : Hp) : Prop := TabsOk H' ∧ ∀ b u, H b = some u → (∀ q, u ≠ .tbl q) → H' b = some u
inductive Reach (H : Hp) : Addr → Prop
  | root {P : Addr} : Tabs.ts P → Reach H P
  | step {P c Q : Addr} {ps : Array Value} {pos : Pos} {o : Obj} {u : HO} : Reach H P → H P = some (.tbl ps) → codeAmong pos ps.toList = some (.ref c) → H c = some (.frz o u) → CodeOb o c Q → Reach H Q
theorem Reach.tab {H : Hp} {P : Addr} (r : Reach H P) (x : TabsOk H) : TabI H P := by
  induction r with
  | root h => exact x _ h
  | step _ e1 e2 e3 e4 ih =>
    intro k
    obtain ⟨ps, h1, _, h3⟩ := ih (k + 1)
    rw [e1] at h1
    cases h1
    obtain ⟨c, Q, o, u, k1, k2, k3, k4⟩ := h3 _ _ e2
    cases k1
    rw [e3] at k2
    cases k2
    rw [e4.uniq k3]
    exact k4
theorem among_more {pos : Pos} {c : Value} (l m : List Value) (h : codeAmong pos l = some c) : codeAmong pos (l ++ m) = some c := by
  fun_induction codeAmong pos l with
  | case1 line t col u c' rest hc => 
    simp only [List.cons_append, codeAmong]
    rw [if_pos hc]
    exact h
  | case2 line t col u c' rest hc ih =>
    simp only [List.cons_append, codeAmong]
    rw [if_neg hc]
    exact ih h
  | case3 => cases h
theorem Reach.mono {H H' : Hp} {P : Addr} (r : Reach H P) (t : ∀ b ps, H b = some (.tbl ps) → ∃ more, H' b = some (.tbl (ps ++ more))) (f : ∀ b o u, H b = some (.frz o u) → H' b = some (.frz o u)) : Reach H' P := by
  induction r with
  | root h => exact .root h
  | step _ e1 e2 e3 e4 ih =>
    obtain ⟨more, e5⟩ := t _ _ e1
    exact .step ih e5 (by rw [Array.toList_append]; exact among_more _ _ e2) (f _ _ _ e3) e4

structure G (K : PySem.W.Frag) (ρ : List Addr) (H : Hp) (S : Sto) : Prop where
  len : ρ.length = S.length
  nd : ∀ (i j : Nat) (a : Addr) (o q : O), ρ[i]? = some a → ρ[j]? = some a → S[i]? = some o → S[j]? = some q → o.mut = true → q.mut = true → i = j
  ob : ∀ (i : Nat) (a : Addr) (o : O), ρ[i]? = some a → S[i]? = some o → RepO K ρ H a o
  tab : TabsOk H

structure Ext (K : PySem.W.Frag) (ρ : List Addr) (H : Hp) (ρ' : List Addr) (H' : Hp) : Prop where
  pre : ρ <+: ρ'
  tup : ∀ a xs, SqT K H a xs → SqT K H' a xs
  ext : ∀ a p, H a = some (.ext p) → H' a = some (.ext p)

theorem Ext.refl {K : PySem.W.Frag} {ρ : List Addr} {H : Hp} : Ext K ρ H ρ H := ⟨List.prefix_refl _, fun _ _ h => h, fun _ _ h => h⟩
theorem Ext.trans {K : PySem.W.Frag} {ρ ρ1 ρ2 : List Addr} {H H1 H2 : Hp} (a : Ext K ρ H ρ1 H1) (b : Ext K ρ1 H1 ρ2 H2) : Ext K ρ H ρ2 H2 :=
  ⟨a.pre.trans b.pre, fun c xs h => b.tup c xs (a.tup c xs h), fun c p h => b.ext c p (a.ext c p h)⟩
theorem pre_get {α : Type} {l m : List α} (h : l <+: m) {i : Nat} {a : α} (e : l[i]? = some a) : m[i]? = some a := by
  obtain ⟨t, rfl⟩ := h
  have hi : i < l.length := (List.getElem?_eq_some_iff.mp e).1
  rw [List.getElem?_append_left hi, e]

mutual
theorem Rep.mono {K : PySem.W.Frag} {ρ ρ' : List Addr} {H H' : Hp} (x : Ext K ρ H ρ' H') : ∀ {d : D} {v : V}, Rep K ρ H d v → Rep K ρ' H' d v
  | _, _, .non => .non
  | _, _, .bl b => .bl b
  | _, _, .int i => .int i
  | _, _, .str z => .str z
  | _, _, .tup h r => .tup (x.tup _ _ h) (Reps.mono x r)
  | _, _, .loc h => .loc (pre_get x.pre h)
theorem Reps.mono {K : PySem.W.Frag} {ρ ρ' : List Addr} {H H' : Hp} (x : Ext K ρ H ρ' H') : ∀ {ds : List D} {vs : List V}, Reps K ρ H ds vs → Reps K ρ' H' ds vs
  | _, _, .nil => .nil
  | _, _, .cons h r => .cons (Rep.mono x h) (Reps.mono x r)
end
theorem Reps.length {K : PySem.W.Frag} {ρ : List Addr} {H : Hp} : ∀ {ds : List D} {vs : List V}, Reps K ρ H ds vs → ds.length = vs.length
  | _, _, .nil => rfl
  | _, _, .cons _ r => congrArg (· + 1) (Reps.length r)
theorem Reps.get {K : PySem.W.Frag} {ρ : List Addr} {H : Hp} : ∀ {ds : List D} {vs : List V} {i : Nat} {d : D}, Reps K ρ H ds vs → ds[i]? = some d → ∃ v, vs[i]? = some v ∧ Rep K ρ H d v
  | _, _, _, _, .nil, e => by simp at e
  | _, _, 0, _, .cons h _, e => by simp at e; subst e; exact ⟨_, rfl, h⟩
  | _, _, i + 1, d, .cons _ r, e => by
    obtain ⟨v, h1, h2⟩ := Reps.get (i := i) (d := d) r (by simpa using e)
    exact ⟨v, by simpa using h1, h2⟩
theorem Reps.append {K : PySem.W.Frag} {ρ : List Addr} {H : Hp} : ∀ {ds es : List D} {vs ws : List V}, Reps K ρ H ds vs → Reps K ρ H es ws → Reps K ρ H (ds ++ es) (vs ++ ws)
  | _, _, _, _, .nil, s => s
  | _, _, _, _, .cons h r, s => .cons h (Reps.append r s)
theorem Reps.take {K : PySem.W.Frag} {ρ : List Addr} {H : Hp} : ∀ {ds : List D} {vs : List V} (n : Nat), Reps K ρ H ds vs → Reps K ρ H (ds.take n) (vs.take n)
  | _, _, 0, _ => .nil
  | _, _, _ + 1, .nil => .nil
  | _, _, n + 1, .cons h r => .cons h (Reps.take n r)
theorem Reps.drop {K : PySem.W.Frag} {ρ : List Addr} {H : Hp} : ∀ {ds : List D} {vs : List V} (n : Nat), Reps K ρ H ds vs → Reps K ρ H (ds.drop n) (vs.drop n)
  | _, _, 0, r => r
  | _, _, _ + 1, .nil => .nil
  | _, _, n + 1, .cons _ r => Reps.drop n r
theorem Reps.set {K : PySem.W.Frag} {ρ : List Addr} {H : Hp} {d : D} {v : V} (x : Rep K ρ H d v) : ∀ {ds : List D} {vs : List V} (n : Nat), Reps K ρ H ds vs → Reps K ρ H (ds.set n d) (vs.set n v)
  | _, _, _, .nil => .nil
  | _, _, 0, .cons _ r => .cons x r
  | _, _, n + 1, .cons h r => .cons h (Reps.set x n r)

section
variable {K : PySem.W.Frag} {ρ ρ' : List Addr} {H H' : Hp} {S : Sto} {p a : Addr} {o : HO} {q : O} {ds : List D} {vs : List V}
theorem sqT_new (hp : H p = none) : ∀ a xs, SqT K H a xs → SqT K (upd H p o) a xs := fun a xs h => by
  rcases h with (h | ⟨u, h⟩) | h
  · exact .inl (.inl (by rw [upd_ne (ne_of_none h hp)]; exact h))
  · exact .inl (.inr ⟨u, by rw [upd_ne (ne_of_none h hp)]; exact h⟩)
  · exact .inr h
def Chg : HO → Prop
  | .tup _ => False
  | .frz _ _ => False
  | .tbl _ => False
  | .ext _ => False
  | _ => True
theorem tab_new (hp : H p = none) (h : TabsOk H) : TabsOk (upd H p o) := h.ext (fun _ _ e => (upd_ne (ne_of_none e hp)).trans e) fun _ _ _ e => (upd_ne (ne_of_none e hp)).trans e
theorem tab_chg {u : HO} (hp : H p = some u) (c : Chg u) (h : TabsOk H) : TabsOk (upd H p o) :=
  h.ext (fun _ _ e => (upd_ne (fun z => by rw [z, hp] at e; cases e; exact c)).trans e) fun _ _ _ e => (upd_ne (fun z => by rw [z, hp] at e; cases e; exact c)).trans e
theorem sqT_chg {u : HO} (hp : H p = some u) (c : Chg u) : ∀ a ys, SqT K H a ys → SqT K (upd H p o) a ys := fun a ys h => by
  have ne : ∀ w, H a = some w → ¬ Chg w → a ≠ p := fun w e n z => by
    rw [z, hp] at e; cases e; exact n c
  rcases h with (h | ⟨u, h⟩) | h
  · exact .inl (.inl (by rw [upd_ne (ne _ h fun z => z)]; exact h))
  · exact .inl (.inr ⟨u, by rw [upd_ne (ne _ h fun z => z)]; exact h⟩)
  · exact .inr h
theorem ext_chg {u : HO} (hp : H p = some u) (c : Chg u) : ∀ a φ, H a = some (.ext φ) → upd H p o a = some (.ext φ) := fun a φ h => by
  rw [upd_ne (fun z => by rw [z, hp] at h; cases h; exact c)]; exact h
theorem RepH.chg {q : O} {h : HO} (r : RepH K ρ H q h) : Chg h := by
  cases q <;> cases h <;> first | exact r.elim | trivial
theorem RepH.mono {q : O} {h : HO} (x : Ext K ρ H ρ' H') (r : RepH K ρ H q h) : RepH K ρ' H' q h := by
  cases q <;> cases h <;> first | exact r.elim | exact Reps.mono x r | exact ⟨r.1, Reps.mono x r.2⟩
theorem RepO.mut_iff (m : q.mut = true) : RepO K ρ H a q ↔ ∃ h, H a = some h ∧ RepH K ρ H q h := by
  cases q with
  | frz ds => cases m
  | lst ds => exact Iff.rfl
  | dct kvs => exact Iff.rfl
theorem RepO.mono {q : O} (x : Ext K ρ H ρ' H') (e : ∀ u, H a = some u → H' a = some u) (h : RepO K ρ H a q) : RepO K ρ' H' a q := by
  cases hm : q.mut with
  | true =>
    obtain ⟨u, h1, h2⟩ := (RepO.mut_iff hm).mp h
    exact (RepO.mut_iff hm).mpr ⟨u, e u h1, h2.mono x⟩
  | false =>
    cases q with
    | lst ds => cases hm
    | dct _ => cases hm
    | frz ds =>
      obtain ⟨vs, h1, h2⟩ := h
      refine ⟨vs, ?_, h2.mono x⟩
      rcases h1 with ⟨u, h1⟩ | h1
      · exact .inl ⟨u, e _ h1⟩
      · exact .inr h1
theorem upd_new (hp : H p = none) : ∀ a u, H a = some u → upd H p o a = some u := fun a u h => by rw [upd_ne (ne_of_none h hp)]; exact h
theorem ext_new (hp : H p = none) : Ext K ρ H ρ (upd H p o) := ⟨List.prefix_refl _, sqT_new hp, fun _ _ h => (upd_ne (ne_of_none h hp)).trans h⟩
theorem G.grow (g : G K ρ H S) (x : Ext K ρ H ρ H') (e : ∀ a u, H a = some u → H' a = some u) : G K ρ H' S :=
  ⟨g.len, g.nd, fun i a o h1 h2 => (g.ob i a o h1 h2).mono x (e a), g.tab.ext (fun _ _ h => e _ _ h) fun _ _ _ h => e _ _ h⟩
theorem G.new (g : G K ρ H S) (hp : H p = none) (m : q.mut = true) (r : RepH K ρ H q o) : G K (ρ ++ [p]) (upd H p o) (S ++ [q]) ∧ Ext K ρ H (ρ ++ [p]) (upd H p o) := by
  have x : Ext K ρ H (ρ ++ [p]) (upd H p o) := ⟨List.prefix_append _ _, sqT_new hp, fun _ _ h => (upd_ne (ne_of_none h hp)).trans h⟩
  have old : ∀ (i : Nat) (a : Addr) (w : O), i < S.length → (ρ ++ [p])[i]? = some a → (S ++ [q])[i]? = some w → ρ[i]? = some a ∧ S[i]? = some w := fun i a w hi h1 h2 => by
    rw [List.getElem?_append_left (by rw [g.len]; exact hi)] at h1
    rw [List.getElem?_append_left hi] at h2
    exact ⟨h1, h2⟩
  have new : ∀ (i : Nat) (a : Addr) (w : O), ¬ i < S.length → (ρ ++ [p])[i]? = some a → (S ++ [q])[i]? = some w → i = S.length ∧ a = p ∧ w = q := fun i a w hi h1 h2 => by
    have hlt := (List.getElem?_eq_some_iff.mp h2).1
    have e : i = S.length := by rw [List.length_append, List.length_singleton] at hlt; omega
    subst e
    refine ⟨rfl, ?_, ?_⟩
    · rw [← g.len] at h1; simpa using h1.symm
    · simpa using h2.symm
  have apart : ∀ (i : Nat) (w : O), ρ[i]? = some p → S[i]? = some w → w.mut = true → False := fun i w h1 h2 m => by
    obtain ⟨u, e, _⟩ := (RepO.mut_iff m).mp (g.ob i p w h1 h2)
    rw [hp] at e; cases e
  refine ⟨⟨by simp [g.len], fun i j a w z h1 h2 h3 h4 m1 m2 => ?_, fun i a w h1 h2 => ?_, tab_new hp g.tab⟩, x⟩
  · by_cases hi : i < S.length
    · obtain ⟨a1, a2⟩ := old i a w hi h1 h3
      by_cases hj : j < S.length
      · obtain ⟨b1, b2⟩ := old j a z hj h2 h4
        exact g.nd i j a w z a1 b1 a2 b2 m1 m2
      · obtain ⟨_, rfl, _⟩ := new j a z hj h2 h4
        exact (apart i w a1 a2 m1).elim
    · obtain ⟨e1, rfl, _⟩ := new i a w hi h1 h3
      by_cases hj : j < S.length
      · obtain ⟨b1, b2⟩ := old j a z hj h2 h4
        exact (apart j z b1 b2 m2).elim
      · obtain ⟨e2, _⟩ := new j a z hj h2 h4
        omega
  · by_cases hi : i < S.length
    · obtain ⟨a1, a2⟩ := old i a w hi h1 h2
      exact (g.ob i a w a1 a2).mono x (upd_new hp a)
    · obtain ⟨rfl, rfl, rfl⟩ := new i a w hi h1 h2
      exact (RepO.mut_iff m).mpr ⟨o, upd_same, r.mono x⟩
theorem G.set (g : G K ρ H S) {n : Nat} {q' : O} (hn : ρ[n]? = some p) (hs : S[n]? = some q') (m' : q'.mut = true) (m : q.mut = true) (r : RepH K ρ H q o) : G K ρ (upd H p o) (S.set n q) ∧ Ext K ρ H ρ (upd H p o) := by
  obtain ⟨u, hu, ru⟩ := (RepO.mut_iff m').mp (g.ob n p q' hn hs)
  have x : Ext K ρ H ρ (upd H p o) := ⟨List.prefix_refl _, sqT_chg hu ru.chg, ext_chg hu ru.chg⟩
  have hlt : n < S.length := (List.getElem?_eq_some_iff.mp hs).1
  have look : ∀ (i : Nat) (w : O), (S.set n q)[i]? = some w → (i = n ∧ w = q) ∨ (i ≠ n ∧ S[i]? = some w) := fun i w h => by
    by_cases e : i = n
    · subst e
      rw [List.getElem?_set_self hlt] at h
      cases h
      exact .inl ⟨rfl, rfl⟩
    · rw [List.getElem?_set_ne (Ne.symm e)] at h
      exact .inr ⟨e, h⟩
  refine ⟨⟨by rw [List.length_set]; exact g.len, fun i j a w z h1 h2 h3 h4 m1 m2 => ?_, fun i a w h1 h2 => ?_, tab_chg hu ru.chg g.tab⟩, x⟩
  · rcases look i w h3 with ⟨e1, w1⟩ | ⟨_, k3⟩
    · rcases look j z h4 with ⟨e2, _⟩ | ⟨_, k4⟩
      · exact e1.trans e2.symm
      · rw [e1] at h1 ⊢
        exact g.nd n j a q' z h1 h2 hs k4 m' m2
    · rcases look j z h4 with ⟨e2, _⟩ | ⟨_, k4⟩
      · rw [e2] at h2 ⊢
        exact g.nd i n a w q' h1 h2 k3 hs m1 m'
      · exact g.nd i j a w z h1 h2 k3 k4 m1 m2
  · rcases look i w h2 with ⟨rfl, rfl⟩ | ⟨ne, h2⟩
    · rw [hn] at h1; cases h1
      exact (RepO.mut_iff m).mpr ⟨o, upd_same, r.mono x⟩
    · cases hm : w.mut with
      | true =>
        have na : a ≠ p := fun e => ne (g.nd i n a w q' h1 (e ▸ hn) h2 hs hm m')
        exact (g.ob i a w h1 h2).mono x fun u e => by rw [upd_ne na]; exact e
      | false =>
        cases w with
        | lst _ => cases hm
        | dct _ => cases hm
        | frz ds =>
          obtain ⟨vs, k1, k2⟩ := g.ob i a _ h1 h2
          refine ⟨vs, ?_, k2.mono x⟩
          rcases k1 with ⟨y, k1⟩ | k1
          · refine .inl ⟨y, ?_⟩
            rw [upd_ne (fun e => by rw [e, hu] at k1; cases k1; exact ru.chg)]; exact k1
          · exact .inr k1
end
end Mini
end
section
namespace Mini
open PySem L2
variable [Tabs]

inductive Res where
  | nx (e : EnvD) (S : Sto) | rt (d : D) (S : Sto) | bk (e : EnvD) (S : Sto) | ct (e : EnvD) (S : Sto)
  deriving Inhabited
abbrev XE := EnvD → Sto → Option (D × Sto)
abbrev XL := EnvD → Sto → Option (List D × Sto)
abbrev XB := EnvD → Sto → Option (Bool × Sto)
abbrev XS := EnvD → Sto → Option Res

structure RE (K : PySem.W.Frag) (ρ : List Addr) (H : Hp) (e : EnvD) (σ : L2.St) : Prop where
  len : e.length = σ.length
  at_ : ∀ (i : Nat) (d : D), e[i]? = some (some d) → ∃ v, σ[i]? = some (some v) ∧ Rep K ρ H d v
theorem RE.mono {K : PySem.W.Frag} {ρ ρ' : List Addr} {H H' : Hp} {e : EnvD} {σ : L2.St} (x : Ext K ρ H ρ' H') (r : RE K ρ H e σ) : RE K ρ' H' e σ :=
  ⟨r.len, fun i d h => let ⟨v, h1, h2⟩ := r.at_ i d h; ⟨v, h1, h2.mono x⟩⟩
theorem RE.set {K : PySem.W.Frag} {ρ : List Addr} {H : Hp} {e : EnvD} {σ : L2.St} {d : D} {v : V} (r : RE K ρ H e σ) (i : Nat) (h : Rep K ρ H d v) : RE K ρ H (e.set i (some d)) (σ.set i (some v)) := by
  refine ⟨by rw [List.length_set, List.length_set]; exact r.len, fun j d' q => ?_⟩
  by_cases z : j = i
  · subst z
    have hl : j < e.length := by
      have h9 := (List.getElem?_eq_some_iff.mp q).1
      rwa [List.length_set] at h9
    rw [List.getElem?_set_self hl] at q
    cases q
    exact ⟨v, List.getElem?_set_self (r.len ▸ hl), h⟩
  · rw [List.getElem?_set_ne (Ne.symm z)] at q
    obtain ⟨w, h1, h2⟩ := r.at_ j d' q
    exact ⟨w, by rw [List.getElem?_set_ne (Ne.symm z)]; exact h1, h2⟩

section
variable (K : PySem.W.Frag)
def rE (m : XE) : TE := fun σ H Q => ∃ ρ e S d S', RE K ρ H e σ ∧ G K ρ H S ∧ m e S = some (d, S') ∧ ∀ ρ' H' v, Ext K ρ H ρ' H' → G K ρ' H' S' → Rep K ρ' H' d v → Q v H'
def rL (m : XL) : TA := fun σ H Q => ∃ ρ e S ds S', RE K ρ H e σ ∧ G K ρ H S ∧ m e S = some (ds, S') ∧ ∀ ρ' H' vs, Ext K ρ H ρ' H' → G K ρ' H' S' → Reps K ρ' H' ds vs → Q vs H'
def rB (m : XB) : TT := fun σ H Q => ∃ ρ e S b S', RE K ρ H e σ ∧ G K ρ H S ∧ m e S = some (b, S') ∧ ∀ ρ' H', Ext K ρ H ρ' H' → G K ρ' H' S' → Q b H'
def After (ρ : List Addr) (H : Hp) (E : Ends) : Res → Prop
  | .nx e S => ∀ ρ' H' σ', Ext K ρ H ρ' H' → G K ρ' H' S → RE K ρ' H' e σ' → E.nx σ' H'
  | .bk e S => ∀ ρ' H' σ', Ext K ρ H ρ' H' → G K ρ' H' S → RE K ρ' H' e σ' → E.bk σ' H'
  | .ct e S => ∀ ρ' H' σ', Ext K ρ H ρ' H' → G K ρ' H' S → RE K ρ' H' e σ' → E.ct σ' H'
  | .rt d S => ∀ ρ' H' v, Ext K ρ H ρ' H' → G K ρ' H' S → Rep K ρ' H' d v → E.rt v H'
def rS (m : XS) : TS := fun E σ H => ∃ ρ e S r, RE K ρ H e σ ∧ G K ρ H S ∧ m e S = some r ∧ After K ρ H E r
end
theorem After.mono {K : PySem.W.Frag} {ρ ρ' : List Addr} {H H' : Hp} {E : Ends} {r : Res} (x : Ext K ρ H ρ' H') (a : After K ρ H E r) : After K ρ' H' E r := by
  cases r <;> exact fun p h v y => a p h v (x.trans y)

section
variable {X : Cx} {e : Expr} {es : List Expr} {st : Stmt} {sts : List Stmt}
theorem PE.imp {t t' : TE} (h : PE X e t) (i : ∀ σ H Q, t' σ H Q → t σ H Q) : PE X e t' := ⟨fun pins s σ H Q I q => h.run pins s σ H Q I (i σ H Q q)⟩
theorem PT.imp {t t' : TT} (h : PT X e t) (i : ∀ σ H Q, t' σ H Q → t σ H Q) : PT X e t' := ⟨fun pins s σ H Q I q => h.run pins s σ H Q I (i σ H Q q)⟩
theorem PW.imp {t t' : TT} (h : PW X e t) (i : ∀ σ H Q, t' σ H Q → t σ H Q) : PW X e t' := ⟨fun wh pins s σ H Q I q => h.run wh pins s σ H Q I (i σ H Q q)⟩
theorem PA.imp {t t' : TA} (h : PA X es t) (i : ∀ σ H Q, t' σ H Q → t σ H Q) : PA X es t' := ⟨fun pos pins s σ H Q I q => h.run pos pins s σ H Q I (i σ H Q q)⟩
theorem PS.imp {t t' : TS} (h : PS X st t) (i : ∀ E σ H, t' E σ H → t E σ H) : PS X st t' := ⟨fun pins s σ H E I q => h.run pins s σ H E I (i E σ H q)⟩
theorem PSs.imp {t t' : TS} (h : PSs X sts t) (i : ∀ E σ H, t' E σ H → t E σ H) : PSs X sts t' := ⟨fun pins s σ H E I q => h.run pins s σ H E I (i E σ H q)⟩
end

def xVar (i : Nat) : XE := fun e S => match e[i]? with
  | some (some d) => some (d, S)
  | _ => none
def xC (d : D) : XE := fun _ S => some (d, S)
def xOp (f : D → D → Sto → Option (D × Sto)) (a b : XE) : XE := fun e S => match a e S with
  | none => none
  | some (x, S1) => match b e S1 with
    | none => none
    | some (y, S2) => f x y S2
def xUn (f : D → Sto → Option (D × Sto)) (a : XE) : XE := fun e S => match a e S with
  | none => none
  | some (x, S1) => f x S1
def xNil : XL := fun _ S => some ([], S)
def xCons (a : XE) (l : XL) : XL := fun e S => match a e S with
  | none => none
  | some (x, S1) => match l e S1 with
    | none => none
    | some (xs, S2) => some (x :: xs, S2)
def xAll (f : List D → Sto → Option (D × Sto)) (l : XL) : XE := fun e S => match l e S with
  | none => none
  | some (xs, S1) => f xs S1
def xIf (c : XB) (a b : XE) : XE := fun e S => match c e S with
  | none => none
  | some (true, S1) => a e S1
  | some (false, S1) => b e S1
def xAnd (a b : XE) : XE := fun e S => match a e S with
  | some (.bl true, S1) => b e S1
  | some (.bl false, S1) => some (.bl false, S1)
  | _ => none
def xOr (a b : XE) : XE := fun e S => match a e S with
  | some (.bl true, S1) => some (.bl true, S1)
  | some (.bl false, S1) => b e S1
  | _ => none

def OpM (K : PySem.W.Frag) (f : D → D → Sto → Option (D × Sto)) (r : R2) : Prop := ∀ ρ H S x y d S' vx vy (Q : VK), G K ρ H S → Rep K ρ H x vx → Rep K ρ H y vy → f x y S = some (d, S') →
  (∀ ρ' H' v, Ext K ρ H ρ' H' → G K ρ' H' S' → Rep K ρ' H' d v → Q v H') → r vx vy H Q
def UnM (K : PySem.W.Frag) (f : D → Sto → Option (D × Sto)) (r : V → Hp → VK → Prop) : Prop := ∀ ρ H S x d S' vx (Q : VK), G K ρ H S → Rep K ρ H x vx → f x S = some (d, S') →
  (∀ ρ' H' v, Ext K ρ H ρ' H' → G K ρ' H' S' → Rep K ρ' H' d v → Q v H') → r vx H Q
def AllM (K : PySem.W.Frag) (f : List D → Sto → Option (D × Sto)) (r : List V → Hp → VK → Prop) : Prop := ∀ ρ H S xs d S' vs (Q : VK), G K ρ H S → Reps K ρ H xs vs → f xs S = some (d, S') →
  (∀ ρ' H' v, Ext K ρ H ρ' H' → G K ρ' H' S' → Rep K ρ' H' d v → Q v H') → r vs H Q
theorem OpM.pure {K : PySem.W.Frag} {f : D → D → Sto → Option (D × Sto)} {r : R2} (h : ∀ ρ H S x y d S' vx vy (Q : VK), G K ρ H S → Rep K ρ H x vx → Rep K ρ H y vy → f x y S = some (d, S') → S' = S ∧ ((∀ v, Rep K ρ H d v → Q v H) → r vx vy H Q)) : OpM K f r :=
  fun ρ H S x y d S' vx vy Q g hx hy e k => by
    obtain ⟨rfl, h⟩ := h ρ H S x y d S' vx vy Q g hx hy e
    exact h fun v q => k ρ H v .refl g q

section
variable {X : Cx} {a b c : Expr} {pos : Pos}
theorem r_var (i : Nat) {x : Str} (hN : X.N[i]? = some x) (hv : Vis X.env.scope x) (hd : (x == ("__debug__" : Str)) = false := by decide) (hcd : (x == ("__classdict__" : Str)) = false := by decide) : PE X (.Name x pos) (rE X.K (xVar i)) := by
  refine PE.imp (pe_var hN hv hd hcd) fun σ H Q ⟨ρ, e, S, d, S', re, g, h, k⟩ => ?_
  unfold xVar at h
  split at h
  · rename_i d' q
    cases h
    obtain ⟨v, hv, hr⟩ := re.at_ i _ q
    exact ⟨v, hv, k ρ H v .refl g hr⟩
  · cases h
theorem rC_of {e : Expr} {d : D} {v : V} (h : PE X e (tC v)) (r : ∀ ρ H, Rep X.K ρ H d v) : PE X e (rE X.K (xC d)) :=
  PE.imp h fun σ H Q ⟨ρ, e, S, d', S', re, g, h, k⟩ => by
    cases h
    exact k ρ H v .refl g (r ρ H)
theorem r_int {i : Int} {j} : PE X (.Constant (.int i) j pos) (rE X.K (xC (.int i))) := rC_of pe_int fun _ _ => .int i
theorem r_bl {k : Bool} {j} : PE X (.Constant (.bool k) j pos) (rE X.K (xC (.bl k))) := rC_of pe_bl fun _ _ => .bl k
theorem r_non {j} : PE X (.Constant .none j pos) (rE X.K (xC .non)) := rC_of pe_non fun _ _ => .non
theorem r_str {x : Str} {j} : PE X (.Constant (.str x) j pos) (rE X.K (xC (.str x))) := rC_of pe_str fun _ _ => .str x
theorem two {f : D → D → Sto → Option (D × Sto)} {r : R2} {ma mb : XE} {K : PySem.W.Frag} (o : OpM K f r) : ∀ σ H Q, rE K (xOp f ma mb) σ H Q → tOp r (rE K ma) (rE K mb) σ H Q := by
  intro σ H Q ⟨ρ, e, S, d, S', re, g, h, k⟩
  unfold xOp at h
  split at h
  · cases h
  rename_i x S1 ea
  split at h
  · cases h
  rename_i y S2 eb
  exact ⟨ρ, e, S, x, _, re, g, ea, fun ρ1 H1 vx x1 g1 hx => ⟨ρ1, e, _, y, _, re.mono x1, g1, eb, fun ρ2 H2 vy x2 g2 hy =>
    o ρ2 H2 S2 x y d S' vx vy Q g2 (hx.mono x2) hy h fun ρ3 H3 v x3 g3 hv => k ρ3 H3 v ((x1.trans x2).trans x3) g3 hv⟩⟩
theorem r_op {f : D → D → Sto → Option (D × Sto)} {r : R2} {op : Operator} {ma mb : XE} (ho : OpR X (binaryOp op) r) (o : OpM X.K f r) (ha : PE X a (rE X.K ma)) (hb : PE X b (rE X.K mb)) : PE X (.BinOp a op b pos) (rE X.K (xOp f ma mb)) :=
  PE.imp (pe_op ho ha hb) (two o)
theorem r_cmp {f : D → D → Sto → Option (D × Sto)} {r : R2} {op : CmpOp} {ma mb : XE} (ho : OpR X (compareOp op) r) (o : OpM X.K f r) (ha : PE X a (rE X.K ma)) (hb : PE X b (rE X.K mb)) (hm : behindInMarks op b = false) : PE X (.Compare a [op] [b] pos) (rE X.K (xOp f ma mb)) :=
  PE.imp (pe_cmpR ho ha hb hm) (two o)
theorem r_ix {f : D → D → Sto → Option (D × Sto)} {r : R2} {ma mb : XE} (ho : IxR X r) (o : OpM X.K f r) (ha : PE X a (rE X.K ma)) (hb : PE X b (rE X.K mb)) (hs : PlainIx b) : PE X (.Subscript a b pos) (rE X.K (xOp f ma mb)) :=
  PE.imp (pe_ix ho ha hb hs) (two o)
theorem r_un {f : D → Sto → Option (D × Sto)} {r : V → Hp → VK → Prop} {op : UnaryOp} {ma : XE} (ho : UnR X (unaryOp op) r) (o : UnM X.K f r) (ha : PE X a (rE X.K ma)) : PE X (.UnaryOp op a pos) (rE X.K (xUn f ma)) := by
  refine PE.imp (pe_un ho ha) fun σ H Q ⟨ρ, e, S, d, S', re, g, h, k⟩ => ?_
  unfold xUn at h
  split at h
  · cases h
  rename_i x S1 ea
  exact ⟨ρ, e, S, x, _, re, g, ea, fun ρ1 H1 vx x1 g1 hx => o ρ1 H1 S1 x d S' vx Q g1 hx h fun ρ3 H3 v x3 g3 hv => k ρ3 H3 v (x1.trans x3) g3 hv⟩
theorem ra_nil : PA X [] (rL X.K xNil) := PA.imp pa_nil fun σ H Q ⟨ρ, e, S, ds, S', re, g, h, k⟩ => by
  cases h
  exact k ρ H [] .refl g .nil
theorem ra_cons {es : List Expr} {ma : XE} {l : XL} (ha : PE X a (rE X.K ma)) (hr : PA X es (rL X.K l)) (hs : starEach (a :: es) X.env = (false, eval a X.env) :: starEach es X.env := by rfl) : PA X (a :: es) (rL X.K (xCons ma l)) := by
  refine PA.imp (pa_cons ha hr hs) fun σ H Q ⟨ρ, e, S, ds, S', re, g, h, k⟩ => ?_
  unfold xCons at h
  split at h
  · cases h
  rename_i x S1 ea
  split at h
  · cases h
  rename_i xs S2 eb
  cases h
  exact ⟨ρ, e, S, x, _, re, g, ea, fun ρ1 H1 vx x1 g1 hx => ⟨ρ1, e, _, xs, _, re.mono x1, g1, eb, fun ρ2 H2 vs x2 g2 hvs => k ρ2 H2 (vx :: vs) (x1.trans x2) g2 (.cons (hx.mono x2) hvs)⟩⟩
theorem all_of {f : List D → Sto → Option (D × Sto)} {r : List V → Hp → VK → Prop} {l : XL} {K : PySem.W.Frag} (o : AllM K f r) : ∀ σ H Q, rE K (xAll f l) σ H Q → tCB r (rL K l) σ H Q := by
  intro σ H Q ⟨ρ, e, S, d, S', re, g, h, k⟩
  unfold xAll at h
  split at h
  · cases h
  rename_i xs S1 ea
  exact ⟨ρ, e, S, xs, _, re, g, ea, fun ρ1 H1 vs x1 g1 hx => o ρ1 H1 S1 xs d S' vs Q g1 hx h fun ρ3 H3 v x3 g3 hv => k ρ3 H3 v (x1.trans x3) g3 hv⟩
def mkTup (ds : List D) (S : Sto) : Option (D × Sto) := if ds.length ≤ 100000 then some (.tup ds, S) else none
def mkLst (ds : List D) (S : Sto) : Option (D × Sto) := if ds.length ≤ 100000 then some (.loc S.length, S ++ [.lst ds]) else none
theorem line5 {n : Nat} (h : n ≤ 100000) : n ≤ sizeLine := Nat.le_trans h (by decide)
theorem tup_new {K : PySem.W.Frag} {ρ : List Addr} {H : Hp} {S : Sto} {ds : List D} {vs : List V} {p : Addr} (g : G K ρ H S) (r : Reps K ρ H ds vs) (hp : H p = none) :
    Ext K ρ H ρ (upd H p (.tup vs)) ∧ G K ρ (upd H p (.tup vs)) S ∧ Rep K ρ (upd H p (.tup vs)) (.tup ds) (.ref p) :=
  ⟨ext_new hp, g.grow (ext_new hp) (upd_new hp), .tup (.inl (.inl upd_same)) (r.mono (ext_new hp))⟩
theorem lst_new {K : PySem.W.Frag} {ρ : List Addr} {H : Hp} {S : Sto} {ds : List D} {vs : List V} {p : Addr} (g : G K ρ H S) (r : Reps K ρ H ds vs) (hp : H p = none) :
    Ext K ρ H (ρ ++ [p]) (upd H p (.lst vs)) ∧ G K (ρ ++ [p]) (upd H p (.lst vs)) (S ++ [.lst ds]) ∧ Rep K (ρ ++ [p]) (upd H p (.lst vs)) (.loc S.length) (.ref p) := by
  obtain ⟨g1, x1⟩ := g.new (q := .lst ds) (o := .lst vs) hp rfl r
  exact ⟨x1, g1, .loc (by rw [← g.len]; simp)⟩
theorem r_tup {es : List Expr} {l : XL} {x1} (h : PA X es (rL X.K l)) : PE X (.Tuple es x1 pos) (rE X.K (xAll mkTup l)) := by
  refine PE.imp (pe_tup h) (all_of (r := fun xs H Q => xs.length ≤ sizeLine ∧ ∀ p, H p = none → Q (.ref p) (upd H p (.tup xs))) fun ρ H S ds d S' vs Q g hr h k => ?_)
  unfold mkTup at h
  split at h
  · rename_i hl
    cases h
    refine ⟨hr.length ▸ line5 hl, fun p hp => ?_⟩
    obtain ⟨x, g', r'⟩ := tup_new g hr hp
    exact k _ _ _ x g' r'
  · cases h
theorem r_lst {es : List Expr} {l : XL} (h : PA X es (rL X.K l)) : PE X (.List es pos) (rE X.K (xAll mkLst l)) := by
  refine PE.imp (pe_lst h) (all_of (r := fun xs H Q => xs.length ≤ sizeLine ∧ ∀ p, H p = none → Q (.ref p) (upd H p (.lst xs))) fun ρ H S ds d S' vs Q g hr h k => ?_)
  unfold mkLst at h
  split at h
  · rename_i hl
    cases h
    refine ⟨hr.length ▸ line5 hl, fun p hp => ?_⟩
    obtain ⟨x, g', r'⟩ := lst_new g hr hp
    exact k _ _ _ x g' r'
  · cases h
theorem r_ifx {mc : XB} {ma mb : XE} (hc : PT X c (rB X.K mc)) (ha : PE X a (rE X.K ma)) (hb : PE X b (rE X.K mb)) : PE X (.IfExp c a b pos) (rE X.K (xIf mc ma mb)) := by
  refine PE.imp (pe_ifExp hc ha hb) fun σ H Q ⟨ρ, e, S, d, S', re, g, h, k⟩ => ?_
  unfold xIf at h
  split at h
  · cases h
  · rename_i S1 ec
    refine ⟨ρ, e, S, true, _, re, g, ec, fun ρ1 H1 x1 g1 => ?_⟩
    refine iteT ?_
    exact ⟨ρ1, e, _, d, S', re.mono x1, g1, h, fun ρ2 H2 v x2 g2 hv => k ρ2 H2 v (x1.trans x2) g2 hv⟩
  · rename_i S1 ec
    refine ⟨ρ, e, S, false, _, re, g, ec, fun ρ1 H1 x1 g1 => ?_⟩
    refine iteF ?_
    exact ⟨ρ1, e, _, d, S', re.mono x1, g1, h, fun ρ2 H2 v x2 g2 hv => k ρ2 H2 v (x1.trans x2) g2 hv⟩
theorem r_one {op} {ma : XE} (ha : PE X a (rE X.K ma)) : PE X (.BoolOp op [a] pos) (rE X.K ma) := pe_one ha
theorem r_and {rest : List Expr} {ma mb : XE} (ha : PE X a (rE X.K ma)) (hb : PE X (.BoolOp .And (b :: rest) pos) (rE X.K mb)) : PE X (.BoolOp .And (a :: b :: rest) pos) (rE X.K (xAnd ma mb)) := by
  refine PE.imp (pe_and ha hb) fun σ H Q ⟨ρ, e, S, d, S', re, g, h, k⟩ => ?_
  unfold xAnd at h
  split at h
  · rename_i S1 ec
    refine ⟨ρ, e, S, _, _, re, g, ec, fun ρ1 H1 v x1 g1 hv => ?_⟩
    cases hv
    refine ⟨true, rfl, ?_⟩
    refine iteT ?_
    exact ⟨ρ1, e, _, d, S', re.mono x1, g1, h, fun ρ2 H2 v x2 g2 hv => k ρ2 H2 v (x1.trans x2) g2 hv⟩
  · rename_i S1 ec
    cases h
    refine ⟨ρ, e, S, _, _, re, g, ec, fun ρ1 H1 v x1 g1 hv => ?_⟩
    cases hv
    refine ⟨false, rfl, ?_⟩
    refine iteF ?_
    exact k ρ1 H1 _ x1 g1 (.bl false)
  · cases h
end

def truth (S : Sto) : D → Option Bool
  | .non => some false
  | .bl b => some b
  | .int i => some (i != 0)
  | .str x => if x.length ≤ 100000 then some ((x.length : Int) != 0) else none
  | .tup ds => some (!ds.isEmpty)
  | .loc n => match S[n]? with
    | some (.lst ds) => some (!ds.isEmpty)
    | some (.frz ds) => some (!ds.isEmpty)
    | _ => none
def bTru (a : XE) : XB := fun e S => match a e S with
  | none => none
  | some (x, S1) => match truth S1 x with
    | none => none
    | some b => some (b, S1)
def bVal (a : XE) : XB := fun e S => match a e S with
  | some (.bl t, S1) => some (t, S1)
  | _ => none
def bAnd (a b : XB) : XB := fun e S => match a e S with
  | none => none
  | some (true, S1) => b e S1
  | some (false, S1) => some (false, S1)
def bOr (a b : XB) : XB := fun e S => match a e S with
  | none => none
  | some (true, S1) => some (true, S1)
  | some (false, S1) => b e S1
def bNot (a : XB) : XB := fun e S => match a e S with
  | none => none
  | some (k, S1) => some (!k, S1)
theorem empty_of {K : PySem.W.Frag} {ρ : List Addr} {H : Hp} {ds : List D} {vs : List V} (r : Reps K ρ H ds vs) : (!ds.isEmpty) = !vs.isEmpty := by
  cases r <;> rfl
theorem RepO.sqL {K : PySem.W.Frag} {ρ : List Addr} {H : Hp} {a : Addr} {ds : List D} {q : O} (h : RepO K ρ H a q) (e : q = .lst ds ∨ q = .frz ds) : ∃ vs, SqL K H a vs ∧ Reps K ρ H ds vs := by
  rcases e with rfl | rfl
  · obtain ⟨u, h1, h2⟩ := h
    cases u with
    | lst vs => exact ⟨vs, .inl (.inl h1), h2⟩
    | _ => exact h2.elim
  · obtain ⟨vs, h1, h2⟩ := h
    refine ⟨vs, ?_, h2⟩
    rcases h1 with ⟨u, h1⟩ | h1
    · exact .inl (.inr ⟨u, h1⟩)
    · rcases h1 with (h1 | ⟨u, h1⟩) | h1
      · cases h1
      · cases h1
      · exact .inr h1
def lstAt (S : Sto) (n : Nat) : Option (List D) := match S[n]? with
  | some (.lst ds) => some ds
  | some (.frz ds) => some ds
  | some (.dct _) => none
  | none => none
theorem G.lst {K : PySem.W.Frag} {ρ : List Addr} {H : Hp} {S : Sto} {n : Nat} {a : Addr} {ds : List D} (g : G K ρ H S) (hn : ρ[n]? = some a) (h : lstAt S n = some ds) : ∃ vs, SqL K H a vs ∧ Reps K ρ H ds vs := by
  unfold lstAt at h
  split at h
  · rename_i ds' q
    cases h
    exact (g.ob n a _ hn q).sqL (.inl rfl)
  · rename_i ds' q
    cases h
    exact (g.ob n a _ hn q).sqL (.inr rfl)
  · cases h
  · cases h
theorem tru_rep {K : PySem.W.Frag} {ρ : List Addr} {H : Hp} {S : Sto} {d : D} {v : V} {k : Bool} (g : G K ρ H S) (r : Rep K ρ H d v) (h : truth S d = some k) : TruV K v H k := by
  cases r with
  | non => cases h; rfl
  | bl b => cases h; rfl
  | int i => cases h; rfl
  | str x =>
    have h' : (if x.length ≤ 100000 then some ((x.length : Int) != 0) else none) = some k := h
    split at h'
    · rename_i hl; cases h'; exact ⟨line5 hl, rfl⟩
    · cases h'
  | tup hs hr =>
    cases h
    exact .inr (.inl ⟨_, hs, empty_of hr⟩)
  | @loc n a hn =>
    have : ∃ ds, lstAt S n = some ds ∧ k = !ds.isEmpty := by
      have h' : (match S[n]? with | some (.lst ds) => some (!ds.isEmpty) | some (.frz ds) => some (!ds.isEmpty) | _ => none) = some k := h
      unfold lstAt
      split at h' <;> rename_i q <;> first | (cases h'; rw [q]; exact ⟨_, rfl, rfl⟩) | cases h'
    obtain ⟨ds, e, rfl⟩ := this
    obtain ⟨vs, h1, h2⟩ := g.lst hn e
    exact .inl ⟨vs, h1, empty_of h2⟩
section
variable {X : Cx} {a b c : Expr} {pos : Pos}
theorem r_tru {ma : XE} (ha : PE X a (rE X.K ma)) (he : ∀ whole, isTrue a X.env whole = (do let v ← whole; standAt a.pos; holding [v] (truthy v))) : PT X a (rB X.K (bTru ma)) := by
  refine PT.imp (pt_truth ha he) fun σ H Q ⟨ρ, e, S, d, S', re, g, h, k⟩ => ?_
  unfold bTru at h
  split at h
  · cases h
  rename_i x S1 ea
  split at h
  · cases h
  rename_i t et
  cases h
  exact ⟨ρ, e, S, x, _, re, g, ea, fun ρ1 H1 v x1 g1 hv => ⟨_, tru_rep g1 hv et, k ρ1 H1 x1 g1⟩⟩
theorem r_tcmp {f : D → D → Sto → Option (D × Sto)} {r : R2} {op : CmpOp} {ma mb : XE} (ho : OpR X (compareOp op) r) (o : OpM X.K f r) (ha : PE X a (rE X.K ma)) (hb : PE X b (rE X.K mb)) (hm : behindInMarks op b = false) : PT X (.Compare a [op] [b] pos) (rB X.K (bVal (xOp f ma mb))) := by
  refine PT.imp (pt_cmpR ho ha hb hm) fun σ H Q ⟨ρ, e, S, d, S', re, g, h, k⟩ => ?_
  unfold bVal at h
  split at h
  · rename_i t S1 ea
    cases h
    refine two o σ H _ ⟨ρ, e, S, _, _, re, g, ea, fun ρ1 H1 v x1 g1 hv => ?_⟩
    cases hv
    exact ⟨_, rfl, k ρ1 H1 x1 g1⟩
  · cases h
theorem rw_and1 {ma : XB} (ha : PT X a (rB X.K ma)) : PW X (.BoolOp .And [a] pos) (rB X.K ma) := pw_and1 ha
theorem rw_or1 {ma : XB} (ha : PT X a (rB X.K ma)) : PW X (.BoolOp .Or [a] pos) (rB X.K ma) := pw_or1 ha
theorem rw_and {rest : List Expr} {ma mb : XB} (ha : PT X a (rB X.K ma)) (hb : PW X (.BoolOp .And (b :: rest) pos) (rB X.K mb)) : PW X (.BoolOp .And (a :: b :: rest) pos) (rB X.K (bAnd ma mb)) := by
  refine PW.imp (pw_and ha hb) fun σ H Q ⟨ρ, e, S, d, S', re, g, h, k⟩ => ?_
  unfold bAnd at h
  split at h
  · cases h
  · rename_i S1 ec
    refine ⟨ρ, e, S, true, _, re, g, ec, fun ρ1 H1 x1 g1 => ?_⟩
    refine iteT ?_
    exact ⟨ρ1, e, _, d, S', re.mono x1, g1, h, fun ρ2 H2 x2 g2 => k ρ2 H2 (x1.trans x2) g2⟩
  · rename_i S1 ec
    cases h
    refine ⟨ρ, e, S, false, _, re, g, ec, fun ρ1 H1 x1 g1 => ?_⟩
    refine iteF ?_
    exact k ρ1 H1 x1 g1
theorem rw_or {rest : List Expr} {ma mb : XB} (ha : PT X a (rB X.K ma)) (hb : PW X (.BoolOp .Or (b :: rest) pos) (rB X.K mb)) : PW X (.BoolOp .Or (a :: b :: rest) pos) (rB X.K (bOr ma mb)) := by
  refine PW.imp (pw_or ha hb) fun σ H Q ⟨ρ, e, S, d, S', re, g, h, k⟩ => ?_
  unfold bOr at h
  split at h
  · cases h
  · rename_i S1 ec
    cases h
    refine ⟨ρ, e, S, true, _, re, g, ec, fun ρ1 H1 x1 g1 => ?_⟩
    refine iteT ?_
    exact k ρ1 H1 x1 g1
  · rename_i S1 ec
    refine ⟨ρ, e, S, false, _, re, g, ec, fun ρ1 H1 x1 g1 => ?_⟩
    refine iteF ?_
    exact ⟨ρ1, e, _, d, S', re.mono x1, g1, h, fun ρ2 H2 x2 g2 => k ρ2 H2 (x1.trans x2) g2⟩
theorem r_not {ma : XB} (ha : PT X a (rB X.K ma)) : PT X (.UnaryOp .Not a pos) (rB X.K (bNot ma)) := by
  refine PT.imp (pt_not ha) fun σ H Q ⟨ρ, e, S, d, S', re, g, h, k⟩ => ?_
  unfold bNot at h
  split at h
  · cases h
  rename_i t S1 ec
  cases h
  exact ⟨ρ, e, S, t, _, re, g, ec, k⟩
end
end Mini
end
section
namespace Mini
open PySem L2
variable [Tabs]

def sNil : XS := fun e S => some (.nx e S)
def sSeq (a b : XS) : XS := fun e S => match a e S with
  | some (.nx e1 S1) => b e1 S1
  | r => r
def sRet (m : XE) : XS := fun e S => match m e S with
  | none => none
  | some (d, S1) => some (.rt d S1)
def sExpr (m : XE) : XS := fun e S => match m e S with
  | none => none
  | some (_, S1) => some (.nx e S1)
def sIf (c : XB) (a b : XS) : XS := fun e S => match c e S with
  | none => none
  | some (true, S1) => a e S1
  | some (false, S1) => b e S1
abbrev XG := D → EnvD → Option EnvD
abbrev XGs := List D → EnvD → Option EnvD
def gN (i : Nat) : XG := fun d e => some (e.set i (some d))
def gsN : XGs := fun ds e => match ds with
  | [] => some e
  | _ => none
def gsC (g : XG) (u : XGs) : XGs := fun ds e => match ds with
  | [] => none
  | d :: r => match g d e with
    | none => none
    | some e1 => u r e1
def gT (n : Nat) (u : XGs) : XG := fun d e => match d with
  | .tup ds => if ds.length = n then u ds e else none
  | _ => none
def sAsg (m : XE) (g : XG) : XS := fun e S => match m e S with
  | none => none
  | some (d, S1) => match g d e with
    | none => none
    | some e1 => some (.nx e1 S1)
def sPut (f : D → D → D → Sto → Option Sto) (v o i : XE) : XS := fun e S => match v e S with
  | none => none
  | some (y, S1) => match o e S1 with
    | none => none
    | some (x, S2) => match i e S2 with
      | none => none
      | some (k, S3) => match f x k y S3 with
        | none => none
        | some S4 => some (.nx e S4)

def rG (K : PySem.W.Frag) (g : XG) : TG := fun v σ H Q => ∃ ρ e d e', RE K ρ H e σ ∧ Rep K ρ H d v ∧ g d e = some e' ∧ ∀ σ', RE K ρ H e' σ' → Q σ' H
def PutM (K : PySem.W.Frag) (f : D → D → D → Sto → Option Sto) (t : TSet) : Prop := ∀ ρ H S x i y S' vx vi vy (Q : Hp → Prop), G K ρ H S → Rep K ρ H x vx → Rep K ρ H i vi → Rep K ρ H y vy → f x i y S = some S' →
  (∀ ρ' H', Ext K ρ H ρ' H' → G K ρ' H' S' → Q H') → t vx vi vy H Q

section
variable {X : Cx} {st : Stmt} {rest : List Stmt} {e : Expr} {pos : Pos}
theorem rs_nil : PSs X [] (rS X.K sNil) := PSs.imp pss_nil fun E σ H ⟨ρ, e, S, r, re, g, h, k⟩ => by
  cases h
  exact k ρ H σ .refl g re
theorem rs_cons {a b : XS} (h1 : PS X st (rS X.K a)) (h2 : PSs X rest (rS X.K b)) : PSs X (st :: rest) (rS X.K (sSeq a b)) := by
  refine PSs.imp (pss_cons h1 h2) fun E σ H ⟨ρ, e, S, r, re, g, h, k⟩ => ?_
  unfold sSeq at h
  split at h
  · rename_i e1 S1 ea
    exact ⟨ρ, e, S, .nx e1 S1, re, g, ea, fun ρ1 H1 σ1 x1 g1 re1 => ⟨ρ1, e1, S1, r, re1, g1, h, k.mono x1⟩⟩
  · rename_i o no
    refine ⟨ρ, e, S, r, re, g, h, ?_⟩
    cases r with
    | nx e1 S1 => exact absurd h (no e1 S1)
    | rt _ _ => exact k
    | bk _ _ => exact k
    | ct _ _ => exact k
theorem rs_ret {m : XE} (he : PE X e (rE X.K m)) : PS X (.Return (some e) pos) (rS X.K (sRet m)) := by
  refine PS.imp (ps_ret he) fun E σ H ⟨ρ, e, S, r, re, g, h, k⟩ => ?_
  unfold sRet at h
  split at h
  · cases h
  · rename_i d S1 ea
    cases h
    exact ⟨ρ, e, S, d, S1, re, g, ea, k⟩
theorem rs_expr {m : XE} (he : PE X e (rE X.K m)) (hs : swapsWith e none pos.line X.env = pure false := by rfl) : PS X (.Expr e pos) (rS X.K (sExpr m)) := by
  refine PS.imp (ps_expr he hs) fun E σ H ⟨ρ, e, S, r, re, g, h, k⟩ => ?_
  unfold sExpr at h
  split at h
  · cases h
  · rename_i d S1 ea
    cases h
    exact ⟨ρ, e, S, d, S1, re, g, ea, fun ρ1 H1 v x1 g1 _ => k ρ1 H1 σ x1 g1 (re.mono x1)⟩
theorem rs_if {c : Expr} {a b : List Stmt} {mc : XB} {ma mb : XS} (hc : PT X c (rB X.K mc)) (ha : PSs X a (rS X.K ma)) (hb : PSs X b (rS X.K mb)) : PS X (.If c a b pos) (rS X.K (sIf mc ma mb)) := by
  refine PS.imp (ps_if hc ha hb) fun E σ H ⟨ρ, e, S, r, re, g, h, k⟩ => ?_
  unfold sIf at h
  split at h
  · cases h
  · rename_i S1 ec
    refine ⟨ρ, e, S, true, _, re, g, ec, fun ρ1 H1 x1 g1 => ?_⟩
    refine iteT ?_
    exact ⟨ρ1, e, S1, r, re.mono x1, g1, h, k.mono x1⟩
  · rename_i S1 ec
    refine ⟨ρ, e, S, false, _, re, g, ec, fun ρ1 H1 x1 g1 => ?_⟩
    refine iteF ?_
    exact ⟨ρ1, e, S1, r, re.mono x1, g1, h, k.mono x1⟩
theorem PG.imp {t : Expr} {g g' : TG} (h : PG X t g) (i : ∀ v σ H Q, g' v σ H Q → g v σ H Q) : PG X t g' := ⟨fun pins s σ H v u Q I r q => h.run pins s σ H v u Q I r (i _ _ _ _ q)⟩
theorem PGs.imp {t : List Expr} {g g' : TGs} (h : PGs X t g) (i : ∀ v σ H Q, g' v σ H Q → g v σ H Q) : PGs X t g' := ⟨fun pins s σ H v u Q I r q => h.run pins s σ H v u Q I r (i _ _ _ _ q)⟩
theorem rg_name (i : Nat) {x : Str} (hN : X.N.Nodup) (hi : X.N[i]? = some x) (hx : Loc X.env.scope x) (hf : X.fn x = true ∨ X.env.scope.names.lookup x = some .local := by first | exact .inl rfl | exact .inr rfl | assumption) : PG X (.Name x pos) (rG X.K (gN i)) :=
  PG.imp (pg_name hN hi hx hf) fun v σ H Q ⟨ρ, e, d, e', re, r, h, k⟩ => by
    cases h
    exact k _ (re.set i r)
theorem rs_asg {tg : Expr} {m : XE} {g : XG} (he : PE X e (rE X.K m)) (hg : PG X tg (rG X.K g)) (hs : swapsWithSole [tg] e pos.line X.env = pure false := by rfl) (hw : swappedStores [tg] e X.env = pure none := by rfl)
    (h1 : (assignEach [tg] X.env).map (·.2) = [assign tg X.env] := by rfl) : PS X (.Assign [tg] e pos) (rS X.K (sAsg m g)) := by
  refine PS.imp (ps_asg he hg hs hw h1) fun E σ H ⟨ρ, e, S, r, re, g, h, k⟩ => ?_
  unfold sAsg at h
  split at h
  · cases h
  rename_i d S1 ea
  split at h
  · cases h
  rename_i e1 eg
  cases h
  exact ⟨ρ, e, S, d, S1, re, g, ea, fun ρ1 H1 v x1 g1 hv => ⟨ρ1, e, d, e1, re.mono x1, hv, eg, fun σ1 re1 => k ρ1 H1 σ1 x1 g1 re1⟩⟩
theorem rs_put {o i v : Expr} {mo mi mv : XE} {f : D → D → D → Sto → Option Sto} {t : TSet} {tpos : Pos} (hp : PSet X t) (pm : PutM X.K f t) (hv : PE X v (rE X.K mv)) (ho : PE X o (rE X.K mo)) (hi : PE X i (rE X.K mi))
    (hs : swapsWithSole [.Subscript o i tpos] v pos.line X.env = pure false := by rfl) (hw : swappedStores [.Subscript o i tpos] v X.env = pure none := by rfl)
    (h1 : (assignEach [.Subscript o i tpos] X.env).map (·.2) = [assign (.Subscript o i tpos) X.env] := by rfl)
    (h2 : ∀ u, assign (.Subscript o i tpos) X.env u = (do
      let ov ← holding [u] (eval o X.env)
      let iv ← holding [u, ov] (eval i X.env)
      standAt tpos
      holding [u, ov, iv] (setItem ov iv u)
      release [u, ov, iv] []) := by intro _; rfl) : PS X (.Assign [.Subscript o i tpos] v pos) (rS X.K (sPut f mv mo mi)) := by
  refine PS.imp (ps_asg hv (pg_sub ho hi hp h2) hs hw h1) fun E σ H ⟨ρ, e, S, r, re, g, h, k⟩ => ?_
  unfold sPut at h
  split at h
  · cases h
  rename_i y S1 ey
  split at h
  · cases h
  rename_i x S2 ex
  split at h
  · cases h
  rename_i kk S3 ek
  split at h
  · cases h
  rename_i S4 ef
  cases h
  refine ⟨ρ, e, S, y, S1, re, g, ey, fun ρ1 H1 vy x1 g1 hy => ⟨ρ1, e, S1, x, S2, re.mono x1, g1, ex, fun ρ2 H2 vx x2 g2 hx => ⟨ρ2, e, S2, kk, S3, re.mono (x1.trans x2), g2, ek, fun ρ3 H3 vk x3 g3 hk => ?_⟩⟩⟩
  exact pm ρ3 H3 S3 x kk y S4 vx vk vy _ g3 (hx.mono x3) hk (hy.mono (x2.trans x3)) ef fun ρ4 H4 x4 g4 => k ρ4 H4 σ (((x1.trans x2).trans x3).trans x4) g4 (re.mono (((x1.trans x2).trans x3).trans x4))
end
end Mini
end
section
namespace Mini
open PySem L2
variable [Tabs]

def forL (g : XG) (b : XS) : List D → EnvD → Sto → Option Res
  | [], e, S => some (.nx e S)
  | d :: ds, e, S => match g d e with
    | none => none
    | some e1 => match b e1 S with
      | none => none
      | some (.nx e2 S2) => forL g b ds e2 S2
      | some (.ct e2 S2) => forL g b ds e2 S2
      | some (.bk e2 S2) => some (.nx e2 S2)
      | some (.rt d S2) => some (.rt d S2)
def forV (n : Nat) (g : XG) (b : XS) : Nat → Nat → EnvD → Sto → Option Res
  | 0, _, _, _ => none
  | k + 1, i, e, S => match lstAt S n with
    | none => none
    | some ds => match ds[i]? with
      | none => some (.nx e S)
      | some d => match g d e with
        | none => none
        | some e1 => match b e1 S with
          | none => none
          | some (.nx e2 S2) => forV n g b k (i + 1) e2 S2
          | some (.ct e2 S2) => forV n g b k (i + 1) e2 S2
          | some (.bk e2 S2) => some (.nx e2 S2)
          | some (.rt d S2) => some (.rt d S2)
inductive Walk where
  | fix (ds : List D)
  | live (n : Nat)
abbrev XW := EnvD → Sto → Option (Walk × Sto)
def turns : Nat := 20000000
def sFor (w : XW) (g : XG) (b : XS) : XS := fun e S => match w e S with
  | none => none
  | some (.fix ds, S1) => forL g b ds e S1
  | some (.live n, S1) => forV n g b turns 0 e S1

def WalkOk (K : PySem.W.Frag) (ρ : List Addr) (H : Hp) (J : It) : Walk → Prop
  | .fix ds => (∀ ρ' H', Ext K ρ H ρ' H' → J.stop ds.length H') ∧ ∀ (i : Nat) (d : D), ds[i]? = some d → ∀ ρ' H', Ext K ρ H ρ' H' → J.go i H' ∧
      ∀ x H2, J.yld i H' x H2 → ∀ S, G K ρ' H' S → Ext K ρ' H' ρ' H2 ∧ G K ρ' H2 S ∧ Rep K ρ' H2 d x
  | .live n => ∃ a, ρ[n]? = some a ∧ J = Itl K a
def rW (K : PySem.W.Frag) (w : XW) : TI := fun σ H R => ∃ ρ e S wk S', RE K ρ H e σ ∧ G K ρ H S ∧ w e S = some (wk, S') ∧ ∀ ρ' H' J, Ext K ρ H ρ' H' → G K ρ' H' S' → WalkOk K ρ' H' J wk → R J H'

section
variable {X : Cx} {st : Stmt} {rest : List Stmt} {e : Expr} {pos : Pos}
theorem for_fix {K : PySem.W.Frag} {J : It} {ds : List D} {ρ0 : List Addr} {H0 : Hp} {g : XG} {b : XS} {E : Ends} {σ : L2.St} {e : EnvD} {S : Sto} {r : Res} (re : RE K ρ0 H0 e σ) (gg : G K ρ0 H0 S) (w : WalkOk K ρ0 H0 J (.fix ds)) (h : forL g b ds e S = some r) (k : After K ρ0 H0 E r) :
    ∃ W : Nat → Nat → L2.St → Hp → Prop, (∃ m, W 0 m σ H0) ∧ ∀ i m σ H, W i m σ H → (J.stop i H ∧ E.nx σ H) ∨ (J.go i H ∧ ∃ N : L2.St → Hp → Prop, (∀ σ' H', N σ' H' → ∃ m', m' < m ∧ W (i + 1) m' σ' H') ∧
      ∀ x H', J.yld i H x H' → rG K g x σ H' fun σ2 H2 => rS K b { E with nx := N, ct := N, bk := E.nx } σ2 H2) := by
  refine ⟨fun i m σ H => m = ds.length - i ∧ i ≤ ds.length ∧ ∃ ρ e S r, Ext K ρ0 H0 ρ H ∧ RE K ρ H e σ ∧ G K ρ H S ∧ forL g b (ds.drop i) e S = some r ∧ After K ρ H E r, ⟨_, rfl, Nat.zero_le _, ρ0, e, S, r, .refl, re, gg, h, k⟩, ?_⟩
  rintro i m σ H ⟨rfl, hi, ρ, e, S, r, x0, re, gg, h, k⟩
  by_cases hlt : i < ds.length
  · obtain ⟨q1, q2⟩ := w.2 i ds[i] (List.getElem?_eq_getElem hlt) ρ H x0
    rw [List.drop_eq_getElem_cons hlt] at h
    have h' : (match g ds[i] e with
      | none => none
      | some e1 => match b e1 S with
        | none => none
        | some (.nx e2 S2) => forL g b (ds.drop (i + 1)) e2 S2
        | some (.ct e2 S2) => forL g b (ds.drop (i + 1)) e2 S2
        | some (.bk e2 S2) => some (.nx e2 S2)
        | some (.rt d S2) => some (.rt d S2)) = some r := h
    split at h'
    · cases h'
    rename_i e1 eg
    refine .inr ⟨q1, fun σ H => ∃ ρ e S r, Ext K ρ0 H0 ρ H ∧ RE K ρ H e σ ∧ G K ρ H S ∧ forL g b (ds.drop (i + 1)) e S = some r ∧ After K ρ H E r, fun σ' H' n => ⟨ds.length - (i + 1), by omega, rfl, hlt, n⟩, fun x H' y => ?_⟩
    obtain ⟨x1, g1, rx⟩ := q2 x H' y S gg
    refine ⟨ρ, e, ds[i], e1, re.mono x1, rx, eg, fun σ1 re1 => ?_⟩
    split at h'
    · cases h'
    · rename_i e2 S2 eb
      exact ⟨ρ, e1, S, .nx e2 S2, re1, g1, eb, fun ρ2 H2 σ2 x2 g2 re2 => ⟨ρ2, e2, S2, r, (x0.trans x1).trans x2, re2, g2, h', k.mono (x1.trans x2)⟩⟩
    · rename_i e2 S2 eb
      exact ⟨ρ, e1, S, .ct e2 S2, re1, g1, eb, fun ρ2 H2 σ2 x2 g2 re2 => ⟨ρ2, e2, S2, r, (x0.trans x1).trans x2, re2, g2, h', k.mono (x1.trans x2)⟩⟩
    · rename_i e2 S2 eb
      cases h'
      exact ⟨ρ, e1, S, .bk e2 S2, re1, g1, eb, fun ρ2 H2 σ2 x2 g2 re2 => k ρ2 H2 σ2 (x1.trans x2) g2 re2⟩
    · rename_i d2 S2 eb
      cases h'
      exact ⟨ρ, e1, S, .rt d2 S2, re1, g1, eb, fun ρ2 H2 v x2 g2 hv => k ρ2 H2 v (x1.trans x2) g2 hv⟩
  · have ei : i = ds.length := by omega
    subst ei
    rw [List.drop_length] at h
    cases h
    exact .inl ⟨w.1 ρ H x0, k ρ H σ .refl gg re⟩
theorem for_live {K : PySem.W.Frag} {n : Nat} {a : Addr} {ρ0 : List Addr} {H0 : Hp} {g : XG} {b : XS} {E : Ends} {σ : L2.St} {e : EnvD} {S : Sto} {r : Res} (t : Nat) (re : RE K ρ0 H0 e σ) (gg : G K ρ0 H0 S) (hn : ρ0[n]? = some a) (h : forV n g b t 0 e S = some r) (k : After K ρ0 H0 E r) :
    ∃ W : Nat → Nat → L2.St → Hp → Prop, (∃ m, W 0 m σ H0) ∧ ∀ i m σ H, W i m σ H → ((Itl K a).stop i H ∧ E.nx σ H) ∨ ((Itl K a).go i H ∧ ∃ N : L2.St → Hp → Prop, (∀ σ' H', N σ' H' → ∃ m', m' < m ∧ W (i + 1) m' σ' H') ∧
      ∀ x H', (Itl K a).yld i H x H' → rG K g x σ H' fun σ2 H2 => rS K b { E with nx := N, ct := N, bk := E.nx } σ2 H2) := by
  refine ⟨fun i m σ H => ∃ ρ e S r, Ext K ρ0 H0 ρ H ∧ RE K ρ H e σ ∧ G K ρ H S ∧ forV n g b m i e S = some r ∧ After K ρ H E r, ⟨_, ρ0, e, S, r, .refl, re, gg, h, k⟩, ?_⟩
  rintro i m σ H ⟨ρ, e, S, r, x0, re, gg, h, k⟩
  cases m with
  | zero => cases h
  | succ m =>
    have h' : (match lstAt S n with
      | none => none
      | some ds => match ds[i]? with
        | none => some (.nx e S)
        | some d => match g d e with
          | none => none
          | some e1 => match b e1 S with
            | none => none
            | some (.nx e2 S2) => forV n g b m (i + 1) e2 S2
            | some (.ct e2 S2) => forV n g b m (i + 1) e2 S2
            | some (.bk e2 S2) => some (.nx e2 S2)
            | some (.rt d S2) => some (.rt d S2)) = some r := h
    split at h'
    · cases h'
    rename_i ds el
    obtain ⟨vs, hs, hr⟩ := gg.lst (pre_get x0.pre hn) el
    split at h'
    · rename_i ed
      cases h'
      exact .inl ⟨⟨vs, hs, by rw [← hr.length]; exact List.getElem?_eq_none_iff.mp ed⟩, k ρ H σ .refl gg re⟩
    rename_i d ed
    obtain ⟨v, hv, rv⟩ := hr.get ed
    split at h'
    · cases h'
    rename_i e1 eg
    refine .inr ⟨⟨vs, v, hs, hv⟩, fun σ H => ∃ ρ e S r, Ext K ρ0 H0 ρ H ∧ RE K ρ H e σ ∧ G K ρ H S ∧ forV n g b m (i + 1) e S = some r ∧ After K ρ H E r, fun σ' H' q => ⟨m, Nat.lt_succ_self m, q⟩, fun x H' y => ?_⟩
    obtain ⟨rfl, y2⟩ := y
    have ex := y2 vs hs
    rw [hv] at ex
    cases ex
    refine ⟨ρ, e, d, e1, re, rv, eg, fun σ1 re1 => ?_⟩
    split at h'
    · cases h'
    · rename_i e2 S2 eb
      exact ⟨ρ, e1, S, .nx e2 S2, re1, gg, eb, fun ρ2 H2 σ2 x2 g2 re2 => ⟨ρ2, e2, S2, r, x0.trans x2, re2, g2, h', k.mono x2⟩⟩
    · rename_i e2 S2 eb
      exact ⟨ρ, e1, S, .ct e2 S2, re1, gg, eb, fun ρ2 H2 σ2 x2 g2 re2 => ⟨ρ2, e2, S2, r, x0.trans x2, re2, g2, h', k.mono x2⟩⟩
    · rename_i e2 S2 eb
      cases h'
      exact ⟨ρ, e1, S, .bk e2 S2, re1, gg, eb, k⟩
    · rename_i d2 S2 eb
      cases h'
      exact ⟨ρ, e1, S, .rt d2 S2, re1, gg, eb, k⟩
theorem rs_for {tg iter : Expr} {body : List Stmt} {w : XW} {g : XG} {b : XS} (hp : PassesOwn (model X.prog X.w) X.A X.env X.xe) (hc : X.calm = true) (hi : PI X tg iter (rW X.K w)) (hg : PG X tg (rG X.K g)) (hb : PSs X body (rS X.K b))
    (hs : ∀ x, foldedSetIterable iter X.env x = pure x := by intro _; rfl) : PS X (.For tg iter body [] pos) (rS X.K (sFor w g b)) := by
  refine PS.imp (ps_for hp hc hi hg hb hs) fun E σ H ⟨ρ, e, S, r, re, gg, h, k⟩ => ?_
  unfold sFor at h
  split at h
  · cases h
  · rename_i ds S1 ew
    refine ⟨ρ, e, S, .fix ds, S1, re, gg, ew, fun ρ1 H1 J x1 g1 wk => ?_⟩
    exact for_fix (re.mono x1) g1 wk h (k.mono x1)
  · rename_i n S1 ew
    refine ⟨ρ, e, S, .live n, S1, re, gg, ew, fun ρ1 H1 J x1 g1 wk => ?_⟩
    obtain ⟨a, ha, rfl⟩ := wk
    exact for_live turns (re.mono x1) g1 ha h (k.mono x1)

theorem PI.imp {tg iter : Expr} {w w' : TI} (h : PI X tg iter w) (i : ∀ σ H R, w' σ H R → w σ H R) : PI X tg iter w' := ⟨fun pins s σ H R I q => h.run pins s σ H R I (i _ _ _ q)⟩
def wLst (m : XE) : XW := fun e S => match m e S with
  | some (.loc n, S1) => match lstAt S1 n with
    | some _ => some (.live n, S1)
    | none => none
  | _ => none
def wTup (m : XE) : XW := fun e S => match m e S with
  | some (.tup ds, S1) => some (.fix ds, S1)
  | _ => none
def rngD (lo hi : Int) : List D := (List.range (hi - lo).toNat).map fun (k : Nat) => .int (lo + k)
def smallI (i : Int) : Bool := decide (-1000000 ≤ i) && decide (i ≤ 1000000)
def wRng1 (m : XE) : XW := fun e S => match m e S with
  | some (.int j, S1) => if smallI j = true then some (.fix (rngD 0 j), S1) else none
  | _ => none
def wRng2 (m n : XE) : XW := fun e S => match m e S with
  | some (.int i, S1) => match n e S1 with
    | some (.int j, S2) => if (smallI i && smallI j) = true then some (.fix (rngD i j), S2) else none
    | _ => none
  | _ => none
theorem rw_lst {tg l : Expr} {m : XE} (hl : PE X l (rE X.K m)) : PI X tg l (rW X.K (wLst m)) := by
  refine PI.imp (pi_list hl) fun σ H R ⟨ρ, e, S, wk, S', re, g, h, k⟩ => ?_
  unfold wLst at h
  split at h
  · rename_i n S1 em
    split at h
    · rename_i ds el
      cases h
      refine ⟨ρ, e, S, _, _, re, g, em, fun ρ1 H1 v x1 g1 hv => ?_⟩
      cases hv with
      | loc hn =>
        obtain ⟨vs, hs, _⟩ := g1.lst hn el
        exact ⟨_, rfl, ⟨vs, hs⟩, k ρ1 H1 _ x1 g1 ⟨_, hn, rfl⟩⟩
    · cases h
  · cases h
theorem rw_tup {tg l : Expr} {m : XE} (hl : PE X l (rE X.K m)) : PI X tg l (rW X.K (wTup m)) := by
  refine PI.imp (pi_tup hl) fun σ H R ⟨ρ, e, S, wk, S', re, g, h, k⟩ => ?_
  unfold wTup at h
  split at h
  · rename_i ds S1 em
    cases h
    refine ⟨ρ, e, S, _, _, re, g, em, fun ρ1 H1 v x1 g1 hv => ?_⟩
    cases hv with
    | tup hs hr =>
      refine ⟨_, rfl, ⟨_, hs⟩, k ρ1 H1 _ x1 g1 ⟨fun ρ2 H2 x2 => ⟨_, x2.tup _ _ hs, by rw [hr.length]; exact Nat.le_refl _⟩, fun i d hd ρ2 H2 x2 => ?_⟩⟩
      obtain ⟨v, hv, rv⟩ := hr.get hd
      refine ⟨⟨_, v, x2.tup _ _ hs, hv⟩, fun x H3 y S3 g3 => ?_⟩
      obtain ⟨rfl, y2⟩ := y
      have ex := y2 _ (x2.tup _ _ hs)
      rw [hv] at ex
      cases ex
      exact ⟨.refl, g3, rv.mono x2⟩
  · cases h
theorem rng_ok {K : PySem.W.Frag} {ρ : List Addr} {H : Hp} {lo hi : Int} : WalkOk K ρ H (Itr lo (hi - lo).toNat) (.fix (rngD lo hi)) := by
  have hl : (rngD lo hi).length = (hi - lo).toNat := by simp [rngD]
  refine ⟨fun ρ' H' _ => by rw [hl]; exact Nat.le_refl _, fun i d hd ρ' H' x => ?_⟩
  have hi' : i < (hi - lo).toNat := hl ▸ (List.getElem?_eq_some_iff.mp hd).1
  have ed : d = .int (lo + (i : Int)) := by
    unfold rngD at hd
    rw [List.getElem?_map, List.getElem?_range hi'] at hd
    cases hd
    rfl
  subst ed
  refine ⟨hi', fun v H2 y S g => ?_⟩
  obtain ⟨rfl, rfl⟩ := y
  exact ⟨.refl, g, .int _⟩
theorem small_b {i : Int} (h : smallI i = true) : -(2 ^ 62) ≤ i ∧ i < 2 ^ 62 := by
  unfold smallI at h
  simp only [Bool.and_eq_true, decide_eq_true_eq] at h
  omega
theorem rw_rng1 {tg a : Expr} {m : XE} {p : Pos} (hg : Gl X "range") (hm : X.mg "range" = none) (ha : PE X a (rE X.K m)) (hs : starEach [a] X.env = [(false, eval a X.env)] := by rfl) : PI X tg (.Call (.Name "range" p) [a] [] pos) (rW X.K (wRng1 m)) := by
  refine PI.imp (pi_range1 hg hm (pa_cons ha pa_nil hs) hs) fun σ H R ⟨ρ, e, S, wk, S', re, g, h, k⟩ => ?_
  unfold wRng1 at h
  split at h
  · rename_i j S1 em
    split at h
    · rename_i hsm
      cases h
      refine ⟨ρ, e, S, _, _, re, g, em, fun ρ1 H1 v x1 g1 hv => ?_⟩
      cases hv
      obtain ⟨b1, b2⟩ := small_b hsm
      have q := k ρ1 H1 (Itr 0 (j - 0).toNat) x1 g1 rng_ok
      rw [Int.sub_zero] at q
      exact ⟨j, rfl, b1, b2, q⟩
    · cases h
  · cases h
theorem rw_rng2 {tg a b : Expr} {m n : XE} {p : Pos} (hg : Gl X "range") (hm : X.mg "range" = none) (ha : PE X a (rE X.K m)) (hb : PE X b (rE X.K n)) (hs : starEach [a, b] X.env = [(false, eval a X.env), (false, eval b X.env)] := by rfl) (hs2 : starEach [b] X.env = [(false, eval b X.env)] := by rfl) :
    PI X tg (.Call (.Name "range" p) [a, b] [] pos) (rW X.K (wRng2 m n)) := by
  refine PI.imp (pi_range2 hg hm (pa_cons ha (pa_cons hb pa_nil hs2) (by rw [hs, hs2])) hs hs2) fun σ H R ⟨ρ, e, S, wk, S', re, g, h, k⟩ => ?_
  unfold wRng2 at h
  split at h
  · rename_i i S1 em
    split at h
    · rename_i j S2 en
      split at h
      · rename_i hsm
        cases h
        rw [Bool.and_eq_true] at hsm
        refine ⟨ρ, e, S, _, _, re, g, em, fun ρ1 H1 v x1 g1 hv => ⟨ρ1, e, _, _, _, re.mono x1, g1, en, fun ρ2 H2 v2 x2 g2 hv2 => ?_⟩⟩
        cases hv
        cases hv2
        obtain ⟨b1, b2⟩ := small_b hsm.1
        obtain ⟨b3, b4⟩ := small_b hsm.2
        exact ⟨i, j, rfl, ⟨b1, b2, b3, b4⟩, k ρ2 H2 _ (x1.trans x2) g2 rng_ok⟩
      · cases h
    · cases h
  · cases h

end
end Mini
end
section
namespace Mini
open PySem PySem.Spec PyProof.Rows L2
variable [Tabs]

structure Rm (c n : Nat) (A : Around) : Prop where
  hd : A.handled = none
  dp : A.depth + c * n + 8 < recursionLimit
  un : A.units + 7 * (c * n) + 300 < cLine
theorem Rm.mono {c m n : Nat} {A : Around} (r : Rm c n A) (h : m ≤ n) : Rm c m A := by
  have hm : c * m ≤ c * n := Nat.mul_le_mul_left c h
  exact ⟨r.hd, by have := r.dp; omega, by have := r.un; omega⟩
theorem Rm.step {c n : Nat} {A : Around} (hc : 1 ≤ c) (r : Rm c (n + 1) A) (env : Env) : Rm c n (A.deeper env) := by
  have hm : c * (n + 1) = c * n + c := Nat.mul_succ c n
  refine ⟨r.hd, ?_, ?_⟩
  · have := r.dp
    show A.depth + 1 + c * n + 8 < _
    omega
  · have := r.un
    show A.units + 3 + 7 * (c * n) + 300 < _
    omega
structure Rs (c n j : Nat) (A : Around) : Prop where
  hd : A.handled = none
  dp : A.depth + c * n + j + 8 < recursionLimit
  un : A.units + 7 * (c * n) + 8 * j + 300 < cLine
theorem Rs.rm {c n j : Nat} {A : Around} (r : Rs c n j A) : Rm c n A := ⟨r.hd, by have := r.dp; omega, by have := r.un; omega⟩
theorem Rm.enter {c n : Nat} {A : Around} (hc : 1 ≤ c ∧ c ≤ 5) (r : Rm c (n + 1) A) (env : Env) : Rs c n (c - 1) (A.deeper env) := by
  have hm : c * (n + 1) = c * n + c := Nat.mul_succ c n
  refine ⟨r.hd, ?_, ?_⟩
  · have := r.dp
    show A.depth + 1 + c * n + (c - 1) + 8 < _
    omega
  · have := r.un
    show A.units + 3 + 7 * (c * n) + 8 * (c - 1) + 300 < _
    omega
theorem Rs.near {c n j : Nat} {A A' : Around} (r : Rs c n (j + 1) A) (h : A'.handled = none ∧ A'.depth = A.depth + 1 ∧ A'.units ≤ A.units + 8) : Rs c n j A' := by
  obtain ⟨h1, h2, h3⟩ := h
  exact ⟨h1, by have := r.dp; omega, by have := r.un; omega⟩
theorem Rs.un250 {c n j : Nat} {A : Around} (r : Rs c n j A) : A.units + 250 < cLine := by have := r.un; omega
theorem Rs.dp0 {c n j : Nat} {A : Around} (r : Rs c n j A) : A.depth < recursionLimit := by have := r.dp; omega
theorem Rm.un250 {c n : Nat} {A : Around} (r : Rm c n A) : A.units + 250 < cLine := by have := r.un; omega
structure FnAt (P : Program) (w : World) (K : PySem.W.Frag) (mg : Str → Option Value) (base : Heap) (c n : Nat) (f : Addr) (fd : FuncData) (ps : List Str) (m : List D → Sto → Option (D × Sto)) : Prop where
  run : ∀ (A : Around) (outer : List Env) (s : Shared) (H : Hp) (args : Args) (us : List Value) (vs : List V) (ds : List D) (ρ : List Addr) (S S' : Sto) (d : D) (Q : VK),
    Rm c n A → Env0 P w K mg base A outer s H → BindsTo s fd args (ps.zip us) → Vals vs us → Reps K ρ H ds vs → G K ρ H S → ds.length = ps.length → m ds S = some (d, S') →
    (∀ ρ' H' v, Ext K ρ H ρ' H' → G K ρ' H' S' → Rep K ρ' H' d v → Q v H') →
    codeAny (model P w) A (.call (.ref f) args) (CR CX0 outer P w H s Q E0) s
theorem FnAt.none {P : Program} {w : World} {K : PySem.W.Frag} {mg : Str → Option Value} {base : Heap} {c n : Nat} {f : Addr} {fd : FuncData} {ps : List Str} : FnAt P w K mg base c n f fd ps fun _ _ => none :=
  ⟨fun _ _ _ _ _ _ _ _ _ _ _ _ _ _ _ _ _ _ _ _ h => nomatch h⟩

def entry (k : Nat) (ds : List D) : EnvD := ds.map some ++ List.replicate (k - ds.length) none
def ends : Option Res → Option (D × Sto)
  | some (.rt d S) => some (d, S)
  | some (.nx _ S) => some (.non, S)
  | _ => none
theorem re_entry {K : PySem.W.Frag} {ρ : List Addr} {H : Hp} {N : List Str} {ds : List D} {vs : List V} (r : Reps K ρ H ds vs) : RE K ρ H (entry N.length ds) (L2.start N vs) := by
  have hl := r.length
  refine ⟨?_, fun i d h => ?_⟩
  · unfold entry L2.start
    rw [List.length_append, List.length_append, List.length_map, List.length_map, List.length_replicate, List.length_replicate, hl]
  · unfold entry at h
    by_cases hi : i < ds.length
    · rw [List.getElem?_append_left (by rw [List.length_map]; exact hi), List.getElem?_map] at h
      cases q : ds[i]? with
      | none => rw [q] at h; cases h
      | some d' =>
        rw [q] at h
        cases h
        obtain ⟨v, hv, rv⟩ := r.get q
        refine ⟨v, ?_, rv⟩
        unfold L2.start
        rw [List.getElem?_append_left (by rw [List.length_map]; omega), List.getElem?_map, hv]
        rfl
    · rw [List.getElem?_append_right (by rw [List.length_map]; omega), List.getElem?_replicate] at h
      split at h <;> cases h
section
variable {P : Program} {w : World} {K : PySem.W.Frag} {mg : Str → Option Value} {base : Heap} {c n : Nat}
theorem fnAt_of {x qual : Str} {st : Stmt} {f : Addr} {fd : FuncData} {N ps : List Str} {b : XS} (hc : 1 ≤ c ∧ c ≤ 5) (F : Fun K x qual st f fd) (S : FnScope N ps (defScope st))
    (hb : ∀ (cdv : Value) (A : Around) (outer : List Env) (s : Shared) (H : Hp) (E : XK), fd.code = cdv → Rs c n (c - 1) (A.deeper (envOfC qual (defScope st) s.heap.objs.size f cdv)) →
      PSs (cxOf CX0 P w K mg base N qual (defScope st) f cdv A outer s H E).nox (defBody st) (rS K b)) :
    FnAt P w K mg base c (n + 1) f fd ps fun ds S => ends (b (entry N.length ds) S) := by
  obtain ⟨oc, od, kV, doc, pm, an, cdv, ct, osl, rfl, lk, hcd⟩ := F.ex
  refine ⟨fun A outer s H args us vs ds ρ S0 S1 d Q hr e0 hbd r rd g hlen hm k => ?_⟩
  have hvl : vs.length = ps.length := by rw [← hlen]; exact rd.length.symm
  have KX : K.In s.heap := e0.mod.kin.keeps fun a o h => (e0.bs a o h).1
  have lim : s.heap.NoLimit := e0.mod.nolimit.keeps fun a o h => (e0.bs a o h).1
  have kinds : ∀ y ∈ ps.zip us, (defScope st).names.lookup y.1 = some .local ∨ ((defScope st).names.lookup y.1 = some .cell ∧ ((cellsFrom (s.heap.objs.size + 1) (defScope st).names []).lookup y.1).isSome = true) := fun ⟨z, v⟩ hy => by
    rcases S.par z (List.of_mem_zip hy).1 with q | q
    · exact .inl q
    · exact .inr ⟨q, PySem.W.cellsFrom_some _ _ _ (.inl q)⟩
  refine codeAny_call_function (by have := hr.dp; omega) (KX _ _ lk) rfl S.co S.gen rfl (PySem.W.codeRec_of KX hcd) (hbd _ _ _ _ ?_)
  refine wpAny_newFunctionEnv_cells S.kind kinds fun env he s1 x => ?_
  subst he
  refine ⟨lim.keeps x.toInCall.keep, codeAny_func ?_⟩
  have body := (hb cdv A outer s H E0 rfl (hr.enter hc _)).nox
  have I : Inv (cxOf CX0 P w K mg base N qual (defScope st) f cdv A outer s H E0) [] (L2.start N vs) H s1 := inv_start S hr.hd e0 hvl r x
  have rr : ∃ res, b (entry N.length ds) S0 = some res ∧ After K ρ H { nx := fun _ H' => Q .non H', rt := Q } res := by
    cases q : b (entry N.length ds) S0 with
    | none => rw [q] at hm; cases hm
    | some res =>
      rw [q] at hm
      refine ⟨res, rfl, ?_⟩
      cases res with
      | rt d' S' => cases hm; exact k
      | nx e' S' => cases hm; exact fun ρ' H' σ' x' g' _ => k ρ' H' .non x' g' .non
      | bk _ _ => cases hm
      | ct _ _ => cases hm
  obtain ⟨res, hres, aft⟩ := rr
  refine wpAny_mono (body.run [] s1 (L2.start N vs) H { nx := fun _ H' => Q .non H', rt := Q } I ⟨ρ, _, S0, res, re_entry rd, g, hres, aft⟩) (fun fl s' hs => ?_) fun e s' hs => hs
  have fin : ∀ {σ' : L2.St} {H' : Hp} {v : V} {u : Value}, Inv (cxOf CX0 P w K mg base N qual (defScope st) f cdv A outer s H E0) [] σ' H' s' → RelV v u → Q v H' → CE outer P w H s Q u s' :=
    fun {σ' H' v u} J rv q => ⟨v, H', J.os, J.bare, J.base, J.hok, rv, q⟩
  cases fl with
  | ret u => obtain ⟨v, σ', H', J, rv, q⟩ := hs; exact fin J rv q
  | next => obtain ⟨σ', H', J, q⟩ := hs; exact fin (v := V.non) (u := Value.none) J rfl q
  | brk => obtain ⟨_, _, _, q⟩ := hs; exact q.elim
  | cont => obtain ⟨_, _, _, q⟩ := hs; exact q.elim
structure Known (K : PySem.W.Frag) (mg : Str → Option Value) (x : Str) (f : Addr) (fd : FuncData) (ps : List Str) : Prop where
  at_ : mg x = some (.ref f)
  kp : PySem.W.keepIn K (.ref f) = true
  bd : Binds K fd ps []
end
section
variable {X : Cx} {c n j : Nat} {f : Addr} {fd : FuncData} {ps : List Str} {m : List D → Sto → Option (D × Sto)} {x : Str} {p pos : Pos} {e : Expr} {es : List Expr} {l : XL}
def xCall (k : Nat) (m : List D → Sto → Option (D × Sto)) (l : XL) : XE := fun e S => match l e S with
  | none => none
  | some (ds, S1) => if ds.length = k then m ds S1 else none
theorem r_call (F : FnAt X.prog X.w X.K X.mg X.base c n f fd ps m) (kn : Known X.K X.mg x f fd ps) (hr : Rs c n j X.A) (hg : Gl X x) (k : Nat) (hk : ps.length = k) (ha : PA X (e :: es) (rL X.K l)) (hdb : (x == ("__debug__" : Str)) = false := by decide)
    (he : starEach (e :: es) X.env = (false, eval e X.env) :: starEach es X.env := by rfl) (hpl : (backTo pos (starEach es X.env)).any (·.1) = false := by rfl) :
    PE X (.Call (.Name x p) (e :: es) [] pos) (rE X.K (xCall k m l)) := by
  refine ⟨fun pins s σ H Q I ⟨ρ, en, S, d, S', re, g, h, kk⟩ => ?_⟩
  unfold xCall at h
  split at h
  · cases h
  rename_i ds S1 el
  by_cases hl : ds.length = k
  case neg => rw [if_neg hl] at h; cases h
  rw [if_pos hl] at h
  refine wpAny_Call_Name_kw (ld_glob I hg kn.at_ ?_ hdb)
  refine PySem.W.callWith_K (h₀ := X.base) I.ok.mod.kin kn.kp (thn (ha.run pos pins s σ H (fun vs H1 => ∃ ρ1, Ext X.K ρ H ρ1 H1 ∧ G X.K ρ1 H1 S1 ∧ Reps X.K ρ1 H1 ds vs) I ⟨ρ, en, S, ds, S1, re, g, el, fun ρ1 H1 vs x1 g1 r1 => ⟨ρ1, x1, g1, r1⟩⟩) fun us s1 ⟨vs, H1, I1, r, ρ1, x1, g1, r1⟩ => ⟨I1.kIn, ?_⟩) he hpl
  have hus : (us ++ []).length = ps.length := by
    rw [List.append_nil, ← r.length, ← r1.length, hl, hk]
  refine wpAny_call (codeAny_mono (F.run X.A X.stack s1 H1 ⟨us, []⟩ us vs ds ρ1 S1 S' d Q hr.rm I1.env0 (by have q := kn.bd s1 us I1.kIn hus; rw [List.append_nil] at q; exact q) r r1 g1 (hl.trans hk.symm) h fun ρ2 H2 v x2 g2 hv => kk ρ2 H2 v (x1.trans x2) g2 hv) fun res s2 hq => ?_)
  cases res with
  | error _ => exact hq.elim
  | ok fl =>
    cases fl with
    | ret u => exact I1.after hq
    | next => exact hq.elim
    | brk => exact hq.elim
    | cont => exact hq.elim
end

mutual
/-- no place from k on -/
def D.low (k : Nat) : D → Prop
  | .tup ds => D.lows k ds
  | .loc n => n < k
  | _ => True
def D.lows (k : Nat) : List D → Prop
  | [] => True
  | d :: ds => D.low k d ∧ D.lows k ds
end
def O.low (k : Nat) : O → Prop
  | .lst ds => D.lows k ds
  | .frz ds => D.lows k ds
  | .dct kvs => D.lows k (kvs.map (·.2))
mutual
theorem Rep.cut {K : PySem.W.Frag} {ρ : List Addr} {H : Hp} {k : Nat} : ∀ {d : D} {v : V}, D.low k d → Rep K ρ H d v → Rep K (ρ.take k) H d v
  | _, _, _, .non => .non
  | _, _, _, .bl b => .bl b
  | _, _, _, .int i => .int i
  | _, _, _, .str z => .str z
  | _, _, l, .tup h r => .tup h (Reps.cut l r)
  | .loc n, _, l, .loc h => .loc (by rw [List.getElem?_take_of_lt l]; exact h)
theorem Reps.cut {K : PySem.W.Frag} {ρ : List Addr} {H : Hp} {k : Nat} : ∀ {ds : List D} {vs : List V}, D.lows k ds → Reps K ρ H ds vs → Reps K (ρ.take k) H ds vs
  | _, _, _, .nil => .nil
  | _, _, l, .cons h r => .cons (Rep.cut l.1 h) (Reps.cut l.2 r)
end
mutual
theorem Rep.low {K : PySem.W.Frag} {ρ : List Addr} {H : Hp} : ∀ {d : D} {v : V}, Rep K ρ H d v → D.low ρ.length d
  | _, _, .non => trivial
  | _, _, .bl b => trivial
  | _, _, .int i => trivial
  | _, _, .str z => trivial
  | _, _, .tup h r => Reps.low r
  | _, _, .loc h => (List.getElem?_eq_some_iff.mp h).1
theorem Reps.low {K : PySem.W.Frag} {ρ : List Addr} {H : Hp} : ∀ {ds : List D} {vs : List V}, Reps K ρ H ds vs → D.lows ρ.length ds
  | _, _, .nil => trivial
  | _, _, .cons h r => ⟨Rep.low h, Reps.low r⟩
end
theorem RepO.cut {K : PySem.W.Frag} {ρ : List Addr} {H : Hp} {a : Addr} {k : Nat} {q : O} (l : O.low k q) (h : RepO K ρ H a q) : RepO K (ρ.take k) H a q := by
  cases q with
  | lst ds =>
    obtain ⟨u, h1, h2⟩ := h
    cases u with
    | lst vs => exact ⟨.lst vs, h1, Reps.cut l h2⟩
    | _ => exact h2.elim
  | frz ds =>
    obtain ⟨vs, h1, h2⟩ := h
    exact ⟨vs, h1, Reps.cut l h2⟩
  | dct kvs =>
    obtain ⟨u, h1, h2⟩ := h
    cases u with
    | dK vs => exact ⟨.dK vs, h1, h2.1, Reps.cut l h2.2⟩
    | _ => exact h2.elim
theorem RepO.low {K : PySem.W.Frag} {ρ : List Addr} {H : Hp} {a : Addr} {q : O} (h : RepO K ρ H a q) : O.low ρ.length q := by
  cases q with
  | lst ds =>
    obtain ⟨u, h1, h2⟩ := h
    cases u with
    | lst vs => exact Reps.low h2
    | _ => exact h2.elim
  | frz ds =>
    obtain ⟨vs, h1, h2⟩ := h
    exact Reps.low h2
  | dct kvs =>
    obtain ⟨u, h1, h2⟩ := h
    cases u with
    | dK vs => exact Reps.low h2.2
    | _ => exact h2.elim
def Plain (m' m : List D → Sto → Option (D × Sto)) : Prop := ∀ ds S d S', m' ds S = some (d, S') → ∃ T, m ds S = some (d, S' ++ T) ∧ S.length ≤ S'.length ∧ (D.low S.length d ∨ D.low S'.length d) ∧ ∀ (i : Nat) (o : O), S'[i]? = some o → S[i]? = some o ∨ O.low S'.length o
mutual
theorem D.low_mono {j k : Nat} (h : j ≤ k) : ∀ {d : D}, D.low j d → D.low k d
  | .non, _ => trivial
  | .bl _, _ => trivial
  | .int _, _ => trivial
  | .str _, _ => trivial
  | .tup _, l => D.lows_mono h l
  | .loc _, l => Nat.lt_of_lt_of_le l h
theorem D.lows_mono {j k : Nat} (h : j ≤ k) : ∀ {ds : List D}, D.lows j ds → D.lows k ds
  | [], _ => trivial
  | _ :: _, l => ⟨D.low_mono h l.1, D.lows_mono h l.2⟩
end
theorem O.low_mono {j k : Nat} (h : j ≤ k) : ∀ {o : O}, O.low j o → O.low k o
  | .lst _, l => D.lows_mono h l
  | .frz _, l => D.lows_mono h l
  | .dct _, l => D.lows_mono h l
theorem G.cut {K : PySem.W.Frag} {ρ : List Addr} {H : Hp} {S T : Sto} (g : G K ρ H (S ++ T)) (h : ∀ (i : Nat) (o : O), S[i]? = some o → O.low S.length o) : G K (ρ.take S.length) H S := by
  have hl := g.len
  rw [List.length_append] at hl
  have look : ∀ (i : Nat) (a : Addr), (ρ.take S.length)[i]? = some a → ρ[i]? = some a := fun i a q => by
    have hi : i < S.length := by
      have := (List.getElem?_eq_some_iff.mp q).1
      rw [List.length_take] at this
      omega
    rw [List.getElem?_take_of_lt hi] at q
    exact q
  have put : ∀ (i : Nat) (o : O), S[i]? = some o → (S ++ T)[i]? = some o := fun i o q => pre_get (List.prefix_append S T) q
  refine ⟨by rw [List.length_take]; omega, fun i j a o q h1 h2 h3 h4 m1 m2 => g.nd i j a o q (look i a h1) (look j a h2) (put i o h3) (put j q h4) m1 m2, fun i a o h1 h2 => ?_, g.tab⟩
  exact (g.ob i a o (look i a h1) (put i o h2)).cut (h i o h2)
theorem FnAt.plain {P : Program} {w : World} {K : PySem.W.Frag} {mg : Str → Option Value} {base : Heap} {c n : Nat} {f : Addr} {fd : FuncData} {ps : List Str} {m m' : List D → Sto → Option (D × Sto)} (F : FnAt P w K mg base c n f fd ps m) (h : Plain m' m) : FnAt P w K mg base c n f fd ps m' := by
  refine ⟨fun A outer s H args us vs ds ρ S S' d Q hr e0 hb r rd g hl hm k => ?_⟩
  obtain ⟨T, h1, h2, h3, h4⟩ := h ds S d S' hm
  refine F.run A outer s H args us vs ds ρ S (S' ++ T) d Q hr e0 hb r rd g hl h1 fun ρ' H' v x g' hv => ?_
  have gl := g.len
  have low : ∀ (i : Nat) (o : O), S'[i]? = some o → O.low S'.length o := fun i o q => by
    rcases h4 i o q with z | z
    · have hi := (List.getElem?_eq_some_iff.mp z).1
      have := (g.ob i _ o (List.getElem?_eq_getElem (by omega : i < ρ.length)) z).low
      exact O.low_mono (by omega) this
    · exact z
  have dl : D.low S'.length d := by
    rcases h3 with z | z
    · exact D.low_mono h2 z
    · exact z
  refine k (ρ'.take S'.length) H' v ⟨?_, x.tup, x.ext⟩ (g'.cut low) (hv.cut dl)
  obtain ⟨t, e⟩ := x.pre
  refine ⟨t.take (S'.length - ρ.length), ?_⟩
  have e2 : S'.length = ρ.length + (S'.length - ρ.length) := by rw [gl]; exact (Nat.add_sub_cancel' h2).symm
  rw [← e]
  conv => rhs; rw [e2]
  exact (List.take_length_add_append _).symm

def spLaw (K : PySem.W.Frag) (n : Nat) : Sp := fun vs H Q _ => ∃ (a : Addr) (ns : List Int), vs = [.ref a] ∧ SqL K H a (ns.map V.int) ∧ TabsOk H ∧ ns.length ≤ n ∧ ∀ H', Q (.bl true) H'
theorem reps_ints {K : PySem.W.Frag} {ρ : List Addr} {H : Hp} : ∀ ns : List Int, Reps K ρ H (ns.map D.int) (ns.map V.int)
  | [] => .nil
  | i :: r => .cons (.int i) (reps_ints r)
theorem law_ok {P : Program} {w : World} {K : PySem.W.Frag} {mg : Str → Option Value} {base : Heap} {c n k N : Nat} {f : Addr} {fd : FuncData} {x : Str} {m : List D → Sto → Option (D × Sto)} (F : FnAt P w K mg base c n f fd [x] m) (h1 : c * n ≤ 3 * k) (h3 : 7 * (c * n) + 100 ≤ 16 * k)
    (hm : ∀ (ns : List Int) (o : O), ns.length ≤ N → o = .lst (ns.map D.int) ∨ o = .frz (ns.map D.int) → ∃ S', m [.loc 0] [o] = some (.bl true, S')) : FnOk P w K mg base CX0 (k + 1) f fd [x] (spLaw K N) := by
  refine ⟨fun vs H Q E h => ?_, fun A outer s H args us vs Q E hr e0 hb r h => ?_⟩
  · obtain ⟨a, ns, rfl, _⟩ := h
    rfl
  obtain ⟨a, ns, rfl, hs, ht, hl, q⟩ := h
  have rm : Rm c n A := ⟨hr.hd, by have := hr.dp; omega, by have := hr.un; omega⟩
  have go : ∃ o : O, (o = .lst (ns.map D.int) ∨ o = .frz (ns.map D.int)) ∧ G K [a] H [o] := by
    have one : ∀ o : O, RepO K [a] H a o → G K [a] H [o] := fun o ho => by
      refine ⟨rfl, fun i j b o1 q h1 h2 h3 h4 m1 m2 => ?_, fun i b o1 h1 h2 => ?_, ht⟩
      · have l3 := (List.getElem?_eq_some_iff.mp h3).1
        have l4 := (List.getElem?_eq_some_iff.mp h4).1
        simp only [List.length_singleton] at l3 l4
        omega
      · have e1 := List.mem_of_getElem? h1
        have e2 := List.mem_of_getElem? h2
        rw [List.mem_singleton] at e1 e2
        subst e1 e2
        exact ho
    rcases hs with (z | ⟨u, z⟩) | z
    · exact ⟨.lst (ns.map D.int), .inl rfl, one _ ⟨_, z, reps_ints ns⟩⟩
    · exact ⟨.frz (ns.map D.int), .inr rfl, one _ ⟨ns.map V.int, .inl ⟨u, z⟩, reps_ints ns⟩⟩
    · exact ⟨.frz (ns.map D.int), .inr rfl, one _ ⟨ns.map V.int, .inr (.inr z), reps_ints ns⟩⟩
  obtain ⟨o, ho, g⟩ := go
  obtain ⟨S', hS⟩ := hm ns o hl ho
  refine codeAny_mono (F.run A outer s H args us [.ref a] [.loc 0] [a] _ S' (.bl true) Q rm e0 hb r (.cons (.loc rfl) .nil) g rfl hS fun ρ' H' v _ _ hv => by cases hv; exact q H') fun res s2 hq => ?_
  cases res with
  | error _ => exact hq.elim
  | ok fl => exact hq
end Mini
end
section
namespace Mini
open PySem PySem.Spec PyProof.Rows L2
variable [Tabs]

def fI (g : Int → Int → Option D) (x y : D) (S : Sto) : Option (D × Sto) := match x, y with
  | .int i, .int j => match g i j with
    | some d => some (d, S)
    | none => none
  | _, _ => none
theorem opm_I {K : PySem.W.Frag} {g : Int → Int → Option D} {C : Int → Int → Prop} {k : Int → Int → V} (h : ∀ i j d, g i j = some d → C i j ∧ ∀ ρ H, Rep K ρ H d (k i j)) : OpM K (fI g) (rI C k) := by
  refine OpM.pure fun ρ H S x y d S' vx vy Q gg hx hy e => ?_
  unfold fI at e
  split at e
  · rename_i i j
    split at e
    · rename_i d' eg
      cases e
      cases hx
      cases hy
      obtain ⟨h1, h2⟩ := h i j _ eg
      exact ⟨rfl, fun q => ⟨i, j, rfl, rfl, h1, q _ (h2 ρ H)⟩⟩
    · cases e
  · cases e
theorem opm_I0 {K : PySem.W.Frag} {g : Int → Int → Option D} {k : Int → Int → V} (h : ∀ i j d, g i j = some d → ∀ ρ H, Rep K ρ H d (k i j)) : OpM K (fI g) (rI0 k) := by
  refine OpM.pure fun ρ H S x y d S' vx vy Q gg hx hy e => ?_
  unfold fI at e
  split at e
  · rename_i i j
    split at e
    · rename_i d' eg
      cases e
      cases hx
      cases hy
      exact ⟨rfl, fun q => ⟨i, j, rfl, rfl, q _ (h i j _ eg ρ H)⟩⟩
    · cases e
  · cases e
def small64 (i : Int) : Bool := decide (-(2 ^ 64) < i) && decide (i < 2 ^ 64)
def fSub : D → D → Sto → Option (D × Sto) := fI fun i j => some (.int (i - j))
def fMul : D → D → Sto → Option (D × Sto) := fI fun i j => if (small64 i || small64 j) = true then some (.int (i * j)) else none
def fDiv : D → D → Sto → Option (D × Sto) := fI fun i j => if (decide (0 < j) && decide (j < 1073741824)) = true then some (.int (i / j)) else none
def fMod : D → D → Sto → Option (D × Sto) := fI fun i j => if decide (0 < j) = true then some (.int (i % j)) else none
def fPow : D → D → Sto → Option (D × Sto) := fI fun i j => if (decide (0 ≤ j) && decide (j ≤ 1000000) && decide (i.natAbs < 2 ^ 64)) = true then some (.int (i ^ j.toNat)) else none
theorem small64_iff {i : Int} : small64 i = true ↔ -(2 ^ 64) < i ∧ i < 2 ^ 64 := by
  unfold small64
  simp only [Bool.and_eq_true, decide_eq_true_eq]
section
variable {K : PySem.W.Frag}
theorem om_sub : OpM K fSub (rI0 fun i j => .int (i - j)) := opm_I0 fun i j d h ρ H => by cases h; exact .int _
theorem om_mul : OpM K fMul (rI CMul fun i j => .int (i * j)) := opm_I fun i j d h => by
  split at h
  · rename_i c
    cases h
    rw [Bool.or_eq_true, small64_iff, small64_iff] at c
    exact ⟨c, fun _ _ => .int _⟩
  · cases h
theorem om_div : OpM K fDiv (rI CDiv fun i j => .int (i / j)) := opm_I fun i j d h => by
  split at h
  · rename_i c
    cases h
    simp only [Bool.and_eq_true, decide_eq_true_eq] at c
    exact ⟨c, fun _ _ => .int _⟩
  · cases h
theorem om_mod : OpM K fMod (rI (fun _ j => 0 < j) fun i j => .int (i % j)) := opm_I fun i j d h => by
  split at h
  · rename_i c
    cases h
    exact ⟨of_decide_eq_true c, fun _ _ => .int _⟩
  · cases h
theorem om_pow : OpM K fPow (rI CPow fun i j => .int (i ^ j.toNat)) := opm_I fun i j d h => by
  split at h
  · rename_i c
    cases h
    simp only [Bool.and_eq_true, decide_eq_true_eq] at c
    exact ⟨⟨c.1.1, c.1.2, c.2⟩, fun _ _ => .int _⟩
  · cases h
def fNeg : D → Sto → Option (D × Sto) := fun x S => match x with
  | .int i => some (.int (-i), S)
  | _ => none
theorem um_neg : UnM K fNeg (rU fun i => .int (-i)) := by
  intro ρ H S x d S' vx Q g hx e k
  unfold fNeg at e
  split at e
  · cases e; cases hx
    exact ⟨_, rfl, k ρ H _ .refl g (.int _)⟩
  · cases e

def fAdd : D → D → Sto → Option (D × Sto) := fun x y S => match x, y with
  | .int i, .int j => some (.int (i + j), S)
  | .str a, .str b => if a.length + b.length ≤ 100000 then some (.str (a ++ b), S) else none
  | .tup a, .tup b => if a.length + b.length ≤ 100000 then some (.tup (a ++ b), S) else none
  | .loc m, .loc n => match S[m]?, S[n]? with
    | some (.lst a), some (.lst b) => if a.length + b.length ≤ 100000 then some (.loc S.length, S ++ [.lst (a ++ b)]) else none
    | _, _ => none
  | _, _ => none
def rAddA (K : PySem.W.Frag) : R2 := fun x y H Q => (rI0 (fun i j => .int (i + j)) x y H Q) ∨ (∃ i j, x = .str i ∧ y = .str j ∧ i.length + j.length ≤ sizeLine ∧ Q (.str (i ++ j)) H) ∨ rCatA K x y H Q ∨ rCat x y H Q
theorem orp_add {X : Cx} : OpR X (binaryOp .Add) (rAddA X.K) := OpR.or op_add (OpR.or op_add_str (OpR.or op_catA op_cat))
theorem lst_at {ρ : List Addr} {H : Hp} {S : Sto} {n : Nat} {a : Addr} {ds : List D} (g : G K ρ H S) (hn : ρ[n]? = some a) (h : S[n]? = some (.lst ds)) : ∃ vs, H a = some (.lst vs) ∧ Reps K ρ H ds vs := by
  obtain ⟨u, h1, h2⟩ := g.ob n a _ hn h
  cases u with
  | lst vs => exact ⟨vs, h1, h2⟩
  | _ => exact h2.elim
theorem om_add : OpM K fAdd (rAddA K) := by
  intro ρ H S x y d S' vx vy Q g hx hy e k
  unfold fAdd at e
  split at e
  · cases e; cases hx; cases hy
    exact .inl ⟨_, _, rfl, rfl, k ρ H _ .refl g (.int _)⟩
  · split at e
    · rename_i hl
      cases e; cases hx; cases hy
      exact .inr (.inl ⟨_, _, rfl, rfl, line5 hl, k ρ H _ .refl g (.str _)⟩)
    · cases e
  · split at e
    · rename_i a b hl
      cases e
      cases hx with
      | tup sa ra =>
        cases hy with
        | tup sb rb =>
          refine .inr (.inr (.inl ⟨_, _, _, _, rfl, rfl, sa, sb, by rw [← ra.length, ← rb.length]; exact line5 hl, fun e1 => ?_, fun _ e2 => ?_, fun _ _ p hp => ?_⟩))
          · subst e1
            cases ra
            exact k ρ H _ .refl g (.tup sb rb)
          · subst e2
            cases rb
            rw [List.append_nil] at k
            exact k ρ H _ .refl g (.tup sa ra)
          · obtain ⟨x1, g1, r1⟩ := tup_new g (ra.append rb) hp
            exact k _ _ _ x1 g1 r1
    · cases e
  · rename_i m n
    split at e
    · rename_i a b h1 h2
      split at e
      · rename_i hl
        cases e
        cases hx with
        | loc hm =>
          cases hy with
          | loc hn =>
            obtain ⟨va, ea, ra⟩ := lst_at g hm h1
            obtain ⟨vb, eb, rb⟩ := lst_at g hn h2
            refine .inr (.inr (.inr ⟨_, _, _, _, rfl, rfl, ea, eb, by rw [← ra.length, ← rb.length]; exact line5 hl, fun p hp => ?_⟩))
            obtain ⟨x1, g1, r1⟩ := lst_new g (ra.append rb) hp
            exact k _ _ _ x1 g1 r1
      · cases e
    · cases e
  · cases e

def fLt : D → D → Sto → Option (D × Sto) := fI fun i j => some (.bl (decide (i < j)))
def fLe : D → D → Sto → Option (D × Sto) := fI fun i j => some (.bl (decide (i ≤ j)))
def fGt : D → D → Sto → Option (D × Sto) := fI fun i j => some (.bl (decide (j < i)))
def fGe : D → D → Sto → Option (D × Sto) := fI fun i j => some (.bl (decide (j ≤ i)))
theorem om_lt : OpM K fLt (rI0 fun i j => .bl (decide (i < j))) := opm_I0 fun i j d h ρ H => by cases h; exact .bl _
theorem om_le : OpM K fLe (rI0 fun i j => .bl (decide (i ≤ j))) := opm_I0 fun i j d h ρ H => by cases h; exact .bl _
theorem om_gt : OpM K fGt (rI0 fun i j => .bl (decide (j < i))) := opm_I0 fun i j d h ρ H => by cases h; exact .bl _
theorem om_ge : OpM K fGe (rI0 fun i j => .bl (decide (j ≤ i))) := opm_I0 fun i j d h ρ H => by cases h; exact .bl _
mutual
/-- no places, at most so deep -/
def D.pub : Nat → D → Bool
  | 0, .tup _ => false
  | n + 1, .tup ds => D.pubs n ds
  | _, .loc _ => false
  | _, .str x => PyData.strOk x
  | _, _ => true
def D.pubs : Nat → List D → Bool
  | _, [] => true
  | n, d :: ds => D.pub n d && D.pubs n ds
end
mutual
def D.py : D → PyData
  | .non => .none
  | .bl b => .bool b
  | .int i => .int i
  | .str x => .str x
  | .tup ds => .tuple (D.pys ds)
  | .loc _ => .none
def D.pys : List D → List PyData
  | [] => []
  | d :: ds => D.py d :: D.pys ds
end
mutual
def eqB : D → D → Bool
  | .non, .non => true
  | .bl a, .bl b => decide (a = b)
  | .bl a, .int j => decide ((if a then 1 else 0) = j)
  | .int i, .bl b => decide (i = (if b then 1 else 0))
  | .int i, .int j => decide (i = j)
  | .str x, .str y => decide (x = y)
  | .tup a, .tup b => eqBs a b
  | _, _ => false
def eqBs : List D → List D → Bool
  | [], [] => true
  | x :: xs, y :: ys => eqB x y && eqBs xs ys
  | _, _ => false
end
mutual
theorem eqB_py : ∀ {x y : D} {m n : Nat}, D.pub m x = true → D.pub n y = true → PyData.eqv x.py y.py = eqB x y
  | .loc _, _, m, _, h, _ => by cases m <;> cases h
  | .non, .loc _, _, n, _, h => by cases n <;> cases h
  | .bl _, .loc _, _, n, _, h => by cases n <;> cases h
  | .int _, .loc _, _, n, _, h => by cases n <;> cases h
  | .str _, .loc _, _, n, _, h => by cases n <;> cases h
  | .tup _, .loc _, _, n, _, h => by cases n <;> cases h
  | .non, .non, _, _, _, _ => rfl
  | .non, .bl _, _, _, _, _ => rfl
  | .non, .int _, _, _, _, _ => rfl
  | .non, .str _, _, _, _, _ => rfl
  | .non, .tup _, _, _, _, _ => rfl
  | .bl a, .non, _, _, _, _ => rfl
  | .bl a, .bl b, _, _, _, _ => by cases a <;> cases b <;> rfl
  | .bl a, .int j, _, _, _, _ => by
    show ((if a then 1 else 0) == j) = decide ((if a then 1 else 0) = j)
    cases a <;> rfl
  | .bl _, .str _, _, _, _, _ => rfl
  | .bl _, .tup _, _, _, _, _ => rfl
  | .int _, .non, _, _, _, _ => rfl
  | .int i, .bl b, _, _, _, _ => by
    show (i == (if b then 1 else 0)) = decide (i = (if b then 1 else 0))
    cases b <;> rfl
  | .int i, .int j, _, _, _, _ => rfl
  | .int _, .str _, _, _, _, _ => rfl
  | .int _, .tup _, _, _, _, _ => rfl
  | .str _, .non, _, _, _, _ => rfl
  | .str _, .bl _, _, _, _, _ => rfl
  | .str _, .int _, _, _, _, _ => rfl
  | .str x, .str y, _, _, _, _ => by
    show (x == y) = decide (x = y)
    by_cases h : x = y
    · subst h; simp
    · rw [decide_eq_false h]; exact beq_eq_false_iff_ne.mpr h
  | .str _, .tup _, _, _, _, _ => rfl
  | .tup _, .non, _, _, _, _ => rfl
  | .tup _, .bl _, _, _, _, _ => rfl
  | .tup _, .int _, _, _, _, _ => rfl
  | .tup _, .str _, _, _, _, _ => rfl
  | .tup a, .tup b, 0, _, h, _ => by cases h
  | .tup a, .tup b, _, 0, _, h => by cases h
  | .tup a, .tup b, m + 1, n + 1, h1, h2 => eqBs_py (m := m) (n := n) h1 h2
theorem eqBs_py : ∀ {xs ys : List D} {m n : Nat}, D.pubs m xs = true → D.pubs n ys = true → PyData.eqvAll (D.pys xs) (D.pys ys) = eqBs xs ys
  | [], [], _, _, _, _ => rfl
  | [], _ :: _, _, _, _, _ => rfl
  | _ :: _, [], _, _, _, _ => rfl
  | x :: xs, y :: ys, m, n, h1, h2 => by
    have a1 : (D.pub m x && D.pubs m xs) = true := h1
    have a2 : (D.pub n y && D.pubs n ys) = true := h2
    rw [Bool.and_eq_true] at a1 a2
    show (PyData.eqv x.py y.py && PyData.eqvAll (D.pys xs) (D.pys ys)) = (eqB x y && eqBs xs ys)
    rw [eqB_py a1.1 a2.1, eqBs_py a1.2 a2.2]
end
mutual
theorem py_dp {ρ : List Addr} {H : Hp} : ∀ {d : D} {v : V} {n : Nat}, Rep K ρ H d v → D.pub n d = true → Dp K H v d.py ∧ d.py.canLay0 = true ∧ d.py.depth ≤ n
  | _, _, n, .non, _ => ⟨.non, rfl, Nat.zero_le _⟩
  | _, _, n, .bl b, _ => ⟨.bl b, rfl, Nat.zero_le _⟩
  | _, _, n, .int i, _ => ⟨.int i, rfl, Nat.zero_le _⟩
  | _, _, 0, .str x, h => ⟨.str x, h, Nat.zero_le _⟩
  | _, _, n + 1, .str x, h => ⟨.str x, h, Nat.zero_le _⟩
  | _, _, 0, .tup _ _, h => by cases h
  | _, _, n + 1, .tup hs hr, h => by
    obtain ⟨h1, h2, h3⟩ := pys_dp (n := n) hr h
    exact ⟨.tup hs h1, by show PyData.canLayAll0 _ = true; exact h2, Nat.succ_le_succ h3⟩
  | _, _, n, .loc _, h => by cases n <;> cases h
theorem pys_dp {ρ : List Addr} {H : Hp} : ∀ {ds : List D} {vs : List V} {n : Nat}, Reps K ρ H ds vs → D.pubs n ds = true → DpAll K H vs (D.pys ds) ∧ PyData.canLayAll0 (D.pys ds) = true ∧ PyData.depthAll (D.pys ds) ≤ n
  | _, _, n, .nil, _ => ⟨.nil, rfl, Nat.zero_le _⟩
  | _, _, n, .cons (d := d) (ds := ds) hd hr, h => by
    have a1 : (D.pub n d && D.pubs n ds) = true := h
    rw [Bool.and_eq_true] at a1
    obtain ⟨h1, h2, h3⟩ := py_dp hd a1.1
    obtain ⟨k1, k2, k3⟩ := pys_dp hr a1.2
    exact ⟨.cons h1 k1, by show (_ && _) = true; rw [h2, k2]; rfl, Nat.max_le.mpr ⟨h3, k3⟩⟩
end
def eqS : D → D → Option Bool
  | .non, .non => some true
  | .non, .int _ => some false
  | .int _, .non => some false
  | .non, .bl _ => some false
  | .bl _, .non => some false
  | .non, .str _ => some false
  | .str _, .non => some false
  | .int i, .int j => some (decide (i = j))
  | .bl i, .bl j => some (decide (i = j))
  | .str i, .str j => some (decide (i = j))
  | .int _, .str _ => some false
  | .str _, .int _ => some false
  | .bl _, .str _ => some false
  | .str _, .bl _ => some false
  | _, _ => none
def eqF (x y : D) : Option Bool := match eqS x y with
  | some b => some b
  | none => if (D.pub 200 x && D.pub 200 y) = true then some (eqB x y) else none
def fEq (x y : D) (S : Sto) : Option (D × Sto) := match eqF x y with
  | some b => some (.bl b, S)
  | none => none
def fNe (x y : D) (S : Sto) : Option (D × Sto) := match eqF x y with
  | some b => some (.bl (!b), S)
  | none => none
def rEqV (K : PySem.W.Frag) : R2 := fun x y H Q => rEq x y H Q ∨ ∃ d e, Dp K H x d ∧ Dp K H y e ∧ d.canLay0 = true ∧ e.canLay0 = true ∧ d.depth ≤ 200 ∧ Q (.bl (PyData.eqv d e)) H
def rNeV (K : PySem.W.Frag) : R2 := fun x y H Q => rNe x y H Q ∨ ∃ d e, Dp K H x d ∧ Dp K H y e ∧ d.canLay0 = true ∧ e.canLay0 = true ∧ d.depth ≤ 200 ∧ Q (.bl (!PyData.eqv d e)) H
theorem orp_eq {X : Cx} (hu : X.A.units + 250 < cLine) : OpR X (compareOp .Eq) (rEqV X.K) := OpR.or op_eq (by
  intro pins s σ H x y v u Q I rx ry ⟨d, e, h1, h2, h3, h4, h5, q⟩
  obtain ⟨as, ra⟩ := Dp.reads I d x v h1 rx
  obtain ⟨bs, rb⟩ := Dp.reads I e y u h2 ry
  exact SeqAt.compareEq_reads ra rb h3 h4 (by omega) ⟨.bl _, H, I, rfl, q⟩)
theorem orp_ne {X : Cx} (hu : X.A.units + 250 < cLine) : OpR X (compareOp .NotEq) (rNeV X.K) := OpR.or op_ne (by
  intro pins s σ H x y v u Q I rx ry ⟨d, e, h1, h2, h3, h4, h5, q⟩
  obtain ⟨as, ra⟩ := Dp.reads I d x v h1 rx
  obtain ⟨bs, rb⟩ := Dp.reads I e y u h2 ry
  exact SeqAt.compareNe_reads ra rb h3 h4 (by omega) ⟨.bl _, H, I, rfl, q⟩)
theorem eqS_of {ρ : List Addr} {H : Hp} {x y : D} {vx vy : V} {b : Bool} (hx : Rep K ρ H x vx) (hy : Rep K ρ H y vy) (h : eqS x y = some b) : scal vx vy = true ∧ b = decide (vx = vy) := by
  cases hx <;> cases hy <;> first
    | (cases h; exact ⟨rfl, rfl⟩)
    | (cases h; exact ⟨rfl, by simp⟩)
    | cases h
theorem eqF_of {ρ : List Addr} {H : Hp} {x y : D} {vx vy : V} {b : Bool} (hx : Rep K ρ H x vx) (hy : Rep K ρ H y vy) (h : eqF x y = some b) : (scal vx vy = true ∧ b = decide (vx = vy)) ∨ ∃ d e, Dp K H vx d ∧ Dp K H vy e ∧ d.canLay0 = true ∧ e.canLay0 = true ∧ d.depth ≤ 200 ∧ b = PyData.eqv d e := by
  unfold eqF at h
  split at h
  · rename_i b' e1
    cases h
    exact .inl (eqS_of hx hy e1)
  · split at h
    · rename_i c
      rw [Bool.and_eq_true] at c
      cases h
      obtain ⟨a1, a2, a3⟩ := py_dp hx c.1
      obtain ⟨b1, b2, b3⟩ := py_dp hy c.2
      exact .inr ⟨_, _, a1, b1, a2, b2, a3, (eqB_py c.1 c.2).symm⟩
    · cases h
theorem om_eq : OpM K fEq (rEqV K) := OpM.pure fun ρ H S x y d S' vx vy Q g hx hy e => by
  unfold fEq at e
  split at e
  · rename_i b eb
    cases e
    refine ⟨rfl, fun q => ?_⟩
    rcases eqF_of hx hy eb with ⟨h1, rfl⟩ | ⟨d1, d2, h1, h2, h3, h4, h5, rfl⟩
    · exact .inl ⟨h1, q _ (.bl _)⟩
    · exact .inr ⟨d1, d2, h1, h2, h3, h4, h5, q _ (.bl _)⟩
  · cases e
theorem om_ne : OpM K fNe (rNeV K) := OpM.pure fun ρ H S x y d S' vx vy Q g hx hy e => by
  unfold fNe at e
  split at e
  · rename_i b eb
    cases e
    refine ⟨rfl, fun q => ?_⟩
    rcases eqF_of hx hy eb with ⟨h1, rfl⟩ | ⟨d1, d2, h1, h2, h3, h4, h5, rfl⟩
    · exact .inl ⟨h1, q _ (.bl _)⟩
    · exact .inr ⟨d1, d2, h1, h2, h3, h4, h5, q _ (.bl _)⟩
  · cases e
def isNon : D → Bool
  | .non => true
  | _ => false
def isF (x y : D) : Option Bool := match y with
  | .non => some (isNon x)
  | .bl b => match x with
    | .bl a => some (decide (a = b))
    | _ => none
  | _ => none
def fIs (x y : D) (S : Sto) : Option (D × Sto) := match isF x y with
  | some b => some (.bl b, S)
  | none => none
def fIsNot (x y : D) (S : Sto) : Option (D × Sto) := match isF x y with
  | some b => some (.bl (!b), S)
  | none => none
def rIsA : R2 := fun x y H Q => (y = .non ∧ Q (.bl (decide (x = .non))) H) ∨ rIsB x y H Q
def rNotA : R2 := fun x y H Q => (y = .non ∧ Q (.bl (!decide (x = .non))) H) ∨ rNotB x y H Q
theorem orp_is {X : Cx} : OpR X (compareOp .Is) rIsA := OpR.or op_isN op_isBl
theorem orp_not {X : Cx} : OpR X (compareOp .IsNot) rNotA := OpR.or op_notN op_notBl
theorem isF_of {ρ : List Addr} {H : Hp} {x y : D} {vx vy : V} {b : Bool} (hx : Rep K ρ H x vx) (hy : Rep K ρ H y vy) (h : isF x y = some b) : (vy = .non ∧ b = decide (vx = .non)) ∨ ∃ i j : Bool, vx = .bl i ∧ vy = .bl j ∧ b = decide (i = j) := by
  cases hy <;> first | cases h | skip
  · refine .inl ⟨rfl, ?_⟩
    cases hx <;> simp [isF, isNon]
  · cases hx <;> first
      | (cases h; exact .inr ⟨_, _, rfl, rfl, rfl⟩)
      | cases h
theorem om_is : OpM K fIs rIsA := OpM.pure fun ρ H S x y d S' vx vy Q g hx hy e => by
  unfold fIs at e
  split at e
  · rename_i b eb
    cases e
    refine ⟨rfl, fun q => ?_⟩
    rcases isF_of hx hy eb with ⟨rfl, rfl⟩ | ⟨i, j, rfl, rfl, rfl⟩
    · exact .inl ⟨rfl, q _ (.bl _)⟩
    · exact .inr ⟨i, j, rfl, rfl, q _ (.bl _)⟩
  · cases e
theorem om_isNot : OpM K fIsNot rNotA := OpM.pure fun ρ H S x y d S' vx vy Q g hx hy e => by
  unfold fIsNot at e
  split at e
  · rename_i b eb
    cases e
    refine ⟨rfl, fun q => ?_⟩
    rcases isF_of hx hy eb with ⟨rfl, rfl⟩ | ⟨i, j, rfl, rfl, rfl⟩
    · exact .inl ⟨rfl, q _ (.bl _)⟩
    · exact .inr ⟨i, j, rfl, rfl, q _ (.bl _)⟩
  · cases e

def fIx : D → D → Sto → Option (D × Sto) := fun x y S => match x, y with
  | .tup ds, .int i => match atI ds i with
    | some d => some (d, S)
    | none => none
  | .loc n, .int i => match lstAt S n with
    | some ds => match atI ds i with
      | some d => some (d, S)
      | none => none
    | none => none
  | .str z, .int i => if z.length ≤ 100000 then match atI z.cps.toList i with
      | some c => some (.str ⟨#[c]⟩, S)
      | none => none
    else none
  | _, _ => none
theorem atI_rep {ρ : List Addr} {H : Hp} {ds : List D} {vs : List V} {i : Int} {d : D} (r : Reps K ρ H ds vs) (h : atI ds i = some d) : ∃ v, atI vs i = some v ∧ Rep K ρ H d v := by
  unfold atI at h ⊢
  rw [← r.length]
  cases q : ixN ds.length i with
  | none => rw [q] at h; cases h
  | some j =>
    rw [q] at h
    exact r.get h
theorem om_ix : OpM K fIx (rIx K) := OpM.pure fun ρ H S x y d S' vx vy Q g hx hy e => by
  unfold fIx at e
  split at e
  · split at e
    · rename_i d' ed
      cases e
      cases hx with
      | tup hs hr =>
        cases hy
        obtain ⟨v, hv, rv⟩ := atI_rep hr ed
        exact ⟨rfl, fun q => .inr (.inl ⟨_, _, _, v, rfl, rfl, hs, hv, q v rv⟩)⟩
    · cases e
  · split at e
    · rename_i ds el
      split at e
      · rename_i d' ed
        cases e
        cases hx with
        | loc hn =>
          cases hy
          obtain ⟨vs, hs, hr⟩ := g.lst hn el
          obtain ⟨v, hv, rv⟩ := atI_rep hr ed
          exact ⟨rfl, fun q => .inl ⟨_, vs, _, v, rfl, rfl, hs, hv, q v rv⟩⟩
      · cases e
    · cases e
  · split at e
    · rename_i hl
      split at e
      · rename_i c' ec
        cases e; cases hx; cases hy
        exact ⟨rfl, fun q => .inr (.inr ⟨_, _, _, rfl, rfl, line5 hl, ec, q _ (.str _)⟩)⟩
      · cases e
    · cases e
  · cases e
def fPut : D → D → D → Sto → Option Sto := fun x i y S => match x, i with
  | .loc n, .int k => match S[n]? with
    | some (.lst ds) => match ixN ds.length k with
      | some j => some (S.set n (.lst (ds.set j y)))
      | none => none
    | _ => none
  | _, _ => none
theorem pm_put : PutM K fPut rSetL := by
  intro ρ H S x i y S' vx vi vy Q g hx hi hy e k
  unfold fPut at e
  split at e
  · split at e
    · rename_i n kk ds h1
      split at e
      · rename_i j ej
        cases e
        cases hx with
        | loc hn =>
          cases hi
          obtain ⟨vs, ev, rv⟩ := lst_at g hn h1
          obtain ⟨g1, x1⟩ := g.set (q := .lst (ds.set j y)) (o := .lst (vs.set j vy)) hn h1 rfl rfl (rv.set hy j)
          exact ⟨_, _, _, j, rfl, rfl, ev, by rw [← rv.length]; exact ej, k ρ _ x1 g1⟩
      · cases e
    · cases e
  · cases e

def lenF (S : Sto) : D → Option Int
  | .str z => if z.length ≤ 100000 then some z.length else none
  | .tup ds => some ds.length
  | .loc n => match lstAt S n with
    | some ds => some ds.length
    | none => none
  | _ => none
def fLen (xs : List D) (S : Sto) : Option (D × Sto) := match xs with
  | [x] => match lenF S x with
    | some n => some (.int n, S)
    | none => none
  | _ => none
theorem am_len : AllM K fLen (fun xs H Q => ∃ x n, xs = [x] ∧ LenV K x H n ∧ Q (.int n) H) := by
  intro ρ H S xs d S' vs Q g hx e k
  unfold fLen at e
  split at e
  rotate_left
  · cases e
  rename_i x
  split at e
  rotate_left
  · cases e
  rename_i n en
  cases e
  cases hx with
  | cons hr hn =>
    cases hn
    have fin : ∀ m : Nat, n = (m : Int) → Q (.int m) H := fun m em => k ρ H _ .refl g (em ▸ .int _)
    cases hr with
    | str z =>
      have en' : (if z.length ≤ 100000 then some (z.length : Int) else none) = some n := en
      split at en'
      · rename_i hl
        cases en'
        exact ⟨_, z.length, rfl, ⟨line5 hl, rfl⟩, fin _ rfl⟩
      · cases en'
    | tup hs hq =>
      cases en
      exact ⟨_, _, rfl, .inr ⟨_, hs, rfl⟩, fin _ (by rw [hq.length])⟩
    | @loc j a hj =>
      have en' : (match lstAt S j with | some ds => some (ds.length : Int) | none => none) = some n := en
      split at en'
      · rename_i ds el
        cases en'
        obtain ⟨vs, hs, hq⟩ := g.lst hj el
        exact ⟨_, _, rfl, .inl ⟨vs, hs, rfl⟩, fin _ (by rw [hq.length])⟩
      · cases en'
    | _ => cases en
def fInt (xs : List D) (S : Sto) : Option (D × Sto) := match xs with
  | [.int i] => some (.int i, S)
  | [.bl k] => some (.int (if k then 1 else 0), S)
  | _ => none
theorem am_int : AllM K fInt (fun xs H Q => (∃ i, xs = [.int i] ∧ Q (.int i) H) ∨ ∃ k, xs = [.bl k] ∧ Q (.int (if k then 1 else 0)) H) := by
  intro ρ H S xs d S' vs Q g hx e k
  unfold fInt at e
  split at e
  · cases e
    cases hx with
    | cons h hn =>
      cases h; cases hn
      exact .inl ⟨_, rfl, k ρ H _ .refl g (.int _)⟩
  · cases e
    cases hx with
    | cons h hn =>
      cases h; cases hn
      exact .inr ⟨_, rfl, k ρ H _ .refl g (.int _)⟩
  · cases e
inductive Ty where
  | non | bool | int | str | tuple | list | dict | set
  deriving DecidableEq
def Ty.nm : Ty → String
  | .non => "NoneType"
  | .bool => "bool"
  | .int => "int"
  | .str => "str"
  | .tuple => "tuple"
  | .list => "list"
  | .dict => "dict"
  | .set => "set"
def isTy : Ty → Ty → Bool
  | .bool, .int => true
  | t, u => decide (t = u)
theorem isTy_kit (t u : Ty) : kitB t.nm u.nm = some (isTy t u) := by
  cases t <;> cases u <;> decide +kernel
def tyD (S : Sto) : D → Option Ty
  | .non => some .non
  | .bl _ => some .bool
  | .int _ => some .int
  | .str _ => some .str
  | .tup _ => some .tuple
  | .loc n => match lstAt S n with
    | some _ => some .list
    | none => none
def xIsi (T : Ty) (a : XE) : XE := fun e S => match a e S with
  | none => none
  | some (x, S1) => match tyD S1 x with
    | none => none
    | some t => some (.bl (isTy t T), S1)
theorem ty_rep {ρ : List Addr} {H : Hp} {S : Sto} {x : D} {v : V} {t : Ty} (g : G K ρ H S) (r : Rep K ρ H x v) (h : tyD S x = some t) : TyX K H v (.type t.nm) := by
  cases r with
  | non => cases h; exact .base .non
  | bl b => cases h; exact .base (.bl b)
  | int i => cases h; exact .base (.int i)
  | str z => cases h; exact .base (.str z)
  | tup hs hr =>
    cases h
    rcases hs with (hs | ⟨u, hs⟩) | ⟨o, its, n, h1, h2, _⟩
    · exact .base (.tup hs)
    · exact .fTuple hs
    · exact .kTuple h1 h2
  | @loc n a hn =>
    have h' : (match lstAt S n with | some _ => some Ty.list | none => none) = some t := h
    split at h'
    · rename_i ds el
      cases h'
      obtain ⟨vs, hs, _⟩ := g.lst hn el
      rcases hs with (hs | ⟨u, hs⟩) | ⟨o, its, n, h1, h2, _⟩
      · exact .base (.lst hs)
      · exact .base (.frz hs)
      · exact .kList h1 h2
    · cases h'
section
variable {X : Cx} {a : Expr} {p p2 pos : Pos} {ma : XE}
theorem r_isi (T : Ty) {nm : Str} (hg : Gl X "isinstance") (hm : X.mg "isinstance" = none) (hv : bootBuiltins "isinstance" = some (.builtin "isinstance")) (hg2 : Gl X nm) (hm2 : X.mg nm = none) (hv2 : bootBuiltins nm = some (.type T.nm)) (ha : PE X a (rE X.K ma))
    (hn2 : nm ≠ "__name__" := by decide) (hd2 : (nm == ("__debug__" : Str)) = false := by decide)
    (he : starEach [a, .Name nm p2] X.env = (false, eval a X.env) :: starEach [.Name nm p2] X.env := by rfl) (he2 : starEach [.Name nm p2] X.env = (false, eval (.Name nm p2) X.env) :: starEach [] X.env := by rfl)
    (hpl : (backTo pos (starEach [.Name nm p2] X.env)).any (·.1) = false := by rfl) :
    PE X (.Call (.Name "isinstance" p) [a, .Name nm p2] [] pos) (rE X.K (xIsi T ma)) := by
  have hb : PE X (.Name nm p2) (tC (.ty T.nm)) := pe_bltn hg2 hm2 hv2 rfl hn2 hd2
  refine PE.imp (pe_callB call_isi hg hm hv (pa_cons ha (pa_cons hb pa_nil he2) he) (by decide) (by decide) he hpl) fun σ H Q ⟨ρ, e, S, d, S', re, g, h, k⟩ => ?_
  unfold xIsi at h
  split at h
  · cases h
  rename_i x S1 ea
  split at h
  · cases h
  rename_i t et
  cases h
  exact ⟨ρ, e, S, x, _, re, g, ea, fun ρ1 H1 v x1 g1 hv => ⟨v, .ty T.nm, .type t.nm, .type T.nm, isTy t T, rfl, .ty _, ty_rep g1 hv et, kit_ty (isTy_kit t T), k ρ1 H1 _ x1 g1 (.bl _)⟩⟩
theorem r_blt {x : Str} {id : String} {r : List V → Hp → VK → Prop} {f : List D → Sto → Option (D × Sto)} {e : Expr} {es : List Expr} {l : XL} (hc : CallR X (.builtin id) r) (o : AllM X.K f r) (hg : Gl X x) (hm : X.mg x = none) (hv : bootBuiltins x = some (.builtin id)) (ha : PA X (e :: es) (rL X.K l))
    (hn : x ≠ "__name__" := by decide) (hdb : (x == ("__debug__" : Str)) = false := by decide) (he : starEach (e :: es) X.env = (false, eval e X.env) :: starEach es X.env := by rfl) (hpl : (backTo pos (starEach es X.env)).any (·.1) = false := by rfl) :
    PE X (.Call (.Name x p) (e :: es) [] pos) (rE X.K (xAll f l)) := PE.imp (pe_callB hc hg hm hv ha hn hdb he hpl) (all_of o)
theorem r_typ {x : Str} {T : String} {r : List V → Hp → VK → Prop} {f : List D → Sto → Option (D × Sto)} {e : Expr} {es : List Expr} {l : XL} (hc : CallR X (.type T) r) (o : AllM X.K f r) (hg : Gl X x) (hm : X.mg x = none) (hv : bootBuiltins x = some (.type T)) (ha : PA X (e :: es) (rL X.K l))
    (hn : x ≠ "__name__" := by decide) (hdb : (x == ("__debug__" : Str)) = false := by decide) (he : starEach (e :: es) X.env = (false, eval e X.env) :: starEach es X.env := by rfl) (hpl : (backTo pos (starEach es X.env)).any (·.1) = false := by rfl) :
    PE X (.Call (.Name x p) (e :: es) [] pos) (rE X.K (xAll f l)) := PE.imp (pe_callTy hc hg hm hv ha hn hdb he hpl) (all_of o)
end

def xNot (a : XE) : XE := fun e S => match a e S with
  | none => none
  | some (x, S1) => match truth S1 x with
    | none => none
    | some b => some (.bl (!b), S1)
theorem r_notV {X : Cx} {a : Expr} {pos : Pos} {ma : XE} (ha : PE X a (rE X.K ma)) : PE X (.UnaryOp .Not a pos) (rE X.K (xNot ma)) := by
  refine PE.imp (pe_notT ha) fun σ H Q ⟨ρ, e, S, d, S', re, g, h, k⟩ => ?_
  unfold xNot at h
  split at h
  · cases h
  rename_i x S1 ea
  split at h
  · cases h
  rename_i t et
  cases h
  exact ⟨ρ, e, S, x, _, re, g, ea, fun ρ1 H1 v x1 g1 hv => ⟨_, tru_rep g1 hv et, k ρ1 H1 _ x1 g1 (.bl _)⟩⟩

theorem as_body {X : Cx} {K : PySem.W.Frag} {sts : List Stmt} {b b' : XS} (h : PSs X sts (rS X.K b)) (e : b = b') (eK : X.K = K) : PSs X sts (rS K b') := by
  subst e eK
  exact h

def xMet (ok : D → Sto → Bool) (f : D → List D → Sto → Option (D × Sto)) (o : XE) (l : XL) : XE := fun e S => match o e S with
  | none => none
  | some (x, S1) => if ok x S1 = true then match l e S1 with
      | none => none
      | some (xs, S2) => f x xs S2
    else none
def MetM (K : PySem.W.Frag) (f : D → List D → Sto → Option (D × Sto)) (r : V → List V → Hp → VK → Prop) : Prop := ∀ ρ H S x xs d S' vx vs (Q : VK), G K ρ H S → Rep K ρ H x vx → Reps K ρ H xs vs → f x xs S = some (d, S') →
  (∀ ρ' H' v, Ext K ρ H ρ' H' → G K ρ' H' S' → Rep K ρ' H' d v → Q v H') → r vx vs H Q
def okList (x : D) (S : Sto) : Bool := match x with
  | .loc n => match lstAt S n with
    | some _ => true
    | none => false
  | _ => false
theorem okList_ty {ρ : List Addr} {H : Hp} {S : Sto} {x : D} {v : V} (g : G K ρ H S) (r : Rep K ρ H x v) (h : okList x S = true) : tyV K "list" v H := by
  unfold okList at h
  split at h
  · split at h
    · rename_i el
      cases r with
      | loc hn =>
        obtain ⟨vs, hs, _⟩ := g.lst hn el
        exact .inl ⟨rfl, vs, hs⟩
    · cases h
  · cases h
section
variable {X : Cx} {o e : Expr} {es : List Expr} {name : Str} {apos cpos : Pos} {T id : String} {r : V → List V → Hp → VK → Prop} {f : D → List D → Sto → Option (D × Sto)} {ok : D → Sto → Bool} {mo : XE} {l : XL}
theorem r_met (pa : PlainAttrs T) (slot : Slot T name id) (hty : typeOf (.builtin id) = pure (.type "method_descriptor")) (hm : MtR X id r) (mm : MetM X.K f r) (hok : ∀ {ρ : List Addr} {H : Hp} {S : Sto} {x : D} {v : V}, G X.K ρ H S → Rep X.K ρ H x v → ok x S = true → tyV X.K T v H)
    (ho : PE X o (rE X.K mo)) (ha : PA X (e :: es) (rL X.K l)) (hbase : attributeBase o name X.env (eval o X.env) = eval o X.env := by rfl)
    (hfew : ((backTo cpos (starEach (e :: es) X.env)).all (fun x => !x.1) && (backToKw cpos (keywordEach [] X.env)).all (fun x => x.1.isSome) && decide ((e :: es).length + ([] : List Keyword).length + (if ([] : List Keyword).isEmpty then 0 else 1) < 30)) = true := by rfl)
    (hline : (apos.endLine == cpos.line) = true := by rfl) (hs : starEach (e :: es) X.env = (false, eval e X.env) :: starEach es X.env := by rfl) (hplain : (backTo cpos (starEach es X.env)).any (·.1) = false := by rfl) :
    PE X (.Call (.Attribute o name apos) (e :: es) [] cpos) (rE X.K (xMet ok f mo l)) := by
  refine PE.imp (pe_bm pa slot hty hm ho ha hbase hfew hline hs hplain) fun σ H Q ⟨ρ, en, S, d, S', re, g, h, k⟩ => ?_
  unfold xMet at h
  split at h
  · cases h
  rename_i x S1 ex
  split at h
  rotate_left
  · cases h
  rename_i hk
  split at h
  · cases h
  rename_i xs S2 el
  exact ⟨ρ, en, S, x, S1, re, g, ex, fun ρ1 H1 v x1 g1 hv => ⟨hok g1 hv hk, ρ1, en, S1, xs, S2, re.mono x1, g1, el, fun ρ2 H2 vs x2 g2 hvs => mm ρ2 H2 S2 x xs d S' v vs Q g2 (hv.mono x2) hvs h fun ρ3 H3 v3 x3 g3 hv3 => k ρ3 H3 v3 ((x1.trans x2).trans x3) g3 hv3⟩⟩
end
def fApp (x : D) (xs : List D) (S : Sto) : Option (D × Sto) := match x, xs with
  | .loc n, [y] => match S[n]? with
    | some (.lst ds) => if ds.length < 1000000 then some (.non, S.set n (.lst (ds ++ [y]))) else none
    | _ => none
  | _, _ => none
theorem mm_app : MetM K fApp rAppend := by
  intro ρ H S x xs d S' vx vs Q g hx hxs e k
  unfold fApp at e
  split at e
  rotate_left
  · cases e
  rename_i n y
  split at e
  rotate_left
  · cases e
  rename_i ds h1
  split at e
  rotate_left
  · cases e
  rename_i hl
  cases e
  cases hx with
  | loc hn =>
    cases hxs with
    | cons hy hnil =>
      cases hnil
      obtain ⟨vl, ev, rv⟩ := lst_at g hn h1
      obtain ⟨g1, x1⟩ := g.set (q := .lst (ds ++ [y])) (o := .lst (vl ++ [_])) hn h1 rfl rfl (rv.append (.cons hy .nil))
      exact ⟨_, vl, _, rfl, rfl, ev, by rw [← rv.length]; exact Nat.lt_of_lt_of_le hl (by decide), k ρ _ _ x1 g1 .non⟩
end
end Mini
end
section
namespace Mini
open PySem L2
section
variable {e e1 : EnvD} {S S1 S2 S3 S4 : Sto} {a b c : XE} {p q : XB} {s t : XS} {l : XL} {x y z d : D} {k : Bool} {g : XG} {xs : List D} {n : Nat} {r : Option (D × Sto)} {rb : Option (Bool × Sto)} {rs : Option Res}
theorem v_c : xC d e S = some (d, S) := rfl
theorem v_nil : xNil e S = some ([], S) := rfl
theorem v_cons (h1 : a e S = some (x, S1)) (h2 : l e S1 = some (xs, S2)) : xCons a l e S = some (x :: xs, S2) := by unfold xCons; rw [h1]; dsimp only; rw [h2]
theorem v_op {f} (h1 : a e S = some (x, S1)) (h2 : b e S1 = some (y, S2)) (h3 : f x y S2 = r) : xOp f a b e S = r := by unfold xOp; rw [h1]; dsimp only; rw [h2]; exact h3
theorem v_un {f} (h1 : a e S = some (x, S1)) (h3 : f x S1 = r) : xUn f a e S = r := by unfold xUn; rw [h1]; exact h3
theorem v_all {f} (h1 : l e S = some (xs, S1)) (h3 : f xs S1 = r) : xAll f l e S = r := by unfold xAll; rw [h1]; exact h3
theorem v_call {n m} (h1 : l e S = some (xs, S1)) (h2 : xs.length = n) (h3 : m xs S1 = r) : xCall n m l e S = r := by unfold xCall; rw [h1]; dsimp only; rw [if_pos h2]; exact h3
theorem v_if (h : p e S = some (k, S1)) (h2 : (if k = true then a e S1 else b e S1) = r) : xIf p a b e S = r := by unfold xIf; rw [h]; cases k <;> exact h2
theorem v_and (h : a e S = some (.bl k, S1)) (h2 : (if k = true then b e S1 else some (.bl false, S1)) = r) : xAnd a b e S = r := by unfold xAnd; rw [h]; cases k <;> exact h2
theorem v_or (h : a e S = some (.bl k, S1)) (h2 : (if k = true then some (.bl true, S1) else b e S1) = r) : xOr a b e S = r := by unfold xOr; rw [h]; cases k <;> exact h2
theorem v_not (h : a e S = some (x, S1)) (h2 : truth S1 x = some k) : xNot a e S = some (.bl (!k), S1) := by unfold xNot; rw [h]; dsimp only; rw [h2]
theorem v_isi {T ty} (h : a e S = some (x, S1)) (h2 : tyD S1 x = some ty) : xIsi T a e S = some (.bl (isTy ty T), S1) := by unfold xIsi; rw [h]; dsimp only; rw [h2]
theorem v_met {ok f} (h : a e S = some (x, S1)) (ho : ok x S1 = true) (h2 : l e S1 = some (xs, S2)) (h3 : f x xs S2 = r) : xMet ok f a l e S = r := by unfold xMet; rw [h]; dsimp only; rw [if_pos ho, h2]; exact h3
theorem t_tru (h : a e S = some (x, S1)) (h2 : truth S1 x = some k) : bTru a e S = some (k, S1) := by unfold bTru; rw [h]; dsimp only; rw [h2]
theorem t_val (h : a e S = some (.bl k, S1)) : bVal a e S = some (k, S1) := by unfold bVal; rw [h]
theorem t_and (h : p e S = some (k, S1)) (h2 : (if k = true then q e S1 else some (false, S1)) = rb) : bAnd p q e S = rb := by unfold bAnd; rw [h]; cases k <;> exact h2
theorem t_or (h : p e S = some (k, S1)) (h2 : (if k = true then some (true, S1) else q e S1) = rb) : bOr p q e S = rb := by unfold bOr; rw [h]; cases k <;> exact h2
theorem t_not (h : p e S = some (k, S1)) : bNot p e S = some (!k, S1) := by unfold bNot; rw [h]
theorem s_nil : sNil e S = some (.nx e S) := rfl
theorem s_seq (h : s e S = some (.nx e1 S1)) (h2 : t e1 S1 = rs) : sSeq s t e S = rs := by unfold sSeq; rw [h]; exact h2
theorem s_seqr (h : s e S = some (.rt d S1)) : sSeq s t e S = some (.rt d S1) := by unfold sSeq; rw [h]
theorem s_ret (h : a e S = some (d, S1)) : sRet a e S = some (.rt d S1) := by unfold sRet; rw [h]
theorem s_expr (h : a e S = some (d, S1)) : sExpr a e S = some (.nx e S1) := by unfold sExpr; rw [h]
theorem s_if (h : p e S = some (k, S1)) (h2 : (if k = true then s e S1 else t e S1) = rs) : sIf p s t e S = rs := by unfold sIf; rw [h]; cases k <;> exact h2
theorem s_ifs {u : XS} (h : p e S = some (k, S1)) (h2 : (if k = true then sSeq s u e S1 else sSeq t u e S1) = rs) : sSeq (sIf p s t) u e S = rs := by
  have hh : sIf p s t e S = if k = true then s e S1 else t e S1 := s_if h rfl
  cases k
  · have h2' : sSeq t u e S1 = rs := h2
    unfold sSeq at h2' ⊢
    rw [hh]; exact h2'
  · have h2' : sSeq s u e S1 = rs := h2
    unfold sSeq at h2' ⊢
    rw [hh]; exact h2'
theorem s_nils {u : XS} (h : u e S = rs) : sSeq sNil u e S = rs := h
theorem s_rets {u : XS} (h : a e S = some (d, S1)) : sSeq (sRet a) u e S = some (.rt d S1) := s_seqr (s_ret h)
theorem s_seqs {u v : XS} (h : sSeq s (sSeq u v) e S = rs) : sSeq (sSeq s u) v e S = rs := by
  unfold sSeq at h ⊢
  cases q : s e S with
  | none => rw [q] at h; exact h
  | some r => cases r <;> (rw [q] at h; exact h)
theorem s_asg (h : a e S = some (d, S1)) (h2 : g d e = some e1) : sAsg a g e S = some (.nx e1 S1) := by unfold sAsg; rw [h]; dsimp only; rw [h2]
theorem s_put {f} (h : a e S = some (y, S1)) (h1 : b e S1 = some (x, S2)) (h2 : c e S2 = some (z, S3)) (h3 : f x z y S3 = some S4) : sPut f a b c e S = some (.nx e S4) := by
  unfold sPut; rw [h]; dsimp only; rw [h1]; dsimp only; rw [h2]; dsimp only; rw [h3]
theorem s_for_fix {w : XW} {ds} (h : w e S = some (.fix ds, S1)) (h2 : forL g s ds e S1 = rs) : sFor w g s e S = rs := by unfold sFor; rw [h]; exact h2
theorem s_asgs {u : XS} {g : XG} (h : a e S = some (d, S1)) (h2 : g d e = some e1) (h3 : u e1 S1 = rs) : sSeq (sAsg a g) u e S = rs := s_seq (s_asg h h2) h3
theorem s_exprs {u : XS} (h : a e S = some (d, S1)) (h3 : u e S1 = rs) : sSeq (sExpr a) u e S = rs := s_seq (s_expr h) h3
theorem s_puts {u : XS} {f} (h : a e S = some (y, S1)) (h1 : b e S1 = some (x, S2)) (h2 : c e S2 = some (z, S3)) (h3 : f x z y S3 = some S4) (h4 : u e S4 = rs) : sSeq (sPut f a b c) u e S = rs := s_seq (s_put h h1 h2 h3) h4
theorem ix_lst {ds : List D} {n i : Nat} (h0 : lstAt S n = some ds) (h : ds[i]? = some d) : fIx (.loc n) (.int (i : Int)) S = some (d, S) := by
  show (match lstAt S n with | some ds => (match atI ds (i : Int) with | some d => some (d, S) | none => none) | none => none) = some (d, S)
  rw [h0]
  dsimp only
  rw [atI_nat h]
theorem len_lst {ds : List D} {n : Nat} (h0 : lstAt S n = some ds) : fLen [.loc n] S = some (.int (ds.length : Int), S) := by
  show (match (match lstAt S n with | some ds => some ((ds.length : Nat) : Int) | none => none) with | some n => some (D.int n, S) | none => none) = _
  rw [h0]
theorem lst_len (e : S[n]? = some (.lst xs)) : lstAt S n = some xs := by unfold lstAt; rw [e]
theorem app_run {n : Nat} (e : S[n]? = some (.lst xs)) (h : xs.length < 1000000) : fApp (.loc n) [x] S = some (.non, S.set n (.lst (xs ++ [x]))) := by
  show (match S[n]? with | some (.lst ds) => (if ds.length < 1000000 then some (D.non, S.set n (.lst (ds ++ [x]))) else none) | _ => none) = _
  rw [e]
  dsimp only
  rw [if_pos h]
theorem put_run {n j : Nat} (e : S[n]? = some (.lst xs)) (h : j < xs.length) : fPut (.loc n) (.int (j : Int)) x S = some (S.set n (.lst (xs.set j x))) := by
  show (match S[n]? with | some (.lst ds) => (match ixN ds.length (j : Int) with | some j => some (S.set n (.lst (ds.set j x))) | none => none) | _ => none) = _
  rw [e]
  dsimp only
  have q : ixN xs.length (j : Int) = some j := by
    unfold ixN
    rw [if_pos (by omega), if_pos (by omega)]
    simp
  rw [q]
theorem okl_run {n : Nat} (e : S[n]? = some (.lst xs)) : okList (.loc n) S = true := by
  show (match lstAt S n with | some _ => true | none => false) = true
  rw [lst_len e]
theorem forL_inv {ds : List D} {P : Nat → EnvD → Sto → Prop}
    (hb : ∀ i d, ds[i]? = some d → ∀ e S, P i e S → ∃ e1 e2 S2, g d e = some e1 ∧ (s e1 S = some (.nx e2 S2) ∨ s e1 S = some (.ct e2 S2)) ∧ P (i + 1) e2 S2) :
    ∀ (k : Nat) (e : EnvD) (S : Sto), k ≤ ds.length → P (ds.length - k) e S → ∃ e' S', forL g s (ds.drop (ds.length - k)) e S = some (.nx e' S') ∧ P ds.length e' S' := by
  intro k
  induction k with
  | zero =>
    intro e S hk p
    refine ⟨e, S, ?_, p⟩
    rw [Nat.sub_zero, List.drop_length]
    rfl
  | succ k ih =>
    intro e S hk p
    have hi : ds.length - (k + 1) < ds.length := by omega
    obtain ⟨e1, e2, S2, hg, hs, hp⟩ := hb _ _ (List.getElem?_eq_getElem hi) e S p
    have e3 : ds.length - (k + 1) + 1 = ds.length - k := by omega
    rw [e3] at hp
    obtain ⟨e', S', r1, r2⟩ := ih e2 S2 (by omega) hp
    refine ⟨e', S', ?_, r2⟩
    rw [List.drop_eq_getElem_cons hi, e3]
    unfold forL
    rw [hg]; dsimp only
    rcases hs with hs | hs <;> (rw [hs]; exact r1)
theorem forL_all {ds : List D} {P : Nat → EnvD → Sto → Prop} (h0 : P 0 e S)
    (hb : ∀ i d, ds[i]? = some d → ∀ e S, P i e S → ∃ e1 e2 S2, g d e = some e1 ∧ (s e1 S = some (.nx e2 S2) ∨ s e1 S = some (.ct e2 S2)) ∧ P (i + 1) e2 S2) :
    ∃ e' S', forL g s ds e S = some (.nx e' S') ∧ P ds.length e' S' := by
  have q := forL_inv (P := P) hb ds.length e S (Nat.le_refl _) (by rw [Nat.sub_self]; exact h0)
  rw [Nat.sub_self, List.drop_zero] at q
  exact q
theorem e_rt (h : s e S = some (.rt d S1)) : ends (s e S) = some (d, S1) := by rw [h]; rfl
theorem fin_eq {m : Option (D × Sto)} (h : m = some (d, S1)) (h2 : some (d, S1) = r) : m = r := h.trans h2
end
end Mini
end
section
namespace Mini
open PySem L2
variable [Tabs]

def wipeD (e : EnvD) : List Nat → EnvD
  | [] => e
  | v :: vs => (wipeD e vs).set v none
theorem RE.unset {K : PySem.W.Frag} {ρ : List Addr} {H : Hp} {e : EnvD} {σ : L2.St} (r : RE K ρ H e σ) (i : Nat) : RE K ρ H (e.set i none) (σ.set i none) := by
  refine ⟨by rw [List.length_set, List.length_set]; exact r.len, fun j d' q => ?_⟩
  by_cases z : j = i
  · subst z
    have hl : j < e.length := by
      have h9 := (List.getElem?_eq_some_iff.mp q).1
      rwa [List.length_set] at h9
    rw [List.getElem?_set_self hl] at q
    cases q
  · rw [List.getElem?_set_ne (Ne.symm z)] at q
    obtain ⟨w, h1, h2⟩ := r.at_ j d' q
    exact ⟨w, by rw [List.getElem?_set_ne (Ne.symm z)]; exact h1, h2⟩
theorem RE.wipe {K : PySem.W.Frag} {ρ : List Addr} {H : Hp} {e : EnvD} {σ : L2.St} (r : RE K ρ H e σ) : ∀ vs : List Nat, RE K ρ H (wipeD e vs) (L2.wipe σ vs)
  | [] => r
  | v :: vs => (RE.wipe r vs).unset v
theorem wipe_get (σ : L2.St) (j : Nat) : ∀ vs : List Nat, (L2.wipe σ vs)[j]? = if j ∈ vs then (σ[j]?).map (fun _ => none) else σ[j]?
  | [] => by simp [L2.wipe]
  | v :: vs => by
    unfold L2.wipe
    rw [List.getElem?_set, L2.wipe_length]
    by_cases h : v = j
    · subst h
      by_cases hl : v < σ.length
      · simp [hl]
      · simp [hl]
    · rw [if_neg h, wipe_get σ j vs]
      have : (j ∈ v :: vs) ↔ j ∈ vs := by simp [Ne.symm h]
      simp only [this]
theorem wipe_set {σ : L2.St} {i : Nat} {x : Option V} {vs : List Nat} (hi : i ∈ vs) : L2.wipe (σ.set i x) vs = L2.wipe σ vs := by
  apply List.ext_getElem?
  intro j
  rw [wipe_get, wipe_get]
  by_cases h : j ∈ vs
  · rw [if_pos h, if_pos h]
    by_cases e : i = j
    · subst e
      by_cases hl : i < σ.length
      · rw [List.getElem?_set_self hl, List.getElem?_eq_getElem hl]
        rfl
      · rw [List.getElem?_eq_none_iff.mpr (by simpa using hl), List.getElem?_eq_none_iff.mpr (by simpa using hl)]
    · rw [List.getElem?_set_ne e]
  · rw [if_neg h, if_neg h, List.getElem?_set_ne (fun e => h (by rw [← e]; exact hi))]
theorem wipe_wipe (σ : L2.St) (vs : List Nat) : L2.wipe (L2.wipe σ vs) vs = L2.wipe σ vs := by
  apply List.ext_getElem?
  intro j
  rw [wipe_get, wipe_get]
  by_cases h : j ∈ vs
  · rw [if_pos h, if_pos h, Option.map_map]
    rfl
  · rw [if_neg h, if_neg h]

def rGw (K : PySem.W.Frag) (vs : List Nat) (g : XG) : TG := fun v σ H Q => ∃ ρ e d e', RE K ρ H e σ ∧ Rep K ρ H d v ∧ g d e = some e' ∧ ∀ σ', RE K ρ H e' σ' → L2.wipe σ' vs = L2.wipe σ vs → Q σ' H
def rGws (K : PySem.W.Frag) (vs : List Nat) (u : XGs) : TGs := fun xs σ H Q => ∃ ρ e ds e', RE K ρ H e σ ∧ Reps K ρ H ds xs ∧ u ds e = some e' ∧ ∀ σ', RE K ρ H e' σ' → L2.wipe σ' vs = L2.wipe σ vs → Q σ' H
section
variable {X : Cx} {pos : Pos} {vs : List Nat}
theorem rgw_name (i : Nat) {x : Str} (hN : X.N.Nodup) (hi : X.N[i]? = some x) (hx : Loc X.env.scope x) (hm : i ∈ vs) (hf : X.fn x = true ∨ X.env.scope.names.lookup x = some .local := by first | exact .inl rfl | exact .inr rfl | assumption) : PG X (.Name x pos) (rGw X.K vs (gN i)) :=
  PG.imp (pg_name hN hi hx hf) fun v σ H Q ⟨ρ, e, d, e', re, r, h, k⟩ => by
    cases h
    exact k _ (re.set i r) (wipe_set hm)
theorem rgws_nil : PGs X [] (rGws X.K vs gsN) := PGs.imp pgs_nil fun v σ H Q ⟨ρ, e, d, e', re, r, h, k⟩ => by
  cases r with
  | nil => cases h; exact ⟨rfl, k _ re rfl⟩
  | cons _ _ => cases h
theorem rgws_cons {t : Expr} {ts : List Expr} {g : XG} {u : XGs} (h1 : PG X t (rGw X.K vs g)) (h2 : PGs X ts (rGws X.K vs u))
    (ha : (assignEach (t :: ts) X.env).map (·.2) = assign t X.env :: (assignEach ts X.env).map (·.2) := by rfl) : PGs X (t :: ts) (rGws X.K vs (gsC g u)) := by
  refine PGs.imp (pgs_cons h1 h2 ha) fun v σ H Q ⟨ρ, e, ds, e', re, r, h, k⟩ => ?_
  cases r with
  | nil => cases h
  | @cons d0 v0 ds0 vs0 hr hrs =>
    have h' : (match g d0 e with | none => none | some e1 => u ds0 e1) = some e' := h
    split at h'
    · cases h'
    rename_i e1 ea
    exact ⟨_, _, rfl, ρ, e, _, e1, re, hr, ea, fun σ1 re1 w1 => ⟨ρ, e1, _, e', re1, hrs, h', fun σ2 re2 w2 => k σ2 re2 (w2.trans w1)⟩⟩
theorem rgw_tup {ts : List Expr} {kk : Nat} {u : XGs} {n : Nat} (hc : X.calm = true) (h : PGs X ts (rGws X.K vs u))
    (hn : (assignEach ts X.env).length = n := by rfl) (hst : (assignEach ts X.env).findIdx? (·.1) = none := by rfl) : PG X (.Tuple ts kk pos) (rGw X.K vs (gT n u)) := by
  refine PG.imp (pg_tup (n := n) hc h hn hst) fun v σ H Q ⟨ρ, e, d, e', re, r, h, k⟩ => ?_
  unfold gT at h
  split at h
  · rename_i ds
    split at h
    · rename_i hl
      cases r with
      | tup hs hr => exact ⟨_, _, rfl, hs, by rw [← hr.length]; exact hl, ρ, e, ds, e', re, hr, h, k⟩
    · cases h
  · cases h
end

def bYes : XB := fun _ S => some (true, S)
def grown (n : Nat) (x : D) (S : Sto) : Option Sto := match S[n]? with
  | some (.lst acc) => if acc.length < 1000000 then some (S.set n (.lst (acc ++ [x]))) else none
  | _ => none
def lcOne (g : XG) (c : XB) (a : XE) (n : Nat) (d : D) (e : EnvD) (S : Sto) : Option Sto := match g d e with
  | none => none
  | some e1 => match c e1 S with
    | none => none
    | some (false, S1) => some S1
    | some (true, S1) => match a e1 S1 with
      | none => none
      | some (x, S2) => grown n x S2
def lcL (g : XG) (c : XB) (a : XE) (n : Nat) : List D → EnvD → Sto → Option Sto
  | [], _, S => some S
  | d :: ds, e, S => match lcOne g c a n d e S with
    | none => none
    | some S1 => lcL g c a n ds e S1
def lcV (l : Nat) (g : XG) (c : XB) (a : XE) (n : Nat) : Nat → Nat → EnvD → Sto → Option Sto
  | 0, _, _, _ => none
  | k + 1, i, e, S => match lstAt S l with
    | none => none
    | some ds => match ds[i]? with
      | none => some S
      | some d => match lcOne g c a n d e S with
        | none => none
        | some S1 => lcV l g c a n k (i + 1) e S1
def xLc (w : XW) (vs : List Nat) (g : XG) (c : XB) (a : XE) : XE := fun e S => match w e S with
  | none => none
  | some (.fix ds, S1) => match lcL g c a S1.length ds (wipeD e vs) (S1 ++ [.lst []]) with
    | none => none
    | some S2 => some (.loc S1.length, S2)
  | some (.live l, S1) => match lcV l g c a S1.length turns 0 (wipeD e vs) (S1 ++ [.lst []]) with
    | none => none
    | some S2 => some (.loc S1.length, S2)
section
variable {K : PySem.W.Frag}
theorem lc_turn {ρ : List Addr} {H : Hp} {e : EnvD} {σ : L2.St} {S S1 : Sto} {d : D} {x : V} {g : XG} {c : XB} {a : XE} {n : Nat} {D0 : Addr} {vs : List Nat} {Nx : Hp → Prop}
    (re : RE K ρ H (wipeD e vs) (L2.wipe σ vs)) (gg : G K ρ H S) (rx : Rep K ρ H d x) (hn : ρ[n]? = some D0) (h : lcOne g c a n d (wipeD e vs) S = some S1)
    (k : ∀ ρ' H', Ext K ρ H ρ' H' → G K ρ' H' S1 → Nx H') :
    rGw K vs g x (L2.wipe σ vs) H fun σ2 H2 => L2.wipe σ2 vs = L2.wipe σ vs ∧ rB K c σ2 H2 fun b H3 =>
      if b = true then rE K a σ2 H3 fun y H4 => ∃ acc, H4 D0 = some (.lst acc) ∧ acc.length < sizeLine ∧ Nx (upd H4 D0 (.lst (acc ++ [y]))) else Nx H3 := by
  unfold lcOne at h
  split at h
  · cases h
  rename_i e1 eg
  refine ⟨ρ, wipeD e vs, d, e1, re, rx, eg, fun σ1 re1 hw => ⟨hw.trans (wipe_wipe σ vs), ?_⟩⟩
  split at h
  · cases h
  · rename_i S2 ec
    cases h
    refine ⟨ρ, e1, S, false, _, re1, gg, ec, fun ρ1 H1 x1 g1 => ?_⟩
    refine iteF ?_
    exact k ρ1 H1 x1 g1
  · rename_i S2 ec
    refine ⟨ρ, e1, S, true, _, re1, gg, ec, fun ρ1 H1 x1 g1 => ?_⟩
    refine iteT ?_
    split at h
    · cases h
    rename_i y S3 ea
    refine ⟨ρ1, e1, S2, y, S3, re1.mono x1, g1, ea, fun ρ2 H2 v x2 g2 hv => ?_⟩
    unfold grown at h
    split at h
    · rename_i acc es
      split at h
      · rename_i hl
        cases h
        have hn2 := pre_get x2.pre (pre_get x1.pre hn)
        obtain ⟨u, hu, ru⟩ := (RepO.mut_iff rfl).mp (g2.ob n D0 _ hn2 es)
        cases u with
        | lst ys =>
          have r2 : Reps K ρ2 H2 acc ys := ru
          obtain ⟨g3, x3⟩ := g2.set (q := .lst (acc ++ [y])) (o := .lst (ys ++ [v])) hn2 es rfl rfl (r2.append (.cons hv .nil))
          exact ⟨ys, hu, by rw [← r2.length]; exact Nat.lt_trans hl (by decide), k ρ2 _ ((x1.trans x2).trans x3) g3⟩
        | _ => exact ru.elim
      · cases h
    · cases h
theorem lc_fix {J : It} {ds : List D} {ρ0 : List Addr} {H0 : Hp} {g : XG} {c : XB} {a : XE} {σ : L2.St} {e : EnvD} {S S2 : Sto} {vs : List Nat} {n : Nat} {D0 : Addr} {Qd : Hp → Prop} (re : RE K ρ0 H0 e σ) (gg : G K ρ0 H0 S) (hn : ρ0[n]? = some D0)
    (w : WalkOk K ρ0 H0 J (.fix ds)) (h : lcL g c a n ds (wipeD e vs) S = some S2) (k : ∀ ρ' H', Ext K ρ0 H0 ρ' H' → G K ρ' H' S2 → Qd H') :
    ∃ W : Nat → Nat → Hp → Prop, (∃ m, W 0 m H0) ∧ ∀ i m H, W i m H → (J.stop i H ∧ Qd H) ∨ (J.go i H ∧ ∃ Nx : Hp → Prop, (∀ H', Nx H' → ∃ m', m' < m ∧ W (i + 1) m' H') ∧
      ∀ x H', J.yld i H x H' → rGw K vs g x (L2.wipe σ vs) H' fun σ2 H2 => L2.wipe σ2 vs = L2.wipe σ vs ∧ rB K c σ2 H2 fun b H3 =>
        if b = true then rE K a σ2 H3 fun y H4 => ∃ acc, H4 D0 = some (.lst acc) ∧ acc.length < sizeLine ∧ Nx (upd H4 D0 (.lst (acc ++ [y]))) else Nx H3) := by
  refine ⟨fun i m H => m = ds.length - i ∧ i ≤ ds.length ∧ ∃ ρ S, Ext K ρ0 H0 ρ H ∧ G K ρ H S ∧ lcL g c a n (ds.drop i) (wipeD e vs) S = some S2, ⟨_, rfl, Nat.zero_le _, ρ0, S, .refl, gg, h⟩, ?_⟩
  rintro i m H ⟨rfl, hi, ρ, S, x0, gg, h⟩
  by_cases hlt : i < ds.length
  · obtain ⟨q1, q2⟩ := w.2 i ds[i] (List.getElem?_eq_getElem hlt) ρ H x0
    rw [List.drop_eq_getElem_cons hlt] at h
    have h' : (match lcOne g c a n ds[i] (wipeD e vs) S with
      | none => none
      | some S1 => lcL g c a n (ds.drop (i + 1)) (wipeD e vs) S1) = some S2 := h
    split at h'
    · cases h'
    rename_i S1 e1
    refine .inr ⟨q1, fun H => ∃ ρ S, Ext K ρ0 H0 ρ H ∧ G K ρ H S ∧ lcL g c a n (ds.drop (i + 1)) (wipeD e vs) S = some S2, fun H' q => ⟨ds.length - (i + 1), by omega, rfl, hlt, q⟩, fun x H' y => ?_⟩
    obtain ⟨x1, g1, rx⟩ := q2 x H' y S gg
    have x2 := x0.trans x1
    exact lc_turn ((re.mono x2).wipe vs) g1 rx (pre_get x2.pre hn) e1 fun ρ' H' x3 g3 => ⟨ρ', S1, x2.trans x3, g3, h'⟩
  · have ei : i = ds.length := by omega
    subst ei
    rw [List.drop_length] at h
    cases h
    exact .inl ⟨w.1 ρ H x0, k ρ H x0 gg⟩
theorem lc_live {l : Nat} {b : Addr} {ρ0 : List Addr} {H0 : Hp} {g : XG} {c : XB} {a : XE} {σ : L2.St} {e : EnvD} {S S2 : Sto} {vs : List Nat} {n : Nat} {D0 : Addr} {Qd : Hp → Prop} (t : Nat) (re : RE K ρ0 H0 e σ) (gg : G K ρ0 H0 S) (hn : ρ0[n]? = some D0)
    (hl : ρ0[l]? = some b) (h : lcV l g c a n t 0 (wipeD e vs) S = some S2) (k : ∀ ρ' H', Ext K ρ0 H0 ρ' H' → G K ρ' H' S2 → Qd H') :
    ∃ W : Nat → Nat → Hp → Prop, (∃ m, W 0 m H0) ∧ ∀ i m H, W i m H → ((Itl K b).stop i H ∧ Qd H) ∨ ((Itl K b).go i H ∧ ∃ Nx : Hp → Prop, (∀ H', Nx H' → ∃ m', m' < m ∧ W (i + 1) m' H') ∧
      ∀ x H', (Itl K b).yld i H x H' → rGw K vs g x (L2.wipe σ vs) H' fun σ2 H2 => L2.wipe σ2 vs = L2.wipe σ vs ∧ rB K c σ2 H2 fun b H3 =>
        if b = true then rE K a σ2 H3 fun y H4 => ∃ acc, H4 D0 = some (.lst acc) ∧ acc.length < sizeLine ∧ Nx (upd H4 D0 (.lst (acc ++ [y]))) else Nx H3) := by
  refine ⟨fun i m H => ∃ ρ S, Ext K ρ0 H0 ρ H ∧ G K ρ H S ∧ lcV l g c a n m i (wipeD e vs) S = some S2, ⟨_, ρ0, S, .refl, gg, h⟩, ?_⟩
  rintro i m H ⟨ρ, S, x0, gg, h⟩
  cases m with
  | zero => cases h
  | succ m =>
    have h' : (match lstAt S l with
      | none => none
      | some ds => match ds[i]? with
        | none => some S
        | some d => match lcOne g c a n d (wipeD e vs) S with
          | none => none
          | some S1 => lcV l g c a n m (i + 1) (wipeD e vs) S1) = some S2 := h
    split at h'
    · cases h'
    rename_i ds el
    obtain ⟨vs', hs, hr⟩ := gg.lst (pre_get x0.pre hl) el
    split at h'
    · rename_i ed
      cases h'
      exact .inl ⟨⟨vs', hs, by rw [← hr.length]; exact List.getElem?_eq_none_iff.mp ed⟩, k ρ H x0 gg⟩
    rename_i d ed
    obtain ⟨v, hv, rv⟩ := hr.get ed
    split at h'
    · cases h'
    rename_i S1 e1
    refine .inr ⟨⟨vs', v, hs, hv⟩, fun H => ∃ ρ S, Ext K ρ0 H0 ρ H ∧ G K ρ H S ∧ lcV l g c a n m (i + 1) (wipeD e vs) S = some S2, fun H' q => ⟨m, Nat.lt_succ_self m, q⟩, fun x H' y => ?_⟩
    obtain ⟨rfl, y2⟩ := y
    have ex := y2 vs' hs
    rw [hv] at ex
    cases ex
    exact lc_turn ((re.mono x0).wipe vs) gg rv (pre_get x0.pre hn) e1 fun ρ' H' x3 g3 => ⟨ρ', S1, x0.trans x3, g3, h'⟩
theorem lc_of {w : XW} {vs : List Nat} {g : XG} {c : XB} {a : XE} : ∀ σ H Q, rE K (xLc w vs g c a) σ H Q → tLc (rW K w) (rGw K vs g) (rB K c) (rE K a) vs σ H Q := by
  intro σ H Q ⟨ρ, e, S, d, S', re, gg, h, k⟩
  unfold xLc at h
  split at h
  · cases h
  · rename_i ds S1 ew
    split at h
    · cases h
    rename_i S2 el
    cases h
    refine ⟨ρ, e, S, .fix ds, S1, re, gg, ew, fun ρ1 H1 J x1 g1 wk D0 hD => ?_⟩
    obtain ⟨g2, x2⟩ := g1.new (q := .lst []) (o := .lst []) hD rfl .nil
    have hn : (ρ1 ++ [D0])[S1.length]? = some D0 := by rw [← g1.len]; simp
    have wk2 : WalkOk K (ρ1 ++ [D0]) (upd H1 D0 (.lst [])) J (.fix ds) := ⟨fun ρ' H' x => wk.1 ρ' H' (x2.trans x), fun i d hd ρ' H' x => wk.2 i d hd ρ' H' (x2.trans x)⟩
    exact lc_fix (re.mono (x1.trans x2)) g2 hn wk2 el fun ρ' H' x3 g3 => k ρ' H' _ ((x1.trans x2).trans x3) g3 (.loc (pre_get x3.pre hn))
  · rename_i l S1 ew
    split at h
    · cases h
    rename_i S2 el
    cases h
    refine ⟨ρ, e, S, .live l, S1, re, gg, ew, fun ρ1 H1 J x1 g1 wk D0 hD => ?_⟩
    obtain ⟨b, hb, rfl⟩ := wk
    obtain ⟨g2, x2⟩ := g1.new (q := .lst []) (o := .lst []) hD rfl .nil
    have hn : (ρ1 ++ [D0])[S1.length]? = some D0 := by rw [← g1.len]; simp
    exact lc_live turns (re.mono (x1.trans x2)) g2 hn (pre_get x2.pre hb) el fun ρ' H' x3 g3 => k ρ' H' _ ((x1.trans x2).trans x3) g3 (.loc (pre_get x3.pre hn))
end
section
variable {X : Cx}
theorem PTs.imp {ifs : List Expr} {t t' : TT} (h : PTs X ifs t) (i : ∀ σ H Q, t' σ H Q → t σ H Q) : PTs X ifs t' := ⟨fun pins s σ H Q I q => h.run pins s σ H Q I (i _ _ _ q)⟩
theorem rts_nil : PTs X [] (rB X.K bYes) := PTs.imp pts_nil fun σ H Q ⟨ρ, e, S, b, S', re, g, h, k⟩ => by
  cases h
  exact k ρ H .refl g
theorem rts_one {c : Expr} {m : XB} (h : PT X c (rB X.K m)) : PTs X [c] (rB X.K m) := pts_one h
theorem r_lc {elt tg iter : Expr} {ifs : List Expr} {scope : Scope} {pos : Pos} {w : XW} {g : XG} {c : XB} {a : XE} (own : List (Str × Nat)) (vs : List Nat) (sc : Scope) {N : List Str} (hc : X.calm = true) (hN : X.N.Nodup) (eN : X.N = N) (esc : X.env.scope = sc) (hv : own.map (·.2) = vs)
    (hok : blkC N sc scope own = true) (hi : PI X tg iter (rW X.K w))
    (hg : ∀ (s : Shared) (H : Hp) (C : Addr) (cl : List (Str × Addr)) (fp : List Addr), PG (X.blk s H scope (compEnvC scope cl C X.env) fp) tg (rGw X.K vs g))
    (ht : ∀ (s : Shared) (H : Hp) (C : Addr) (cl : List (Str × Addr)) (fp : List Addr), PTs (X.blk s H scope (compEnvC scope cl C X.env) fp) ifs (rB X.K c))
    (he : ∀ (s : Shared) (H : Hp) (C : Addr) (cl : List (Str × Addr)) (fp : List Addr), PE (X.blk s H scope (compEnvC scope cl C X.env) fp) elt (rE X.K a))
    (hs : ∀ x, foldedSetIterable iter X.env x = pure x := by intro _; rfl) : PE X (.ListComp elt [⟨tg, iter, ifs, 0⟩] scope pos) (rE X.K (xLc w vs g c a)) := by
  subst hv eN esc
  exact PE.imp (pe_lc hc hN hi (blkOk_by hok) hg ht he hs) lc_of
end
end Mini
end
section
namespace Mini
open PySem PySem.Spec PyProof.Rows L2 GenW

def gxEnv (scope : Scope) (cells : List (Str × Addr)) (C : Addr) (code : Value) (bi : Addr) (env : Env) : Env :=
  newEnv scope C env.globals cells (env.qual ++ "<genexpr>.") none code none bi
theorem newEnv_gx {M : Model} {A : Around} {E : Value → Shared → Prop} {s : Shared} {scope : Scope} {globals : Addr} {closure : List (Str × Addr)} {qual : Str} {code it : Value} {builtins : Addr} {Q : Env → Shared → Prop}
    (h0 : scope.names.lookup (".0" : Str) = some NameKind.local) (hk : scope.kind = .function)
    (h : ∀ h' tk, h'.Ns s.heap.objs.size (fun y => if y = ".0" then some it else none) → Heap.SameBut s.heap.objs.size (pushCells (s.heap.push { cls := .type "frame", data := .dict #[] }) scope.names) h' →
      Q (newEnv scope s.heap.objs.size globals (cellsFrom (s.heap.objs.size + 1) scope.names closure) qual none code none builtins) { s with heap := h', toks := tk }) :
    wpAny M A (newFunctionEnv scope globals closure [(".0", it)] qual none code none builtins) Q E s := by
  simp only [newFunctionEnv, Option.isSome_none, Bool.false_eq_true, if_false]
  refine wpAny_bind (wpAny_alloc ?_)
  refine wpAny_bind (wpAny_layCells _ (fun n k c => rfl) scope.names closure _ _ ?_)
  rw [show ({ s with heap := s.heap.push { cls := .type "frame", data := .dict #[] } } : Shared).heap.objs.size = s.heap.objs.size + 1 from Heap.size_push ..]
  have hn : (pushCells (s.heap.push { cls := .type "frame", data := .dict #[] }) scope.names).Ns s.heap.objs.size (fun _ => none) := Heap.Ns.keeps (Heap.Ns.new ..) fun b o e => pushCells_keeps _ _ _ _ e
  rw [List.forIn_cons]
  refine wpAny_bind (wpAny_bind (wpAny_bind (wpAny_storeName_local (env := newEnv scope s.heap.objs.size globals (cellsFrom (s.heap.objs.size + 1) scope.names closure) qual none code none builtins) h0 hn (fun h' hn' hs' => wpAny_pure ?_) (by show (scope.kind == .class || (scope.kind == .module && _)) = false; rw [hk]; rfl))))
  dsimp only
  rw [List.forIn_nil]
  exact wpAny_pure (wpAny_pure (h h' _ hn' hs'))

abbrev gxC (X : Cx) (A : Around) (s : Shared) (H : Hp) (scope : Scope) (cenv : Env) (fp : List Addr) : Cx :=
  { X with A := A, s_0 := s, H_0 := H, env := cenv, outer := X.stack, stack := cenv :: X.stack, ex := fp, fn := fun x => scope.names.lookup x == some .cell, pn := [], xe := fun _ _ => False }
section
variable {X : Cx} {pins : List (Addr × Obj)} {σ : L2.St} {H : Hp} {s : Shared}
theorem gx_start {A : Around} {scope : Scope} {own : List (Str × Nat)} {fp : List Addr} {code itv : Value} {tk : Nat} {h' : Heap} (I : Inv X pins σ H s) (ok : BlkOk X.N X.env.scope scope own) (hN : X.N.Nodup) (hfp : ∀ b ∈ fp, FpOk X pins H b ∧ b < s.heap.objs.size)
    (hd : A.handled = none) (hfr : A.frames = some (gxEnv scope (cellsFrom (s.heap.objs.size + 1) scope.names (cloFrom X.env.cells scope.names [])) s.heap.objs.size code builtinsNs X.env :: X.stack))
    (hns : h'.Ns s.heap.objs.size (fun y => if y = ".0" then some itv else none)) (hsb : Heap.SameBut s.heap.objs.size (pushCells (s.heap.push { cls := .type "frame", data := .dict #[] }) scope.names) h') :
    Inv (gxC X A s H scope (gxEnv scope (cellsFrom (s.heap.objs.size + 1) scope.names (cloFrom X.env.cells scope.names [])) s.heap.objs.size code builtinsNs X.env) fp) [] (wipe σ (own.map (·.2))) H { s with heap := h', toks := tk } := by
  have hfree : ∀ y ∈ scope.names, y.2 = .free → ∃ c, X.env.cells.lookup y.1 = some c := fun y hy e => by
    rcases ok.free y hy e with k | k
    · exact I.ok.has _ (.inl k)
    · exact I.ok.has _ (.inr k)
  generalize hcenv : gxEnv scope (cellsFrom (s.heap.objs.size + 1) scope.names (cloFrom X.env.cells scope.names [])) s.heap.objs.size code builtinsNs X.env = cenv at hfr ⊢
  have kp : ∀ b o, s.heap.get? b = some o → h'.get? b = some o := fun b o e => hsb.extBut b o (Nat.ne_of_lt (Heap.lt_size e)) (pushCells_keeps _ _ _ _ (Heap.get?_push_of_some _ e))
  have hL : cenv.locals = s.heap.objs.size := by rw [← hcenv]; rfl
  have hcl : cenv.cells = cellsFrom (s.heap.objs.size + 1) scope.names (cloFrom X.env.cells scope.names []) := by rw [← hcenv]; rfl
  have hsc : cenv.scope = scope := by rw [← hcenv]; rfl
  have hff : cenv.frame = some cenv.locals := by rw [← hcenv]; rfl
  rw [← Heap.size_push s.heap { cls := .type "frame", data := .dict #[] }] at hcl
  have cm : ∀ {y c}, (y, c) ∈ cloFrom X.env.cells scope.names [] → X.env.cells.lookup y = some c ∧ c < s.heap.objs.size := fun {y c} hm => by
    rcases cloFrom_mem hm with hm | ⟨h1, rfl⟩
    · cases hm
    · obtain ⟨c, hc⟩ := hfree _ h1 rfl
      rw [hc]
      obtain ⟨w, z⟩ := I.cell _ _ hc
      exact ⟨rfl, z.lt⟩
  have mem : ∀ {y c}, cenv.cells.lookup y = some c → (X.env.cells.lookup y = some c ∧ c < s.heap.objs.size) ∨ (s.heap.objs.size + 1 ≤ c ∧ CellAt h' c none) := fun {y c} e => by
    rw [hcl] at e
    rcases cells_mem (PySem.mem_of_lookup e) with hm | ⟨_, h2, h3⟩
    · exact .inl (cm hm)
    · rw [Heap.size_push] at h2
      refine .inr ⟨h2, ?_⟩
      obtain ⟨o, ho, hd⟩ := h3
      exact ⟨o, hsb.extBut c o (Nat.ne_of_gt (Nat.lt_of_succ_le h2)) ho, hd⟩
  have look : ∀ {y}, scope.names.lookup y = some .free → ∃ c, cenv.cells.lookup y = some c ∧ X.env.cells.lookup y = some c := fun {y} hl => by
    have hy : (y, NameKind.free) ∈ scope.names := PySem.mem_of_lookup hl
    obtain ⟨c', e'⟩ := mem_lookup (cells_acc (names := scope.names) (n := (s.heap.push { cls := .type "frame", data := .dict #[] }).objs.size) (cloFrom_has (cells := X.env.cells) (acc := []) hy))
    rw [← hcl] at e'
    refine ⟨c', e', ?_⟩
    rw [hcl] at e'
    rcases cells_mem (PySem.mem_of_lookup e') with hm | ⟨h1, _, _⟩
    · exact (cm hm).1
    · have := ok.uniq _ h1
      rw [hl] at this; cases this
  have okB : (gxC X A s H scope cenv fp).Ok := by
    refine ⟨I.ok.mod, by show cenv.scope.kind = _; rw [hsc]; exact ok.kind, by show cenv.globals = _; rw [← hcenv]; exact I.ok.glob, by show cenv.builtins = _; rw [← hcenv]; rfl, by show s.heap.objs.size ≤ cenv.locals; rw [hL]; exact Nat.le_refl _,
      fun y z c e1 e2 => ?_, fun y hy => ?_, fun y c z e => ?_, fun _ => hd, hfr, .inr ⟨rfl, hff⟩, fun b hb => ⟨?_, fun y c e z => ?_⟩, I.bs, Nat.le_trans I.ok.bsz I.sz, fun b o e hb => ?_, fun b hb z => ?_, I.stack, I.stkFree⟩
    · have e1 : cenv.cells.lookup y = some c := e1
      have e2 : cenv.cells.lookup z = some c := e2
      rw [hcl] at e1 e2
      refine cells_inj (fun p hp => ?_) (fun y z c a b => I.ok.inj y z c (cm a).1 (cm b).1) (PySem.mem_of_lookup e1) (PySem.mem_of_lookup e2)
      rw [Heap.size_push]
      exact Nat.lt_succ_of_lt (cm (y := p.1) (c := p.2) hp).2
    · show ∃ c, cenv.cells.lookup y = some c
      have key : ∀ k, cenv.kindOf y = some k → (k = .cell ∨ k = .free) → ∃ c, cenv.cells.lookup y = some c := fun k hk hk' => by
        unfold Env.kindOf at hk
        rw [hsc] at hk
        rcases hk' with rfl | rfl
        · obtain ⟨c, hm⟩ := cells_has (n := (s.heap.push { cls := .type "frame", data := .dict #[] }).objs.size) (acc := cloFrom X.env.cells scope.names []) (PySem.mem_of_lookup hk)
          obtain ⟨c', e'⟩ := mem_lookup hm
          exact ⟨c', by rw [hcl]; exact e'⟩
        · obtain ⟨c, h1, _⟩ := look hk
          exact ⟨c, h1⟩
      rcases hy with hy | hy
      · exact key _ hy (.inl rfl)
      · exact key _ hy (.inr rfl)
    · have z : (scope.names.lookup y == some NameKind.cell) = true := z
      have z : scope.names.lookup y = some .cell := by simpa using z
      have e : cenv.cells.lookup y = some c := e
      rw [hcl] at e
      rcases cells_mem (PySem.mem_of_lookup e) with hm | ⟨_, h2, _⟩
      · rcases cloFrom_mem hm with hm | ⟨h1, _⟩
        · cases hm
        · have q := ok.uniq _ h1
          rw [z] at q; cases q
      · rw [Heap.size_push] at h2
        exact Nat.le_of_succ_le h2
    · show b ≠ cenv.locals
      rw [hL]; exact Nat.ne_of_lt (hfp b hb).2
    · have e : cenv.cells.lookup y = some c := e
      rcases mem e with ⟨h1, _⟩ | ⟨h1, _⟩
      · exact (hfp b hb).1.2.2.2.2.1 y c h1 z
      · have h2 : s.heap.objs.size + 1 ≤ b := by rw [← z]; exact h1
        exact absurd (Nat.lt_of_lt_of_le (hfp b hb).2 (Nat.le_of_succ_le h2)) (Nat.lt_irrefl _)
    · rcases (hfp b hb).1.2.2.2.1 with z | z
      · exact I.ok.noex b o e z
      · exact absurd (Nat.lt_of_lt_of_le (Heap.lt_size e) (Nat.le_trans I.ok.bsz z)) (Nat.lt_irrefl _)
    · rcases List.mem_cons.mp (I.stkSub b z) with z | z
      · exact (hfp b hb).1.2.1 z
      · exact (hfp b hb).1.2.2.1 z
  refine ⟨okB, rfl, I.bare, Un.kept kp, ⟨fun y => if y = ".0" then some itv else none, ?_, fun i y av e1 e2 e3 => ?_⟩, fun y c e => ?_, ?_, fun y c e => ?_, fun p hp => ?_, I.hok.kept kp, by rw [wipe_length]; exact I.len⟩
  · show Heap.Ns _ cenv.locals _
    rw [hL]
    exact hns
  · obtain ⟨e2, hne⟩ := wipe_some e2
    have hfr2 : scope.names.lookup y = some .free := by
      have key : ∀ k, scope.names.lookup y = some k → k = .local ∨ k = .cell ∨ k = .free → scope.names.lookup y = some .free := fun k hk hk' => by
        have no : ¬ (k = .local ∨ k = .cell) := fun hh => by
          rcases ok.own _ (PySem.mem_of_lookup hk) hh with e' | e'
          · obtain ⟨p, hp, hpy⟩ := List.mem_map.mp e'
            have e3 := ok.ix p hp
            have : p.1 = y := hpy
            rw [this] at e3
            exact hne (List.mem_map.mpr ⟨p, hp, nodup_ix hN e3 e1⟩)
          · exact e' (List.mem_of_getElem? e1)
        rcases hk' with rfl | rfl | rfl
        · exact absurd (.inl rfl) no
        · exact absurd (.inr rfl) no
        · exact hk
      have e3 : Vis cenv.scope y := e3
      rw [hsc] at e3
      rcases e3 with e3 | e3 | e3
      · exact key _ e3 (.inl rfl)
      · exact key _ e3 (.inr (.inl rfl))
      · exact key _ e3 (.inr (.inr rfl))
    obtain ⟨m, hn, hl⟩ := I.loc
    have hvis : Vis X.env.scope y := (ok.free _ (PySem.mem_of_lookup hfr2) rfl).elim (fun k => .inr (.inl k)) (fun k => .inr (.inr k))
    obtain ⟨w, r, q⟩ := hl i y av e1 e2 hvis
    refine ⟨w, r, .inr ⟨.inr (by show cenv.kindOf y = _; unfold Env.kindOf; rw [hsc]; exact hfr2), ?_⟩⟩
    obtain ⟨c, h1, h2⟩ := look hfr2
    rcases q with ⟨k, _⟩ | ⟨_, c', e', z⟩
    · have k : X.env.scope.names.lookup y = some .local := k
      rcases ok.free _ (PySem.mem_of_lookup hfr2) rfl with k' | k' <;> rw [show X.env.scope.names.lookup y = _ from k'] at k <;> cases k
    · rw [h2] at e'; cases e'
      exact ⟨c, h1, z.keeps kp⟩
  · have e : cenv.cells.lookup y = some c := e
    rcases mem e with ⟨h1, _⟩ | ⟨_, z⟩
    · obtain ⟨w, z⟩ := I.cell y c h1
      exact ⟨w, z.keeps kp⟩
    · exact ⟨_, z⟩
  · show H cenv.locals = none
    rw [hL]; exact I.hok.fresh (Nat.le_refl _)
  · have e : cenv.cells.lookup y = some c := e
    rcases mem e with ⟨h1, _⟩ | ⟨h1, _⟩
    · exact I.freeC y c h1
    · exact I.hok.fresh (Nat.le_of_succ_le h1)
  · exact absurd (show p ∈ ([] : List (Addr × Obj)) ++ [] from hp) (by simp)
theorem gx_back {A : Around} {scope : Scope} {fp : List Addr} {cenv : Env} {pins' : List (Addr × Obj)} {σ' : L2.St} {H' : Hp} {s' : Shared} (I : Inv X pins σ H s) (hfp : ∀ b ∈ fp, FpOk X pins H b) (J : Inv (gxC X A s H scope cenv fp) pins' σ' H' s') : Inv X pins σ H' s' :=
  I.call' (ch := fp) J.os J.base J.hok J.bare fun b hb => ⟨(hfp b hb).2.2.2.1, (hfp b hb).2.1, (hfp b hb).2.2.2.2.1, (hfp b hb).2.2.2.2.2⟩
theorem Inv.regen {G : Array GenState} (I : Inv X pins σ H s) (h : AllBare G) : Inv X pins σ H { s with gens := G } :=
  ⟨I.ok, I.os, h, I.base, I.loc, I.cell, I.free, I.freeC, I.pin, I.hok, I.len⟩
end
end Mini
end
section
namespace Mini
open PySem PySem.Spec PyProof.Rows L2 GenW GxR

theorem over_gxL {A : Around} {elt tg iter : Expr} {ifs : List Expr} {scope : Scope} {pos : Pos} {it acc : Value} {env : Env} : A.over (.compLoop (.GeneratorExp elt [⟨tg, iter, ifs, 0⟩] scope pos) 0 it acc env) [] = A.deeper env := by
  first
    | rfl
    | (obtain ⟨hd, d, fr, gs, u⟩ := A; simp [Around.over, Around.deeper, marksOver, frameCount, unitsOf, envsOf, guardsOf, pushEnvs, pushGuards, Code.envs, Code.env?, Code.isFrame, Code.guards, Code.isGuard, Code.weight, Code.frames, Code.isCreation, Code.isCaller, Code.cUnits])

def gxR (X' : Cx) (pins : List (Addr × Obj)) (Qd : Hp → Prop) : GenEnd := fun _ _ r s1 => ((r = .ok (.ret .none) ∨ r = .ok .next) ∧ ∃ σ' H', Inv X' pins σ' H' s1 ∧ Qd H') ∨ ∃ e, r = .error e ∧ False
def gxY (X' : Cx) (pins : List (Addr × Obj)) (Cons : V → Hp → (Hp → Prop) → Prop) : Protocol := fun _ _ v s kap =>
  ∃ y pn2 σ2 H4 Nx, RelV y v ∧ Inv X' (pins ++ pn2) σ2 H4 s ∧ Cons y H4 Nx ∧ ∀ s'' H'', Inv X' (pins ++ pn2) σ2 H'' s'' → Nx H'' → kap (.send .none) s''

section
variable {X' : Cx} {elt tg iter : Expr} {ifs : List Expr} {scope : Scope} {pos : Pos} {it : Addr} {fp : List Addr} {tn : Nat → Heap → Prop} {J : It} {g : TG} {tt : TT} {te : TE} {vs : List Nat} {σ : L2.St} {pins : List (Addr × Obj)} {Cons : V → Hp → (Hp → Prop) → Prop} {Qd : Hp → Prop} {W : Nat → Nat → Hp → Prop} {A : Around}
theorem gx_loop (hov : A.deeper X'.env = X'.A) (hc : X'.calm = true) (hxe : X'.xe = fun _ _ => False) (hpn : X'.pn = []) (hex : X'.ex = fp) (hco : X'.env.scope.isCoroutine = false) (T : Turn X'.prog X'.w X'.K tg J fp it tn) (haf : ∀ p ∈ pins, p.1 ∉ fp)
    (pg : PG X' tg g) (pt : PTs X' ifs tt) (pe : PE X' elt te)
    (turn : ∀ i m H, W i m H → (J.stop i H ∧ Qd H) ∨ (J.go i H ∧ ∃ Nx : Hp → Prop, (∀ H', Nx H' → ∃ m', m' < m ∧ W (i + 1) m' H') ∧
      ∀ x H', J.yld i H x H' → g x (wipe σ vs) H' fun σ2 H2 => wipe σ2 vs = wipe σ vs ∧ tt σ2 H2 fun b H3 => if b = true then te σ2 H3 fun y H4 => Cons y H4 Nx else Nx H3)) :
    ∀ (n m i : Nat) (s₀ s : Shared) (H : Hp), m < n → Inv X' pins (wipe σ vs) H s → tn i s.heap → (∀ b ∈ fp, H b = none) → W i m H →
      Seg (model X'.prog X'.w) A (gxR X' pins Qd) (gxY X' pins Cons) n s₀ (.compLoop (.GeneratorExp elt [⟨tg, iter, ifs, 0⟩] scope pos) 0 (.ref it) .none X'.env)
        ((model X'.prog X'.w).den (.compLoop (.GeneratorExp elt [⟨tg, iter, ifs, 0⟩] scope pos) 0 (.ref it) .none X'.env)) [] s := by
  have stat : ∀ {σ' : L2.St} {H' : Hp} {s' : Shared}, Inv X' pins σ' H' s' → (∀ b ∈ fp, H' b = none) → ∀ b ∈ fp, FpOk X' pins H' b := fun {σ' H' s'} I' hn b hb =>
    ⟨hn b hb, (I'.ok.exf b (hex ▸ hb)).1, I'.ok.exfs b (hex ▸ hb), .inl (hex ▸ hb), fun x c e => (I'.ok.exf b (hex ▸ hb)).2 x c e, fun p hp z => by
      rw [hpn, List.nil_append] at hp
      exact haf p hp (z ▸ hb)⟩
  intro n
  induction n with
  | zero => intro m i s₀ s H hm; omega
  | succ n ihn =>
    intro m
    induction m using Nat.strongRecOn with
    | ind m ihm =>
      intro i s₀ s H hm I st nf w
      show Seg _ A _ _ (n + 1) s₀ _ ((compTurn (.GeneratorExp elt [⟨tg, iter, ifs, 0⟩] scope pos) 0 (.ref it) .none X'.env).onRaise (leaving X'.env)) [] s
      rw [compTurn_gen, Sem.onRaise_eq_wrap]
      refine seg_bind_wrap (wpAny_standAt ?_)
      rcases turn i m H w with ⟨stop, qq⟩ | ⟨go, Nx, hNx, step⟩
      · have td := T.done X' rfl rfl rfl hc i pins s _ H (fun _ _ => False) I (stat I nf) st stop
        refine seg_bind_wrap ?_
        rw [over_gxL, hov]
        refine thnF td fun r s6 ⟨hr, I6⟩ => ?_
        subst hr
        exact seg_end (.ok .next) (.inl ⟨.inr rfl, _, H, I6, qq⟩)
      · have ti := T.item X' rfl rfl rfl hc i pins s _ H (fun _ _ => False) I (stat I nf) st go
        refine seg_bind_wrap ?_
        rw [over_gxL, hov]
        refine thnF ti fun r s6 ⟨u, hr, h6⟩ => ?_
        subst hr
        refine seg_bind_wrap ?_
        rw [over_gxL, hov]
        refine thnF h6 fun _ s7 ⟨x, H7, I7, r7, y7, st7, n7⟩ => ?_
        have I7' := I7.pinned (stat I7 n7) (T.obj _ _ st7)
        have p1 := pg.run _ s7 _ H7 x u _ I7' r7 (step x H7 y7)
        rw [hxe] at p1
        refine seg_bind_wrap ?_
        rw [over_gxL, hov]
        refine thnF p1 fun _ s8 ⟨σ8, H8, I8, hw8, q8⟩ => ?_
        have p2 := pt.run _ s8 σ8 H8 _ I8 q8
        rw [hxe] at p2
        refine seg_bind_wrap ?_
        rw [over_gxL, hov]
        refine thnF p2 fun b s9 ⟨H9, I9, q9⟩ => ?_
        -- the turn's end
        have fin : ∀ {s' : Shared} {H' : Hp}, Inv X' (pins ++ pinsAt fp s7.heap) σ8 H' s' → Nx H' → ∃ m', m' < m ∧ Inv X' pins (wipe σ vs) H' s' ∧ tn (i + 1) s'.heap ∧ (∀ b ∈ fp, H' b = none) ∧ W (i + 1) m' H' := fun {s' H'} I' nx => by
          obtain ⟨m', hm', w'⟩ := hNx H' nx
          have pin' : ∀ b ∈ fp, ∀ o, s7.heap.get? b = some o → s'.heap.get? b = some o ∧ H' b = none := fun b hb o e =>
            let z := I'.pin (b, o) (List.mem_append_right _ (List.mem_append_right _ (mem_pinsAt hb e)))
            ⟨z.1, z.2.1⟩
          have hl : (wipe σ vs).length = σ8.length := by rw [← hw8, wipe_length]
          refine ⟨m', hm', (I'.unpinned (pins := pins)).weak hl (fun j v e => ?_), T.keep _ _ _ st7 fun b hb o e => (pin' b hb o e).1, fun b hb => ?_, w'⟩
          · rw [← hw8] at e
            exact (wipe_some e).1
          · obtain ⟨o, e, _⟩ := T.obj _ _ st7 b hb
            exact (pin' b hb o e).2
        cases b with
        | false =>
          simp only [Bool.false_eq_true, if_false] at q9 ⊢
          obtain ⟨m', hm', I', st', nf', w'⟩ := fin I9 q9
          exact seg_again rfl (ihm m' hm' (i + 1) s₀ _ _ (by omega) I' st' nf' w')
        | true =>
          simp only [if_true] at q9 ⊢
          have hy : ∀ v, yieldOut X'.env v = yieldValue v := fun v => by simp only [yieldOut, hco, Bool.false_eq_true, if_false]
          simp only [hy]
          rw [Sem.bind_eq_wrap', Sem.bind_eq_wrap', Sem.wrap_wrap, Sem.wrap_wrap]
          have p3 := pe.run _ s9 σ8 H9 _ I9 q9
          rw [hxe] at p3
          refine seg_wrap ?_
          rw [over_gxL, hov]
          refine thnF p3 fun z s10 ⟨yv, H10, I10, r10, cons⟩ => ?_
          refine seg_at (seg_yield rfl rfl rfl ⟨yv, pinsAt fp s7.heap, σ8, H10, Nx, r10, I10, cons, fun s'' H'' I'' nx => ?_⟩)
          obtain ⟨m', hm', I', st', nf', w'⟩ := fin I'' nx
          exact seg_again rfl (ihn m' (i + 1) s'' s'' H'' (by omega) I' st' nf' w')
theorem gx_begin {n : Nat} {s₀ s : Shared} (hov : A.deeper X'.env = X'.A) (T : Turn X'.prog X'.w X'.K tg J fp it tn) (st : tn 0 s.heap)
    (h : Seg (model X'.prog X'.w) A (gxR X' pins Qd) (gxY X' pins Cons) n s₀ (.compLoop (.GeneratorExp elt [⟨tg, iter, ifs, 0⟩] scope pos) 0 (.ref it) .none X'.env)
        ((model X'.prog X'.w).den (.compLoop (.GeneratorExp elt [⟨tg, iter, ifs, 0⟩] scope pos) 0 (.ref it) .none X'.env)) [] s) :
    Seg (model X'.prog X'.w) A (gxR X' pins Qd) (gxY X' pins Cons) n s₀ (.compStart (.GeneratorExp elt [⟨tg, iter, ifs, 0⟩] scope pos) 0 (.ref it) .none X'.env)
        ((model X'.prog X'.w).den (.compStart (.GeneratorExp elt [⟨tg, iter, ifs, 0⟩] scope pos) 0 (.ref it) .none X'.env)) [] s := by
  show Seg _ A _ _ _ s₀ _ ((compStart (.GeneratorExp elt [⟨tg, iter, ifs, 0⟩] scope pos) 0 (.ref it) .none X'.env).onRaise (leaving X'.env)) [] s
  unfold compStart
  rw [Sem.onRaise_eq_wrap]
  show Seg _ A _ _ _ s₀ _ ((ask >>= _).wrap _ _ _ _) [] s
  refine seg_bind_wrap (wpAny_askSetting ?_)
  split
  · exact seg_again rfl h
  · refine seg_bind_wrap (wpAny_rule ?_)
    show Seg _ A _ _ _ s₀ _ ((standAt iter.pos >>= _).wrap _ _ _ _) [] s
    exact seg_bind_wrap (wpAny_standAt (seg_bind_wrap (T.self _ 0 s _ _ st (seg_again rfl h))))
end
end Mini
end
section
namespace Mini
open PySem PySem.Spec PyProof.Rows L2 GenW GxR
variable [Tabs]
abbrev codeH (H : Hp) (P : Addr) (ps : Array Value) (c : Addr) (o : Obj) (Q : Addr) : Hp := upd (upd (upd H P (.tbl ps)) c (.frz o (.ext fun _ => True))) Q (.tbl #[])
section
variable {X : Cx} {pins : List (Addr × Obj)} {σ : L2.St} {H : Hp} {s : Shared}
theorem inv_code {P c Q : Addr} {o : Obj} {ps more : Array Value} {h' : Heap} {t' : Nat} (I : Inv X pins σ H s) (hP : H P = some (.tbl ps)) (k : ∀ b o, b ≠ P → s.heap.get? b = some o → h'.get? b = some o)
    (hm : h'.get? P = some { cls := .none, data := .fields (ps ++ more) }) (hc : s.heap.objs.size ≤ c) (hq : s.heap.objs.size ≤ Q) (ncq : c ≠ Q) (ho : h'.get? c = some o) (hqo : h'.get? Q = some { cls := .none, data := .fields #[] }) :
    Inv X pins σ (codeH H P (ps ++ more) c o Q) { s with heap := h', toks := t' } := by
  have nC : H c = none := I.hok.fresh hc
  have nQ : H Q = none := I.hok.fresh hq
  have nPc : P ≠ c := ne_of_none hP nC
  have nPq : P ≠ Q := ne_of_none hP nQ
  have at_ : ∀ b, b ≠ P → b ≠ c → b ≠ Q → codeH H P (ps ++ more) c o Q b = H b := fun b h1 h2 h3 => by unfold codeH; rw [upd_ne h3, upd_ne h2, upd_ne h1]
  have atP : codeH H P (ps ++ more) c o Q P = some (.tbl (ps ++ more)) := by unfold codeH; rw [upd_ne nPq, upd_ne nPc, upd_same]
  have atC : codeH H P (ps ++ more) c o Q c = some (.frz o (.ext fun _ => True)) := by unfold codeH; rw [upd_ne ncq, upd_same]
  have atQ : codeH H P (ps ++ more) c o Q Q = some (.tbl #[]) := upd_same
  have nP : ∀ b u, H b = some u → (∀ q, u ≠ .tbl q) → b ≠ P := fun b u e q z => by
    rw [z, hP] at e
    exact q ps (Option.some.inj e).symm
  have nN : ∀ b, H b = none → b ≠ P := fun b e z => by
    rw [z, hP] at e
    cases e
  have lt' : ∀ b o, s.heap.get? b = some o → b ≠ c ∧ b ≠ Q := fun b o e => ⟨fun z => by
    rw [z] at e
    exact Nat.lt_irrefl _ (Nat.lt_of_lt_of_le (Heap.lt_size e) hc), fun z => by
    rw [z] at e
    exact Nat.lt_irrefl _ (Nat.lt_of_lt_of_le (Heap.lt_size e) hq)⟩
  have sm : ∀ b u, H b = some u → b ≠ c ∧ b ≠ Q := fun b u e => ⟨ne_of_none e nC, ne_of_none e nQ⟩
  refine I.step (g' := s.gens) (d' := s.drawn) (ch := []) (fun b hb => absurd hb (by simp)) (fun b o _ _ _ e n => k b o (nN b n) e) (fun b o _ _ _ e n => ⟨o.slots, k b o (nN b n) e⟩)
    (fun b o _ e n => by rw [at_ b (nN b n) (lt' b o e).1 (lt' b o e).2]; exact n) (fun b o _ e => ?_) (fun b xs e => by rw [at_ b (nP b _ e (fun q z => by cases z)) (sm b _ e).1 (sm b _ e).2]; exact e) (fun b o u e => by rw [at_ b (nP b _ e (fun q z => by cases z)) (sm b _ e).1 (sm b _ e).2]; exact e) (fun b qs e => ?_) (fun m hn => ?_) (fun b u e => ?_) I.bare
  · by_cases hb : b = P
    · rw [hb]
      exact ⟨_, hm⟩
    · exact ⟨o, k b o hb e⟩
  · by_cases hb : b = P
    · rw [hb, hP] at e
      cases e
      rw [hb, atP]
      exact ⟨more, rfl⟩
    · rw [at_ b hb (sm b _ e).1 (sm b _ e).2, e]
      exact ⟨#[], by simp⟩
  · obtain ⟨ob, es, ep, ho, r⟩ := hn
    exact ⟨ob, es, ep, k _ ob (nN _ I.free) ho, r⟩
  · by_cases hb : b = c
    · rw [hb, atC] at e
      cases e
      rw [hb]
      exact ⟨ho, trivial, ⟨o, ho⟩, fun _ _ _ _ => trivial⟩
    by_cases hb1 : b = Q
    · rw [hb1, atQ] at e
      cases e
      rw [hb1]
      exact hqo
    by_cases hb2 : b = P
    · rw [hb2, atP] at e
      cases e
      rw [hb2]
      exact hm
    · rw [at_ b hb2 hb hb1] at e
      refine (I.hok b u e).stay (fun d v hd q => k d v ?_ q) (fun d q => by rw [at_ d (nP d _ q (fun q z => by cases z)) (sm d _ q).1 (sm d _ q).2]; exact q) fun d xs q => by rw [at_ d (nP d _ q (fun q z => by cases z)) (sm d _ q).1 (sm d _ q).2]; exact q
      rcases hd with z | z
      · rw [z]
        exact hb2
      · exact nP d _ z (fun q z => by cases z)
end
theorem among_snoc {pos p' : Pos} {c cv : Value} (l : List Value) (h : TriplesOk l) (hc : codeAmong p' (l ++ [rawInt pos.line, rawInt pos.col, c]) = some cv) : codeAmong p' l = some cv ∨ cv = c := by
  fun_induction TriplesOk l with
  | case1 =>
    simp only [List.nil_append, rawInt, codeAmong] at hc
    split at hc
    · exact .inr (Option.some.inj hc).symm
    · cases hc
  | case2 a t b u x rest ih =>
    simp only [List.cons_append, codeAmong] at hc ⊢
    split at hc
    · rename_i q
      rw [if_pos q]
      exact .inl hc
    · rename_i q
      rw [if_neg q]
      exact ih h hc
  | case3 l h1 h2 => exact h.elim
theorem code_tabs {H : Hp} {P c Q : Addr} {o : Obj} {ps : Array Value} {pos : Pos} (x : TabsOk H) (hP : H P = some (.tbl ps)) (nC : H c = none) (nQ : H Q = none) (ncq : c ≠ Q) (co : CodeOb o c Q) : TabbedI H (codeH H P (ps ++ #[rawInt pos.line, rawInt pos.col, .ref c]) c o Q) := by
  have nPc : P ≠ c := ne_of_none hP nC
  have nPq : P ≠ Q := ne_of_none hP nQ
  have atP : codeH H P (ps ++ #[rawInt pos.line, rawInt pos.col, .ref c]) c o Q P = some (.tbl (ps ++ #[rawInt pos.line, rawInt pos.col, .ref c])) := by unfold codeH; rw [upd_ne nPq, upd_ne nPc, upd_same]
  have atC : codeH H P (ps ++ #[rawInt pos.line, rawInt pos.col, .ref c]) c o Q c = some (.frz o (.ext fun _ => True)) := by unfold codeH; rw [upd_ne ncq, upd_same]
  have atQ : codeH H P (ps ++ #[rawInt pos.line, rawInt pos.col, .ref c]) c o Q Q = some (.tbl #[]) := upd_same
  have old : ∀ b u, H b = some u → b ≠ P → codeH H P (ps ++ #[rawInt pos.line, rawInt pos.col, .ref c]) c o Q b = some u := fun b u e n => by
    unfold codeH
    rw [upd_ne (ne_of_none e nQ), upd_ne (ne_of_none e nC), upd_ne n]
    exact e
  have nt : ∀ b u, H b = some u → (∀ q, u ≠ .tbl q) → codeH H P (ps ++ #[rawInt pos.line, rawInt pos.col, .ref c]) c o Q b = some u := fun b u e n => old b u e fun z => by
    rw [z, hP] at e
    exact n ps (Option.some.inj e).symm
  have eL : (ps ++ #[rawInt pos.line, rawInt pos.col, Value.ref c]).toList = ps.toList ++ [rawInt pos.line, rawInt pos.col, .ref c] := by simp
  have go : ∀ (k : Nat) (R : Addr), TabD k H R → TabD k (codeH H P (ps ++ #[rawInt pos.line, rawInt pos.col, .ref c]) c o Q) R := by
    intro k
    induction k with
    | zero =>
      rintro R ⟨qs, h1, h2⟩
      by_cases e : R = P
      · subst e
        rw [hP] at h1
        cases h1
        exact ⟨_, atP, by rw [eL]; exact PySem.TriplesOk_snoc _ _ _ _ h2⟩
      · exact ⟨qs, old _ _ h1 e, h2⟩
    | succ k ih =>
      rintro R ⟨qs, h1, h2, h3⟩
      have en : ∀ (p : Pos) (cv : Value), codeAmong p qs.toList = some cv → ∃ (c' Q' : Addr) (o' : Obj) (u : HO), cv = .ref c' ∧ codeH H P (ps ++ #[rawInt pos.line, rawInt pos.col, .ref c]) c o Q c' = some (.frz o' u) ∧ CodeOb o' c' Q' ∧ TabD k (codeH H P (ps ++ #[rawInt pos.line, rawInt pos.col, .ref c]) c o Q) Q' := fun p cv hc => by
        obtain ⟨c', Q', o', u, e1, e2, e3, e4⟩ := h3 p cv hc
        exact ⟨c', Q', o', u, e1, nt _ _ e2 (fun q z => by cases z), e3, ih _ e4⟩
      by_cases e : R = P
      · subst e
        rw [hP] at h1
        cases h1
        refine ⟨_, atP, by rw [eL]; exact PySem.TriplesOk_snoc _ _ _ _ h2, fun p cv hc => ?_⟩
        rw [eL] at hc
        rcases among_snoc _ h2 hc with z | z
        · exact en p cv z
        · exact ⟨c, Q, o, _, z, atC, co, TabI.nil atQ k⟩
      · exact ⟨qs, old _ _ h1 e, h2, en⟩
  exact ⟨fun R hR k => go k R (x R hR k), nt⟩
def CK (X : Cx) (c P : Addr) : Prop := ∀ (pins : List (Addr × Obj)) (σ : L2.St) (H : Hp) (s : Shared), Inv X pins σ H s → PySem.W.CodeHd s.heap c P ∧ Reach H P ∧ X.base.BuiltinsAt X.mg P
theorem ck_base {X : Cx} {c P : Addr} (TB : TabB X.base X.mg c P) (hP : Tabs.ts P) : CK X c P := fun pins σ H s I => ⟨TB.code.keeps I.bk, .root hP, TB.bm⟩
theorem ck_gx {X : Cx} {A : Around} {s : Shared} {H : Hp} {scope : Scope} {cenv : Env} {fp : List Addr} {c P : Addr} {o : Obj} {u : HO} (hc : H c = some (.frz o u)) (co : CodeOb o c P) (r : Reach H P) (hb : X.base.BuiltinsAt X.mg P) :
    CK (gxC X A s H scope cenv fp) c P := fun pins σ H' s' I => by
  have e := I.base.frzs c o u hc
  obtain ⟨e1, _⟩ := I.hok c _ e
  exact ⟨co.hd e1, r.mono I.base.tbls I.base.frzs, hb⟩
end Mini
end
section
namespace Mini
open PySem PySem.Spec PyProof.Rows L2 GenW GxR
variable [Tabs]

def GxMade (X : Cx) (pins : List (Addr × Obj)) (σ : L2.St) (elt tg iter : Expr) (ifs : List Expr) (scope : Scope) (pos : Pos) (vs : List Nat) (J : It) (H1 : Hp) (u : Value) (s6 : Shared) : Prop :=
  ∃ (it : Addr) (fp : List Addr) (tn : Nat → Heap → Prop) (s3 : Shared) (H3 : Hp) (cl : List (Str × Addr)) (C : Addr) (code : Value) (a gn : Nat) (nm qn : Value),
    u = .ref a ∧ Turn X.prog X.w X.K tg J fp it tn ∧ tn 0 s6.heap ∧ Inv X pins σ H3 s3 ∧ (∀ b ∈ fp, FpOk X pins H3 b) ∧ TabbedI H1 H3 ∧ a ∉ fp ∧ (∀ A', ∃ cc Q, code = .ref cc ∧ CK (gxC X A' s3 H3 scope (gxEnv scope cl C code builtinsNs X.env) fp) cc Q) ∧
    s6.gens[gn]? = some (.fresh (.compStart (.GeneratorExp elt [⟨tg, iter, ifs, 0⟩] scope pos) 0 (.ref it) .none (gxEnv scope cl C code builtinsNs X.env))) ∧
    ∀ A', A'.handled = none → A'.frames = some (gxEnv scope cl C code builtinsNs X.env :: X.stack) →
      Inv (gxC X A' s3 H3 scope (gxEnv scope cl C code builtinsNs X.env) fp) [(a, { cls := .type "generator", data := .fields #[.int gn 0, nm, qn] })] (wipe σ vs) H3 s6
section
variable {X : Cx} {pins : List (Addr × Obj)} {σ : L2.St} {H : Hp} {s : Shared} {elt tg iter : Expr} {ifs : List Expr} {scope : Scope} {pos : Pos} {wi : TI}
theorem gx_make {c P : Addr} {own : List (Str × Nat)} {Q' : Value → Shared → Prop} {R : It → Hp → Prop} (ck : CK X c P) (hcode : X.env.code = .ref c) (hroom : X.A.depth < recursionLimit) (hco : scope.isCoroutine = false)
    (h0 : scope.names.lookup (".0" : Str) = some NameKind.local) (ok : BlkOk X.N X.env.scope scope own) (hN : X.N.Nodup) (hi : PI X tg iter wi) (hs : ∀ x, genFold iter X.env x = pure x) (I : Inv X pins σ H s)
    (h : wi σ H fun J H1 => TabsOk H1 ∧ R J H1) (hQ : ∀ J H1 u s6, R J H1 → GxMade X pins σ elt tg iter ifs scope pos (own.map (·.2)) J H1 u s6 → Q' u s6) :
    wpAny (model X.prog X.w) X.A (eval (.GeneratorExp elt [⟨tg, iter, ifs, 0⟩] scope pos) X.env) Q' X.xe s := by
  have hfree : ∀ y ∈ scope.names, y.2 = .free → ∃ c, X.env.cells.lookup y.1 = some c := fun y hy e => by
    rcases ok.free y hy e with k | k
    · exact I.ok.has _ (.inl k)
    · exact I.ok.has _ (.inr k)
  rw [eval_GeneratorExp1 _ _ _ _ _ _ _ hco, closure_ok hfree]
  refine wpAny_bind (thn (hi.run pins s σ H _ I h) fun xv s1 hx => ?_)
  refine wpAny_bind (wpAny_standAt ?_)
  refine wpAny_bind (wpAny_of_eq (hs xv) ?_)
  refine wpAny_bind (wpAny_holding (thn hx fun itv s2 h2 => ?_))
  obtain ⟨it, fp, tn, J, H2, e, I2, T, st2, f2, tb, q⟩ := h2
  subst e
  refine wpAny_bind (wpAny_enterFrame I2.nolimit hroom ?_)
  refine wpAny_bind (wpAny_pure ?_)
  obtain ⟨cd, rch, bmA⟩ := ck pins σ H2 s2 I2
  have tI := rch.tab tb
  obtain ⟨ps, hP, ht⟩ := tI 0
  have hPs : s2.heap.get? P = some { cls := .none, data := .fields ps } := I2.hok P _ hP
  have fP : ∀ b ∈ fp, b ≠ P := fun b hb z => by
    have q := (f2 b hb).1
    rw [z, hP] at q; cases q
  have cont : ∀ (cc Q : Addr) (o : Obj) (u : HO) (s3 : Shared) (H3 : Hp), Inv X pins σ H3 s3 → TabbedI H2 H3 → (∀ b ∈ fp, H3 b = none) → H3 cc = some (.frz o u) → CodeOb o cc Q → Reach H3 Q → X.base.BuiltinsAt X.mg Q → (∀ b o, b ≠ P → s2.heap.get? b = some o → s3.heap.get? b = some o) →
      wpAny (model X.prog X.w) X.A (do
        let bi ← builtinsFor X.env.globals X.env.builtins
        let cenv ← newFunctionEnv scope X.env.globals (cloFrom X.env.cells scope.names []) [(".0", .ref it)] (X.env.qual ++ "<genexpr>.") none (.ref cc) none bi
        newGenerator (.compStart (.GeneratorExp elt [⟨tg, iter, ifs, 0⟩] scope pos) 0 (.ref it) .none cenv) "<genexpr>" (X.env.qual ++ "<genexpr>")) Q' X.xe s3 := by
    intro cc Q o u s3 H3 I3 hT hfp hcc co hrq hbq k3
    obtain ⟨bm, ob, e1, e2, e3, e4, e5, e6, e7, e8⟩ := hbq
    refine wpAny_bind (wpAny_builtinsFor (m := X.mg) (by rw [I3.ok.glob]; exact I3.mod.glob.keeps I3.bk) e1 e2 (I3.bk _ _ e5) e6 e7 e8 ?_)
    have f3 : ∀ b ∈ fp, FpOk X pins H3 b ∧ b < s3.heap.objs.size := fun b hb => by
      obtain ⟨o, e, _⟩ := T.obj _ _ st2 b hb
      exact ⟨⟨hfp b hb, (f2 b hb).2⟩, Heap.lt_size (k3 b o (fP b hb) e)⟩
    refine wpAny_bind (newEnv_gx h0 ok.kind fun h' tk hns hsb => ?_)
    simp only [newGenerator, newFields]
    refine wpAny_bind (wpAny_newGen (wpAny_bind (wpAny_mkText (wpAny_bind (wpAny_mkText (wpAny_newObj_type ?_ (by size_fits)))))))
    have k4 : ∀ b o, s3.heap.get? b = some o → h'.get? b = some o := fun b o e => hsb.extBut b o (Nat.ne_of_lt (Heap.lt_size e)) (pushCells_keeps _ _ _ _ (Heap.get?_push_of_some _ e))
    refine hQ J H2 _ _ q ⟨it, fp, tn, s3, H3, _, _, .ref cc, h'.objs.size, s3.gens.size, .str "<genexpr>" tk, .str (X.env.qual ++ "<genexpr>") (tk + 1), rfl, T, T.keep _ _ _ st2 fun b hb o e => Heap.get?_push_of_some _ (k4 b o (k3 b o (fP b hb) e)), I3, fun b hb => (f3 b hb).1, hT, fun hm => ?_, fun A' => ⟨cc, Q, rfl, ck_gx hcc co hrq ⟨bm, ob, e1, e2, e3, e4, e5, e6, e7, e8⟩⟩, Array.getElem?_push_size .., fun A' hd hfr => ?_⟩
    · obtain ⟨o, e, _⟩ := T.obj _ _ st2 _ hm
      exact absurd (Heap.lt_size (k4 _ o (k3 _ o (fP _ hm) e))) (Nat.lt_irrefl _)
    · have J0 := gx_start (A := A') (tk := tk) I3 ok hN f3 hd hfr hns hsb
      have J1 := Inv.regen J0 (G := s3.gens.push (.fresh (.compStart (.GeneratorExp elt [⟨tg, iter, ifs, 0⟩] scope pos) 0 (.ref it) .none (gxEnv scope (cellsFrom (s3.heap.objs.size + 1) scope.names (cloFrom X.env.cells scope.names [])) s3.heap.objs.size (.ref cc) builtinsNs X.env)))) (AllBare.push J0.bare rfl)
      refine (J1.kept (t' := _) fun b u e => Heap.get?_push_of_some _ e).pins_of fun p hp => ?_
      rw [List.mem_singleton.mp hp]
      exact ⟨Heap.get?_push_size _ rfl, J0.hok.fresh (Nat.le_refl _), Nat.ne_of_gt J0.lt, J0.nofs (Nat.le_refl _), fun v z => by cases z⟩
  cases hf : codeAmong pos ps.toList with
  | none =>
    refine wpAny_bind (wpAny_genexprCodeX hcode (cd.code hPs ht) (cd.tab hPs) hf fun c' h' tk hx hge hlt hco' _ htab' hnew => ?_)
    obtain ⟨o1, vs, f1, tf, fl, tg', inF, tx, tt, op, _, _, _, _, _, _, _, _, _, htr, _⟩ := hco'
    obtain ⟨Q, hqge, hq1, hq2⟩ := hnew
    obtain ⟨o, ho, co⟩ := codeOb_of (PySem.W.CodeHd.of hq1 hq2)
    have ncq : c' ≠ Q := by
      obtain ⟨_, _, _, _, _, _, _, _, _, _, _, _, _, _, _, _, n⟩ := id co
      exact n
    have nC : H2 c' = none := I2.hok.fresh hge
    have nQ : H2 Q = none := I2.hok.fresh hqge
    have I3 := inv_code (t' := tk) (more := #[rawInt pos.line, rawInt pos.col, .ref c']) I2 hP (fun b o hb e => hx b o hb e) htab'.2 hge hqge ncq ho hq2.2
    have hTb := code_tabs (pos := pos) (o := o) tb hP nC nQ ncq co
    have at3 : ∀ b, b ≠ P → b ≠ c' → b ≠ Q → codeH H2 P (ps ++ #[rawInt pos.line, rawInt pos.col, .ref c']) c' o Q b = H2 b := fun b h1 h2 h3 => by unfold codeH; rw [upd_ne h3, upd_ne h2, upd_ne h1]
    have nPc : P ≠ c' := ne_of_none hP nC
    have nPq : P ≠ Q := ne_of_none hP nQ
    have atC : codeH H2 P (ps ++ #[rawInt pos.line, rawInt pos.col, .ref c']) c' o Q c' = some (.frz o (.ext fun _ => True)) := by unfold codeH; rw [upd_ne ncq, upd_same]
    have atP : codeH H2 P (ps ++ #[rawInt pos.line, rawInt pos.col, .ref c']) c' o Q P = some (.tbl (ps ++ #[rawInt pos.line, rawInt pos.col, .ref c'])) := by unfold codeH; rw [upd_ne nPq, upd_ne nPc, upd_same]
    have eL : (ps ++ #[rawInt pos.line, rawInt pos.col, Value.ref c']).toList = ps.toList ++ [rawInt pos.line, rawInt pos.col, .ref c'] := by simp
    have rP : Reach (codeH H2 P (ps ++ #[rawInt pos.line, rawInt pos.col, .ref c']) c' o Q) P := rch.mono (fun b qs e => by
      by_cases hb : b = P
      · subst hb
        rw [hP] at e
        cases e
        exact ⟨_, atP⟩
      · exact ⟨#[], by rw [at3 b hb (ne_of_none e nC) (ne_of_none e nQ), e]; simp⟩) fun b o u e => hTb.2 b _ e fun q z => by cases z
    have rQ : Reach (codeH H2 P (ps ++ #[rawInt pos.line, rawInt pos.col, .ref c']) c' o Q) Q := .step (pos := pos) rP atP (by rw [eL]; exact PySem.codeAmong_snoc _ ht hf) atC co
    refine cont c' Q o _ _ _ I3 hTb (fun b hb => ?_) atC co rQ ?_ fun b o hb e => hx b o hb e
    · obtain ⟨o', e', _⟩ := T.obj _ _ st2 b hb
      have hlt := Heap.lt_size e'
      rw [at3 b (fP b hb) (fun z => Nat.lt_irrefl _ (Nat.lt_of_lt_of_le hlt (z ▸ hge))) (fun z => Nat.lt_irrefl _ (Nat.lt_of_lt_of_le hlt (z ▸ hqge)))]
      exact (f2 b hb).1
    · obtain ⟨bm, ob, e1, e2, e3, e4, e5, e6, e7, e8⟩ := bmA
      exact ⟨bm, ob, e1, e2, e3, fun z => Nat.lt_irrefl _ (Nat.lt_of_lt_of_le (Heap.lt_size (I2.bk _ _ e5)) (z ▸ hqge)), e5, e6, e7, e8⟩
  | some cv =>
    obtain ⟨ps', hP', _, hall⟩ := tI 1
    rw [hP] at hP'
    cases hP'
    obtain ⟨cc, Q, o, u, rfl, hcc, co, ⟨qs, hQ', _⟩⟩ := hall pos cv hf
    refine wpAny_bind (wpAny_genexprCode_hit hcode (cd.code hPs ht) hf ?_)
    refine cont cc Q o u s2 H2 I2 ⟨tb, fun b u e _ => e⟩ (fun b hb => (f2 b hb).1) hcc co (.step rch hP hf hcc co) ?_ fun b o _ e => e
    obtain ⟨bm, ob, e1, e2, e3, e4, e5, e6, e7, e8⟩ := bmA
    refine ⟨bm, ob, e1, e2, e3, fun z => ?_, e5, e6, e7, e8⟩
    have h1 := I2.hok Q _ hQ'
    have h2 := I2.bk _ _ e5
    rw [z] at h2
    have h1 : s2.heap.get? Q = some { cls := .none, data := .fields qs } := h1
    rw [h1] at h2
    cases h2
    cases e6
end

def GxSt (X' : Cx) (pins : List (Addr × Obj)) (Qd : Hp → Prop) (Cons : V → Hp → (Hp → Prop) → Prop) (B : Around) (gn n : Nat) (s : Shared) : Prop :=
  ∃ pn2 σ2 H' gs, Inv X' (pins ++ pn2) σ2 H' s ∧ s.gens[gn]? = some gs ∧ gs.Goes (model X'.prog X'.w) B (gxR X' pins Qd) (gxY X' pins Cons) n (.send .none) (s.setGen gn .running)
section
variable {X' : Cx} {Cons : V → Hp → (Hp → Prop) → Prop} {Qd : Hp → Prop} {B : Around} {a gn n : Nat} {nm qn : Value} {s : Shared}
theorem gx_next {Q : Option Value → Shared → Prop} {E : Value → Shared → Prop} (hh : B.handled = none) (hroom : B.depth < recursionLimit)
    (h : GxSt X' [(a, { cls := .type "generator", data := .fields #[.int gn 0, nm, qn] })] Qd Cons B.in1 gn n s)
    (hY : ∀ v s' y pn2 σ2 H4 Nx, RelV y v → Inv X' ([(a, { cls := .type "generator", data := .fields #[.int gn 0, nm, qn] })] ++ pn2) σ2 H4 s' → Cons y H4 Nx →
      (∀ s'' H'', Inv X' ([(a, { cls := .type "generator", data := .fields #[.int gn 0, nm, qn] })] ++ pn2) σ2 H'' s'' → Nx H'' → s''.gens = s'.gens →
        ∃ m, n = m + 1 ∧ GxSt X' [(a, { cls := .type "generator", data := .fields #[.int gn 0, nm, qn] })] Qd Cons B.in1 gn m s'') → Q (some v) s')
    (hD : ∀ s' σ' H', Inv X' [(a, { cls := .type "generator", data := .fields #[.int gn 0, nm, qn] })] σ' H' s' → Qd H' → Q none s') :
    wpAny (model X'.prog X'.w) B (pyNext (.ref a)) Q E s := by
  obtain ⟨pn2, σ2, H', gs, I, hgs, hgo⟩ := h
  have hg : s.heap.IsGen a gn := ⟨_, nm, qn, (I.pin (a, _) (List.mem_append_right _ (List.mem_append_left _ (List.mem_singleton.mpr rfl)))).1, rfl, rfl, rfl⟩
  have hgl : gn < s.gens.size := (Array.getElem?_eq_some_iff.mp hgs).1
  refine wpAny_gsz (n := gn + 1) hgl (next_genG (A := B) (F := fun _ _ s1 => ∃ σ' H', Inv X' [(a, { cls := .type "generator", data := .fields #[.int gn 0, nm, qn] })] σ' H' s1 ∧ Qd H') (Er := fun _ _ => False) hh I.nolimit hroom hg hgs hgo (fun v s₁ gs' hbare hv => ?_) (fun s₁ hp h' hk => ?_) fun e s₁ he => he.elim)
  · intro hsz
    obtain ⟨y, pn3, σ3, H4, Nx, rv, I4, cons, hk⟩ := hv
    have hsz1 : gn < s₁.gens.size := by
      have q : (s₁.setGen gn gs').gens.size = s₁.gens.size := setGen_size _ _ _
      have hsz' : gn + 1 ≤ (s₁.setGen gn gs').gens.size := hsz
      omega
    have I5 : Inv X' ([(a, { cls := .type "generator", data := .fields #[.int gn 0, nm, qn] })] ++ pn3) σ3 H4 (s₁.setGen gn gs') := Inv.regen I4 (allBare_setGen I4.bare hbare)
    refine hY v _ y pn3 σ3 H4 Nx rv I5 cons fun s'' H'' I'' nx eg => ?_
    have z := hk (s''.setGen gn .running) H'' (Inv.regen I'' (allBare_setGen I''.bare rfl)) nx
    cases n with
    | zero => exact z.elim
    | succ m => exact ⟨m, rfl, pn3, σ3, H'', gs', I'', by rw [eg]; exact setGen_at hsz1, z⟩
  · intro hsz
    obtain ⟨σ', H', I4, q⟩ := hp
    exact hD _ σ' H' ((Inv.regen I4 (G := (s₁.setGen gn .finished).gens) (allBare_setGen I4.bare rfl)).kept (t' := s₁.toks) hk) q

def consB (b : Bool) (Qo : Hp → Prop) : V → Hp → (Hp → Prop) → Prop := fun y H Nx => ∃ k, y = .bl k ∧ if k = b then Nx H else Qo H
variable {A : Around} {Qo : Hp → Prop} {R : Result → Shared → Prop}
theorem gx_all (hh : A.handled = none) (hroom : A.depth < recursionLimit)
    (hT : ∀ s' pn σ' H', Inv X' pn σ' H' s' → Qd H' → R (.ok (.ret (.bool true))) s') (hF : ∀ s' pn σ' H', Inv X' pn σ' H' s' → Qo H' → R (.ok (.ret (.bool false))) s') :
    ∀ (n : Nat) (s : Shared), GxSt X' [(a, { cls := .type "generator", data := .fields #[.int gn 0, nm, qn] })] Qd (consB true Qo) A.in1.in1 gn n s → codeAny (model X'.prog X'.w) A (.builtin "all.loop" ⟨[.ref a], []⟩) R s := by
  intro n
  induction n with
  | zero =>
    intro s h
    refine codeAny_builtin F.entry_all_loop ?_
    rw [Around.under_plainId F.plain_all_loop _]
    show wpAny _ A.in1 (pyNext (.ref a) >>= _) _ _ s
    refine wpAny_bind (gx_next (B := A.in1) hh hroom h (fun v s' y pn2 σ2 H4 Nx rv I cons next => ?_) fun s' σ' H' I q => ?_)
    · obtain ⟨k, rfl, hk⟩ := cons
      obtain rfl : v = .bool k := rv
      refine wpAny_bind (wpAny_holding (wpAny_truthy_bool ?_))
      refine wpAny_bind (wpAny_letGo ?_)
      cases k with
      | true =>
        obtain ⟨m, hm, _⟩ := next s' H4 I (by simpa using hk) rfl
        omega
      | false =>
        simp only [Bool.false_eq_true, if_false] at hk ⊢
        exact wpAny_bind (wpAny_rule (wpAny_pure (hF _ _ _ _ I hk)))
    · exact wpAny_bind (wpAny_rule (wpAny_pure (hT _ _ _ _ I q)))
  | succ n ih =>
    intro s h
    refine codeAny_builtin F.entry_all_loop ?_
    rw [Around.under_plainId F.plain_all_loop _]
    show wpAny _ A.in1 (pyNext (.ref a) >>= _) _ _ s
    refine wpAny_bind (gx_next (B := A.in1) hh hroom h (fun v s' y pn2 σ2 H4 Nx rv I cons next => ?_) fun s' σ' H' I q => ?_)
    · obtain ⟨k, rfl, hk⟩ := cons
      obtain rfl : v = .bool k := rv
      refine wpAny_bind (wpAny_holding (wpAny_truthy_bool ?_))
      refine wpAny_bind (wpAny_letGo ?_)
      cases k with
      | true =>
        obtain ⟨m, hm, st⟩ := next s' H4 I (by simpa using hk) rfl
        obtain rfl : n = m := by omega
        simp only [if_true]
        exact wpAny_pure ⟨plainId_quiet F.plain_all_loop _, ih s' st⟩
      | false =>
        simp only [Bool.false_eq_true, if_false] at hk ⊢
        exact wpAny_bind (wpAny_rule (wpAny_pure (hF _ _ _ _ I hk)))
    · exact wpAny_bind (wpAny_rule (wpAny_pure (hT _ _ _ _ I q)))
end
end Mini
end
section
namespace Mini
open PySem PySem.Spec PyProof.Rows L2 GenW GxR
variable [Tabs]
section
variable {X' : Cx} {Cons : V → Hp → (Hp → Prop) → Prop} {Qd : Hp → Prop} {B : Around} {a gn n : Nat} {nm qn : Value} {s : Shared}
variable {A : Around} {Qo : Hp → Prop} {R : Result → Shared → Prop}
end
def GxTurn (J : It) (g : TG) (tt : TT) (te : TE) (vs : List Nat) (σ : L2.St) (Cons : V → Hp → (Hp → Prop) → Prop) (Qd : Hp → Prop) (W : Nat → Nat → Hp → Prop) : Prop :=
  ∀ i m H, W i m H → (J.stop i H ∧ Qd H) ∨ (J.go i H ∧ ∃ Nx : Hp → Prop, (∀ H', Nx H' → ∃ m', m' < m ∧ W (i + 1) m' H') ∧
      ∀ x H', J.yld i H x H' → g x (wipe σ vs) H' fun σ2 H2 => wipe σ2 vs = wipe σ vs ∧ tt σ2 H2 fun b H3 => if b = true then te σ2 H3 fun y H4 => Cons y H4 Nx else Nx H3)
def tBoolG (k : Bool) (wi : TI) (g : TG) (tt : TT) (te : TE) (vs : List Nat) : TE := fun σ H Q => wi σ H fun J H1 => TabsOk H1 ∧ ∀ H3, TabbedI H1 H3 → ∃ W : Nat → Nat → Hp → Prop, (∃ m, W 0 m H3) ∧
  GxTurn J g tt te vs σ (consB k (Q (.bl (!k)))) (Q (.bl k)) W
def Near (X : Cx) (A' : Around) : Prop := A'.handled = none ∧ A'.depth = X.A.depth + 1 ∧ A'.units ≤ X.A.units + 8
section
variable {X : Cx} {elt tg iter : Expr} {ifs : List Expr} {scope : Scope} {gpos p pos : Pos} {wi : TI} {g : TG} {tt : TT} {te : TE}
structure GxOk (X : Cx) (c P : Addr) (elt tg iter : Expr) (ifs : List Expr) (scope : Scope) (own : List (Str × Nat)) (wi : TI) (g : TG) (tt : TT) (te : TE) : Prop where
  ck : CK X c P
  code : X.env.code = .ref c
  hd : X.A.handled = none
  room : X.A.depth < recursionLimit
  calm : X.calm = true
  co : scope.isCoroutine = false
  dot : scope.names.lookup (".0" : Str) = some NameKind.local
  ok : BlkOk X.N X.env.scope scope own
  nd : X.N.Nodup
  it : PI X tg iter wi
  fold : ∀ x, genFold iter X.env x = pure x
  tg : ∀ (A' : Around), Near X A' → ∀ (s : Shared) (H : Hp) (C : Addr) (code : Value) (cl : List (Str × Addr)) (fp : List Addr) (cc Q : Addr), code = .ref cc → CK (gxC X A' s H scope (gxEnv scope cl C code builtinsNs X.env) fp) cc Q → PG (gxC X A' s H scope (gxEnv scope cl C code builtinsNs X.env) fp) tg g
  ifs : ∀ (A' : Around), Near X A' → ∀ (s : Shared) (H : Hp) (C : Addr) (code : Value) (cl : List (Str × Addr)) (fp : List Addr) (cc Q : Addr), code = .ref cc → CK (gxC X A' s H scope (gxEnv scope cl C code builtinsNs X.env) fp) cc Q → PTs (gxC X A' s H scope (gxEnv scope cl C code builtinsNs X.env) fp) ifs tt
  elt : ∀ (A' : Around), Near X A' → ∀ (s : Shared) (H : Hp) (C : Addr) (code : Value) (cl : List (Str × Addr)) (fp : List Addr) (cc Q : Addr), code = .ref cc → CK (gxC X A' s H scope (gxEnv scope cl C code builtinsNs X.env) fp) cc Q → PE (gxC X A' s H scope (gxEnv scope cl C code builtinsNs X.env) fp) elt te
theorem gx_fresh {c P : Addr} {own : List (Str × Nat)} (G : GxOk X c P elt tg iter ifs scope own wi g tt te) {σ : L2.St} {J : It} {s3 s6 : Shared} {H3 : Hp} {cl : List (Str × Addr)} {C : Addr} {code : Value} {a gn : Nat} {nm qn : Value} {it : Addr} {fp : List Addr} {tn : Nat → Heap → Prop}
    {Cons : V → Hp → (Hp → Prop) → Prop} {Qd : Hp → Prop} {W : Nat → Nat → Hp → Prop} {B : Around} {m : Nat} {H6 : Hp} (T : Turn X.prog X.w X.K tg J fp it tn) (st : tn 0 s6.heap) (haf : a ∉ fp) (f6 : ∀ b ∈ fp, H6 b = none)
    (hgs : s6.gens[gn]? = some (.fresh (.compStart (.GeneratorExp elt [⟨tg, iter, ifs, 0⟩] scope gpos) 0 (.ref it) .none (gxEnv scope cl C code builtinsNs X.env))))
    (I : Inv (gxC X (B.deeper (gxEnv scope cl C code builtinsNs X.env)) s3 H3 scope (gxEnv scope cl C code builtinsNs X.env) fp) [(a, { cls := .type "generator", data := .fields #[.int gn 0, nm, qn] })] (wipe σ (own.map (·.2))) H6 s6)
    (hn : Near X (B.deeper (gxEnv scope cl C code builtinsNs X.env))) (hck : ∀ A', ∃ cc Q, code = .ref cc ∧ CK (gxC X A' s3 H3 scope (gxEnv scope cl C code builtinsNs X.env) fp) cc Q) (w : W 0 m H6) (turn : GxTurn J g tt te (own.map (·.2)) σ Cons Qd W) :
    GxSt (gxC X (B.deeper (gxEnv scope cl C code builtinsNs X.env)) s3 H3 scope (gxEnv scope cl C code builtinsNs X.env) fp) [(a, { cls := .type "generator", data := .fields #[.int gn 0, nm, qn] })] Qd Cons B gn (m + 1) s6 := by
  obtain ⟨cc, Q, hcc, hq⟩ := hck (B.deeper (gxEnv scope cl C code builtinsNs X.env))
  refine ⟨[], wipe σ (own.map (·.2)), H6, _, by rw [List.append_nil]; exact I, hgs, rfl, ?_⟩
  refine gx_begin (X' := gxC X (B.deeper (gxEnv scope cl C code builtinsNs X.env)) s3 H3 scope (gxEnv scope cl C code builtinsNs X.env) fp) rfl T st ?_
  exact gx_loop (X' := gxC X (B.deeper (gxEnv scope cl C code builtinsNs X.env)) s3 H3 scope (gxEnv scope cl C code builtinsNs X.env) fp) (vs := own.map (·.2)) (σ := σ) (W := W) (Cons := Cons) (Qd := Qd) rfl G.calm rfl rfl rfl G.co T
    (fun p hp => by rw [List.mem_singleton.mp hp]; exact haf) (G.tg _ hn _ _ _ _ _ _ cc Q hcc hq) (G.ifs _ hn _ _ _ _ _ _ cc Q hcc hq) (G.elt _ hn _ _ _ _ _ _ cc Q hcc hq) (fun i m H w => turn i m H w) (m + 1) m 0 _ _ H6 (Nat.lt_succ_self m) (Inv.regen I (allBare_setGen I.bare rfl)) st f6 w
theorem pe_allG {c P : Addr} {own : List (Str × Nat)} (G : GxOk X c P elt tg iter ifs scope own wi g tt te) (hg : Gl X "all") (hm : X.mg "all" = none) (hb : bootBuiltins "all" = some (.builtin "all"))
    (he : starEach [.GeneratorExp elt [⟨tg, iter, ifs, 0⟩] scope gpos] X.env = (false, eval (.GeneratorExp elt [⟨tg, iter, ifs, 0⟩] scope gpos) X.env) :: starEach [] X.env := by rfl) :
    PE X (.Call (.Name "all" p) [.GeneratorExp elt [⟨tg, iter, ifs, 0⟩] scope gpos] [] pos) (tBoolG true wi g tt te (own.map (·.2))) := by
  refine ⟨fun pins s σ H Q I h => ?_⟩
  refine wpAny_Call_Name_kw (ld_blt I hg hm hb ?_)
  refine PyProof.Rows.callWith_builtin1 ?_ he (by rfl)
  rw [he]
  show wpAny _ _ (spliced ((false, eval (.GeneratorExp elt [⟨tg, iter, ifs, 0⟩] scope gpos) X.env) :: backTo pos (starEach [] X.env))) _ _ s
  refine Calls.spliced_cons (gx_make G.ck G.code G.room G.co G.dot G.ok G.nd G.it G.fold I h fun J H1 u s6 hR hG => ?_)
  refine Calls.spliced_nil ?_
  obtain ⟨it, fp, tn, s3, H3, cl, C, code, a, gn, nm, qn, rfl, T, st, I3, f3, hT, haf, hck, hgs, hA⟩ := hG
  obtain ⟨W, ⟨m0, w0⟩, turn⟩ := hR H3 hT
  have I6 := hA (X.A.in1.in1.deeper (gxEnv scope cl C code builtinsNs X.env)) G.hd (Around.frames_deeper I3.ok.frames)
  have hgen : s6.heap.IsGen a gn := ⟨_, nm, qn, (I6.pin (a, _) (List.mem_append_right _ (List.mem_singleton.mpr rfl))).1, rfl, rfl, rfl⟩
  refine call_function_tree F.kind_all F.plain_all F.entry_all (F.args_all1 _) ?_
  unfold Builtin.«all»
  refine wpAny_bind (m := PySem.oneArg "all" _) (wpAny_pure ?_)
  refine wpAny_bind (wpAny_pyIter_gen hgen ?_)
  refine wpAny_pure ⟨plainId_quiet F.plain_all_loop _, ?_⟩
  exact gx_all (X' := gxC X (X.A.in1.in1.deeper (gxEnv scope cl C code builtinsNs X.env)) s3 H3 scope (gxEnv scope cl C code builtinsNs X.env) fp) (A := X.A) (Qo := Q (.bl false)) (Qd := Q (.bl true)) G.hd G.room (fun s' pn σ' H' J' q => ⟨.bl true, H', gx_back I3 f3 J', rfl, q⟩) (fun s' pn σ' H' J' q => ⟨.bl false, H', gx_back I3 f3 J', rfl, q⟩)
    (m0 + 1) s6 (gx_fresh G T st haf (fun b hb => (f3 b hb).1) hgs I6 ⟨G.hd, rfl, Nat.le_of_lt (by show X.A.units + 1 + 1 + 3 < _; omega)⟩ hck w0 turn)
end
end Mini
end
section
namespace Mini
open PySem L2
variable [Tabs]

section
variable {K : PySem.W.Frag}
theorem G.tabbed {ρ : List Addr} {H H3 : Hp} {S : Sto} (g : G K ρ H S) (t : TabbedI H H3) : Ext K ρ H ρ H3 ∧ G K ρ H3 S := by
  have same : ∀ b u, H b = some u → (∀ q, u ≠ .tbl q) → H3 b = some u := t.2
  have x : Ext K ρ H ρ H3 := ⟨List.prefix_refl _, fun a xs h => by
    rcases h with (h | ⟨u, h⟩) | h
    · exact .inl (.inl (same _ _ h fun q z => by cases z))
    · exact .inl (.inr ⟨u, same _ _ h fun q z => by cases z⟩)
    · exact .inr h, fun a φ h => same _ _ h fun q z => by cases z⟩
  refine ⟨x, g.len, g.nd, fun i a o k1 k2 => ?_, t.1⟩
  cases hm : o.mut with
  | true =>
    obtain ⟨u, e, r⟩ := (RepO.mut_iff hm).mp (g.ob i a o k1 k2)
    have c := r.chg
    exact (RepO.mut_iff hm).mpr ⟨u, same a u e fun q z => by rw [z] at c; exact c, r.mono x⟩
  | false =>
    cases o with
    | lst _ => cases hm
    | dct _ => cases hm
    | frz ds =>
      obtain ⟨vs, e, r⟩ := g.ob i a _ k1 k2
      refine ⟨vs, ?_, r.mono x⟩
      rcases e with ⟨u, e⟩ | e
      · exact .inl ⟨u, same _ _ e fun q z => by cases z⟩
      · exact .inr e

def qOne (g : XG) (c : XB) (a : XE) (d : D) (e : EnvD) (S : Sto) : Option (Option Bool × Sto) := match g d e with
  | none => none
  | some e1 => match c e1 S with
    | none => none
    | some (false, S1) => some (none, S1)
    | some (true, S1) => match a e1 S1 with
      | some (.bl b, S2) => some (some b, S2)
      | _ => none
def qL (k : Bool) (g : XG) (c : XB) (a : XE) : List D → EnvD → Sto → Option (Bool × Sto)
  | [], _, S => some (k, S)
  | d :: ds, e, S => match qOne g c a d e S with
    | none => none
    | some (none, S1) => qL k g c a ds e S1
    | some (some b, S1) => if b = k then qL k g c a ds e S1 else some (!k, S1)
def qV (k : Bool) (l : Nat) (g : XG) (c : XB) (a : XE) : Nat → Nat → EnvD → Sto → Option (Bool × Sto)
  | 0, _, _, _ => none
  | t + 1, i, e, S => match lstAt S l with
    | none => none
    | some ds => match ds[i]? with
      | none => some (k, S)
      | some d => match qOne g c a d e S with
        | none => none
        | some (none, S1) => qV k l g c a t (i + 1) e S1
        | some (some b, S1) => if b = k then qV k l g c a t (i + 1) e S1 else some (!k, S1)
def xQ (k : Bool) (w : XW) (vs : List Nat) (g : XG) (c : XB) (a : XE) : XE := fun e S => match w e S with
  | none => none
  | some (.fix ds, S1) => match qL k g c a ds (wipeD e vs) S1 with
    | none => none
    | some (b, S2) => some (.bl b, S2)
  | some (.live l, S1) => match qV k l g c a turns 0 (wipeD e vs) S1 with
    | none => none
    | some (b, S2) => some (.bl b, S2)
theorem q_turn {ρ : List Addr} {H : Hp} {e : EnvD} {σ : L2.St} {S S1 : Sto} {d : D} {x : V} {g : XG} {c : XB} {a : XE} {vs : List Nat} {Nx Qo : Hp → Prop} {k : Bool} {r : Option Bool}
    (re : RE K ρ H (wipeD e vs) (L2.wipe σ vs)) (gg : G K ρ H S) (rx : Rep K ρ H d x) (h : qOne g c a d (wipeD e vs) S = some (r, S1))
    (on : (∀ b, r = some b → b = k) → ∀ ρ' H', Ext K ρ H ρ' H' → G K ρ' H' S1 → Nx H') (out : r = some (!k) → ∀ ρ' H', Ext K ρ H ρ' H' → G K ρ' H' S1 → Qo H') :
    rGw K vs g x (L2.wipe σ vs) H fun σ2 H2 => L2.wipe σ2 vs = L2.wipe σ vs ∧ rB K c σ2 H2 fun b H3 => if b = true then rE K a σ2 H3 fun y H4 => consB k Qo y H4 Nx else Nx H3 := by
  unfold qOne at h
  split at h
  · cases h
  rename_i e1 eg
  refine ⟨ρ, wipeD e vs, d, e1, re, rx, eg, fun σ1 re1 hw => ⟨hw.trans (wipe_wipe σ vs), ?_⟩⟩
  split at h
  · cases h
  · rename_i S2 ec
    cases h
    refine ⟨ρ, e1, S, false, _, re1, gg, ec, fun ρ1 H1 x1 g1 => ?_⟩
    refine iteF ?_
    exact on (fun b z => by cases z) ρ1 H1 x1 g1
  · rename_i S2 ec
    refine ⟨ρ, e1, S, true, _, re1, gg, ec, fun ρ1 H1 x1 g1 => ?_⟩
    refine iteT ?_
    split at h
    · rename_i b S3 ea
      cases h
      refine ⟨ρ1, e1, S2, .bl b, _, re1.mono x1, g1, ea, fun ρ2 H2 v x2 g2 hv => ?_⟩
      cases hv
      refine ⟨b, rfl, ?_⟩
      by_cases hb : b = k
      · rw [if_pos hb]
        exact on (fun b' z => by cases z; exact hb) ρ2 H2 (x1.trans x2) g2
      · rw [if_neg hb]
        exact out (by congr 1; cases b <;> cases k <;> simp_all) ρ2 H2 (x1.trans x2) g2
    · cases h
theorem q_fix {J : It} {ds : List D} {ρ0 : List Addr} {H0 : Hp} {g : XG} {c : XB} {a : XE} {σ : L2.St} {e : EnvD} {S S2 : Sto} {vs : List Nat} {k rb : Bool} {Q : VK} (re : RE K ρ0 H0 e σ) (gg : G K ρ0 H0 S)
    (w : WalkOk K ρ0 H0 J (.fix ds)) (h : qL k g c a ds (wipeD e vs) S = some (rb, S2)) (kk : ∀ ρ' H', Ext K ρ0 H0 ρ' H' → G K ρ' H' S2 → Q (.bl rb) H') :
    ∃ W : Nat → Nat → Hp → Prop, (∃ m, W 0 m H0) ∧ GxTurn J (rGw K vs g) (rB K c) (rE K a) vs σ (consB k (Q (.bl (!k)))) (Q (.bl k)) W := by
  refine ⟨fun i m H => m = ds.length - i ∧ i ≤ ds.length ∧ ∃ ρ S, Ext K ρ0 H0 ρ H ∧ G K ρ H S ∧ qL k g c a (ds.drop i) (wipeD e vs) S = some (rb, S2), ⟨_, rfl, Nat.zero_le _, ρ0, S, .refl, gg, h⟩, ?_⟩
  rintro i m H ⟨rfl, hi, ρ, S, x0, gg, h⟩
  by_cases hlt : i < ds.length
  · obtain ⟨q1, q2⟩ := w.2 i ds[i] (List.getElem?_eq_getElem hlt) ρ H x0
    rw [List.drop_eq_getElem_cons hlt] at h
    have h' : (match qOne g c a ds[i] (wipeD e vs) S with
      | none => none
      | some (none, S1) => qL k g c a (ds.drop (i + 1)) (wipeD e vs) S1
      | some (some b, S1) => if b = k then qL k g c a (ds.drop (i + 1)) (wipeD e vs) S1 else some (!k, S1)) = some (rb, S2) := h
    cases e1 : qOne g c a ds[i] (wipeD e vs) S with
    | none => rw [e1] at h'; cases h'
    | some rs =>
      obtain ⟨r, S1⟩ := rs
      rw [e1] at h'
      refine .inr ⟨q1, fun H => ∃ ρ S, Ext K ρ0 H0 ρ H ∧ G K ρ H S ∧ qL k g c a (ds.drop (i + 1)) (wipeD e vs) S = some (rb, S2), fun H' q => ⟨ds.length - (i + 1), by omega, rfl, hlt, q⟩, fun x H' y => ?_⟩
      obtain ⟨x1, g1, rx⟩ := q2 x H' y S gg
      have x2 := x0.trans x1
      refine q_turn ((re.mono x2).wipe vs) g1 rx e1 (fun hr ρ' H' x3 g3 => ⟨ρ', S1, x2.trans x3, g3, ?_⟩) fun hr ρ' H' x3 g3 => ?_
      · cases r with
        | none => exact h'
        | some b =>
          have hb := hr b rfl
          subst hb
          simpa using h'
      · subst hr
        have h2 : (if (!k) = k then qL k g c a (ds.drop (i + 1)) (wipeD e vs) S1 else some (!k, S1)) = some (rb, S2) := h'
        rw [if_neg (by cases k <;> simp)] at h2
        cases h2
        exact kk ρ' H' (x2.trans x3) g3
  · have ei : i = ds.length := by omega
    subst ei
    rw [List.drop_length] at h
    cases h
    exact .inl ⟨w.1 ρ H x0, kk ρ H x0 gg⟩
theorem q_live {l : Nat} {b : Addr} {ρ0 : List Addr} {H0 : Hp} {g : XG} {c : XB} {a : XE} {σ : L2.St} {e : EnvD} {S S2 : Sto} {vs : List Nat} {k rb : Bool} {Q : VK} (t : Nat) (re : RE K ρ0 H0 e σ) (gg : G K ρ0 H0 S) (hl : ρ0[l]? = some b)
    (h : qV k l g c a t 0 (wipeD e vs) S = some (rb, S2)) (kk : ∀ ρ' H', Ext K ρ0 H0 ρ' H' → G K ρ' H' S2 → Q (.bl rb) H') :
    ∃ W : Nat → Nat → Hp → Prop, (∃ m, W 0 m H0) ∧ GxTurn (Itl K b) (rGw K vs g) (rB K c) (rE K a) vs σ (consB k (Q (.bl (!k)))) (Q (.bl k)) W := by
  refine ⟨fun i m H => ∃ ρ S, Ext K ρ0 H0 ρ H ∧ G K ρ H S ∧ qV k l g c a m i (wipeD e vs) S = some (rb, S2), ⟨_, ρ0, S, .refl, gg, h⟩, ?_⟩
  rintro i m H ⟨ρ, S, x0, gg, h⟩
  cases m with
  | zero => cases h
  | succ m =>
    have h' : (match lstAt S l with
      | none => none
      | some ds => match ds[i]? with
        | none => some (k, S)
        | some d => match qOne g c a d (wipeD e vs) S with
          | none => none
          | some (none, S1) => qV k l g c a m (i + 1) (wipeD e vs) S1
          | some (some b, S1) => if b = k then qV k l g c a m (i + 1) (wipeD e vs) S1 else some (!k, S1)) = some (rb, S2) := h
    split at h'
    · cases h'
    rename_i ds el
    obtain ⟨vs', hs, hr⟩ := gg.lst (pre_get x0.pre hl) el
    split at h'
    · rename_i ed
      cases h'
      exact .inl ⟨⟨vs', hs, by rw [← hr.length]; exact List.getElem?_eq_none_iff.mp ed⟩, kk ρ H x0 gg⟩
    rename_i d ed
    obtain ⟨v, hv, rv⟩ := hr.get ed
    cases e1 : qOne g c a d (wipeD e vs) S with
    | none => rw [e1] at h'; cases h'
    | some rs =>
      obtain ⟨r, S1⟩ := rs
      rw [e1] at h'
      refine .inr ⟨⟨vs', v, hs, hv⟩, fun H => ∃ ρ S, Ext K ρ0 H0 ρ H ∧ G K ρ H S ∧ qV k l g c a m (i + 1) (wipeD e vs) S = some (rb, S2), fun H' q => ⟨m, Nat.lt_succ_self m, q⟩, fun x H' y => ?_⟩
      obtain ⟨rfl, y2⟩ := y
      have ex := y2 vs' hs
      rw [hv] at ex
      cases ex
      refine q_turn ((re.mono x0).wipe vs) gg rv e1 (fun hr ρ' H' x3 g3 => ⟨ρ', S1, x0.trans x3, g3, ?_⟩) fun hr ρ' H' x3 g3 => ?_
      · cases r with
        | none => exact h'
        | some b =>
          have hb := hr b rfl
          subst hb
          simpa using h'
      · subst hr
        have h2 : (if (!k) = k then qV k l g c a m (i + 1) (wipeD e vs) S1 else some (!k, S1)) = some (rb, S2) := h'
        rw [if_neg (by cases k <;> simp)] at h2
        cases h2
        exact kk ρ' H' (x0.trans x3) g3
theorem q_of {w : XW} {vs : List Nat} {g : XG} {c : XB} {a : XE} {k : Bool} : ∀ σ H Q, rE K (xQ k w vs g c a) σ H Q → tBoolG k (rW K w) (rGw K vs g) (rB K c) (rE K a) vs σ H Q := by
  intro σ H Q ⟨ρ, e, S, d, S', re, gg, h, kk⟩
  unfold xQ at h
  split at h
  · cases h
  · rename_i ds S1 ew
    split at h
    · cases h
    rename_i b S2 el
    cases h
    refine ⟨ρ, e, S, .fix ds, S1, re, gg, ew, fun ρ1 H1 J x1 g1 wk => ⟨g1.tab, fun H3 hT => ?_⟩⟩
    obtain ⟨x2, g2⟩ := g1.tabbed hT
    have wk2 : WalkOk K ρ1 H3 J (.fix ds) := ⟨fun ρ' H' x => wk.1 ρ' H' (x2.trans x), fun i d hd ρ' H' x => wk.2 i d hd ρ' H' (x2.trans x)⟩
    exact q_fix (re.mono (x1.trans x2)) g2 wk2 el fun ρ' H' x3 g3 => kk ρ' H' _ ((x1.trans x2).trans x3) g3 (.bl _)
  · rename_i l S1 ew
    split at h
    · cases h
    rename_i b S2 el
    cases h
    refine ⟨ρ, e, S, .live l, S1, re, gg, ew, fun ρ1 H1 J x1 g1 wk => ⟨g1.tab, fun H3 hT => ?_⟩⟩
    obtain ⟨b', hb, rfl⟩ := wk
    obtain ⟨x2, g2⟩ := g1.tabbed hT
    exact q_live turns (re.mono (x1.trans x2)) g2 (pre_get x2.pre hb) el fun ρ' H' x3 g3 => kk ρ' H' _ ((x1.trans x2).trans x3) g3 (.bl _)
end
section
variable {X : Cx} {elt tg iter : Expr} {ifs : List Expr} {scope : Scope} {gpos p pos : Pos} {w : XW} {g : XG} {c : XB} {a : XE}
theorem gx_ok {cc P : Addr} {n j cn : Nat} (own : List (Str × Nat)) (vs : List Nat) (sc : Scope) {N : List Str} (ck : CK X cc P) (hcode : X.env.code = .ref cc) (hr : Rs cn n (j + 1) X.A) (hc : X.calm = true) (hco : scope.isCoroutine = false) (h0 : scope.names.lookup (".0" : Str) = some NameKind.local) (hN : X.N.Nodup) (eN : X.N = N) (esc : X.env.scope = sc)
    (hok : blkC N sc scope own = true) (hv : own.map (·.2) = vs) (hi : PI X tg iter (rW X.K w)) (hs : ∀ x, genFold iter X.env x = pure x)
    (hg : ∀ (A' : Around), Rs cn n j A' → ∀ (s : Shared) (H : Hp) (C : Addr) (code : Value) (cl : List (Str × Addr)) (fp : List Addr) (c' Q : Addr), code = .ref c' → CK (gxC X A' s H scope (gxEnv scope cl C code builtinsNs X.env) fp) c' Q → PG (gxC X A' s H scope (gxEnv scope cl C code builtinsNs X.env) fp) tg (rGw X.K vs g))
    (ht : ∀ (A' : Around), Rs cn n j A' → ∀ (s : Shared) (H : Hp) (C : Addr) (code : Value) (cl : List (Str × Addr)) (fp : List Addr) (c' Q : Addr), code = .ref c' → CK (gxC X A' s H scope (gxEnv scope cl C code builtinsNs X.env) fp) c' Q → PTs (gxC X A' s H scope (gxEnv scope cl C code builtinsNs X.env) fp) ifs (rB X.K c))
    (he : ∀ (A' : Around), Rs cn n j A' → ∀ (s : Shared) (H : Hp) (C : Addr) (code : Value) (cl : List (Str × Addr)) (fp : List Addr) (c' Q : Addr), code = .ref c' → CK (gxC X A' s H scope (gxEnv scope cl C code builtinsNs X.env) fp) c' Q → PE (gxC X A' s H scope (gxEnv scope cl C code builtinsNs X.env) fp) elt (rE X.K a)) :
    GxOk X cc P elt tg iter ifs scope own (rW X.K w) (rGw X.K vs g) (rB X.K c) (rE X.K a) := by
  subst eN esc
  exact ⟨ck, hcode, hr.hd, hr.dp0, hc, hco, h0, blkOk_by hok, hN, hi, hs, fun A' h => hg A' (hr.near h), fun A' h => ht A' (hr.near h), fun A' h => he A' (hr.near h)⟩
theorem r_all {cc P : Addr} {own : List (Str × Nat)} {vs : List Nat} (hv : own.map (·.2) = vs) (hgl : Gl X "all") (hm : X.mg "all" = none) (hb : bootBuiltins "all" = some (.builtin "all"))
    (G : GxOk X cc P elt tg iter ifs scope own (rW X.K w) (rGw X.K vs g) (rB X.K c) (rE X.K a))
    (he : starEach [.GeneratorExp elt [⟨tg, iter, ifs, 0⟩] scope gpos] X.env = (false, eval (.GeneratorExp elt [⟨tg, iter, ifs, 0⟩] scope gpos) X.env) :: starEach [] X.env := by rfl) :
    PE X (.Call (.Name "all" p) [.GeneratorExp elt [⟨tg, iter, ifs, 0⟩] scope gpos] [] pos) (rE X.K (xQ true w vs g c a)) := by
  subst hv
  exact PE.imp (pe_allG G hgl hm hb he) q_of
end
end Mini
end
section
namespace Mini
open PySem L2
variable [Tabs]
section
variable {X : Cx} {elt tg iter : Expr} {ifs : List Expr} {scope : Scope} {gpos p pos : Pos} {w : XW} {g : XG} {c : XB} {a : XE}
end
def wAny (m : XE) : XW := fun e S => match m e S with
  | some (.tup ds, S1) => some (.fix ds, S1)
  | some (.loc n, S1) => match lstAt S1 n with
    | some _ => some (.live n, S1)
    | none => none
  | _ => none
theorem rw_any {X : Cx} {tg l : Expr} {m : XE} (hl : PE X l (rE X.K m)) : PI X tg l (rW X.K (wAny m)) := by
  refine ⟨fun pins s σ H R I ⟨ρ, e, S, wk, S', re, g, h, k⟩ => ?_⟩
  have h0 := h
  unfold wAny at h
  split at h
  · rename_i ds S1 em
    exact (rw_tup (tg := tg) hl).run pins s σ H R I ⟨ρ, e, S, wk, S', re, g, by unfold wTup; rw [em]; exact h, k⟩
  · rename_i n S1 em
    exact (rw_lst (tg := tg) hl).run pins s σ H R I ⟨ρ, e, S, wk, S', re, g, by unfold wLst; rw [em]; exact h, k⟩
  · cases h
end Mini
end
section
namespace Mini
open PySem PySem.Spec PyProof.Rows L2 GxR He

def noTab (K : PySem.W.Frag) : PySem.W.Frag := K.filter fun q => match K.lookup q.1 with
  | some o => !emptyTab o
  | none => true
theorem lookup_filter {α β : Type} [BEq α] [LawfulBEq α] (p : α → Bool) (a : α) : ∀ l : List (α × β), (l.filter fun q => p q.1).lookup a = if p a = true then l.lookup a else none
  | [] => by simp
  | (b, u) :: r => by
    have ih := lookup_filter p a r
    by_cases e : a = b
    · subst e
      by_cases hp : p a = true
      · rw [List.filter_cons_of_pos (by simpa using hp)]
        simp [hp]
      · rw [List.filter_cons_of_neg (by simpa using hp), ih]
        simp [hp]
    · have e2 : (a == b) = false := by simpa using e
      by_cases hp : p b = true
      · rw [List.filter_cons_of_pos (by simpa using hp)]
        simp only [List.lookup_cons, e2]
        exact ih
      · rw [List.filter_cons_of_neg (by simpa using hp)]
        simp only [List.lookup_cons, e2]
        exact ih
theorem noTab_look (K : PySem.W.Frag) (a : Addr) : (noTab K).lookup a = match K.lookup a with
    | some o => if emptyTab o = true then none else some o
    | none => none := by
  unfold noTab
  have q := lookup_filter (fun b => match K.lookup b with | some o => !emptyTab o | none => true) a K
  refine Eq.trans q ?_
  cases e : K.lookup a with
  | none => simp
  | some o => cases h : emptyTab o <;> simp [h]
theorem noTab_in {K : PySem.W.Frag} {h : Heap} (X : K.In h) : (noTab K).In h := fun a o e => by
  rw [noTab_look] at e
  cases q : K.lookup a with
  | none => rw [q] at e; cases e
  | some o' =>
    rw [q] at e
    have e' : (if emptyTab o' = true then none else some o') = some o := e
    split at e'
    · cases e'
    · cases e'
      exact X a _ q
theorem noTab_none {K : PySem.W.Frag} {h : Heap} (X : K.In h) {P : Addr} (e : h.get? P = some { cls := .none, data := .fields #[] }) : (noTab K).lookup P = none := by
  rw [noTab_look]
  cases q : K.lookup P with
  | none => rfl
  | some o =>
    have := X P o q
    rw [e] at this
    cases this
    rfl
theorem emptyTab_func {oc : Value} {od : Option Addr} {fd : FuncData} {sl : Array (Option Value)} : emptyTab ⟨oc, od, .func fd, sl⟩ = false := by
  cases oc <;> cases od <;> rfl
theorem noTab_func {K : PySem.W.Frag} {a : Addr} {oc : Value} {od : Option Addr} {fd : FuncData} {sl : Array (Option Value)} (e : K.lookup a = some ⟨oc, od, .func fd, sl⟩) : (noTab K).lookup a = some ⟨oc, od, .func fd, sl⟩ := by
  rw [noTab_look, e]
  show (if emptyTab _ = true then none else _) = _
  rw [emptyTab_func]
  rfl
theorem noTab_keep {K : PySem.W.Frag} {a : Addr} {oc : Value} {od : Option Addr} {fd : FuncData} {sl : Array (Option Value)} (e : K.lookup a = some ⟨oc, od, .func fd, sl⟩) : PySem.W.keepIn (noTab K) (.ref a) = true := by
  simp only [PySem.W.keepIn, noTab_func e]
theorem noTab_code {K : PySem.W.Frag} {cd : Value} {q : Str} (e : PySem.W.codeIn K cd q = true) : PySem.W.codeIn (noTab K) cd q = true := by
  unfold PySem.W.codeIn at e ⊢
  split at e
  · rename_i c
    split at e
    · rename_i oc od vs sl ho
      have z : emptyTab ⟨oc, od, .fields vs, sl⟩ = false := by
        cases h : emptyTab ⟨oc, od, .fields vs, sl⟩ with
        | false => rfl
        | true =>
          have := emptyTab_eq h
          cases this
          simp at e
      have q : (noTab K).lookup c = some ⟨oc, od, .fields vs, sl⟩ := by
        rw [noTab_look, ho]
        show (if emptyTab _ = true then none else _) = _
        rw [z]
        rfl
      simp only [q]
      exact e
    · cases e
  · cases e
@[reducible] def tabsOf (cs : List (Addr × Addr)) : Tabs := ⟨fun P => P ∈ cs.map (·.2)⟩
theorem walk_tab {l : PySem.W.OpenLaw} {k : Nat} {q : Program} {loose : List Str} {XP : (Str → Option Value) → Heap → Prop} {YP : World → Heap → Prop} {d : DefRec} {K : Params → PySem.W.Frag} {x : Str} (names : List Str)
    (hn : l.most = some 63) (hdf : d.params.defaults = []) (hr : Room k callerA) (hrec : (names.all fun y => (recsOf q).any fun e => e.name == y) = true) (hY : ∀ (w : World) (h : Heap), YP w h → (K w.params).In h)
    (F : ∀ (w : World) (mg : Str → Option Value) (fa : Addr) (h : Heap), (K w.params).In h → h.Ns mainGlobals mg → mg d.name = some (.ref fa) →
      ∃ fd : FuncData, (∀ (s : Shared) (u : Value), BindsTo s fd ⟨[u], []⟩ [(x, u)]) ∧
        ∀ cs : List (Addr × Addr), (∀ y ∈ names, ∀ (f : Addr) (oc : Value) (od : Option Addr) (fd' : FuncData) (sl : Array (Option Value)), mg y = some (.ref f) → (noTab (K w.params)).lookup f = some ⟨oc, od, .func fd', sl⟩ → ∃ p ∈ cs, fd'.code = .ref p.1) →
          ∀ base : Heap, (noTab (K w.params)).In base → base.Ns mainGlobals mg → (∀ p ∈ cs, TabB base mg p.1 p.2) → FnOk l.prog w (noTab (K w.params)) mg base CX0 k fa fd [x] (@spLaw (tabsOf cs) (noTab (K w.params)) 63)) :
    PySem.W.WalkO q loose XP YP l.row.toRowW d [] (fun f vs => PySem.call f vs) := by
  refine Att.attach_callB hn hdf fun w s₀ s₁ mg mb fa o pm cd doc a vs ns G Y ho hd hcd hmg hobj hints hlen hbits hg => ?_
  have KX := hY w _ Y
  obtain ⟨fd, hb, hF⟩ := F w mg fa _ KX G.T.g hmg
  have tabs : ∀ ys : List Str, (∀ y ∈ ys, y ∈ names) → ∃ cs : List (Addr × Addr), (∀ p ∈ cs, s₁.heap.get? p.2 = some { cls := .none, data := .fields #[] }) ∧ (∀ p ∈ cs, PySem.W.CodeHd s₁.heap p.1 p.2) ∧
      ∀ y ∈ ys, ∃ (f : Addr) (o : Obj) (fd' : FuncData), mg y = some (.ref f) ∧ s₁.heap.get? f = some o ∧ o.data = .func fd' ∧ ∃ p ∈ cs, fd'.code = .ref p.1 := by
    intro ys
    induction ys with
    | nil => intro _; exact ⟨[], by simp, by simp, by simp⟩
    | cons y ys ih =>
      intro hin
      obtain ⟨cs, c1, c2, c3⟩ := ih fun z hz => hin z (List.mem_cons_of_mem _ hz)
      obtain ⟨dL, hm, hn1⟩ := List.any_eq_true.mp (List.all_eq_true.mp hrec y (hin y List.mem_cons_self))
      have hn2 : dL.name = y := beq_iff_eq.mp hn1
      obtain ⟨a', o', fd', c', P', h1, h2, h3, h4, h5, h6⟩ := G.T.tab dL hm
      rw [hn2] at h1
      refine ⟨(c', P') :: cs, fun p hp => ?_, fun p hp => ?_, fun z hz => ?_⟩
      · rcases List.mem_cons.mp hp with rfl | hp
        · exact h6.2
        · exact c1 p hp
      · rcases List.mem_cons.mp hp with rfl | hp
        · exact PySem.W.CodeHd.of h5 h6
        · exact c2 p hp
      · rcases List.mem_cons.mp hz with rfl | hz
        · exact ⟨a', o', fd', h1, h2, h3, (c', P'), List.mem_cons_self, h4⟩
        · obtain ⟨f, o1, fd1, e1, e2, e3, p, hp, e4⟩ := c3 z hz
          exact ⟨f, o1, fd1, e1, e2, e3, p, List.mem_cons_of_mem _ hp, e4⟩
  obtain ⟨cs, c1, c2, c3⟩ := tabs names fun _ h => h
  refine LamX.law_callTs (cs := cs) (sp := @spLaw (tabsOf cs) (noTab (K w.params)) 63) (noTab_in KX) G.T.g G.T.b G.T.builtins G.T.nolimit hg c1 (fun p hp => noTab_none KX (c1 p hp)) c2 G.T.bmain hobj hints (Nat.le_trans hlen (by decide)) hr
    (fun base hk hgl hTB => hF cs (fun y hy f oc od fd' sl hmy hlk => ?_) base hk hgl fun p hp => ⟨(hTB p hp).code, (hTB p hp).bm, (hTB p hp).gP⟩) hb (fun H hH hS => ⟨a, ns, rfl, hS, fun P hP => ?_, hlen, fun _ => rfl⟩) fun H e s' z => z
  · obtain ⟨f1, o1, fd1, e1, e2, e3, p, hp, e4⟩ := c3 y hy
    rw [hmy] at e1
    cases e1
    have := noTab_in KX _ _ hlk
    rw [e2] at this
    cases this
    cases e3
    exact ⟨p, hp, e4⟩
  · obtain ⟨p, hp, e⟩ := List.mem_map.mp hP
    rw [← e]
    exact @TabI.nil (tabsOf cs) _ _ (hH p hp)
end Mini
end
section
namespace Mini
open PySem PySem.Spec PyProof.Rows L2
def memKey (j : Key) : (l : List Key) → Decidable (j ∈ l)
  | [] => .isFalse (by simp)
  | k :: l => match decEq j k, memKey j l with
    | .isTrue h, _ => .isTrue (h ▸ List.mem_cons_self)
    | .isFalse _, .isTrue h => .isTrue (List.mem_cons_of_mem _ h)
    | .isFalse a, .isFalse b => .isFalse (fun h => (List.mem_cons.mp h).elim a b)
instance memKeyI (j : Key) (l : List Key) : Decidable (j ∈ l) := memKey j l
def kOf (v : Value) : Key := match v with
  | .int k _ => .inl k
  | .str x _ => .inr x
  | _ => .inl 0
def keyX (e : Int × Value) : Key := kOf e.2
def GoodX (w : World) (e : Int × Value) : Prop := ∃ k, keyIs k e.2 = true ∧ e.1 = keyH w k
def SetX (w : World) (h : Heap) (a : Addr) (S : Key → Bool) (n : Nat) : Prop :=
  ∃ o es ep t, h.get? a = some o ∧ o.ExactSet ∧ o.data = .set es ep t ∧ (∀ e ∈ es.toList, GoodX w e) ∧ (es.toList.map keyX).Nodup ∧ (∀ k, S k = true ↔ k ∈ es.toList.map keyX) ∧
    es.size < scanBound ∧ t.fits es.size = true ∧ es.size = n ∧ Ris t.place.toList ∧ (w.params.followText "set-order" = true ∨ t.led = true)
inductive KeysAre : List Value → List Key → Prop
  | nil : KeysAre [] []
  | cons {v : Value} {k : Key} {vs : List Value} {ks : List Key} : keyIs k v = true → KeysAre vs ks → KeysAre (v :: vs) (k :: ks)
theorem KeysAre.length : ∀ {vs : List Value} {ks : List Key}, KeysAre vs ks → vs.length = ks.length
  | _, _, .nil => rfl
  | _, _, .cons _ r => congrArg (· + 1) r.length
theorem KeysAre.get : ∀ {vs : List Value} {ks : List Key} {i : Nat} {v : Value}, KeysAre vs ks → vs[i]? = some v → ∃ k, ks[i]? = some k ∧ keyIs k v = true
  | _, _, _, _, .nil, e => by simp at e
  | _, _, 0, _, .cons h _, e => by simp at e; subst e; exact ⟨_, rfl, h⟩
  | _, _, i + 1, v, .cons _ r, e => by
    obtain ⟨k, h1, h2⟩ := r.get (i := i) (v := v) (by simpa using e)
    exact ⟨k, by simpa using h1, h2⟩
section
variable {P : Program} {w : World} {h h' : Heap} {a : Addr} {S : Key → Bool} {n : Nat}
theorem SetX.at (R : SetX w h a S n) (k : ∀ o, h.get? a = some o → h'.get? a = some o) : SetX w h' a S n := by
  obtain ⟨o, es, ep, t, ho, r⟩ := R
  exact ⟨o, es, ep, t, k o ho, r⟩
theorem SetX.congr {S' : Key → Bool} (R : SetX w h a S n) (e : ∀ k, S' k = S k) : SetX w h a S' n := by
  have q : S' = S := funext e
  rw [q]; exact R
end
section
variable {P : Program} {w : World} {A : Around} {E : Value → Shared → Prop} {s : Shared} {a : Addr} {n : Nat}
set_option maxRecDepth 100000 in
set_option maxHeartbeats 3200000 in
end
end Mini
end
section
namespace Mini
open PySem PySem.Spec PyProof.Rows L2
variable [Tabs]
def insU {α : Type} [DecidableEq α] (lt : α → α → Bool) (i : α) : List α → List α
  | [] => [i]
  | j :: r => if lt i j = true then i :: j :: r else if i = j then j :: r else j :: insU lt i r
def sortU {α : Type} [DecidableEq α] (lt : α → α → Bool) : List α → List α
  | [] => []
  | i :: r => insU lt i (sortU lt r)
section
variable {α : Type} [DecidableEq α] {lt : α → α → Bool}
variable (tr : ∀ a b c, lt a b = true → lt b c = true → lt a c = true) (tot : ∀ a b, lt a b = false → a ≠ b → lt b a = true)
include tr tot
end
def ltS (a b : Str) : Bool := decide (a.cps.toList < b.cps.toList)
def usS : List Str → List Str := sortU ltS
theorem ltS_irr (a : Str) : ¬ ltS a a = true := by
  simp only [ltS, decide_eq_true_eq]
  exact List.lt_irrefl _
end Mini
end
section
namespace Mini
open PySem PySem.Spec PyProof.Rows L2 GxR He
mutual
/-- the value is the datum, by what the module holds -/
inductive CV (K : PySem.W.Frag) : Value → D → Prop
  | non : CV K .none .non
  | bl (b : Bool) : CV K (.bool b) (.bl b)
  | int (i : Int) (t : Tok) : CV K (.int i t) (.int i)
  | str (x : Str) (t : Tok) : CV K (.str x t) (.str x)
  | tup {a : Addr} {od : Option Addr} {its : Array Value} {n : Nat} {sl : Array (Option Value)} {ds : List D} : K.lookup a = some ⟨.type "tuple", od, .seq its n, sl⟩ → its.size ≤ sizeLine → CVs K its.toList ds → CV K (.ref a) (.tup ds)
inductive CVs (K : PySem.W.Frag) : List Value → List D → Prop
  | nil : CVs K [] []
  | cons {v : Value} {d : D} {vs : List Value} {ds : List D} : CV K v d → CVs K vs ds → CVs K (v :: vs) (d :: ds)
end
variable [Tabs]
end Mini
end
section
namespace Mini
open PySem PySem.Spec PyProof.Rows L2
variable [Tabs]
section
variable {K : PySem.W.Frag}
def fPlus (x y : D) (S : Sto) : Option (D × Sto) := match x, y with
  | .int i, .int j => some (.int (i + j), S)
  | .str i, .str j => if i.length + j.length ≤ 1000000 then some (.str (i ++ j), S) else none
  | .tup xs, .tup ys => if xs.length + ys.length ≤ 1000000 then some (.tup (xs ++ ys), S) else none
  | .loc n, .loc m => match S[n]?, S[m]? with
    | some (.lst xs), some (.lst ys) => if xs.length + ys.length ≤ 1000000 then some (.loc S.length, S ++ [.lst (xs ++ ys)]) else none
    | _, _ => none
  | _, _ => none
def rPlus (K : PySem.W.Frag) : R2 := fun x y H Q => (rI0 fun i j => .int (i + j)) x y H Q ∨ (∃ i j, x = .str i ∧ y = .str j ∧ i.length + j.length ≤ sizeLine ∧ Q (.str (i ++ j)) H) ∨ rCatA K x y H Q ∨ rCat x y H Q
theorem orp_plus {X : Cx} : OpR X (binaryOp .Add) (rPlus X.K) := OpR.or op_add (OpR.or op_add_str (OpR.or op_catA op_cat))
theorem mil {n : Nat} (h : n ≤ 1000000) : n ≤ sizeLine := Nat.le_trans h (by decide)
theorem om_plus : OpM K fPlus (rPlus K) := by
  intro ρ H S x y d S' vx vy Q g hx hy e k
  unfold fPlus at e
  split at e
  · cases e
    cases hx; cases hy
    exact .inl ⟨_, _, rfl, rfl, k ρ H _ .refl g (.int _)⟩
  · split at e
    · rename_i hl
      cases e
      cases hx; cases hy
      exact .inr (.inl ⟨_, _, rfl, rfl, mil hl, k ρ H _ .refl g (.str _)⟩)
    · cases e
  · rename_i xs ys
    split at e
    · rename_i hl
      cases e
      cases hx with
      | tup h1 r1 =>
        cases hy with
        | tup h2 r2 =>
          rename_i a vs b ws
          refine .inr (.inr (.inl ⟨a, b, vs, ws, rfl, rfl, h1, h2, by rw [← r1.length, ← r2.length]; exact mil hl, fun z => ?_, fun z1 z2 => ?_, fun z1 z2 p hp => ?_⟩))
          · subst z
            cases r1
            exact k ρ H _ .refl g (.tup h2 r2)
          · subst z2
            cases r2
            exact k ρ H _ .refl g (by rw [List.append_nil]; exact .tup h1 r1)
          · obtain ⟨x2, g2, r3⟩ := tup_new g (r1.append r2) hp
            exact k ρ _ _ x2 g2 r3
    · cases e
  · rename_i n m
    split at e
    · rename_i xs ys e1 e2
      split at e
      · rename_i hl
        cases e
        cases hx with
        | loc hn =>
          cases hy with
          | loc hm =>
            rename_i a b
            obtain ⟨u1, hu1, ru1⟩ := (RepO.mut_iff rfl).mp (g.ob n a _ hn e1)
            obtain ⟨u2, hu2, ru2⟩ := (RepO.mut_iff rfl).mp (g.ob m b _ hm e2)
            cases u1 with
            | lst v1 =>
              cases u2 with
              | lst v2 =>
                have r1 : Reps K ρ H xs v1 := ru1
                have r2 : Reps K ρ H ys v2 := ru2
                refine .inr (.inr (.inr ⟨a, b, v1, v2, rfl, rfl, hu1, hu2, by rw [← r1.length, ← r2.length]; exact mil hl, fun p hp => ?_⟩))
                obtain ⟨x2, g2, r3⟩ := lst_new g (r1.append r2) hp
                exact k _ _ _ x2 g2 r3
              | _ => exact ru2.elim
            | _ => exact ru1.elim
      · cases e
    · cases e
  · cases e
def itemsOf (S : Sto) : D → Option (List D)
  | .tup ds => some ds
  | .loc n => lstAt S n
  | _ => none
def fTup (xs : List D) (S : Sto) : Option (D × Sto) := match xs with
  | [x] => match itemsOf S x with
    | some ds => some (.tup ds, S)
    | none => none
  | _ => none
theorem am_tup : AllM K fTup (fun xs H Q => ∃ p ys, xs = [.ref p] ∧ ((SqL K H p ys ∧ ∀ l, H l = none → Q (.ref l) (upd H l (.tup ys))) ∨ (SqT K H p ys ∧ Q (.ref p) H))) := by
  intro ρ H S xs d S' vs Q g hx e k
  unfold fTup at e
  split at e
  · rename_i x
    split at e
    · rename_i ds ei
      cases e
      cases hx with
      | cons h hn =>
        cases hn
        cases h with
        | tup hs hr =>
          cases ei
          exact ⟨_, _, rfl, .inr ⟨hs, k ρ H _ .refl g (.tup hs hr)⟩⟩
        | loc hn =>
          obtain ⟨vs, hs, hr⟩ := g.lst hn ei
          refine ⟨_, _, rfl, .inl ⟨hs, fun p hp => ?_⟩⟩
          obtain ⟨x2, g2, r3⟩ := tup_new g hr hp
          exact k ρ _ _ x2 g2 r3
        | _ => cases ei
    · cases e
  · cases e
end
end Mini
end
section
namespace Mini
open PySem PySem.Spec PyProof.Rows L2 GxR He
variable [Tabs]

theorem tb_of {K : PySem.W.Frag} {mg : Str → Option Value} {base : Heap} {x q y : Str} {st : Stmt} {f : Addr} {fd : FuncData} {cs : List (Addr × Addr)} (F : Fun K x q st f fd) (hy : mg y = some (.ref f))
    (hcs : ∀ (f : Addr) (oc : Value) (od : Option Addr) (fd' : FuncData) (sl : Array (Option Value)), mg y = some (.ref f) → K.lookup f = some ⟨oc, od, .func fd', sl⟩ → ∃ p ∈ cs, fd'.code = .ref p.1)
    (hTB : ∀ p ∈ cs, TabB base mg p.1 p.2) : ∃ cc P, fd.code = .ref cc ∧ TabB base mg cc P ∧ (tabsOf cs).ts P := by
  obtain ⟨oc, od, kV, doc, pm, an, cdv, ct, osl, rfl, lk, hcd⟩ := F.ex
  obtain ⟨p, hp, e⟩ := hcs f _ _ _ _ hy lk
  exact ⟨p.1, p.2, e, hTB p hp, List.mem_map.mpr ⟨p, hp, rfl⟩⟩
end Mini
end
section
namespace Mini
open PySem PySem.Spec PyProof.Rows L2 C8
variable [Tabs]
abbrev XO := EnvD → Sto → Option (Option Int × Sto)
def xoN : XO := fun _ S => some (none, S)
def xoS (m : XE) : XO := fun e S => match m e S with
  | some (.int i, S1) => some (some i, S1)
  | _ => none
def rO (K : PySem.W.Frag) (m : XO) : TO := fun σ H Q => ∃ ρ e S o S', RE K ρ H e σ ∧ G K ρ H S ∧ m e S = some (o, S') ∧ ∀ ρ' H', Ext K ρ H ρ' H' → G K ρ' H' S' → Q o H'
def cutD {α : Type} (xs : List α) (lo hi : Option Int) : List α := (xs.drop (HT.sIx xs.length 0 lo)).take (HT.sIx xs.length xs.length hi - HT.sIx xs.length 0 lo)
theorem Reps.cut2 {K : PySem.W.Frag} {ρ : List Addr} {H : Hp} {ds : List D} {vs : List V} (r : Reps K ρ H ds vs) (lo hi : Option Int) : Reps K ρ H (cutD ds lo hi) (cutV vs lo hi) := by
  unfold cutD cutV
  rw [r.length]
  exact (r.drop _).take _
def fSl (x : D) (lo hi : Option Int) (S : Sto) : Option (D × Sto) := match x with
  | .tup ds => some (.tup (cutD ds lo hi), S)
  | .str z => if z.length ≤ 100000 then some (.str (Txt.slice z lo hi), S) else none
  | .loc n => match lstAt S n with
    | some ds => some (.loc S.length, S ++ [.lst (cutD ds lo hi)])
    | none => none
  | _ => none
def xSl (a : XE) (lo hi : XO) : XE := fun e S => match a e S with
  | none => none
  | some (x, S1) => match lo e S1 with
    | none => none
    | some (l, S2) => match hi e S2 with
      | none => none
      | some (u, S3) => fSl x l u S3
def rSlM (K : PySem.W.Frag) : V → Option Int → Option Int → Hp → VK → Prop := fun x lo hi H Q => rSlL K x lo hi H Q ∨ rSlA K x lo hi H Q ∨ rSlX x lo hi H Q
theorem sl_all {X : Cx} : SlR X (rSlM X.K) := SlR.or sl_list (SlR.or sl_tupA sl_txt)
theorem cut_whole {α : Type} {xs : List α} {lo hi : Option Int} (h : HT.sIx xs.length 0 lo = 0 ∧ HT.sIx xs.length xs.length hi = xs.length) : cutD xs lo hi = xs := by
  unfold cutD
  rw [h.1, h.2]
  simp
theorem sl_rep {K : PySem.W.Frag} {ρ : List Addr} {H : Hp} {S S' : Sto} {x d : D} {v : V} {lo hi : Option Int} {Q : VK} (g : G K ρ H S) (hx : Rep K ρ H x v) (e : fSl x lo hi S = some (d, S')) (k : ∀ ρ' H' v, Ext K ρ H ρ' H' → G K ρ' H' S' → Rep K ρ' H' d v → Q v H') : rSlM K v lo hi H Q := by
  unfold fSl at e
  split at e
  · rename_i ds
    cases e
    cases hx with
    | tup hs hr =>
      rename_i a vs
      refine .inr (.inl ⟨a, vs, rfl, hs, fun h => ?_, fun _ p hp => ?_⟩)
      · rw [← hr.length] at h
        refine k ρ H _ .refl g ?_
        rw [cut_whole h]
        exact .tup hs hr
      · obtain ⟨x1, g1, r1⟩ := tup_new g (hr.cut2 lo hi) hp
        exact k _ _ _ x1 g1 r1
  · rename_i z
    split at e
    · rename_i hl
      cases e
      cases hx
      exact .inr (.inr ⟨z, rfl, line5 hl, k ρ H _ .refl g (.str _)⟩)
    · cases e
  · rename_i n
    split at e
    · rename_i ds el
      cases e
      cases hx with
      | loc hn =>
        obtain ⟨vs, hs, hr⟩ := g.lst hn el
        refine .inl ⟨_, vs, rfl, hs, fun p hp => ?_⟩
        obtain ⟨x1, g1, r1⟩ := lst_new g (hr.cut2 lo hi) hp
        exact k _ _ _ x1 g1 r1
    · cases e
  · cases e
section
variable {X : Cx}
theorem PO.imp {e : Option Expr} {t t' : TO} (h : PO X e t) (i : ∀ σ H Q, t' σ H Q → t σ H Q) : PO X e t' := ⟨fun pins s σ H Q I q => h.run pins s σ H Q I (i _ _ _ q)⟩
theorem ro_none : PO X none (rO X.K xoN) := PO.imp po_none fun σ H Q ⟨ρ, e, S, o, S', re, g, h, k⟩ => by
  cases h
  exact k ρ H .refl g
theorem ro_some {e : Expr} {m : XE} (h : PE X e (rE X.K m)) : PO X (some e) (rO X.K (xoS m)) := PO.imp (po_some h) fun σ H Q ⟨ρ, e, S, o, S', re, g, h, k⟩ => by
  unfold xoS at h
  split at h
  · rename_i i S1 em
    cases h
    refine ⟨ρ, e, S, _, _, re, g, em, fun ρ1 H1 v x1 g1 hv => ?_⟩
    cases hv
    exact ⟨i, rfl, k ρ1 H1 x1 g1⟩
  · cases h
theorem r_sl {a : Expr} {lo hi : Option Expr} {p2 pos : Pos} {ma : XE} {ml mh : XO} (ha : PE X a (rE X.K ma)) (hl : PO X lo (rO X.K ml)) (hh : PO X hi (rO X.K mh)) : PE X (.Subscript a (.Slice lo hi none p2) pos) (rE X.K (xSl ma ml mh)) := by
  refine PE.imp (pe_slice sl_all ha hl hh) fun σ H Q ⟨ρ, e, S, d, S', re, g, h, k⟩ => ?_
  unfold xSl at h
  split at h
  · cases h
  rename_i x S1 ea
  split at h
  · cases h
  rename_i l S2 el
  split at h
  · cases h
  rename_i u S3 eh
  exact ⟨ρ, e, S, x, S1, re, g, ea, fun ρ1 H1 v x1 g1 hv => ⟨ρ1, e, S1, l, S2, re.mono x1, g1, el, fun ρ2 H2 x2 g2 => ⟨ρ2, e, S2, u, S3, re.mono (x1.trans x2), g2, eh, fun ρ3 H3 x3 g3 =>
    sl_rep g3 (hv.mono (x2.trans x3)) h fun ρ4 H4 w x4 g4 hw => k ρ4 H4 w (((x1.trans x2).trans x3).trans x4) g4 hw⟩⟩⟩
end
end Mini
end
section
namespace Mini
open PySem PySem.Spec PyProof.Rows L2
def ltD (x y : D) : Bool := PySem.W.dataLt x.py y.py
def leD (x y : D) : Bool := !ltD y x
def isTupD : D → Bool
  | .tup _ => true
  | _ => false
def isAtom : D → Bool
  | .bl _ => true
  | .int _ => true
  | .str _ => true
  | _ => false
def alikeD (x y : D) : Bool := PySem.W.alike x.py y.py
mutual
theorem eqB_alike : ∀ {x y : D} {m n : Nat}, D.pub m x = true → D.pub n y = true → alikeD x y = true → eqB x y = true → x = y
  | .loc _, _, m, _, h, _, _, _ => by cases m <;> cases h
  | _, .loc _, _, n, _, h, _, _ => by cases n <;> cases h
  | .non, .non, _, _, _, _, _, _ => rfl
  | .bl a, .bl b, _, _, _, _, _, h => by rw [show a = b from of_decide_eq_true h]
  | .int i, .int j, _, _, _, _, _, h => by rw [show i = j from of_decide_eq_true h]
  | .str i, .str j, _, _, _, _, _, h => by rw [show i = j from of_decide_eq_true h]
  | .tup a, .tup b, 0, _, h, _, _, _ => by cases h
  | .tup a, .tup b, _, 0, _, h, _, _ => by cases h
  | .tup a, .tup b, m + 1, n + 1, h1, h2, h3, h4 => by rw [eqBs_alike (m := m) (n := n) h1 h2 h3 h4]
  | .non, .bl _, _, _, _, _, h, _ => by cases h
  | .non, .int _, _, _, _, _, h, _ => by cases h
  | .non, .str _, _, _, _, _, h, _ => by cases h
  | .non, .tup _, _, _, _, _, h, _ => by cases h
  | .bl _, .non, _, _, _, _, h, _ => by cases h
  | .bl _, .int _, _, _, _, _, h, _ => by cases h
  | .bl _, .str _, _, _, _, _, h, _ => by cases h
  | .bl _, .tup _, _, _, _, _, h, _ => by cases h
  | .int _, .non, _, _, _, _, h, _ => by cases h
  | .int _, .bl _, _, _, _, _, h, _ => by cases h
  | .int _, .str _, _, _, _, _, h, _ => by cases h
  | .int _, .tup _, _, _, _, _, h, _ => by cases h
  | .str _, .non, _, _, _, _, h, _ => by cases h
  | .str _, .bl _, _, _, _, _, h, _ => by cases h
  | .str _, .int _, _, _, _, _, h, _ => by cases h
  | .str _, .tup _, _, _, _, _, h, _ => by cases h
  | .tup _, .non, _, _, _, _, h, _ => by cases h
  | .tup _, .bl _, _, _, _, _, h, _ => by cases h
  | .tup _, .int _, _, _, _, _, h, _ => by cases h
  | .tup _, .str _, _, _, _, _, h, _ => by cases h
theorem eqBs_alike : ∀ {xs ys : List D} {m n : Nat}, D.pubs m xs = true → D.pubs n ys = true → PySem.W.alikeAll (D.pys xs) (D.pys ys) = true → eqBs xs ys = true → xs = ys
  | [], [], _, _, _, _, _, _ => rfl
  | [], _ :: _, _, _, _, _, _, h => by cases h
  | _ :: _, [], _, _, _, _, _, h => by cases h
  | x :: xs, y :: ys, m, n, h1, h2, h3, h4 => by
    have a1 : (D.pub m x && D.pubs m xs) = true := h1
    have a2 : (D.pub n y && D.pubs n ys) = true := h2
    have a4 : (eqB x y && eqBs xs ys) = true := h4
    rw [Bool.and_eq_true] at a1 a2 a4
    obtain ⟨b1, b2⟩ := PySem.W.alike_all_cons h3
    rw [eqB_alike a1.1 a2.1 b1 a4.1, eqBs_alike a1.2 a2.2 b2 a4.2]
end
end Mini
end
section
set_option maxHeartbeats 2000000
namespace Mini
open PySem PySem.Spec PyProof.Rows L2
section
variable {prog : Program} {w : World} {A : Around} {E : Value → Shared → Prop} {s : Shared} {a : Addr} {n : Nat}
end
section
variable {pr : Program} {w : World} {A : Around} {R : Result → Shared → Prop} {s : Shared} {el a0 b0 a1 b1 : Expr} {cs0 cs1 : List Expr} {sco : Scope} {ps : Pos} {itr ac : Value} {en : Env}
end
section
variable {X : Cx}
def SetAt (w : World) (h : Heap) (D : Addr) (ac : List Str) : Prop := ∃ n, n ≤ ac.length ∧ ac.length < 64 ∧ SetX w h D (fun j => decide (j ∈ ac.map Sum.inr)) n
theorem SetAt.keep {w : World} {h h' : Heap} {D : Addr} {ac : List Str} (a : SetAt w h D ac) (k : ∀ o, h.get? D = some o → h'.get? D = some o) : SetAt w h' D ac := by
  obtain ⟨n, h1, h2, R⟩ := a
  exact ⟨n, h1, h2, R.at k⟩
theorem SetAt.obj {w : World} {h : Heap} {D : Addr} {ac : List Str} (a : SetAt w h D ac) : ∃ o, h.get? D = some o ∧ ∀ v, o.data ≠ .cell v := by
  obtain ⟨n, _, _, o, es, ep, t, ho, _, hd, _⟩ := a
  exact ⟨o, ho, fun v e => by rw [hd] at e; cases e⟩
section
variable {pns : List (Addr × Obj)} {σ σ' : L2.St} {H H' : Hp} {s s' : Shared} {D : Addr} {ac : List Str}
end
end
end Mini
end
section
namespace Mini
open PySem PySem.Spec PyProof.Rows L2
variable [Tabs]
section
variable {K : PySem.W.Frag}
end
section
variable {X : Cx}
end
def asBls : List D → Option (List Bool)
  | [] => some []
  | .bl b :: r => match asBls r with
    | some bs => some (b :: bs)
    | none => none
  | _ => none
theorem asBls_is : ∀ {ds : List D} {bs : List Bool}, asBls ds = some bs → ds = bs.map D.bl
  | [], bs, h => by cases h; rfl
  | .bl b :: r, bs, h => by
    have h' : (match asBls r with | some bs => some (b :: bs) | none => none) = some bs := h
    split at h'
    · rename_i cs e
      cases h'
      rw [asBls_is e]; rfl
    · cases h'
  | .non :: _, _, h => by cases h
  | .str _ :: _, _, h => by cases h
  | .int _ :: _, _, h => by cases h
  | .tup _ :: _, _, h => by cases h
  | .loc _ :: _, _, h => by cases h
theorem reps_bls {K : PySem.W.Frag} {ρ : List Addr} {H : Hp} : ∀ {bs : List Bool} {vs : List V}, Reps K ρ H (bs.map D.bl) vs → vs = bs.map V.bl
  | [], _, .nil => rfl
  | b :: bs, _, .cons h r => by
    cases h
    rw [reps_bls r]; rfl
end Mini
end
section
namespace Mini
open PySem PySem.Spec PyProof.Rows L2
variable [Tabs]
def putD (kvs : List (Key × D)) (k : Key) (v : D) : List (Key × D) :=
  if kvs.any (fun kv => decide (kv.1 = k)) = true then kvs.map fun kv => if kv.1 = k then (kv.1, v) else kv else kvs ++ [(k, v)]
section
variable {K : PySem.W.Frag} {ρ : List Addr} {H : Hp}
inductive KR (K : PySem.W.Frag) (ρ : List Addr) (H : Hp) : List (Key × D) → List (Key × V) → Prop
  | nil : KR K ρ H [] []
  | cons {k : Key} {d : D} {v : V} {ks : List (Key × D)} {vs : List (Key × V)} : Rep K ρ H d v → KR K ρ H ks vs → KR K ρ H ((k, d) :: ks) ((k, v) :: vs)
theorem kr_of : ∀ {ks : List (Key × D)} {vs : List (Key × V)}, ks.map (·.1) = vs.map (·.1) → Reps K ρ H (ks.map (·.2)) (vs.map (·.2)) → KR K ρ H ks vs
  | [], [], _, _ => .nil
  | [], _ :: _, e, _ => by simp at e
  | _ :: _, [], e, _ => by simp at e
  | (k, d) :: ks, (j, v) :: vs, e, r => by
    simp only [List.map_cons, List.cons.injEq] at e
    obtain ⟨rfl, e⟩ := e
    cases r with
    | cons h r => exact .cons h (kr_of e r)
theorem KR.to : ∀ {ks : List (Key × D)} {vs : List (Key × V)}, KR K ρ H ks vs → ks.map (·.1) = vs.map (·.1) ∧ Reps K ρ H (ks.map (·.2)) (vs.map (·.2))
  | _, _, .nil => ⟨rfl, .nil⟩
  | _, _, .cons h r => by
    obtain ⟨h1, h2⟩ := r.to
    exact ⟨by simp [h1], .cons h h2⟩
theorem KR.mono {ρ' : List Addr} {H' : Hp} (x : Ext K ρ H ρ' H') : ∀ {ks : List (Key × D)} {vs : List (Key × V)}, KR K ρ H ks vs → KR K ρ' H' ks vs
  | _, _, .nil => .nil
  | _, _, .cons h r => .cons (h.mono x) (r.mono x)
theorem KR.len : ∀ {ks : List (Key × D)} {vs : List (Key × V)}, KR K ρ H ks vs → ks.length = vs.length
  | _, _, .nil => rfl
  | _, _, .cons _ r => congrArg (· + 1) r.len
theorem KR.any {k : Key} : ∀ {ks : List (Key × D)} {vs : List (Key × V)}, KR K ρ H ks vs → (ks.any fun kv => decide (kv.1 = k)) = vs.any fun kv => decide (kv.1 = k)
  | _, _, .nil => rfl
  | _, _, .cons _ r => by simp only [List.any_cons, r.any]
theorem KR.repl {k : Key} {d : D} {v : V} (h : Rep K ρ H d v) : ∀ {ks : List (Key × D)} {vs : List (Key × V)}, KR K ρ H ks vs → KR K ρ H (ks.map fun kv => if kv.1 = k then (kv.1, d) else kv) (vs.map fun kv => if kv.1 = k then (kv.1, v) else kv)
  | _, _, .nil => .nil
  | _, _, @KR.cons _ _ _ j d' v' ks vs h' r => by
    simp only [List.map_cons]
    by_cases e : j = k
    · rw [if_pos e, if_pos e]; exact .cons h (r.repl h)
    · rw [if_neg e, if_neg e]; exact .cons h' (r.repl h)
theorem KR.snoc {k : Key} {d : D} {v : V} (h : Rep K ρ H d v) : ∀ {ks : List (Key × D)} {vs : List (Key × V)}, KR K ρ H ks vs → KR K ρ H (ks ++ [(k, d)]) (vs ++ [(k, v)])
  | _, _, .nil => .cons h .nil
  | _, _, .cons h' r => .cons h' (r.snoc h)
theorem KR.put {k : Key} {d : D} {v : V} {ks : List (Key × D)} {vs : List (Key × V)} (r : KR K ρ H ks vs) (h : Rep K ρ H d v) : KR K ρ H (putD ks k d) (putK vs k v) := by
  unfold putD putK
  rw [r.any]
  split
  · exact r.repl h
  · exact r.snoc h
theorem G.dct {S : Sto} {n : Nat} {a : Addr} {kvs : List (Key × D)} (g : G K ρ H S) (hn : ρ[n]? = some a) (e : S[n]? = some (.dct kvs)) : ∃ vs, H a = some (.dK vs) ∧ KR K ρ H kvs vs := by
  obtain ⟨u, h1, h2⟩ := (RepO.mut_iff rfl).mp (g.ob n a _ hn e)
  cases u with
  | dK vs => exact ⟨vs, h1, kr_of h2.1 h2.2⟩
  | _ => exact h2.elim
end
section
variable {X : Cx} {pos : Pos}
end
end Mini
end
section
namespace Mini
open PySem PySem.Spec PyProof.Rows L2
abbrev NK (h : Heap) (k : NestedKey) (b : Addr) : Prop := NestedIs h k (.ref b) ∧ k.depth ≤ 8
abbrev kh (w : World) (k : NestedKey) : Int := NestedKey.hash w k
theorem NK.ty {s : Shared} {k : NestedKey} {b : Addr} (x : NK s.heap k b) : s.TypeIs (.ref b) "tuple" := by
  obtain ⟨x, _⟩ := x
  cases x with
  | tup e c d r => exact ⟨_, e, c⟩
theorem NK.keep {h h' : Heap} {k : NestedKey} {b : Addr} (x : NK h k b) (m : ∀ c o, h.get? c = some o → h'.get? c = some o) : NK h' k b :=
  ⟨NestedIs.at (fun c o _ _ e _ => m c o e) k _ x.1, x.2⟩
theorem NK.same {h h' : Heap} {k : NestedKey} {a b : Addr} {o : Obj} {es : Array (Int × Value)} {ep : Nat} {t : SetTable} (x : NK h k b) (e : h.get? a = some o) (d : o.data = .set es ep t) (m : Heap.SameBut a h h') : NK h' k b :=
  ⟨NestedIs.at (fun c q vs n e2 d2 => (m.2 c fun z => by rw [z, e] at e2; cases e2; rw [d] at d2; cases d2).trans e2) k _ x.1, x.2⟩
section
variable {P : Program} {w : World}
end
section
variable {P : Program} {w : World} {A : Around} {E : Value → Shared → Prop} {s : Shared}
end
abbrev KRow := Addr × NestedKey
def krow (w : World) (p : KRow) : Int × Value := (kh w p.2, Value.ref p.1)
structure SetK (w : World) (h : Heap) (a : Addr) (L : List KRow) (es : Array (Int × Value)) (ep : Nat) (t : SetTable) : Prop where
  ob : ∃ o, h.get? a = some o ∧ o.ExactSet ∧ o.data = .set es ep t
  rows : es.toList = L.map (krow w)
  tab : TabOk t (L.map fun p => kh w p.2)
  nd : (L.map (·.2)).Nodup
  tup : ∀ p ∈ L, NK h p.2 p.1
  led : w.params.followText "set-order" = true ∨ t.led = true
  room : L.length * 5 < t.mask * 3
  few : L.length ≤ 76
section
variable {P : Program} {w : World} {A : Around} {E : Value → Shared → Prop} {s : Shared} {a : Addr} {L : List KRow} {es : Array (Int × Value)} {ep : Nat} {t : SetTable}
theorem len_of_rows (e : es.toList = L.map (krow w)) : es.size = L.length := by
  rw [← Array.length_toList, e, List.length_map]
theorem fits_of_tab (T : TabOk t (L.map fun p => kh w p.2)) (e : es.size = L.length) (r : L.length ≤ t.mask) : t.fits es.size = true := by
  have z := T.sz
  rw [List.length_map] at z
  unfold SetTable.fits SetTable.fill
  rw [T.dm, Bool.and_eq_true, beq_iff_eq, decide_eq_true_eq]
  show t.place.size = es.size ∧ t.place.size + 0 ≤ t.mask
  omega
theorem SetK.fits (Z : SetK w s.heap a L es ep t) : t.fits es.size = true := fits_of_tab Z.tab (len_of_rows Z.rows) (by have := Z.room; omega)
theorem SetK.entry (Z : SetK w s.heap a L es ep t) {i : Nat} {p : KRow} (h : L[i]? = some p) : es[i]? = some (krow w p) := by
  rw [← Array.getElem?_toList, Z.rows, List.getElem?_map, h]; rfl
end
end Mini
end
section
namespace Mini
open PySem PySem.Spec PyProof.Rows L2
theorem len_sub {α : Type} : ∀ {l m : List α}, l.Nodup → (∀ x ∈ l, x ∈ m) → l.length ≤ m.length
  | [], _, _, _ => Nat.zero_le _
  | x :: l, m, nd, h => by
    obtain ⟨n1, n2⟩ := List.nodup_cons.mp nd
    obtain ⟨m1, m2, rfl⟩ := List.append_of_mem (h x List.mem_cons_self)
    have := len_sub (l := l) (m := m1 ++ m2) n2 fun y hy => by
      have q := h y (List.mem_cons_of_mem _ hy)
      rw [List.mem_append, List.mem_cons] at q
      rw [List.mem_append]
      rcases q with q | rfl | q
      · exact .inl q
      · exact absurd hy n1
      · exact .inr q
    rw [List.length_append] at this ⊢
    rw [List.length_cons, List.length_cons]
    omega
structure GotK (ks : List KRow) (i : Nat) (L : List KRow) : Prop where
  sub : ∀ p ∈ L, p ∈ ks.take i
  all : ∀ p ∈ ks.take i, p.2 ∈ L.map (·.2)
theorem GotK.zero (ks : List KRow) : GotK ks 0 [] := ⟨fun p h => (by cases h), fun p h => (by simp at h)⟩
theorem GotK.same {ks L : List KRow} {i : Nat} {x : KRow} (g : GotK ks i L) (h : ks[i]? = some x) (hm : x.2 ∈ L.map (·.2)) : GotK ks (i + 1) L := by
  refine ⟨fun p hp => ?_, fun p hp => ?_⟩
  · rw [take_next h]; exact List.mem_append_left _ (g.sub p hp)
  · rw [take_next h] at hp
    rcases List.mem_append.mp hp with z | z
    · exact g.all p z
    · rw [List.mem_singleton.mp z]; exact hm
theorem GotK.more {ks L L2 : List KRow} {i : Nat} {x : KRow} (g : GotK ks i L) (h : ks[i]? = some x) (pm : L2.Perm (x :: L)) : GotK ks (i + 1) L2 := by
  refine ⟨fun p hp => ?_, fun p hp => ?_⟩
  · rw [take_next h]
    rcases List.mem_cons.mp (pm.mem_iff.mp hp) with e | z
    · rw [e]; exact List.mem_append_right _ (List.mem_singleton.mpr rfl)
    · exact List.mem_append_left _ (g.sub p z)
  · rw [(pm.map (·.2)).mem_iff, List.map_cons]
    rw [take_next h] at hp
    rcases List.mem_append.mp hp with z | z
    · exact List.mem_cons_of_mem _ (g.all p z)
    · rw [List.mem_singleton.mp z]; exact List.mem_cons_self
section
variable {P : Program} {w : World} {A : Around} {E : Value → Shared → Prop} {s : Shared}
theorem SetK.keep {h h' : Heap} {a : Addr} {L : List KRow} {es : Array (Int × Value)} {ep : Nat} {t : SetTable} (Z : SetK w h a L es ep t) (ha : ∀ o, h.get? a = some o → h'.get? a = some o) (ht : ∀ p ∈ L, NK h' p.2 p.1) : SetK w h' a L es ep t := by
  obtain ⟨o, e, r⟩ := Z.ob
  exact ⟨⟨o, ha o e, r⟩, Z.rows, Z.tab, Z.nd, ht, Z.led, Z.room, Z.few⟩
end
end Mini
end
section
namespace Mini
open PySem PySem.Spec PyProof.Rows L2
section
variable {P : Program} {w : World} {A : Around} {E : Value → Shared → Prop} {s : Shared}
end
mutual
def D.nk : D → NestedKey
  | .non => .none
  | .bl b => .num (if b = true then 1 else 0)
  | .int i => .num i
  | .str x => .text x
  | .tup ds => .tup (D.nks ds)
  | .loc _ => .none
def D.nks : List D → List NestedKey
  | [] => []
  | d :: ds => D.nk d :: D.nks ds
end
mutual
theorem eqB_self : ∀ {x : D} {n : Nat}, D.pub n x = true → eqB x x = true
  | .loc _, n, h => by cases n <;> cases h
  | .non, _, _ => rfl
  | .bl a, _, _ => decide_eq_true rfl
  | .int a, _, _ => decide_eq_true rfl
  | .str a, _, _ => decide_eq_true rfl
  | .tup a, 0, h => by cases h
  | .tup a, n + 1, h => eqBs_self (n := n) h
theorem eqBs_self : ∀ {x : List D} {n : Nat}, D.pubs n x = true → eqBs x x = true
  | [], _, _ => rfl
  | x :: xs, n, h => by
    have a : (D.pub n x && D.pubs n xs) = true := h
    rw [Bool.and_eq_true] at a
    show (eqB x x && eqBs xs xs) = true
    rw [eqB_self a.1, eqBs_self a.2]; rfl
end
structure Alk (ds : List D) (n : Nat) : Prop where
  pub : ∀ x ∈ ds, D.pub n x = true
  al : ∀ x ∈ ds, ∀ y ∈ ds, alikeD x y = true
theorem Alk.tl {x : D} {r : List D} {n : Nat} (a : Alk (x :: r) n) : Alk r n := ⟨fun y h => a.pub y (List.mem_cons_of_mem _ h), fun y h z k => a.al y (List.mem_cons_of_mem _ h) z (List.mem_cons_of_mem _ k)⟩
theorem Alk.any {x : D} {r : List D} {n : Nat} (a : Alk (x :: r) n) : (r.any fun y => eqB x y) = true ↔ x ∈ r := by
  rw [List.any_eq_true]
  constructor
  · rintro ⟨y, hy, e⟩
    have := eqB_alike (a.pub x List.mem_cons_self) (a.pub y (List.mem_cons_of_mem _ hy)) (a.al x List.mem_cons_self y (List.mem_cons_of_mem _ hy)) e
    rw [this]; exact hy
  · exact fun h => ⟨x, h, eqB_self (a.pub x List.mem_cons_self)⟩
structure SetD (w : World) (h : Heap) (a : Addr) (L : List (Addr × D)) : Prop where
  set : ∃ es ep t, SetK w h a (L.map fun p => (p.1, p.2.nk)) es ep t
  rd : ∀ p ∈ L, ∃ as, Reads h (.ref p.1) p.2.py as
section
variable {P : Program} {w : World} {A : Around} {E : Value → Shared → Prop} {s : Shared}
end
end Mini
end
section
namespace Mini
open PySem PySem.Spec PyProof.Rows L2
section
variable {X : Cx} {e : Expr} {te : TE} {p p2 pos pos2 : Pos}
end
variable [Tabs]
theorem len_same {α : Type} {l m : List α} (h1 : l.Nodup) (h2 : m.Nodup) (h : ∀ x, x ∈ l ↔ x ∈ m) : l.length = m.length :=
  Nat.le_antisymm (len_sub h1 fun x z => (h x).1 z) (len_sub h2 fun x z => (h x).2 z)
end Mini
end
section
namespace Mini
open PySem PySem.Spec PyProof.Rows L2
variable [Tabs]
def fIdx (x : D) (xs : List D) (S : Sto) : Option (D × Sto) := match x, xs with
  | .loc n, [y] => match lstAt S n with
    | some ds => if (D.pub 60 y && D.pubs 60 ds) = true then match ds.findIdx? fun z => eqB z y with
        | some j => some (.int (j : Int), S)
        | none => none
      else none
    | none => none
  | _, _ => none
theorem pubs_all {n : Nat} : ∀ {ds : List D}, D.pubs n ds = true → ∀ x ∈ ds, D.pub n x = true
  | [], _, x, h => by cases h
  | d :: ds, p, x, h => by
    have a : (D.pub n d && D.pubs n ds) = true := p
    rw [Bool.and_eq_true] at a
    rcases List.mem_cons.mp h with rfl | h
    · exact a.1
    · exact pubs_all a.2 x h
theorem pys_map : ∀ ds : List D, D.pys ds = ds.map D.py
  | [] => rfl
  | d :: ds => congrArg (d.py :: ·) (pys_map ds)
theorem mm_idx {K : PySem.W.Frag} : MetM K fIdx (rIndexD K) := by
  intro ρ H S x xs d S' vx vs Q g hx hxs e k
  unfold fIdx at e
  split at e
  rotate_left
  · cases e
  rename_i n y
  split at e
  rotate_left
  · cases e
  rename_i ds el
  split at e
  rotate_left
  · cases e
  rename_i c
  split at e
  rotate_left
  · cases e
  rename_i j ej
  cases e
  rw [Bool.and_eq_true] at c
  cases hx with
  | loc hn =>
    obtain ⟨ws, hs, hr⟩ := g.lst hn el
    cases hxs with
    | cons hy hn0 =>
      cases hn0
      obtain ⟨p1, p2, p3⟩ := py_dp hy c.1
      obtain ⟨q1, q2, q3⟩ := pys_dp hr c.2
      obtain ⟨h1, h2, h3⟩ := List.findIdx?_eq_some_iff_getElem.mp ej
      refine ⟨_, _, y.py, D.pys ds, j, (ds[j]).py, rfl, rfl, .lst hs q1, p1, ?_, ?_, ?_, ?_, fun m z hm hz => ?_, k ρ H _ .refl g (.int _)⟩
      · unfold SeqAt.shaped
        rw [Bool.and_eq_true, decide_eq_true_eq]
        exact ⟨q2, Nat.succ_le_succ (Nat.le_trans q3 (by decide))⟩
      · unfold SeqAt.shaped
        rw [Bool.and_eq_true, decide_eq_true_eq]
        exact ⟨p2, Nat.le_trans p3 (by decide)⟩
      · rw [pys_map, List.getElem?_map, List.getElem?_eq_getElem h1]; rfl
      · rw [eqB_py (pubs_all c.2 _ (List.getElem_mem h1)) c.1]; exact h2
      · rw [pys_map, List.getElem?_map] at hz
        obtain ⟨z0, hz0, rfl⟩ := Option.map_eq_some_iff.mp hz
        obtain ⟨hmd, rfl⟩ := List.getElem?_eq_some_iff.mp hz0
        rw [eqB_py (pubs_all c.2 _ (List.getElem_mem hmd)) c.1]
        simpa using h3 m hm
def rLtA : R2 := fun x y H Q => rI0 (fun i j => .bl (decide (i < j))) x y H Q ∨ ∃ i j, x = V.str i ∧ y = V.str j ∧ Q (.bl (decide (i.cps.toList < j.cps.toList))) H
theorem orp_ltA {X : Cx} : OpR X (compareOp .Lt) rLtA := OpR.or op_lt op_lt_str
def fLtA (x y : D) (S : Sto) : Option (D × Sto) := match x, y with
  | .str a, .str b => some (.bl (ltS a b), S)
  | x, y => fLt x y S
theorem om_ltA {K : PySem.W.Frag} : OpM K fLtA rLtA := by
  intro ρ H S x y d S' vx vy Q g hx hy e k
  unfold fLtA at e
  split at e
  · cases e
    cases hx
    cases hy
    exact .inr ⟨_, _, rfl, rfl, k ρ H _ .refl g (.bl _)⟩
  · exact .inl (om_lt ρ H S x y d S' vx vy Q g hx hy e k)
section
variable {X : Cx} {pos pos' : Pos}
theorem rs_augG {i : Nat} {x : Str} {e : Expr} {a : XE} {op : Operator} {f : D → D → Sto → Option (D × Sto)} {r : R2} (hN : X.N.Nodup) (hi : X.N[i]? = some x) (hx : Loc X.env.scope x) (he : PE X e (rE X.K a)) (ho : OpR X (inplaceOp op) r) (om : OpM X.K f r) (hf : X.fn x = true ∨ X.env.scope.names.lookup x = some .local := by first | exact .inl rfl | exact .inr rfl | assumption) :
    PS X (.AugAssign (.Name x pos') op e pos) (rS X.K (sAsg (xOp f (xVar i) a) (gN i))) := by
  refine PS.imp (ps_aug hN hi hx he ho hf) fun E σ H ⟨ρ, en, S, rr, re, gg, h, k⟩ => ?_
  unfold sAsg xOp xVar at h
  cases e1 : en[i]? with
  | none => rw [e1] at h; cases h
  | some o =>
    cases o with
    | none => rw [e1] at h; cases h
    | some d =>
      rw [e1] at h
      dsimp only at h
      obtain ⟨v, hv, rv⟩ := re.at_ i d e1
      cases e2 : a en S with
      | none => rw [e2] at h; cases h
      | some q =>
        obtain ⟨y, S1⟩ := q
        rw [e2] at h
        dsimp only at h
        refine ⟨v, hv, ρ, en, S, y, S1, re, gg, e2, fun ρ1 H1 vy x1 g1 hy => ?_⟩
        cases e3 : f d y S1 with
        | none => rw [e3] at h; cases h
        | some q =>
          obtain ⟨z, S2⟩ := q
          rw [e3] at h
          cases h
          exact om ρ1 H1 S1 d y z S2 v vy _ g1 (rv.mono x1) hy e3 fun ρ2 H2 vz x2 g2 rz => k ρ2 H2 _ (x1.trans x2) g2 ((re.mono (x1.trans x2)).set i rz)
end
def xRev (a : XE) : XE := fun e S => match a e S with
  | some (.loc n, S1) => match lstAt S1 n with
    | some ds => some (.loc S1.length, S1 ++ [.lst ds.reverse])
    | none => none
  | _ => none
theorem Reps.rev {K : PySem.W.Frag} {ρ : List Addr} {H : Hp} : ∀ {ds : List D} {vs : List V}, Reps K ρ H ds vs → Reps K ρ H ds.reverse vs.reverse
  | _, _, .nil => .nil
  | _, _, .cons h r => by
    rw [List.reverse_cons, List.reverse_cons]
    exact r.rev.append (.cons h .nil)
theorem r_rev {X : Cx} {e : Expr} {a : XE} {k : Nat} {p1 p2 p3 pos : Pos} (he : PE X e (rE X.K a)) : PE X (.Subscript e (.Slice none none (some (.UnaryOp .USub (.Constant (.int 1) k p1) p2)) p3) pos) (rE X.K (xRev a)) := by
  refine PE.imp (pe_revL he) fun σ H Q ⟨ρ, en, S, d, S', re, g, h, kk⟩ => ?_
  unfold xRev at h
  split at h
  rotate_left
  · cases h
  rename_i n S1 ea
  split at h
  rotate_left
  · cases h
  rename_i ds el
  cases h
  refine ⟨ρ, en, S, _, S1, re, g, ea, fun ρ1 H1 v x1 g1 hv => ?_⟩
  cases hv with
  | loc hn =>
    obtain ⟨vs, hs, hr⟩ := g1.lst hn el
    refine ⟨_, vs, rfl, hs, fun p hp => ?_⟩
    obtain ⟨x2, g2, r2⟩ := lst_new g1 hr.rev hp
    exact kk _ _ _ (x1.trans x2) g2 r2
end Mini
end
section
namespace Mini
open PySem PySem.Spec PyProof.Rows L2 RZ
def zipD : List D → List D → List D
  | x :: xs, y :: ys => .tup [x, y] :: zipD xs ys
  | _, _ => []
theorem zipD_len : ∀ (xs ys : List D), (zipD xs ys).length = min xs.length ys.length
  | [], ys => by simp [zipD]
  | x :: xs, [] => by simp [zipD]
  | x :: xs, y :: ys => by
    show (zipD xs ys).length + 1 = _
    rw [zipD_len xs ys, List.length_cons, List.length_cons]; omega
theorem zipD_get : ∀ (xs ys : List D) (i : Nat) (z : D), (zipD xs ys)[i]? = some z → ∃ x y, xs[i]? = some x ∧ ys[i]? = some y ∧ z = .tup [x, y]
  | [], ys, i, z, h => by simp [zipD] at h
  | x :: xs, [], i, z, h => by simp [zipD] at h
  | x :: xs, y :: ys, 0, z, h => by
    simp [zipD] at h
    exact ⟨x, y, rfl, rfl, h.symm⟩
  | x :: xs, y :: ys, i + 1, z, h => by
    have h' : (zipD xs ys)[i]? = some z := by simpa [zipD] using h
    obtain ⟨x', y', h1, h2, h3⟩ := zipD_get xs ys i z h'
    exact ⟨x', y', by simpa using h1, by simpa using h2, h3⟩
variable [Tabs]
def wZip (a b : XE) : XW := fun e S => match a e S with
  | some (.tup ds, S1) => match b e S1 with
    | some (.tup es, S2) => some (.fix (zipD ds es), S2)
    | _ => none
  | _ => none
theorem rw_zip {X : Cx} {e e2 : Expr} {m n : XE} {p pos tpos : Pos} {elts : List Expr} {kk : Nat} (hg : Gl X "zip") (hm : X.mg "zip" = none) (he : PE X e (rE X.K m)) (he2 : PE X e2 (rE X.K n))
    (hs : starEach [e, e2] X.env = (false, eval e X.env) :: starEach [e2] X.env := by rfl) (hs2 : starEach [e2] X.env = (false, eval e2 X.env) :: starEach [] X.env := by rfl) (hpl : (backTo pos (starEach [e2] X.env)).any (·.1) = false := by rfl) :
    PI X (.Tuple elts kk tpos) (.Call (.Name "zip" p) [e, e2] [] pos) (rW X.K (wZip m n)) := by
  refine PI.imp (pi_zipA hg hm (ra_cons he (ra_cons he2 ra_nil hs2) hs) hs hpl) fun σ H R ⟨ρ, en, S, wk, S', re, g, h, k⟩ => ?_
  unfold wZip at h
  split at h
  rotate_left
  · cases h
  rename_i ds S1 em
  split at h
  rotate_left
  · cases h
  rename_i es S2 en2
  cases h
  refine ⟨ρ, en, S, [.tup ds, .tup es], _, re, g, by unfold xCons xNil; rw [em]; dsimp only; rw [en2], fun ρ1 H1 vs x1 g1 hv => ?_⟩
  cases hv with
  | cons h1 hv =>
    cases hv with
    | cons h2 hn =>
      cases hn
      cases h1 with
      | tup q1 r1 =>
        cases h2 with
        | tup q2 r2 =>
          have l1 := r1.length
          have l2 := r2.length
          refine ⟨_, _, _, _, rfl, .inr ⟨q1, q2, k ρ1 H1 _ x1 g1 ⟨fun ρ2 H2 x2 => ⟨_, _, x2.tup _ _ q1, x2.tup _ _ q2, by rw [zipD_len]; omega⟩, fun i d hd ρ2 H2 x2 => ?_⟩⟩⟩
          obtain ⟨a, b, ha, hb, rfl⟩ := zipD_get ds es i d hd
          obtain ⟨va, hva, rva⟩ := r1.get ha
          obtain ⟨vb, hvb, rvb⟩ := r2.get hb
          have q1' := x2.tup _ _ q1
          have q2' := x2.tup _ _ q2
          refine ⟨⟨_, _, va, vb, q1', q2', hva, hvb⟩, fun x H3 y S3 g3 => ?_⟩
          obtain ⟨T, z1, z2, rfl, hT, rfl, hz1, hz2⟩ := y
          have e1 := hz1 _ q1'
          rw [hva] at e1
          cases e1
          have e2 := hz2 _ q2'
          rw [hvb] at e2
          cases e2
          have x3 : Ext X.K ρ2 H2 ρ2 (upd H2 T (.tup [va, vb])) := ext_new hT
          exact ⟨x3, g3.grow x3 (upd_new hT), .tup (.inl (.inl upd_same)) (.cons ((rva.mono x2).mono x3) (.cons ((rvb.mono x2).mono x3) .nil))⟩
section
variable {X : Cx} {pos : Pos}
end
end Mini
end
section
namespace Mini
open PySem PySem.Spec PyProof.Rows L2 GenW GxR
section
variable {elt tg iter tg1 iter1 : Expr} {ifs ifs1 : List Expr} {scope : Scope} {pos : Pos} {gens : List Comprehension} {d : Nat}
theorem compTurn_gxn (it acc : Value) (env : Env) (h : gens[d]? = some ⟨tg, iter, ifs, 0⟩) (h1 : gens[d + 1]? = none) :
    compTurn (.GeneratorExp elt gens scope pos) d it acc env = (do
      standAt iter.pos
      match ← pyNext it with
      | none => pure (.done .next)
      | some v =>
        letOwnedTupleGo tg it v
        assign tg env v
        let mut ok := true
        for c in ifs do
          if ok then ok ← isTrue c env (eval c env)
        if ok then
          (do let v ← eval elt env; standAt elt.pos; let _ ← yieldOut env v)
        again (.compLoop (.GeneratorExp elt gens scope pos) d it acc env)) := by
  unfold compTurn
  dsimp only
  rw [h, h1]
  rfl
theorem compTurn_gxm (it acc : Value) (env : Env) (h : gens[d]? = some ⟨tg, iter, ifs, 0⟩) (h1 : gens[d + 1]? = some ⟨tg1, iter1, ifs1, 0⟩) :
    compTurn (.GeneratorExp elt gens scope pos) d it acc env = (do
      standAt iter.pos
      match ← pyNext it with
      | none => pure (.done .next)
      | some v =>
        letOwnedTupleGo tg it v
        assign tg env v
        let mut ok := true
        for c in ifs do
          if ok then ok ← isTrue c env (eval c env)
        if ok then
          let x ← eval iter1 env
          standAt iter1.pos
          let x ← foldedSetIterable iter1 env x
          let _ ← runOwn (.compStart (.GeneratorExp elt gens scope pos) (d + 1) (← holding [x] (pyIter x)) acc env) env
        again (.compLoop (.GeneratorExp elt gens scope pos) d it acc env)) := by
  unfold compTurn
  dsimp only
  rw [h, h1]
  rfl
end
inductive Fs (E : Expr) (env : Env) : Nat → List Frame → Prop
  | base : Fs E env 0 []
  | step {d : Nat} {fs : List Frame} {k : Result → Sem Fin} {l : List Value} {it acc : Value} {p : Pos} : Fs E env d fs → Fs E env (d + 1) (.ret k none false l (.compLoop E d it acc env) p [] :: fs)
theorem Fs.quiet {E : Expr} {env : Env} : ∀ {d : Nat} {fs : List Frame}, Fs E env d fs → splitAtGen fs = none ∧ fs.any Frame.guarded = false
  | _, _, .base => ⟨rfl, rfl⟩
  | _, _, .step h => by
    obtain ⟨h1, h2⟩ := h.quiet
    exact ⟨by show (splitAtGen _).map _ = none; rw [h1]; rfl, by show (false || List.any _ _) = false; rw [h2]; rfl⟩
theorem Fs.over {A : Around} {elt : Expr} {gens : List Comprehension} {scope : Scope} {pos : Pos} {env : Env} : ∀ {d : Nat} {fs : List Frame}, Fs (.GeneratorExp elt gens scope pos) env d fs → ∀ it acc,
    A.over (.compLoop (.GeneratorExp elt gens scope pos) d it acc env) fs = A.deeper env ∧ A.over (.compStart (.GeneratorExp elt gens scope pos) d it acc env) fs = A.deeper env
  | _, _, .base => fun it acc => by
    constructor <;>
    first
    | rfl
    | (obtain ⟨hd, d, fr, gs, u⟩ := A; simp [Around.over, Around.deeper, marksOver, frameCount, unitsOf, envsOf, guardsOf, pushEnvs, pushGuards, Code.envs, Code.env?, Code.isFrame, Code.guards, Code.isGuard, Code.weight, Code.frames, Code.isCreation, Code.isCaller, Code.cUnits])
  | _, _, .step (d := d) (fs := fs) (it := it0) (acc := acc0) (k := k) (l := l) (p := p) h => fun it acc => by
    have ih := (h.over (A := A) it0 acc0).1
    have key : ∀ c : Code, c.isFrame = false → c.weight = 0 → c.cUnits = 0 → c.isGuard = false → A.over c (.ret k none false l (.compLoop (.GeneratorExp elt gens scope pos) d it0 acc0 env) p [] :: fs) = A.over (.compLoop (.GeneratorExp elt gens scope pos) d it0 acc0 env) fs := fun c h1 h2 h3 h4 => by
      unfold Around.over
      have e1 : (marksOver (.ret k none false l (.compLoop (.GeneratorExp elt gens scope pos) d it0 acc0 env) p [] :: fs) (A.handled, A.handled)).1 = (marksOver fs (A.handled, A.handled)).1 := rfl
      have e2 : c.envs = [] := by unfold Code.envs; rw [h1]; rfl
      have e3 : c.guards = [] := by unfold Code.guards; rw [h4]; rfl
      rw [e1, e2, e3, h2, h3]
      simp only [List.map_cons, Frame.where_, frameCount_cons, unitsOf_cons, envsOf_cons, guardsOf_cons, pushEnvs_eq, pushGuards_eq]
      congr 1
      all_goals first
        | omega
        | (cases A.frames <;> simp)
        | (cases A.guards <;> simp)
    exact ⟨(key _ rfl rfl rfl rfl).trans ih, (key _ rfl rfl rfl rfl).trans ih⟩

def gxRn (X' : Cx) (pins : List (Addr × Obj)) (Qd : Nat → Hp → Prop) : GenEnd := fun n _ r s1 => ((r = .ok (.ret .none) ∨ r = .ok .next) ∧ ∃ σ' H', Inv X' pins σ' H' s1 ∧ Qd n H') ∨ ∃ e, r = .error e ∧ False
def gxYn (X' : Cx) (pins : List (Addr × Obj)) (Cons : Nat → V → Hp → (Hp → Prop) → Prop) : Protocol := fun n _ v s kap =>
  ∃ y pn2 σ2 H4 Nx, RelV y v ∧ Inv X' (pins ++ pn2) σ2 H4 s ∧ Cons n y H4 Nx ∧ ∀ s'' H'', Inv X' (pins ++ pn2) σ2 H'' s'' → Nx H'' → kap (.send .none) s''
structure Cl where
  tg : Expr
  iter : Expr
  ifs : List Expr
  wi : TI
  g : TG
  tt : TT
  vs : List Nat
def Cl.c (c : Cl) : Comprehension := ⟨c.tg, c.iter, c.ifs, 0⟩
def GxIn (te : TE) (Cons : Nat → V → Hp → (Hp → Prop) → Prop) : List Cl → L2.St → Nat → Hp → (Nat → Hp → Prop) → Prop
  | [], σ, n, H, Nx => te σ H fun y H4 => ∃ k, n = k + 1 ∧ Cons k y H4 (Nx k)
  | c :: cs, σ, n, H, Nx => c.wi σ H fun J H1 => ∃ W : Nat → Nat → Nat → Hp → Prop, (∃ m, W 0 m n H1) ∧ ∀ i m n H, W i m n H → (J.stop i H ∧ Nx n H) ∨ (J.go i H ∧ ∃ Nx1 : Nat → Hp → Prop, (∀ n' H', Nx1 n' H' → ∃ m', m' < m ∧ W (i + 1) m' n' H') ∧
      ∀ x H', J.yld i H x H' → c.g x (wipe σ c.vs) H' fun σ2 H2 => wipe σ2 c.vs = wipe σ c.vs ∧ c.tt σ2 H2 fun b H3 => if b = true then GxIn te Cons cs σ2 n H3 Nx1 else Nx1 n H3)
def GxLp (te : TE) (Cons : Nat → V → Hp → (Hp → Prop) → Prop) (c : Cl) (cs : List Cl) (σ : L2.St) (J : It) (W : Nat → Nat → Nat → Hp → Prop) (Done : Nat → Hp → Prop) : Prop :=
  ∀ i m n H, W i m n H → (J.stop i H ∧ Done n H) ∨ (J.go i H ∧ ∃ Nx1 : Nat → Hp → Prop, (∀ n' H', Nx1 n' H' → ∃ m', m' < m ∧ W (i + 1) m' n' H') ∧
      ∀ x H', J.yld i H x H' → c.g x (wipe σ c.vs) H' fun σ2 H2 => wipe σ2 c.vs = wipe σ c.vs ∧ c.tt σ2 H2 fun b H3 => if b = true then GxIn te Cons cs σ2 n H3 Nx1 else Nx1 n H3)
def ClOk (X' : Cx) (c : Cl) : Prop := PG X' c.tg c.g ∧ PTs X' c.ifs c.tt
def ClIn (X' : Cx) (c : Cl) : Prop := ClOk X' c ∧ PI X' c.tg c.iter c.wi ∧ ∀ env x, foldedSetIterable c.iter env x = pure x
def SubVs : Cl → List Cl → Prop
  | _, [] => True
  | c, d :: ds => (∀ i ∈ d.vs, i ∈ c.vs) ∧ SubVs d ds
section
variable {X' : Cx} {elt : Expr} {scope : Scope} {pos : Pos} {te : TE} {Cons : Nat → V → Hp → (Hp → Prop) → Prop} {A : Around} {gens : List Comprehension} {R : GenEnd} {pinsY : List (Addr × Obj)}
theorem nest_start {n d : Nat} {s₀ s : Shared} {fs : List Frame} {Y : Protocol} {c : Cl} {J : It} {it : Addr} {fp : List Addr} {tn : Nat → Heap → Prop} (fr : Fs (.GeneratorExp elt gens scope pos) X'.env (d + 1) fs) (hg : gens[d + 1]? = some c.c) (T : Turn X'.prog X'.w X'.K c.tg J fp it tn) (st : tn 0 s.heap)
    (h : Seg (model X'.prog X'.w) A R Y n s₀ (.compLoop (.GeneratorExp elt gens scope pos) (d + 1) (.ref it) .none X'.env) ((model X'.prog X'.w).den (.compLoop (.GeneratorExp elt gens scope pos) (d + 1) (.ref it) .none X'.env)) fs s) :
    Seg (model X'.prog X'.w) A R Y n s₀ (.compStart (.GeneratorExp elt gens scope pos) (d + 1) (.ref it) .none X'.env) ((model X'.prog X'.w).den (.compStart (.GeneratorExp elt gens scope pos) (d + 1) (.ref it) .none X'.env)) fs s := by
  show Seg _ A _ _ _ s₀ _ ((compStart (.GeneratorExp elt gens scope pos) (d + 1) (.ref it) .none X'.env).onRaise (fun x => do noteFrame x X'.env; standAt theWindowsPlace)) fs s
  unfold compStart
  rw [show (clausesOf (.GeneratorExp elt gens scope pos))[d + 1]? = some c.c from hg, Sem.onRaise_eq_wrap]
  show Seg _ A _ _ _ s₀ _ ((ask >>= _).wrap _ _ _ _) fs s
  refine seg_bind_wrap (wpAny_askSetting ?_)
  split
  · exact seg_again rfl h
  · refine seg_bind_wrap (wpAny_rule ?_)
    show Seg _ A _ _ _ s₀ _ ((standAt c.iter.pos >>= _).wrap _ _ _ _) fs s
    exact seg_bind_wrap (wpAny_standAt (seg_bind_wrap (T.self _ 0 s _ _ st (seg_again rfl h))))
theorem nest_loop (hov : A.deeper X'.env = X'.A) (hc : X'.calm = true) (hxe : X'.xe = fun _ _ => False) (hco : X'.env.scope.isCoroutine = false) (pe : PE X' elt te) :
    ∀ (cs : List Cl) (c : Cl) (d : Nat) (fs : List Frame) (σ : L2.St) (J : It) (it : Addr) (fp : List Addr) (tn : Nat → Heap → Prop) (pins0 : List (Addr × Obj)) (W : Nat → Nat → Nat → Hp → Prop) (Done : Nat → Hp → Prop) (N : Nat),
      gens.drop d = c.c :: cs.map Cl.c → Fs (.GeneratorExp elt gens scope pos) X'.env d fs → Turn X'.prog X'.w X'.K c.tg J fp it tn →
      (∀ {σ' : L2.St} {H' : Hp} {s' : Shared}, Inv X' (pinsY ++ pins0) σ' H' s' → (∀ b ∈ fp, H' b = none) → ∀ b ∈ fp, FpOk X' (pinsY ++ pins0) H' b) → ClOk X' c → (∀ e ∈ cs, ClIn X' e) → SubVs c cs → GxLp te Cons c cs σ J W Done →
      (∀ n, n ≤ N → ∀ s₀ s H, Inv X' (pinsY ++ pins0) (wipe σ c.vs) H s → Done n H → Seg (model X'.prog X'.w) A R (gxYn X' pinsY Cons) n s₀ (.compLoop (.GeneratorExp elt gens scope pos) d (.ref it) .none X'.env) (leafOf (.ok .next)) fs s) →
      ∀ (n : Nat), n ≤ N → ∀ (m i : Nat) (s₀ s : Shared) (H : Hp), Inv X' (pinsY ++ pins0) (wipe σ c.vs) H s → tn i s.heap → (∀ b ∈ fp, H b = none) → W i m n H →
        Seg (model X'.prog X'.w) A R (gxYn X' pinsY Cons) n s₀ (.compLoop (.GeneratorExp elt gens scope pos) d (.ref it) .none X'.env) ((model X'.prog X'.w).den (.compLoop (.GeneratorExp elt gens scope pos) d (.ref it) .none X'.env)) fs s := by
  intro cs
  induction cs with
  | nil =>
    intro c d fs σ J it fp tn pins0 W Done N hd fr T stat ok oks sub lp K n
    have g0 : gens[d]? = some ⟨c.tg, c.iter, c.ifs, 0⟩ := by
      have := congrArg (fun l => l[0]?) hd
      simpa [Cl.c] using this
    have g1 : gens[d + 1]? = none := by
      have := congrArg (fun l => l[1]?) hd
      simpa using this
    have den : (model X'.prog X'.w).den (.compLoop (.GeneratorExp elt gens scope pos) d (.ref it) .none X'.env) = ((compTurn (.GeneratorExp elt gens scope pos) d (.ref it) .none X'.env).onRaise (if d = 0 then leaving X'.env else fun x => do noteFrame x X'.env; theTreesLotGoes x)) := by
      cases d <;> rfl
    rw [den]
    obtain ⟨pg, pt⟩ := ok
    induction n using Nat.strongRecOn with
    | ind n ihn =>
      intro hnN m
      induction m using Nat.strongRecOn with
      | ind m ihm =>
        intro i s₀ s H I st nf w
        rw [compTurn_gxn _ _ _ g0 g1, Sem.onRaise_eq_wrap]
        refine seg_bind_wrap (wpAny_standAt ?_)
        rcases lp i m n H w with ⟨stop, qq⟩ | ⟨go, Nx, hNx, step⟩
        · have td := T.done X' rfl rfl rfl hc i (pinsY ++ pins0) s _ H (fun _ _ => False) I (stat I nf) st stop
          refine seg_bind_wrap ?_
          rw [(fr.over _ _).1, hov]
          refine thnF td fun r s6 ⟨hr, I6⟩ => ?_
          subst hr
          exact K n hnN s₀ s6 H I6 qq
        · have ti := T.item X' rfl rfl rfl hc i (pinsY ++ pins0) s _ H (fun _ _ => False) I (stat I nf) st go
          refine seg_bind_wrap ?_
          rw [(fr.over _ _).1, hov]
          refine thnF ti fun r s6 ⟨u, hr, h6⟩ => ?_
          subst hr
          refine seg_bind_wrap ?_
          rw [(fr.over _ _).1, hov]
          refine thnF h6 fun _ s7 ⟨x, H7, I7, r7, y7, st7, n7⟩ => ?_
          have I7' := I7.pinned (stat I7 n7) (T.obj _ _ st7)
          have p1 := pg.run _ s7 _ H7 x u _ I7' r7 (step x H7 y7)
          rw [hxe] at p1
          refine seg_bind_wrap ?_
          rw [(fr.over _ _).1, hov]
          refine thnF p1 fun _ s8 ⟨σ8, H8, I8, hw8, q8⟩ => ?_
          have p2 := pt.run _ s8 σ8 H8 _ I8 q8
          rw [hxe] at p2
          refine seg_bind_wrap ?_
          rw [(fr.over _ _).1, hov]
          refine thnF p2 fun b s9 ⟨H9, I9, q9⟩ => ?_
          have fin : ∀ {n' : Nat} {s' : Shared} {H' : Hp}, Inv X' ((pinsY ++ pins0) ++ pinsAt fp s7.heap) σ8 H' s' → Nx n' H' → ∃ m', m' < m ∧ Inv X' (pinsY ++ pins0) (wipe σ c.vs) H' s' ∧ tn (i + 1) s'.heap ∧ (∀ b ∈ fp, H' b = none) ∧ W (i + 1) m' n' H' := fun {n' s' H'} I' nx => by
            obtain ⟨m', hm', w'⟩ := hNx n' H' nx
            have pin' : ∀ b ∈ fp, ∀ o, s7.heap.get? b = some o → s'.heap.get? b = some o ∧ H' b = none := fun b hb o e =>
              let z := I'.pin (b, o) (List.mem_append_right _ (List.mem_append_right _ (mem_pinsAt hb e)))
              ⟨z.1, z.2.1⟩
            have hl : (wipe σ c.vs).length = σ8.length := by rw [← hw8, wipe_length]
            refine ⟨m', hm', (I'.unpinned (pins := pinsY ++ pins0)).weak hl (fun j v e => ?_), T.keep _ _ _ st7 fun b hb o e => (pin' b hb o e).1, fun b hb => ?_, w'⟩
            · rw [← hw8] at e
              exact (wipe_some e).1
            · obtain ⟨o, e, _⟩ := T.obj _ _ st7 b hb
              exact (pin' b hb o e).2
          cases b with
          | false =>
            simp only [Bool.false_eq_true, if_false] at q9 ⊢
            obtain ⟨m', hm', I', st', nf', w'⟩ := fin I9 q9
            refine seg_again rfl ?_
            rw [den]
            exact ihm m' hm' (i + 1) s₀ _ _ I' st' nf' w'
          | true =>
            simp only [if_true] at q9 ⊢
            have hy : ∀ v, yieldOut X'.env v = yieldValue v := fun v => by simp only [yieldOut, hco, Bool.false_eq_true, if_false]
            simp only [hy]
            rw [Sem.bind_eq_wrap', Sem.bind_eq_wrap', Sem.wrap_wrap, Sem.wrap_wrap]
            have q9 : te σ8 H9 fun y H4 => ∃ k, n = k + 1 ∧ Cons k y H4 (Nx k) := q9
            have p3 := pe.run _ s9 σ8 H9 _ I9 q9
            rw [hxe] at p3
            refine seg_wrap ?_
            rw [(fr.over _ _).1, hov]
            refine thnF p3 fun z s10 ⟨yv, H10, I10, r10, k, ek, cons⟩ => ?_
            subst ek
            refine seg_at (seg_yield fr.quiet.1 rfl fr.quiet.2 ⟨yv, pins0 ++ pinsAt fp s7.heap, σ8, H10, Nx k, r10, by rw [← List.append_assoc]; exact I10, cons, fun s'' H'' I'' nx => ?_⟩)
            rw [← List.append_assoc] at I''
            obtain ⟨m', hm', I', st', nf', w'⟩ := fin I'' nx
            refine seg_again rfl ?_
            rw [den]
            exact ihn k (Nat.lt_succ_self k) (by omega) m' (i + 1) s'' s'' H'' I' st' nf' w'
  | cons c1 cs ihc =>
    intro c d fs σ J it fp tn pins0 W Done N hd fr T stat ok oks sub lp K n
    have g0 : gens[d]? = some ⟨c.tg, c.iter, c.ifs, 0⟩ := by
      have := congrArg (fun l => l[0]?) hd
      simpa [Cl.c] using this
    have g1 : gens[d + 1]? = some ⟨c1.tg, c1.iter, c1.ifs, 0⟩ := by
      have := congrArg (fun l => l[1]?) hd
      simpa [Cl.c] using this
    have hd1 : gens.drop (d + 1) = c1.c :: cs.map Cl.c := by
      have := congrArg List.tail hd
      simpa using this
    have den : (model X'.prog X'.w).den (.compLoop (.GeneratorExp elt gens scope pos) d (.ref it) .none X'.env) = ((compTurn (.GeneratorExp elt gens scope pos) d (.ref it) .none X'.env).onRaise (if d = 0 then leaving X'.env else fun x => do noteFrame x X'.env; theTreesLotGoes x)) := by
      cases d <;> rfl
    rw [den]
    obtain ⟨pg, pt⟩ := ok
    obtain ⟨ok1, pi1, hs1⟩ := oks c1 List.mem_cons_self
    induction n using Nat.strongRecOn with
    | ind n ihn =>
      intro hnN m
      induction m using Nat.strongRecOn with
      | ind m ihm =>
        intro i s₀ s H I st nf w
        rw [compTurn_gxm _ _ _ g0 g1, Sem.onRaise_eq_wrap]
        refine seg_bind_wrap (wpAny_standAt ?_)
        rcases lp i m n H w with ⟨stop, qq⟩ | ⟨go, Nx, hNx, step⟩
        · have td := T.done X' rfl rfl rfl hc i (pinsY ++ pins0) s _ H (fun _ _ => False) I (stat I nf) st stop
          refine seg_bind_wrap ?_
          rw [(fr.over _ _).1, hov]
          refine thnF td fun r s6 ⟨hr, I6⟩ => ?_
          subst hr
          exact K n hnN s₀ s6 H I6 qq
        · have ti := T.item X' rfl rfl rfl hc i (pinsY ++ pins0) s _ H (fun _ _ => False) I (stat I nf) st go
          refine seg_bind_wrap ?_
          rw [(fr.over _ _).1, hov]
          refine thnF ti fun r s6 ⟨u, hr, h6⟩ => ?_
          subst hr
          refine seg_bind_wrap ?_
          rw [(fr.over _ _).1, hov]
          refine thnF h6 fun _ s7 ⟨x, H7, I7, r7, y7, st7, n7⟩ => ?_
          have I7' := I7.pinned (stat I7 n7) (T.obj _ _ st7)
          have p1 := pg.run _ s7 _ H7 x u _ I7' r7 (step x H7 y7)
          rw [hxe] at p1
          refine seg_bind_wrap ?_
          rw [(fr.over _ _).1, hov]
          refine thnF p1 fun _ s8 ⟨σ8, H8, I8, hw8, q8⟩ => ?_
          have p2 := pt.run _ s8 σ8 H8 _ I8 q8
          rw [hxe] at p2
          refine seg_bind_wrap ?_
          rw [(fr.over _ _).1, hov]
          refine thnF p2 fun b s9 ⟨H9, I9, q9⟩ => ?_
          have fin : ∀ {n' : Nat} {σ9 : L2.St} {s' : Shared} {H' : Hp}, Inv X' ((pinsY ++ pins0) ++ pinsAt fp s7.heap) σ9 H' s' → (wipe σ c.vs).length = σ9.length → (∀ (j : Nat) v, (wipe σ c.vs)[j]? = some (some v) → σ9[j]? = some (some v)) → Nx n' H' → ∃ m', m' < m ∧ Inv X' (pinsY ++ pins0) (wipe σ c.vs) H' s' ∧ tn (i + 1) s'.heap ∧ (∀ b ∈ fp, H' b = none) ∧ W (i + 1) m' n' H' := fun {n' σ9 s' H'} I' hl hk nx => by
            obtain ⟨m', hm', w'⟩ := hNx n' H' nx
            have pin' : ∀ b ∈ fp, ∀ o, s7.heap.get? b = some o → s'.heap.get? b = some o ∧ H' b = none := fun b hb o e =>
              let z := I'.pin (b, o) (List.mem_append_right _ (List.mem_append_right _ (mem_pinsAt hb e)))
              ⟨z.1, z.2.1⟩
            refine ⟨m', hm', (I'.unpinned (pins := pinsY ++ pins0)).weak hl hk, T.keep _ _ _ st7 fun b hb o e => (pin' b hb o e).1, fun b hb => ?_, w'⟩
            obtain ⟨o, e, _⟩ := T.obj _ _ st7 b hb
            exact (pin' b hb o e).2
          have hl8 : (wipe σ c.vs).length = σ8.length := by rw [← hw8, wipe_length]
          have hk8 : ∀ (j : Nat) v, (wipe σ c.vs)[j]? = some (some v) → σ8[j]? = some (some v) := fun j v e => by
            rw [← hw8] at e
            exact (wipe_some e).1
          have hk9 : ∀ (j : Nat) v, (wipe σ c.vs)[j]? = some (some v) → (wipe σ8 c1.vs)[j]? = some (some v) := fun j v e => by
            rw [← hw8] at e
            obtain ⟨e1, e2⟩ := wipe_some e
            rw [wipe_out fun z => e2 (sub.1 j z)]
            exact e1
          cases b with
          | false =>
            simp only [Bool.false_eq_true, if_false] at q9 ⊢
            obtain ⟨m', hm', I', st', nf', w'⟩ := fin I9 hl8 hk8 q9
            refine seg_again rfl ?_
            rw [den]
            exact ihm m' hm' (i + 1) s₀ _ _ I' st' nf' w'
          | true =>
            simp only [if_true] at q9 ⊢
            unfold GxIn at q9
            have p3 := pi1.run _ s9 σ8 H9 _ I9 q9
            rw [hxe] at p3
            refine seg_bind_wrap ?_
            rw [(fr.over _ _).1, hov]
            refine thnF p3 fun xv s10 hx => ?_
            refine seg_bind_wrap (wpAny_standAt ?_)
            refine seg_bind_wrap (wpAny_of_eq (hs1 _ xv) ?_)
            refine seg_bind_wrap ?_
            rw [(fr.over _ _).1, hov]
            refine wpAny_holding (thnF hx fun itv s11 h11 => ?_)
            obtain ⟨it1, fp1, tn1, J1, H11, e1, I11, T1, st11, f11, W1, ⟨m1, w1⟩, turn1⟩ := h11
            subst e1
            refine seg_call fun p => ?_
            refine nest_start (c := c1) (.step fr) (by rw [g1]; rfl) T1 st11 ?_
            have I11' : Inv X' (pinsY ++ (pins0 ++ pinsAt fp s7.heap)) (wipe σ8 c1.vs) H11 s11 := by
              rw [← List.append_assoc]
              exact I11.weak (wipe_length _ _) (fun j v e => (wipe_some e).1)
            refine ihc c1 (d + 1) _ σ8 J1 it1 fp1 tn1 (pins0 ++ pinsAt fp s7.heap) W1 Nx n hd1 (.step fr) T1 (fun {σ' H' s'} _ hn b hb => ⟨hn b hb, by have q := (f11 b hb).2; rw [List.append_assoc pinsY] at q; exact q⟩) ok1 (fun e he => oks e (List.mem_cons_of_mem _ he)) sub.2 turn1 (fun n' hn' s₀' s' H' I' nx => ?_) n (Nat.le_refl n) m1 0 s₀ s11 H11 I11' st11 (fun b hb => (f11 b hb).1) w1
            refine seg_leaf (.ok .next) ?_
            rw [← List.append_assoc] at I'
            obtain ⟨m', hm', I2, st', nf', w'⟩ := fin I' (hl8.trans (wipe_length σ8 c1.vs).symm) hk9 nx
            refine seg_again rfl ?_
            rw [den]
            by_cases hlt : n' < n
            · exact ihn n' hlt (by omega) m' (i + 1) s₀' s' H' I2 st' nf' w'
            · obtain rfl : n' = n := by omega
              exact ihm m' hm' (i + 1) s₀' s' H' I2 st' nf' w'
theorem gx_beginN {n : Nat} {s₀ s : Shared} {Y : Protocol} {c : Cl} {cs : List Cl} {J : It} {it : Addr} {fp : List Addr} {tn : Nat → Heap → Prop} (T : Turn X'.prog X'.w X'.K c.tg J fp it tn) (st : tn 0 s.heap)
    (h : Seg (model X'.prog X'.w) A R Y n s₀ (.compLoop (.GeneratorExp elt (c.c :: cs.map Cl.c) scope pos) 0 (.ref it) .none X'.env) ((model X'.prog X'.w).den (.compLoop (.GeneratorExp elt (c.c :: cs.map Cl.c) scope pos) 0 (.ref it) .none X'.env)) [] s) :
    Seg (model X'.prog X'.w) A R Y n s₀ (.compStart (.GeneratorExp elt (c.c :: cs.map Cl.c) scope pos) 0 (.ref it) .none X'.env) ((model X'.prog X'.w).den (.compStart (.GeneratorExp elt (c.c :: cs.map Cl.c) scope pos) 0 (.ref it) .none X'.env)) [] s := by
  show Seg _ A _ _ _ s₀ _ ((compStart (.GeneratorExp elt (c.c :: cs.map Cl.c) scope pos) 0 (.ref it) .none X'.env).onRaise (leaving X'.env)) [] s
  unfold compStart
  rw [Sem.onRaise_eq_wrap]
  show Seg _ A _ _ _ s₀ _ ((ask >>= _).wrap _ _ _ _) [] s
  refine seg_bind_wrap (wpAny_askSetting ?_)
  split
  · exact seg_again rfl h
  · refine seg_bind_wrap (wpAny_rule ?_)
    show Seg _ A _ _ _ s₀ _ ((standAt c.iter.pos >>= _).wrap _ _ _ _) [] s
    exact seg_bind_wrap (wpAny_standAt (seg_bind_wrap (T.self _ 0 s _ _ st (seg_again rfl h))))
end
end Mini
end
section
namespace Mini
open PySem PySem.Spec PyProof.Rows L2 GenW GxR
section
variable {elt target iter : Expr} {ifs : List Expr} {rest : List Comprehension} {scope : Scope} {pos : Pos} {env : Env}
theorem gxn_e1 : firstIter (⟨target, iter, ifs, 0⟩ :: rest) env = eval iter env := rfl
theorem gxn_e2 : firstAsync (⟨target, iter, ifs, 0⟩ :: rest) = false := rfl
theorem gxn_e3 : firstIterPos (⟨target, iter, ifs, 0⟩ :: rest) pos = iter.pos := rfl
theorem gxn_e4 : genexprIterable false (clausesOf (.GeneratorExp elt (⟨target, iter, ifs, 0⟩ :: rest) scope pos)) env = genFold iter env := by
  cases iter <;> rfl
end
theorem eval_gxn {elt target iter : Expr} {ifs : List Expr} {rest : List Comprehension} {scope : Scope} {pos : Pos} {env : Env} (hco : scope.isCoroutine = false) :
    eval (.GeneratorExp elt (⟨target, iter, ifs, 0⟩ :: rest) scope pos) env = (do
      let x ← eval iter env
      standAt iter.pos
      let x ← genFold iter env x
      let it ← holding [x] (pyIter x)
      enterFrame
      let cl ← closureFor scope env
      let code ← genexprCode env pos (env.qual ++ "<genexpr>") scope
      let bi ← builtinsFor env.globals env.builtins
      let cenv ← newFunctionEnv scope env.globals cl [(".0", it)] (env.qual ++ "<genexpr>.") none code none bi
      newGenerator (.compStart (.GeneratorExp elt (⟨target, iter, ifs, 0⟩ :: rest) scope pos) 0 it .none cenv) "<genexpr>" (env.qual ++ "<genexpr>")) := by
  rw [arm_eval_GeneratorExp]
  simp only [hco, Bool.false_eq_true, if_false, gxn_e1, gxn_e2, gxn_e3, gxn_e4]
variable [Tabs]
def GxMadeN (X : Cx) (pins : List (Addr × Obj)) (σ : L2.St) (elt tg iter : Expr) (ifs : List Expr) (rest : List Comprehension) (scope : Scope) (pos : Pos) (vs : List Nat) (J : It) (H1 : Hp) (u : Value) (s6 : Shared) : Prop :=
  ∃ (it : Addr) (fp : List Addr) (tn : Nat → Heap → Prop) (s3 : Shared) (H3 : Hp) (cl : List (Str × Addr)) (C : Addr) (code : Value) (a gn : Nat) (nm qn : Value),
    u = .ref a ∧ Turn X.prog X.w X.K tg J fp it tn ∧ tn 0 s6.heap ∧ Inv X pins σ H3 s3 ∧ (∀ b ∈ fp, FpOk X pins H3 b) ∧ TabbedI H1 H3 ∧ a ∉ fp ∧ (∀ A', ∃ cc Q, code = .ref cc ∧ CK (gxC X A' s3 H3 scope (gxEnv scope cl C code builtinsNs X.env) fp) cc Q) ∧
    s6.gens[gn]? = some (.fresh (.compStart (.GeneratorExp elt (⟨tg, iter, ifs, 0⟩ :: rest) scope pos) 0 (.ref it) .none (gxEnv scope cl C code builtinsNs X.env))) ∧
    ∀ A', A'.handled = none → A'.frames = some (gxEnv scope cl C code builtinsNs X.env :: X.stack) →
      Inv (gxC X A' s3 H3 scope (gxEnv scope cl C code builtinsNs X.env) fp) [(a, { cls := .type "generator", data := .fields #[.int gn 0, nm, qn] })] (wipe σ vs) H3 s6
section
variable {X : Cx} {pins : List (Addr × Obj)} {σ : L2.St} {H : Hp} {s : Shared} {elt tg iter : Expr} {ifs : List Expr} {rest : List Comprehension} {scope : Scope} {pos : Pos} {wi : TI}
theorem gx_makeN {c P : Addr} {own : List (Str × Nat)} {Q' : Value → Shared → Prop} {R : It → Hp → Prop} (ck : CK X c P) (hcode : X.env.code = .ref c) (hroom : X.A.depth < recursionLimit) (hco : scope.isCoroutine = false)
    (h0 : scope.names.lookup (".0" : Str) = some NameKind.local) (ok : BlkOk X.N X.env.scope scope own) (hN : X.N.Nodup) (hi : PI X tg iter wi) (hs : ∀ x, genFold iter X.env x = pure x) (I : Inv X pins σ H s)
    (h : wi σ H fun J H1 => TabsOk H1 ∧ R J H1) (hQ : ∀ J H1 u s6, R J H1 → GxMadeN X pins σ elt tg iter ifs rest scope pos (own.map (·.2)) J H1 u s6 → Q' u s6) :
    wpAny (model X.prog X.w) X.A (eval (.GeneratorExp elt (⟨tg, iter, ifs, 0⟩ :: rest) scope pos) X.env) Q' X.xe s := by
  have hfree : ∀ y ∈ scope.names, y.2 = .free → ∃ c, X.env.cells.lookup y.1 = some c := fun y hy e => by
    rcases ok.free y hy e with k | k
    · exact I.ok.has _ (.inl k)
    · exact I.ok.has _ (.inr k)
  rw [eval_gxn hco, closure_ok hfree]
  refine wpAny_bind (thn (hi.run pins s σ H _ I h) fun xv s1 hx => ?_)
  refine wpAny_bind (wpAny_standAt ?_)
  refine wpAny_bind (wpAny_of_eq (hs xv) ?_)
  refine wpAny_bind (wpAny_holding (thn hx fun itv s2 h2 => ?_))
  obtain ⟨it, fp, tn, J, H2, e, I2, T, st2, f2, tb, q⟩ := h2
  subst e
  refine wpAny_bind (wpAny_enterFrame I2.nolimit hroom ?_)
  refine wpAny_bind (wpAny_pure ?_)
  obtain ⟨cd, rch, bmA⟩ := ck pins σ H2 s2 I2
  have tI := rch.tab tb
  obtain ⟨ps, hP, ht⟩ := tI 0
  have hPs : s2.heap.get? P = some { cls := .none, data := .fields ps } := I2.hok P _ hP
  have fP : ∀ b ∈ fp, b ≠ P := fun b hb z => by
    have q := (f2 b hb).1
    rw [z, hP] at q; cases q
  have cont : ∀ (cc Q : Addr) (o : Obj) (u : HO) (s3 : Shared) (H3 : Hp), Inv X pins σ H3 s3 → TabbedI H2 H3 → (∀ b ∈ fp, H3 b = none) → H3 cc = some (.frz o u) → CodeOb o cc Q → Reach H3 Q → X.base.BuiltinsAt X.mg Q → (∀ b o, b ≠ P → s2.heap.get? b = some o → s3.heap.get? b = some o) →
      wpAny (model X.prog X.w) X.A (do
        let bi ← builtinsFor X.env.globals X.env.builtins
        let cenv ← newFunctionEnv scope X.env.globals (cloFrom X.env.cells scope.names []) [(".0", .ref it)] (X.env.qual ++ "<genexpr>.") none (.ref cc) none bi
        newGenerator (.compStart (.GeneratorExp elt (⟨tg, iter, ifs, 0⟩ :: rest) scope pos) 0 (.ref it) .none cenv) "<genexpr>" (X.env.qual ++ "<genexpr>")) Q' X.xe s3 := by
    intro cc Q o u s3 H3 I3 hT hfp hcc co hrq hbq k3
    obtain ⟨bm, ob, e1, e2, e3, e4, e5, e6, e7, e8⟩ := hbq
    refine wpAny_bind (wpAny_builtinsFor (m := X.mg) (by rw [I3.ok.glob]; exact I3.mod.glob.keeps I3.bk) e1 e2 (I3.bk _ _ e5) e6 e7 e8 ?_)
    have f3 : ∀ b ∈ fp, FpOk X pins H3 b ∧ b < s3.heap.objs.size := fun b hb => by
      obtain ⟨o, e, _⟩ := T.obj _ _ st2 b hb
      exact ⟨⟨hfp b hb, (f2 b hb).2⟩, Heap.lt_size (k3 b o (fP b hb) e)⟩
    refine wpAny_bind (newEnv_gx h0 ok.kind fun h' tk hns hsb => ?_)
    simp only [newGenerator, newFields]
    refine wpAny_bind (wpAny_newGen (wpAny_bind (wpAny_mkText (wpAny_bind (wpAny_mkText (wpAny_newObj_type ?_ (by size_fits)))))))
    have k4 : ∀ b o, s3.heap.get? b = some o → h'.get? b = some o := fun b o e => hsb.extBut b o (Nat.ne_of_lt (Heap.lt_size e)) (pushCells_keeps _ _ _ _ (Heap.get?_push_of_some _ e))
    refine hQ J H2 _ _ q ⟨it, fp, tn, s3, H3, _, _, .ref cc, h'.objs.size, s3.gens.size, .str "<genexpr>" tk, .str (X.env.qual ++ "<genexpr>") (tk + 1), rfl, T, T.keep _ _ _ st2 fun b hb o e => Heap.get?_push_of_some _ (k4 b o (k3 b o (fP b hb) e)), I3, fun b hb => (f3 b hb).1, hT, fun hm => ?_, fun A' => ⟨cc, Q, rfl, ck_gx hcc co hrq ⟨bm, ob, e1, e2, e3, e4, e5, e6, e7, e8⟩⟩, Array.getElem?_push_size .., fun A' hd hfr => ?_⟩
    · obtain ⟨o, e, _⟩ := T.obj _ _ st2 _ hm
      exact absurd (Heap.lt_size (k4 _ o (k3 _ o (fP _ hm) e))) (Nat.lt_irrefl _)
    · have J0 := gx_start (A := A') (tk := tk) I3 ok hN f3 hd hfr hns hsb
      have J1 := Inv.regen J0 (G := s3.gens.push (.fresh (.compStart (.GeneratorExp elt (⟨tg, iter, ifs, 0⟩ :: rest) scope pos) 0 (.ref it) .none (gxEnv scope (cellsFrom (s3.heap.objs.size + 1) scope.names (cloFrom X.env.cells scope.names [])) s3.heap.objs.size (.ref cc) builtinsNs X.env)))) (AllBare.push J0.bare rfl)
      refine (J1.kept (t' := _) fun b u e => Heap.get?_push_of_some _ e).pins_of fun p hp => ?_
      rw [List.mem_singleton.mp hp]
      exact ⟨Heap.get?_push_size _ rfl, J0.hok.fresh (Nat.le_refl _), Nat.ne_of_gt J0.lt, J0.nofs (Nat.le_refl _), fun v z => by cases z⟩
  cases hf : codeAmong pos ps.toList with
  | none =>
    refine wpAny_bind (wpAny_genexprCodeX hcode (cd.code hPs ht) (cd.tab hPs) hf fun c' h' tk hx hge hlt hco' _ htab' hnew => ?_)
    obtain ⟨o1, vs, f1, tf, fl, tg', inF, tx, tt, op, _, _, _, _, _, _, _, _, _, htr, _⟩ := hco'
    obtain ⟨Q, hqge, hq1, hq2⟩ := hnew
    obtain ⟨o, ho, co⟩ := codeOb_of (PySem.W.CodeHd.of hq1 hq2)
    have ncq : c' ≠ Q := by
      obtain ⟨_, _, _, _, _, _, _, _, _, _, _, _, _, _, _, _, n⟩ := id co
      exact n
    have nC : H2 c' = none := I2.hok.fresh hge
    have nQ : H2 Q = none := I2.hok.fresh hqge
    have I3 := inv_code (t' := tk) (more := #[rawInt pos.line, rawInt pos.col, .ref c']) I2 hP (fun b o hb e => hx b o hb e) htab'.2 hge hqge ncq ho hq2.2
    have hTb := code_tabs (pos := pos) (o := o) tb hP nC nQ ncq co
    have at3 : ∀ b, b ≠ P → b ≠ c' → b ≠ Q → codeH H2 P (ps ++ #[rawInt pos.line, rawInt pos.col, .ref c']) c' o Q b = H2 b := fun b h1 h2 h3 => by unfold codeH; rw [upd_ne h3, upd_ne h2, upd_ne h1]
    have nPc : P ≠ c' := ne_of_none hP nC
    have nPq : P ≠ Q := ne_of_none hP nQ
    have atC : codeH H2 P (ps ++ #[rawInt pos.line, rawInt pos.col, .ref c']) c' o Q c' = some (.frz o (.ext fun _ => True)) := by unfold codeH; rw [upd_ne ncq, upd_same]
    have atP : codeH H2 P (ps ++ #[rawInt pos.line, rawInt pos.col, .ref c']) c' o Q P = some (.tbl (ps ++ #[rawInt pos.line, rawInt pos.col, .ref c'])) := by unfold codeH; rw [upd_ne nPq, upd_ne nPc, upd_same]
    have eL : (ps ++ #[rawInt pos.line, rawInt pos.col, Value.ref c']).toList = ps.toList ++ [rawInt pos.line, rawInt pos.col, .ref c'] := by simp
    have rP : Reach (codeH H2 P (ps ++ #[rawInt pos.line, rawInt pos.col, .ref c']) c' o Q) P := rch.mono (fun b qs e => by
      by_cases hb : b = P
      · subst hb
        rw [hP] at e
        cases e
        exact ⟨_, atP⟩
      · exact ⟨#[], by rw [at3 b hb (ne_of_none e nC) (ne_of_none e nQ), e]; simp⟩) fun b o u e => hTb.2 b _ e fun q z => by cases z
    have rQ : Reach (codeH H2 P (ps ++ #[rawInt pos.line, rawInt pos.col, .ref c']) c' o Q) Q := .step (pos := pos) rP atP (by rw [eL]; exact PySem.codeAmong_snoc _ ht hf) atC co
    refine cont c' Q o _ _ _ I3 hTb (fun b hb => ?_) atC co rQ ?_ fun b o hb e => hx b o hb e
    · obtain ⟨o', e', _⟩ := T.obj _ _ st2 b hb
      have hlt := Heap.lt_size e'
      rw [at3 b (fP b hb) (fun z => Nat.lt_irrefl _ (Nat.lt_of_lt_of_le hlt (z ▸ hge))) (fun z => Nat.lt_irrefl _ (Nat.lt_of_lt_of_le hlt (z ▸ hqge)))]
      exact (f2 b hb).1
    · obtain ⟨bm, ob, e1, e2, e3, e4, e5, e6, e7, e8⟩ := bmA
      exact ⟨bm, ob, e1, e2, e3, fun z => Nat.lt_irrefl _ (Nat.lt_of_lt_of_le (Heap.lt_size (I2.bk _ _ e5)) (z ▸ hqge)), e5, e6, e7, e8⟩
  | some cv =>
    obtain ⟨ps', hP', _, hall⟩ := tI 1
    rw [hP] at hP'
    cases hP'
    obtain ⟨cc, Q, o, u, rfl, hcc, co, ⟨qs, hQ', _⟩⟩ := hall pos cv hf
    refine wpAny_bind (wpAny_genexprCode_hit hcode (cd.code hPs ht) hf ?_)
    refine cont cc Q o u s2 H2 I2 ⟨tb, fun b u e _ => e⟩ (fun b hb => (f2 b hb).1) hcc co (.step rch hP hf hcc co) ?_ fun b o _ e => e
    obtain ⟨bm, ob, e1, e2, e3, e4, e5, e6, e7, e8⟩ := bmA
    refine ⟨bm, ob, e1, e2, e3, fun z => ?_, e5, e6, e7, e8⟩
    have h1 := I2.hok Q _ hQ'
    have h2 := I2.bk _ _ e5
    rw [z] at h2
    have h1 : s2.heap.get? Q = some { cls := .none, data := .fields qs } := h1
    rw [h1] at h2
    cases h2
    cases e6
end


def GxStN (X' : Cx) (pins : List (Addr × Obj)) (Qd : Nat → Hp → Prop) (Cons : Nat → V → Hp → (Hp → Prop) → Prop) (B : Around) (gn n : Nat) (s : Shared) : Prop :=
  ∃ pn2 σ2 H' gs, Inv X' (pins ++ pn2) σ2 H' s ∧ s.gens[gn]? = some gs ∧ gs.Goes (model X'.prog X'.w) B (gxRn X' pins Qd) (gxYn X' pins Cons) n (.send .none) (s.setGen gn .running)
section
variable {X' : Cx} {Cons : Nat → V → Hp → (Hp → Prop) → Prop} {Qd : Nat → Hp → Prop} {B : Around} {a gn n : Nat} {nm qn : Value} {s : Shared}
end
structure GxOkN (X : Cx) (c P : Addr) (elt : Expr) (c0 : Cl) (cs : List Cl) (scope : Scope) (own : List (Str × Nat)) (te : TE) : Prop where
  ck : CK X c P
  code : X.env.code = .ref c
  hd : X.A.handled = none
  room : X.A.depth < recursionLimit
  calm : X.calm = true
  co : scope.isCoroutine = false
  dot : scope.names.lookup (".0" : Str) = some NameKind.local
  ok : BlkOk X.N X.env.scope scope own
  nd : X.N.Nodup
  it : PI X c0.tg c0.iter c0.wi
  fold : ∀ x, genFold c0.iter X.env x = pure x
  own : c0.vs = own.map (·.2)
  sub : SubVs c0 cs
  cls : ∀ (A' : Around), Near X A' → ∀ (s : Shared) (H : Hp) (C : Addr) (code : Value) (cl : List (Str × Addr)) (fp : List Addr) (cc Q : Addr), code = .ref cc → CK (gxC X A' s H scope (gxEnv scope cl C code builtinsNs X.env) fp) cc Q →
    ClOk (gxC X A' s H scope (gxEnv scope cl C code builtinsNs X.env) fp) c0 ∧ ∀ e ∈ cs, ClIn (gxC X A' s H scope (gxEnv scope cl C code builtinsNs X.env) fp) e
  elt : ∀ (A' : Around), Near X A' → ∀ (s : Shared) (H : Hp) (C : Addr) (code : Value) (cl : List (Str × Addr)) (fp : List Addr) (cc Q : Addr), code = .ref cc → CK (gxC X A' s H scope (gxEnv scope cl C code builtinsNs X.env) fp) cc Q → PE (gxC X A' s H scope (gxEnv scope cl C code builtinsNs X.env) fp) elt te
section
variable {X : Cx} {elt : Expr} {c0 : Cl} {cs : List Cl} {scope : Scope} {gpos p pos : Pos} {te : TE}
theorem gx_freshN {c P : Addr} {own : List (Str × Nat)} (G : GxOkN X c P elt c0 cs scope own te) {σ : L2.St} {J : It} {s3 s6 : Shared} {H3 : Hp} {cl : List (Str × Addr)} {C : Addr} {code : Value} {a gn : Nat} {nm qn : Value} {it : Addr} {fp : List Addr} {tn : Nat → Heap → Prop}
    {Cons : Nat → V → Hp → (Hp → Prop) → Prop} {Qd : Nat → Hp → Prop} {W : Nat → Nat → Nat → Hp → Prop} {B : Around} {m n : Nat} {H6 : Hp} (T : Turn X.prog X.w X.K c0.tg J fp it tn) (st : tn 0 s6.heap) (haf : a ∉ fp) (f6 : ∀ b ∈ fp, H6 b = none)
    (hgs : s6.gens[gn]? = some (.fresh (.compStart (.GeneratorExp elt (c0.c :: cs.map Cl.c) scope gpos) 0 (.ref it) .none (gxEnv scope cl C code builtinsNs X.env))))
    (I : Inv (gxC X (B.deeper (gxEnv scope cl C code builtinsNs X.env)) s3 H3 scope (gxEnv scope cl C code builtinsNs X.env) fp) [(a, { cls := .type "generator", data := .fields #[.int gn 0, nm, qn] })] (wipe σ (own.map (·.2))) H6 s6)
    (hn : Near X (B.deeper (gxEnv scope cl C code builtinsNs X.env))) (hck : ∀ A', ∃ cc Q, code = .ref cc ∧ CK (gxC X A' s3 H3 scope (gxEnv scope cl C code builtinsNs X.env) fp) cc Q) (w : W 0 m n H6) (turn : GxLp te Cons c0 cs σ J W Qd) :
    GxStN (gxC X (B.deeper (gxEnv scope cl C code builtinsNs X.env)) s3 H3 scope (gxEnv scope cl C code builtinsNs X.env) fp) [(a, { cls := .type "generator", data := .fields #[.int gn 0, nm, qn] })] Qd Cons B gn n s6 := by
  obtain ⟨cc, Q, hcc, hq⟩ := hck (B.deeper (gxEnv scope cl C code builtinsNs X.env))
  refine ⟨[], wipe σ (own.map (·.2)), H6, _, by rw [List.append_nil]; exact I, hgs, rfl, ?_⟩
  have Iw : Inv (gxC X (B.deeper (gxEnv scope cl C code builtinsNs X.env)) s3 H3 scope (gxEnv scope cl C code builtinsNs X.env) fp) ([(a, { cls := .type "generator", data := .fields #[.int gn 0, nm, qn] })] ++ []) (wipe σ c0.vs) H6 s6 := by
    rw [G.own, List.append_nil]
    exact I
  have Iw2 := Inv.regen Iw (G := (s6.setGen gn .running).gens) (allBare_setGen Iw.bare rfl)
  obtain ⟨ok0, oks⟩ := G.cls _ hn s3 H3 C code cl fp cc Q hcc hq
  refine gx_beginN (X' := gxC X (B.deeper (gxEnv scope cl C code builtinsNs X.env)) s3 H3 scope (gxEnv scope cl C code builtinsNs X.env) fp) (c := c0) T st ?_
  exact nest_loop (X' := gxC X (B.deeper (gxEnv scope cl C code builtinsNs X.env)) s3 H3 scope (gxEnv scope cl C code builtinsNs X.env) fp) (A := B) (gens := c0.c :: cs.map Cl.c) (scope := scope) (pos := gpos) (te := te) (Cons := Cons) (R := gxRn (gxC X (B.deeper (gxEnv scope cl C code builtinsNs X.env)) s3 H3 scope (gxEnv scope cl C code builtinsNs X.env) fp) [(a, { cls := .type "generator", data := .fields #[.int gn 0, nm, qn] })] Qd) (pinsY := [(a, { cls := .type "generator", data := .fields #[.int gn 0, nm, qn] })])
    rfl G.calm rfl G.co (G.elt _ hn s3 H3 C code cl fp cc Q hcc hq) cs c0 0 [] σ J it fp tn [] W Qd n rfl .base T (fun {σ' H' s'} I' hn b hb =>
      ⟨hn b hb, (I'.ok.exf b hb).1, I'.ok.exfs b hb, .inl hb, fun x c e => (I'.ok.exf b hb).2 x c e, fun p hp z => by
        have hp : p ∈ [(a, ({ cls := .type "generator", data := .fields #[.int gn 0, nm, qn] } : Obj))] := by simpa using hp
        rw [List.mem_singleton.mp hp] at z
        exact haf ((show a = b from z) ▸ hb)⟩) ok0 oks G.sub turn (fun n' _ s₀ s H I' q => seg_end (.ok .next) (.inl ⟨.inr rfl, _, H, I', q⟩)) n (Nat.le_refl n) m 0 _ _ H6 Iw2 st f6 w
end
end Mini
end
section
namespace Mini
open PySem PySem.Spec PyProof.Rows L2 GenW GxR
variable [Tabs]
def tBoolN (k : Bool) (c0 : Cl) (cs : List Cl) (te : TE) : TE := fun σ H Q => c0.wi σ H fun J H1 => TabsOk H1 ∧ ∀ H3, TabbedI H1 H3 → ∃ (n : Nat) (W : Nat → Nat → Nat → Hp → Prop), (∃ m, W 0 m n H3) ∧
  GxLp te (fun _ => consB k (Q (.bl (!k)))) c0 cs σ J W fun _ => Q (.bl k)
section
variable {X : Cx} {elt : Expr} {c0 : Cl} {cs : List Cl} {scope : Scope} {gpos p pos : Pos} {te : TE}
theorem pe_allN {c P : Addr} {own : List (Str × Nat)} (G : GxOkN X c P elt c0 cs scope own te) (hg : Gl X "all") (hm : X.mg "all" = none) (hb : bootBuiltins "all" = some (.builtin "all"))
    (he : starEach [.GeneratorExp elt (c0.c :: cs.map Cl.c) scope gpos] X.env = (false, eval (.GeneratorExp elt (c0.c :: cs.map Cl.c) scope gpos) X.env) :: starEach [] X.env := by rfl) :
    PE X (.Call (.Name "all" p) [.GeneratorExp elt (c0.c :: cs.map Cl.c) scope gpos] [] pos) (tBoolN true c0 cs te) := by
  refine ⟨fun pins s σ H Q I h => ?_⟩
  refine wpAny_Call_Name_kw (ld_blt I hg hm hb ?_)
  refine PyProof.Rows.callWith_builtin1 ?_ he (by rfl)
  rw [he]
  show wpAny _ _ (spliced ((false, eval (.GeneratorExp elt (⟨c0.tg, c0.iter, c0.ifs, 0⟩ :: cs.map Cl.c) scope gpos) X.env) :: backTo pos (starEach [] X.env))) _ _ s
  refine Calls.spliced_cons (gx_makeN G.ck G.code G.room G.co G.dot G.ok G.nd G.it G.fold I h fun J H1 u s6 hR hG => ?_)
  refine Calls.spliced_nil ?_
  obtain ⟨it, fp, tn, s3, H3, cl, C, code, a, gn, nm, qn, rfl, T, st, I3, f3, hT, haf, hck, hgs, hA⟩ := hG
  obtain ⟨n0, W, ⟨m0, w0⟩, turn⟩ := hR H3 hT
  have I6 := hA (X.A.in1.in1.deeper (gxEnv scope cl C code builtinsNs X.env)) G.hd (Around.frames_deeper I3.ok.frames)
  have hgen : s6.heap.IsGen a gn := ⟨_, nm, qn, (I6.pin (a, _) (List.mem_append_right _ (List.mem_singleton.mpr rfl))).1, rfl, rfl, rfl⟩
  refine call_function_tree F.kind_all F.plain_all F.entry_all (F.args_all1 _) ?_
  unfold Builtin.«all»
  refine wpAny_bind (m := PySem.oneArg "all" _) (wpAny_pure ?_)
  refine wpAny_bind (wpAny_pyIter_gen hgen ?_)
  refine wpAny_pure ⟨plainId_quiet F.plain_all_loop _, ?_⟩
  exact gx_all (X' := gxC X (X.A.in1.in1.deeper (gxEnv scope cl C code builtinsNs X.env)) s3 H3 scope (gxEnv scope cl C code builtinsNs X.env) fp) (A := X.A) (Qo := Q (.bl (!true))) (Qd := Q (.bl true)) G.hd G.room (fun s' pn σ' H' J' q => ⟨.bl true, H', gx_back I3 f3 J', rfl, q⟩) (fun s' pn σ' H' J' q => ⟨.bl (!true), H', gx_back I3 f3 J', rfl, q⟩)
    n0 s6 (gx_freshN G T st haf (fun b hb => (f3 b hb).1) hgs I6 ⟨G.hd, rfl, Nat.le_of_lt (by show X.A.units + 1 + 1 + 3 < _; omega)⟩ hck w0 turn)
end
section
variable {X' : Cx} {Qd : Nat → Hp → Prop} {a gn : Nat} {nm qn : Value} {S : Addr} {A : Around} {R : Result → Shared → Prop} {T : Nat → Int}
end
section
variable {X : Cx} {elt : Expr} {c0 : Cl} {cs : List Cl} {scope : Scope} {gpos p pos : Pos} {te : TE}
end
end Mini
end
section
namespace Mini
open PySem L2
variable [Tabs]
structure XCl where
  w : XW
  vs : List Nat
  g : XG
  c : XB
abbrev NR (T : Type) := Option (Bool × List T × T × Sto)
abbrev NA (T : Type) := T → D → Sto → Option (Bool × T × Sto)
section
variable {T : Type}
def nL (one : D → T → Sto → NR T) : List D → T → Sto → NR T
  | [], t, S => some (false, [], t, S)
  | d :: ds, t, S => match one d t S with
    | none => none
    | some (true, ts, t1, S1) => some (true, ts, t1, S1)
    | some (false, ts, t1, S1) => match nL one ds t1 S1 with
      | none => none
      | some (o, us, t2, S2) => some (o, ts ++ us, t2, S2)
def nV (one : D → T → Sto → NR T) (l : Nat) : Nat → Nat → T → Sto → NR T
  | 0, _, _, _ => none
  | k + 1, i, t, S => match lstAt S l with
    | none => none
    | some ds => match ds[i]? with
      | none => some (false, [], t, S)
      | some d => match one d t S with
        | none => none
        | some (true, ts, t1, S1) => some (true, ts, t1, S1)
        | some (false, ts, t1, S1) => match nV one l k (i + 1) t1 S1 with
          | none => none
          | some (o, us, t2, S2) => some (o, ts ++ us, t2, S2)
def nOne (g : XG) (c : XB) (inn : EnvD → T → Sto → NR T) (e : EnvD) (d : D) (t : T) (S : Sto) : NR T := match g d e with
  | none => none
  | some e1 => match c e1 S with
    | none => none
    | some (false, S1) => some (false, [], t, S1)
    | some (true, S1) => inn e1 t S1
def nW (x : XCl) (one : EnvD → D → T → Sto → NR T) (wk : Walk) (e : EnvD) (t : T) (S : Sto) : NR T := match wk with
  | .fix ds => nL (one (wipeD e x.vs)) ds t S
  | .live l => nV (one (wipeD e x.vs)) l turns 0 t S
def nIn (act : NA T) (a : XE) : List XCl → EnvD → T → Sto → NR T
  | [], e, t, S => match a e S with
    | none => none
    | some (d, S1) => match act t d S1 with
      | none => none
      | some (o, t1, S2) => some (o, [t1], t1, S2)
  | x :: xs, e, t, S => match x.w e S with
    | none => none
    | some (wk, S1) => nW x (nOne x.g x.c (nIn act a xs)) wk e t S1
end
inductive Clx (K : PySem.W.Frag) : List Cl → List XCl → Prop
  | nil : Clx K [] []
  | cons {c : Cl} {x : XCl} {cs : List Cl} {xs : List XCl} : c.wi = rW K x.w → c.g = rGw K x.vs x.g → c.tt = rB K x.c → c.vs = x.vs → Clx K cs xs → Clx K (c :: cs) (x :: xs)
section
variable {T : Type} {K : PySem.W.Frag} {act : NA T} {a : XE} {Cons : Nat → V → Hp → (Hp → Prop) → Prop} {t0 : T} {all : List T} {Fin : Sto → Prop} {ρ0 : List Addr} {H0 : Hp}
def Cur (t0 : T) (done : List T) (t : T) : Prop := (t0 :: done).getLast? = some t
theorem cur0 : Cur t0 [] t0 := rfl
theorem Cur.snoc {done : List T} {t : T} : Cur t0 (done ++ [t]) t := by
  show ((t0 :: done) ++ [t]).getLast? = some t
  exact List.getLast?_concat ..
structure Takes (K : PySem.W.Frag) (act : NA T) (Cons : Nat → V → Hp → (Hp → Prop) → Prop) (t0 : T) (all : List T) (Fin : Sto → Prop) (ρ0 : List Addr) (H0 : Hp) : Prop where
  go : ∀ (done : List T) (t1 : T) (rest : List T) (t : T) (d : D) (ρ : List Addr) (H : Hp) (S S1 : Sto) (y : V) (Nx : Hp → Prop), all = done ++ t1 :: rest → Cur t0 done t → act t d S = some (false, t1, S1) → Ext K ρ0 H0 ρ H → G K ρ H S → Rep K ρ H d y →
    (∀ H5, Ext K ρ H ρ H5 → G K ρ H5 S1 → Nx H5) → Cons rest.length y H Nx
  out : ∀ (n : Nat) (t1 t : T) (d : D) (ρ : List Addr) (H : Hp) (S S1 : Sto) (y : V) (Nx : Hp → Prop), act t d S = some (true, t1, S1) → Fin S1 → Ext K ρ0 H0 ρ H → G K ρ H S → Rep K ρ H d y → Cons n y H Nx
def InOk (K : PySem.W.Frag) (act : NA T) (a : XE) (Cons : Nat → V → Hp → (Hp → Prop) → Prop) (t0 : T) (all : List T) (Fin : Sto → Prop) (ρ0 : List Addr) (H0 : Hp) (cs : List Cl) (xs : List XCl) : Prop :=
  ∀ (e : EnvD) (σ : L2.St) (t t1 : T) (S S1 : Sto) (ρ : List Addr) (H : Hp) (done ts rest : List T) (o : Bool) (Nx : Nat → Hp → Prop), RE K ρ H e σ → G K ρ H S → Ext K ρ0 H0 ρ H → Cur t0 done t → nIn act a xs e t S = some (o, ts, t1, S1) → all = done ++ ts ++ rest →
    (o = true → Fin S1) → (o = false → Cur t0 (done ++ ts) t1 → ∀ ρ' H', Ext K ρ H ρ' H' → G K ρ' H' S1 → Nx rest.length H') → GxIn (rE K a) Cons cs σ (ts.length + rest.length) H Nx
theorem in_nil (tk : Takes K act Cons t0 all Fin ρ0 H0) : InOk K act a Cons t0 all Fin ρ0 H0 [] [] := by
  intro e σ t t1 S S1 ρ H done ts rest o Nx re gg x0 hc h hall ho hn
  unfold nIn at h
  split at h
  · cases h
  rename_i d S2 ea
  split at h
  · cases h
  rename_i o' t' S3 es
  cases h
  unfold GxIn
  refine ⟨ρ, e, S, d, S2, re, gg, ea, fun ρ1 H1 v x1 g1 rv => ⟨rest.length, by simp only [List.length_cons, List.length_nil]; omega, ?_⟩⟩
  cases o with
  | true =>
    exact tk.out _ _ _ d ρ1 H1 S2 _ v _ es (ho rfl) (x0.trans x1) g1 rv
  | false => exact tk.go done _ rest t d ρ1 H1 S2 _ v _ (by rw [hall]; simp) hc es (x0.trans x1) g1 rv fun H5 x5 g5 => hn rfl Cur.snoc _ _ (x1.trans x5) g5
section
variable {cs : List Cl} {xs : List XCl} {c : Cl} {x : XCl}
theorem lp_turn (hw : c.g = rGw K x.vs x.g) (ht : c.tt = rB K x.c) (hv : c.vs = x.vs) (hin : InOk K act a Cons t0 all Fin ρ0 H0 cs xs) {e : EnvD} {σ : L2.St} {t t1 : T} {S S1 : Sto} {ρ : List Addr} {H : Hp} {d : D} {v : V} {done ts rest : List T} {o : Bool} {Nx : Nat → Hp → Prop}
    (re : RE K ρ H (wipeD e x.vs) (L2.wipe σ x.vs)) (gg : G K ρ H S) (x0 : Ext K ρ0 H0 ρ H) (hc : Cur t0 done t) (rv : Rep K ρ H d v) (h : nOne x.g x.c (nIn act a xs) (wipeD e x.vs) d t S = some (o, ts, t1, S1)) (hall : all = done ++ ts ++ rest)
    (ho : o = true → Fin S1) (hn : o = false → Cur t0 (done ++ ts) t1 → ∀ ρ' H', Ext K ρ H ρ' H' → G K ρ' H' S1 → Nx rest.length H') :
    c.g v (L2.wipe σ c.vs) H fun σ2 H2 => L2.wipe σ2 c.vs = L2.wipe σ c.vs ∧ c.tt σ2 H2 fun b H3 => if b = true then GxIn (rE K a) Cons cs σ2 (ts.length + rest.length) H3 Nx else Nx (ts.length + rest.length) H3 := by
  rw [hw, ht, hv]
  unfold nOne at h
  split at h
  · cases h
  rename_i e1 eg
  refine ⟨ρ, wipeD e x.vs, d, e1, re, rv, eg, fun σ1 re1 hw => ⟨hw.trans (wipe_wipe σ x.vs), ?_⟩⟩
  split at h
  · cases h
  · rename_i S2 ec
    cases h
    refine ⟨ρ, e1, S, false, _, re1, gg, ec, fun ρ1 H1 x1 g1 => ?_⟩
    refine iteF ?_
    have e1 : ([] : List T).length + rest.length = rest.length := by simp
    rw [e1]
    exact hn rfl (by rw [List.append_nil]; exact hc) ρ1 H1 x1 g1
  · rename_i S2 ec
    refine ⟨ρ, e1, S, true, _, re1, gg, ec, fun ρ1 H1 x1 g1 => ?_⟩
    refine iteT ?_
    exact hin e1 σ1 t t1 S2 S1 ρ1 H1 done ts rest o Nx (re1.mono x1) g1 (x0.trans x1) hc h hall ho fun z1 z2 ρ' H' x2 g2 => hn z1 z2 ρ' H' (x1.trans x2) g2
theorem lp_fix (hw : c.g = rGw K x.vs x.g) (ht : c.tt = rB K x.c) (hv : c.vs = x.vs) (hin : InOk K act a Cons t0 all Fin ρ0 H0 cs xs) {e : EnvD} {σ : L2.St} {t t1 : T} {S S1 : Sto} {ρ : List Addr} {H : Hp} {J : It} {ds : List D} {done ts rest : List T} {o : Bool} {Nx : Nat → Hp → Prop}
    (re : RE K ρ H e σ) (gg : G K ρ H S) (x0 : Ext K ρ0 H0 ρ H) (hc : Cur t0 done t) (wk : WalkOk K ρ H J (.fix ds)) (h : nL (nOne x.g x.c (nIn act a xs) (wipeD e x.vs)) ds t S = some (o, ts, t1, S1)) (hall : all = done ++ ts ++ rest)
    (ho : o = true → Fin S1) (hn : o = false → Cur t0 (done ++ ts) t1 → ∀ ρ' H', Ext K ρ H ρ' H' → G K ρ' H' S1 → Nx rest.length H') :
    ∃ W : Nat → Nat → Nat → Hp → Prop, (∃ m, W 0 m (ts.length + rest.length) H) ∧ GxLp (rE K a) Cons c cs σ J W Nx := by
  refine ⟨fun i m n H' => m = ds.length - i ∧ i ≤ ds.length ∧ ∃ ρ' t' S2 done' ts', Ext K ρ H ρ' H' ∧ G K ρ' H' S2 ∧ Cur t0 done' t' ∧ n = ts'.length + rest.length ∧ nL (nOne x.g x.c (nIn act a xs) (wipeD e x.vs)) (ds.drop i) t' S2 = some (o, ts', t1, S1) ∧ done ++ ts = done' ++ ts',
    ⟨_, rfl, Nat.zero_le _, ρ, t, S, done, ts, .refl, gg, hc, rfl, h, rfl⟩, ?_⟩
  rintro i m n H1 ⟨rfl, hi, ρ1, t', S2, done', ts', x1, g1, c1, rfl, h1, hdt⟩
  by_cases hlt : i < ds.length
  · obtain ⟨q1, q2⟩ := wk.2 i ds[i] (List.getElem?_eq_getElem hlt) ρ1 H1 x1
    rw [List.drop_eq_getElem_cons hlt] at h1
    unfold nL at h1
    split at h1
    · cases h1
    · rename_i ts1 t3 S3 e1
      cases h1
      refine .inr ⟨q1, fun _ _ => False, fun n' H' z => z.elim, fun v H' y => ?_⟩
      obtain ⟨x2, g2, rv⟩ := q2 v H' y S2 g1
      exact lp_turn hw ht hv hin ((re.mono (x1.trans x2)).wipe x.vs) g2 (x0.trans (x1.trans x2)) c1 rv e1 (hdt ▸ hall) ho fun z => by cases z
    · rename_i ts1 t3 S3 e1
      split at h1
      · cases h1
      rename_i o2 us t4 S4 e2
      cases h1
      refine .inr ⟨q1, fun n H' => ∃ ρ' t' S2 done' ts', Ext K ρ H ρ' H' ∧ G K ρ' H' S2 ∧ Cur t0 done' t' ∧ n = ts'.length + rest.length ∧ nL (nOne x.g x.c (nIn act a xs) (wipeD e x.vs)) (ds.drop (i + 1)) t' S2 = some (o, ts', t1, S1) ∧ done ++ ts = done' ++ ts', fun n' H' z => ⟨ds.length - (i + 1), by omega, rfl, hlt, z⟩, fun v H' y => ?_⟩
      obtain ⟨x2, g2, rv⟩ := q2 v H' y S2 g1
      have el : (ts1 ++ us).length + rest.length = ts1.length + (us ++ rest).length := by simp only [List.length_append]; omega
      rw [el]
      exact lp_turn hw ht hv hin ((re.mono (x1.trans x2)).wipe x.vs) g2 (x0.trans (x1.trans x2)) c1 rv e1 (by rw [hall, hdt]; simp) (fun z => by cases z) fun _ c2 ρ' H5 x3 g3 =>
        ⟨ρ', t3, S3, done' ++ ts1, us, (x1.trans x2).trans x3, g3, c2, by simp, e2, by rw [hdt]; simp⟩
  · have ei : i = ds.length := by omega
    subst ei
    rw [List.drop_length] at h1
    cases h1
    refine .inl ⟨wk.1 ρ1 H1 x1, ?_⟩
    have e1 : ([] : List T).length + rest.length = rest.length := by simp
    rw [e1]
    exact hn rfl (by rw [hdt, List.append_nil]; exact c1) ρ1 H1 x1 g1
theorem lp_live (hw : c.g = rGw K x.vs x.g) (ht : c.tt = rB K x.c) (hv : c.vs = x.vs) (hin : InOk K act a Cons t0 all Fin ρ0 H0 cs xs) {e : EnvD} {σ : L2.St} {t t1 : T} {S S1 : Sto} {ρ : List Addr} {H : Hp} {l : Nat} {b : Addr} {done ts rest : List T} {o : Bool} {Nx : Nat → Hp → Prop} (k : Nat)
    (re : RE K ρ H e σ) (gg : G K ρ H S) (x0 : Ext K ρ0 H0 ρ H) (hc : Cur t0 done t) (hl : ρ[l]? = some b) (h : nV (nOne x.g x.c (nIn act a xs) (wipeD e x.vs)) l k 0 t S = some (o, ts, t1, S1)) (hall : all = done ++ ts ++ rest)
    (ho : o = true → Fin S1) (hn : o = false → Cur t0 (done ++ ts) t1 → ∀ ρ' H', Ext K ρ H ρ' H' → G K ρ' H' S1 → Nx rest.length H') :
    ∃ W : Nat → Nat → Nat → Hp → Prop, (∃ m, W 0 m (ts.length + rest.length) H) ∧ GxLp (rE K a) Cons c cs σ (Itl K b) W Nx := by
  refine ⟨fun i m n H' => ∃ ρ' t' S2 done' ts', Ext K ρ H ρ' H' ∧ G K ρ' H' S2 ∧ Cur t0 done' t' ∧ n = ts'.length + rest.length ∧ nV (nOne x.g x.c (nIn act a xs) (wipeD e x.vs)) l m i t' S2 = some (o, ts', t1, S1) ∧ done ++ ts = done' ++ ts',
    ⟨_, ρ, t, S, done, ts, .refl, gg, hc, rfl, h, rfl⟩, ?_⟩
  rintro i m n H1 ⟨ρ1, t', S2, done', ts', x1, g1, c1, rfl, h1, hdt⟩
  cases m with
  | zero => cases h1
  | succ m =>
    unfold nV at h1
    cases el : lstAt S2 l with
    | none => rw [el] at h1; cases h1
    | some ds =>
      rw [el] at h1
      dsimp only at h1
      obtain ⟨vs', hs, hr⟩ := g1.lst (pre_get x1.pre hl) el
      cases ed : ds[i]? with
      | none =>
        rw [ed] at h1
        cases h1
        refine .inl ⟨⟨vs', hs, by rw [← hr.length]; exact List.getElem?_eq_none_iff.mp ed⟩, ?_⟩
        have e1 : ([] : List T).length + rest.length = rest.length := by simp
        rw [e1]
        exact hn rfl (by rw [hdt, List.append_nil]; exact c1) ρ1 H1 x1 g1
      | some d =>
        rw [ed] at h1
        dsimp only at h1
        obtain ⟨v, hv1, rv⟩ := hr.get ed
        have same : ∀ x H', (Itl K b).yld i H1 x H' → H' = H1 ∧ x = v := fun x H' y => by
          obtain ⟨rfl, y2⟩ := y
          have ex := y2 vs' hs
          rw [hv1] at ex
          cases ex
          exact ⟨rfl, rfl⟩
        split at h1
        · cases h1
        · rename_i ts1 t3 S3 e1
          cases h1
          refine .inr ⟨⟨vs', v, hs, hv1⟩, fun _ _ => False, fun n' H' z => z.elim, fun x H' y => ?_⟩
          obtain ⟨rfl, rfl⟩ := same x H' y
          exact lp_turn hw ht hv hin ((re.mono x1).wipe _) g1 (x0.trans x1) c1 rv e1 (hdt ▸ hall) ho fun z => by cases z
        · rename_i ts1 t3 S3 e1
          split at h1
          · cases h1
          rename_i o2 us t4 S4 e2
          cases h1
          refine .inr ⟨⟨vs', v, hs, hv1⟩, fun n H' => ∃ ρ' t' S2 done' ts', Ext K ρ H ρ' H' ∧ G K ρ' H' S2 ∧ Cur t0 done' t' ∧ n = ts'.length + rest.length ∧ nV (nOne _ _ (nIn act a xs) (wipeD e _)) l m (i + 1) t' S2 = some (o, ts', t1, S1) ∧ done ++ ts = done' ++ ts', fun n' H' z => ⟨m, Nat.lt_succ_self m, z⟩, fun x H' y => ?_⟩
          obtain ⟨rfl, rfl⟩ := same x H' y
          have el : (ts1 ++ us).length + rest.length = ts1.length + (us ++ rest).length := by simp only [List.length_append]; omega
          rw [el]
          exact lp_turn hw ht hv hin ((re.mono x1).wipe _) g1 (x0.trans x1) c1 rv e1 (by rw [hall, hdt]; simp) (fun z => by cases z) fun _ c2 ρ' H5 x3 g3 =>
            ⟨ρ', t3, S3, done' ++ ts1, us, x1.trans x3, g3, c2, by simp, e2, by rw [hdt]; simp⟩
theorem lp_walk (hw : c.g = rGw K x.vs x.g) (ht : c.tt = rB K x.c) (hv : c.vs = x.vs) (hin : InOk K act a Cons t0 all Fin ρ0 H0 cs xs) {e : EnvD} {σ : L2.St} {t t1 : T} {S S1 : Sto} {ρ : List Addr} {H : Hp} {J : It} {wk : Walk} {done ts rest : List T} {o : Bool} {Nx : Nat → Hp → Prop}
    (re : RE K ρ H e σ) (gg : G K ρ H S) (x0 : Ext K ρ0 H0 ρ H) (hc : Cur t0 done t) (hk : WalkOk K ρ H J wk) (h : nW x (nOne x.g x.c (nIn act a xs)) wk e t S = some (o, ts, t1, S1)) (hall : all = done ++ ts ++ rest)
    (ho : o = true → Fin S1) (hn : o = false → Cur t0 (done ++ ts) t1 → ∀ ρ' H', Ext K ρ H ρ' H' → G K ρ' H' S1 → Nx rest.length H') :
    ∃ W : Nat → Nat → Nat → Hp → Prop, (∃ m, W 0 m (ts.length + rest.length) H) ∧ GxLp (rE K a) Cons c cs σ J W Nx := by
  cases wk with
  | fix ds => exact lp_fix hw ht hv hin re gg x0 hc hk h hall ho hn
  | live l =>
    obtain ⟨b, hb, rfl⟩ := hk
    exact lp_live hw ht hv hin turns re gg x0 hc hb h hall ho hn
end
theorem in_ok (tk : Takes K act Cons t0 all Fin ρ0 H0) : ∀ {cs : List Cl} {xs : List XCl}, Clx K cs xs → InOk K act a Cons t0 all Fin ρ0 H0 cs xs
  | _, _, .nil => in_nil tk
  | _, _, .cons hi hw ht hv r => by
    intro e σ t t1 S S1 ρ H done ts rest o Nx re gg x0 hc h hall ho hn
    unfold nIn at h
    split at h
    · cases h
    rename_i wk S2 ew
    unfold GxIn
    rw [hi]
    refine ⟨ρ, e, S, wk, S2, re, gg, ew, fun ρ1 H1 J x1 g1 hk => ?_⟩
    exact lp_walk hw ht hv (in_ok tk r) (re.mono x1) g1 (x0.trans x1) hc hk h hall ho fun z1 z2 ρ' H' x2 g2 => hn z1 z2 ρ' H' (x1.trans x2) g2
end
end Mini
end
section
namespace Mini
open PySem L2
variable [Tabs]
theorem WalkOk.mono {K : PySem.W.Frag} {ρ ρ' : List Addr} {H H' : Hp} {J : It} {wk : Walk} (x : Ext K ρ H ρ' H') (w : WalkOk K ρ H J wk) : WalkOk K ρ' H' J wk := by
  cases wk with
  | fix ds => exact ⟨fun ρ1 H1 x1 => w.1 ρ1 H1 (x.trans x1), fun i d hd ρ1 H1 x1 => w.2 i d hd ρ1 H1 (x.trans x1)⟩
  | live l =>
    obtain ⟨a, ha, e⟩ := w
    exact ⟨a, pre_get x.pre ha, e⟩
def actB (k : Bool) : NA Unit := fun t d S => match d with
  | .bl q => some (!decide (q = k), t, S)
  | _ => none
def xBoolN (k : Bool) (a : XE) (xs : List XCl) : XE := fun e S => match nIn (actB k) a xs e () S with
  | none => none
  | some (o, _, _, S1) => some (.bl (if o = true then !k else k), S1)
theorem rep_bl {K : PySem.W.Frag} {ρ : List Addr} {H : Hp} {q : Bool} {y : V} (r : Rep K ρ H (.bl q) y) : y = .bl q := by cases r; rfl
theorem boolN_of {K : PySem.W.Frag} {k : Bool} {a : XE} {c0 : Cl} {cs : List Cl} {xs : List XCl} (hx : Clx K (c0 :: cs) xs) : ∀ σ H Q, rE K (xBoolN k a xs) σ H Q → tBoolN k c0 cs (rE K a) σ H Q := by
  intro σ H Q ⟨ρ, e, S, d, S', re, gg, h, kk⟩
  cases hx with
  | cons hi hw ht hv hr =>
    rename_i x xs
    unfold xBoolN at h
    split at h
    · cases h
    rename_i o ts tt S1 hn
    cases h
    unfold nIn at hn
    split at hn
    · cases hn
    rename_i wk S2 ew
    unfold tBoolN
    rw [hi]
    refine ⟨ρ, e, S, wk, S2, re, gg, ew, fun ρ1 H1 J x1 g1 hk => ⟨g1.tab, fun H3 hT => ?_⟩⟩
    obtain ⟨xt, gt⟩ := g1.tabbed hT
    have tk : Takes K (actB k) (fun _ => consB k (Q (.bl (!k)))) () ts (fun S3 => o = true ∧ S3 = S') ρ H := by
      refine ⟨fun done t1 rest t d ρ2 H2 S3 S4 y Nx _ _ ha x2 g2 r nx => ?_, fun n t1 t d ρ2 H2 S3 S4 y Nx ha hf x2 g2 r => ?_⟩
      all_goals unfold actB at ha
      split at ha
      · rename_i q
        simp only [Option.some.injEq, Prod.mk.injEq, Bool.not_eq_false', decide_eq_true_eq] at ha
        obtain ⟨e1, _, rfl⟩ := ha
        refine ⟨q, rep_bl r, ?_⟩
        rw [if_pos e1]
        exact nx H2 .refl g2
      · cases ha
      obtain ⟨ho, e4⟩ := hf
      split at ha
      · rename_i q
        simp only [Option.some.injEq, Prod.mk.injEq, Bool.not_eq_true', decide_eq_false_iff_not] at ha
        obtain ⟨e1, _, rfl⟩ := ha
        refine ⟨q, rep_bl r, ?_⟩
        rw [if_neg e1]
        subst e4
        rw [ho] at kk
        exact kk ρ2 H2 _ x2 g2 (.bl _)
      · cases ha
    obtain ⟨W, w0, lp⟩ := lp_walk (rest := []) (done := []) (Nx := fun _ => Q (.bl k)) (σ := σ) hw ht hv (in_ok tk hr) (re.mono (x1.trans xt)) gt (x1.trans xt) cur0 (hk.mono xt) hn (by simp) (fun z => ⟨z, rfl⟩) fun z _ ρ' H' x2 g2 => by
      rw [z] at kk
      exact kk ρ' H' _ ((x1.trans xt).trans x2) g2 (.bl _)
    exact ⟨_, W, w0, lp⟩
section
variable {X : Cx} {elt : Expr} {c0 : Cl} {cs : List Cl} {x : XCl} {xs : List XCl} {scope : Scope} {gpos p pos : Pos} {a : XE} {cc P : Addr} {own : List (Str × Nat)}
theorem r_allN (hgl : Gl X "all") (hm : X.mg "all" = none) (hb : bootBuiltins "all" = some (.builtin "all")) (hx : Clx X.K (c0 :: cs) (x :: xs)) (G : GxOkN X cc P elt c0 cs scope own (rE X.K a))
    (he : starEach [.GeneratorExp elt (c0.c :: cs.map Cl.c) scope gpos] X.env = (false, eval (.GeneratorExp elt (c0.c :: cs.map Cl.c) scope gpos) X.env) :: starEach [] X.env := by rfl) :
    PE X (.Call (.Name "all" p) [.GeneratorExp elt (c0.c :: cs.map Cl.c) scope gpos] [] pos) (rE X.K (xBoolN true a (x :: xs))) :=
  PE.imp (pe_allN G hgl hm hb he) (boolN_of hx)
end
end Mini
end
section
namespace Mini
open PySem PySem.Spec PyProof.Rows L2 GenW GxR
variable [Tabs]
abbrev mkC (K : PySem.W.Frag) (tg iter : Expr) (ifs : List Expr) (w : XW) (vs : List Nat) (g : XG) (c : XB) : Cl := ⟨tg, iter, ifs, rW K w, rGw K vs g, rB K c, vs⟩
section
variable {X : Cx} {elt tg iter tg1 iter1 tg2 iter2 : Expr} {ifs ifs1 ifs2 : List Expr} {scope : Scope} {gpos p pos : Pos} {w w1 w2 : XW} {g g1 g2 : XG} {c c1 c2 : XB} {a : XE} {cc P : Addr}
theorem gx_ok2 {n j cn : Nat} (own : List (Str × Nat)) (vs : List Nat) (vs1 : List Nat) (sc : Scope) {N : List Str} (ck : CK X cc P) (hcode : X.env.code = .ref cc) (hr : Rs cn n (j + 1) X.A) (hc : X.calm = true) (hco : scope.isCoroutine = false) (h0 : scope.names.lookup (".0" : Str) = some NameKind.local) (hN : X.N.Nodup) (eN : X.N = N) (esc : X.env.scope = sc)
    (hok : blkC N sc scope own = true) (hv : own.map (·.2) = vs) (hv1 : ∀ i ∈ vs1, i ∈ vs) (hi : PI X tg iter (rW X.K w)) (hs : ∀ x, genFold iter X.env x = pure x)
    (hg : ∀ (A' : Around), Rs cn n j A' → ∀ (s : Shared) (H : Hp) (C : Addr) (code : Value) (cl : List (Str × Addr)) (fp : List Addr) (c' Q : Addr), code = .ref c' → CK (gxC X A' s H scope (gxEnv scope cl C code builtinsNs X.env) fp) c' Q → PG (gxC X A' s H scope (gxEnv scope cl C code builtinsNs X.env) fp) tg (rGw X.K vs g))
    (ht : ∀ (A' : Around), Rs cn n j A' → ∀ (s : Shared) (H : Hp) (C : Addr) (code : Value) (cl : List (Str × Addr)) (fp : List Addr) (c' Q : Addr), code = .ref c' → CK (gxC X A' s H scope (gxEnv scope cl C code builtinsNs X.env) fp) c' Q → PTs (gxC X A' s H scope (gxEnv scope cl C code builtinsNs X.env) fp) ifs (rB X.K c))
    (hi1 : ∀ (A' : Around), Rs cn n j A' → ∀ (s : Shared) (H : Hp) (C : Addr) (code : Value) (cl : List (Str × Addr)) (fp : List Addr) (c' Q : Addr), code = .ref c' → CK (gxC X A' s H scope (gxEnv scope cl C code builtinsNs X.env) fp) c' Q → PI (gxC X A' s H scope (gxEnv scope cl C code builtinsNs X.env) fp) tg1 iter1 (rW X.K w1)) (hs1 : ∀ env x, foldedSetIterable iter1 env x = pure x)
    (hg1 : ∀ (A' : Around), Rs cn n j A' → ∀ (s : Shared) (H : Hp) (C : Addr) (code : Value) (cl : List (Str × Addr)) (fp : List Addr) (c' Q : Addr), code = .ref c' → CK (gxC X A' s H scope (gxEnv scope cl C code builtinsNs X.env) fp) c' Q → PG (gxC X A' s H scope (gxEnv scope cl C code builtinsNs X.env) fp) tg1 (rGw X.K vs1 g1))
    (ht1 : ∀ (A' : Around), Rs cn n j A' → ∀ (s : Shared) (H : Hp) (C : Addr) (code : Value) (cl : List (Str × Addr)) (fp : List Addr) (c' Q : Addr), code = .ref c' → CK (gxC X A' s H scope (gxEnv scope cl C code builtinsNs X.env) fp) c' Q → PTs (gxC X A' s H scope (gxEnv scope cl C code builtinsNs X.env) fp) ifs1 (rB X.K c1))
    (he : ∀ (A' : Around), Rs cn n j A' → ∀ (s : Shared) (H : Hp) (C : Addr) (code : Value) (cl : List (Str × Addr)) (fp : List Addr) (c' Q : Addr), code = .ref c' → CK (gxC X A' s H scope (gxEnv scope cl C code builtinsNs X.env) fp) c' Q → PE (gxC X A' s H scope (gxEnv scope cl C code builtinsNs X.env) fp) elt (rE X.K a)) :
    GxOkN X cc P elt (mkC X.K tg iter ifs w vs g c) [mkC X.K tg1 iter1 ifs1 w1 vs1 g1 c1] scope own (rE X.K a) := by
  subst eN esc
  exact ⟨ck, hcode, hr.hd, hr.dp0, hc, hco, h0, blkOk_by hok, hN, hi, hs, hv.symm, ⟨hv1, trivial⟩, fun A' h s H C code cl fp c' Q h1 h2 => ⟨⟨hg A' (hr.near h) s H C code cl fp c' Q h1 h2, ht A' (hr.near h) s H C code cl fp c' Q h1 h2⟩, (by
    intro e he
    simp only [List.mem_cons, List.not_mem_nil, or_false] at he
    rcases he with rfl
    · exact ⟨⟨hg1 A' (hr.near h) s H C code cl fp c' Q h1 h2, ht1 A' (hr.near h) s H C code cl fp c' Q h1 h2⟩, hi1 A' (hr.near h) s H C code cl fp c' Q h1 h2, hs1⟩)⟩, fun A' h => he A' (hr.near h)⟩
theorem clx2 {K : PySem.W.Frag} {vs : List Nat} {vs1 : List Nat} : Clx K (mkC K tg iter ifs w vs g c :: [mkC K tg1 iter1 ifs1 w1 vs1 g1 c1]) [⟨w, vs, g, c⟩, ⟨w1, vs1, g1, c1⟩] :=
  .cons rfl rfl rfl rfl (.cons rfl rfl rfl rfl .nil)
theorem r_all2 {own : List (Str × Nat)} {vs : List Nat} {vs1 : List Nat} (hgl : Gl X "all") (hm : X.mg "all" = none) (hb : bootBuiltins "all" = some (.builtin "all")) (G : GxOkN X cc P elt (mkC X.K tg iter ifs w vs g c) [mkC X.K tg1 iter1 ifs1 w1 vs1 g1 c1] scope own (rE X.K a))
    (he : starEach [.GeneratorExp elt [⟨tg, iter, ifs, 0⟩, ⟨tg1, iter1, ifs1, 0⟩] scope gpos] X.env = (false, eval (.GeneratorExp elt [⟨tg, iter, ifs, 0⟩, ⟨tg1, iter1, ifs1, 0⟩] scope gpos) X.env) :: starEach [] X.env := by rfl) :
    PE X (.Call (.Name "all" p) [.GeneratorExp elt [⟨tg, iter, ifs, 0⟩, ⟨tg1, iter1, ifs1, 0⟩] scope gpos] [] pos) (rE X.K (xBoolN true a [⟨w, vs, g, c⟩, ⟨w1, vs1, g1, c1⟩])) :=
  r_allN hgl hm hb clx2 G he
end
end Mini
end
section
namespace Mini
open PySem PySem.Spec PyProof.Rows L2 GenW GxR
section
variable {K : PySem.W.Frag} [Tabs]
def rGtA (K : PySem.W.Frag) : R2 := fun x y H Q => rI0 (fun i j => .bl (decide (j < i))) x y H Q ∨ ∃ d e, Dp K H x d ∧ Dp K H y e ∧ PySem.W.alike d e = true ∧ d ≠ .none ∧ d.depth ≤ 100 ∧ Q (.bl (PySem.W.dataLt e d)) H
theorem orp_gtA {X : Cx} (hu : X.A.units + 250 < cLine) : OpR X (compareOp .Gt) (rGtA X.K) := OpR.or op_gt (by
  intro pins s σ H x y v u Q I rx ry ⟨d, e, h1, h2, h3, h4, h5, q⟩
  obtain ⟨as, ra⟩ := Dp.reads I d x v h1 rx
  obtain ⟨bs, rb⟩ := Dp.reads I e y u h2 ry
  exact PySem.W.gt_data ra rb h3 h4 (by have := Nat.min_le_left d.depth e.depth; omega) ⟨.bl _, H, I, rfl, q⟩)
def fGtA (x y : D) (S : Sto) : Option (D × Sto) := match x, y with
  | .tup a, .tup b => if (D.pub 100 (.tup a) && D.pub 100 (.tup b) && alikeD (.tup a) (.tup b)) = true then some (.bl (ltD (.tup b) (.tup a)), S) else none
  | x, y => fGt x y S
theorem om_gtA : OpM K fGtA (rGtA K) := by
  intro ρ H S x y d S' vx vy Q g hx hy e k
  unfold fGtA at e
  split at e
  · rename_i a b
    split at e
    · rename_i c
      cases e
      simp only [Bool.and_eq_true] at c
      obtain ⟨a1, a2, a3⟩ := py_dp hx c.1.1
      obtain ⟨b1, b2, b3⟩ := py_dp hy c.1.2
      exact .inr ⟨_, _, a1, b1, c.2, (fun z => by cases z), a3, k ρ H _ .refl g (.bl _)⟩
    · cases e
  · exact .inl (om_gt ρ H S x y d S' vx vy Q g hx hy e k)
end
end Mini
end
section
namespace Mini
open PySem PySem.Spec PyProof.Rows L2 PpSet
section
variable {P : Program} {w : World} {A : Around} {E : Value → Shared → Prop} {s : Shared} {h : Heap} {a : Addr}
theorem setB_new_at {ns : List Bool} (ho : h.get? a = some { cls := .type "set", dict := none, data := .set #[] 0 (.fresh 0 0 (!w.params.followText "set-order")) }) : SetB w h a (fun j => decide (j ∈ ns.take 0)) 0 :=
  ⟨_, #[], 0, _, ho, ⟨rfl, rfl, rfl⟩, rfl, (fun e he => by simp at he), (by simp), (fun k => by simp), (by decide), (by rfl), rfl, List.Pairwise.nil, by
    show _ ∨ (!w.params.followText "set-order") = true
    cases w.params.followText "set-order"
    · exact .inr rfl
    · exact .inl rfl⟩
theorem set_update_bls {I : Addr} {fp wr : List Addr} {G : Array GenState → Array GenState → Prop} {n : Nat} {Pv : Nat → Value → Prop} {St : Nat → Shared → Prop} {R : Result → Shared → Prop}
    (W : WalksS P w A.in1 I fp wr G n Pv St) (S : Addr) (hSf : S ∉ fp) (ns : List Bool) (hn : n = ns.length) (hb : ns.length + 1 < scanBound) (hval : ∀ i v, Pv i v → ∃ k, ns[i]? = some k ∧ v = Value.bool k) :
    ∀ (k i : Nat) (s : Shared), n - i = k → i ≤ n → St i s → (∃ c, c ≤ i ∧ SetB w s.heap S (fun j => decide (j ∈ ns.take i)) c) →
      (∀ s' c, Moved (S :: wr) G s s' → c ≤ n → SetB w s'.heap S (fun j => decide (j ∈ ns)) c → R (.ok (.ret .none)) s') →
      codeAny (model P w) A (.builtin "set.update.loop" ⟨[.ref S, .ref I], []⟩) R s := by
  have hSw : S ∉ wr := fun h => hSf (W.sub _ h)
  have hsub : ∀ b ∈ wr, b ∈ S :: wr := fun b hb => List.mem_cons_of_mem _ hb
  intro k
  induction k with
  | zero =>
    intro i s hk' hi hst ⟨c, hc, hS⟩ hR
    have hin : i = n := by omega
    subst hin
    refine codeAny_builtin F.entry_set_update_loop ?_
    rw [Around.under_plainId F.plain_set_update_loop _]
    show wpAny _ A.in1 (pyNext (.ref I) >>= _) _ _ s
    refine wpAny_bind (W.done s _ _ hst fun s' hm => ?_)
    show wpAny _ A.in1 (ret Value.none) _ _ s'
    have e : ns.take i = ns := List.take_of_length_le (by omega)
    rw [e] at hS
    exact wpAny_pure (hR s' c (hm.mono hsub) hc (hS.at fun o e => hm.heap S o hSw e))
  | succ k ih =>
    intro i s hk' hi hst ⟨c, hc, hS⟩ hR
    have hlt : i < n := by omega
    refine codeAny_builtin F.entry_set_update_loop ?_
    rw [Around.under_plainId F.plain_set_update_loop _]
    show wpAny _ A.in1 (pyNext (.ref I) >>= _) _ _ s
    refine wpAny_bind (W.item i s _ _ hlt hst fun v s' hP hst' hm => ?_)
    obtain ⟨z, hz, hzv⟩ := hval i v hP
    have hS' : SetB w s'.heap S (fun j => decide (j ∈ ns.take i)) c := hS.at fun o e => hm.heap S o hSw e
    show wpAny _ A.in1 (holding [v] (setAdd S v) >>= _) _ _ s'
    refine wpAny_bind (wpAny_holding ?_)
    unfold setAdd
    refine wpAny_holding ?_
    subst hzv
    refine wpAny_bind ((boolK P w).pyHash (k := z) (boolK_is P w z) ?_)
    refine setB_add_hashed (P := P) (s := { s' with toks := s'.toks + 1 }) hS' (by omega) fun h' hsb hS2 => ?_
    have hS3 : SetB w h' S (fun j => decide (j ∈ ns.take (i + 1))) (if decide (z ∈ ns.take i) = true then c else c + 1) := hS2.congr fun j => by
      rw [List.take_add_one, hz]
      simp [List.mem_append]
    have hc3 : (if decide (z ∈ ns.take i) = true then c else c + 1) ≤ i + 1 := by
      split <;> omega
    refine wpAny_pure ⟨plainId_quiet F.plain_set_update_loop _, ih (i + 1) _ (by omega) hlt (W.frame _ s' _ _ hst' (Nat.le_succ _) fun b hb o e => ?_) ⟨_, hc3, hS3⟩ fun s'' c2 hm'' hc'' hS'' => ?_⟩
    · rw [hsb.2 b (fun h : b = S => hSf (by rw [← h]; exact hb))]; exact e
    · refine hR s'' c2 (Moved.trans W.gtrans ((hm.mono hsub).then_heap (Nat.le_succ _) fun b o hb e => ?_) hm'') hc'' hS''
      rw [hsb.2 b (fun h : b = S => hb (by rw [h]; exact List.mem_cons_self))]; exact e

set_option maxRecDepth 100000 in
set_option maxHeartbeats 3200000 in
theorem call_set_bls {l : Addr} {items : Array Value} (ks : List Bool) {Q : Value → Shared → Prop} (hh : A.handled = none) (hl : s.heap.IsList l items) (hit : items.toList = ks.map Value.bool)
    (hb : ks.length + 1 < scanBound)
    (h : ∀ (h' : Heap) (tk c : Nat), SetB w h' s.heap.objs.size (fun j => decide (j ∈ ks)) c → c ≤ ks.length → (∀ b o, s.heap.get? b = some o → h'.get? b = some o) → Q (.ref s.heap.objs.size) { s with heap := h', toks := tk }) :
    wpAny (model P w) A (call (.type "set") [.ref l]) Q E s := by
  have hisz : items.size = ks.length := by
    rw [← Array.length_toList, hit, List.length_map]
  obtain ⟨c, tl, hmro⟩ := F.called_set.mro
  have hmade := F.called_set.made
  have hsub := F.called_set.sub
  refine wpAny_call (codeAny_of_tree ?_)
  show wpAny _ _ (callAny (.type "set") _) _ _ _
  refine wpAny_pure ⟨Code.quiet_builtin _ (by decide +kernel), codeAny_builtin F.entry_type_call ?_⟩
  rw [Around.under_plain (weight_type_call_type "set" [.ref l] []) rfl]
  have h1 := F.called_set.notType
  have h2 := F.called_set.canCreate
  have hct := F.typeCall_set_1 (.ref l)
  repeat (any_goals (first | assumption | wp_step))

  refine codeAny_mono (code_set_led1 (.ref l) (E := E) (Q₁ := fun obj s₁ => obj = .ref s.heap.objs.size ∧ s₁ = { s with heap := s.heap.push { cls := .type "set", dict := none, data := .set #[] 0 (.fresh 0 0 (!w.params.followText "set-order")) } }) ⟨rfl, rfl⟩) fun r s₁ hr => ?_
  cases r with
  | error e => exact hr
  | ok fl =>
    cases fl with
    | ret obj =>
      obtain ⟨rfl, rfl⟩ := hr
      have hS : (s.heap.push { cls := .type "set", dict := none, data := .set #[] 0 (.fresh 0 0 (!w.params.followText "set-order")) }).get? s.heap.objs.size = some { cls := .type "set", dict := none, data := .set #[] 0 (.fresh 0 0 (!w.params.followText "set-order")) } := Heap.get?_push_size _ rfl
      have hT : Shared.TypeIs { s with heap := s.heap.push { cls := .type "set", dict := none, data := .set #[] 0 (.fresh 0 0 (!w.params.followText "set-order")) } } (.ref s.heap.objs.size) "set" := ⟨_, hS, rfl⟩
      have hli := F.called_set.init.lookup
      have hbi := F.called_set.init.bind (.ref s.heap.objs.size)
      repeat (any_goals (first | assumption | wp_step))

      refine codeAny_mono (codeAny_call_builtin (R := wants (fun r s₂ => r = .none ∧ ∃ h' tk c, s₂ = { s with heap := h', toks := tk } ∧ SetB w h' s.heap.objs.size (fun j => decide (j ∈ ks)) c ∧ c ≤ ks.length ∧
          (∀ b o, s.heap.get? b = some o → h'.get? b = some o)) E) F.called_set.init.plain F.entry_set_init (check_set_init_1 hT ?_)) fun r₂ s₂ hr₂ => ?_
      · obtain ⟨ol, hol, hcl, nl, hdl⟩ := hl
        obtain ⟨ocls, odict, odata, oslots⟩ := ol
        simp only at hcl hdl
        subst hcl; subst hdl
        have hol' : (s.heap.push { cls := .type "set", dict := none, data := .set #[] 0 (.fresh 0 0 (!w.params.followText "set-order")) }).get? l = some { cls := .type "list", dict := odict, data := .seq items nl, slots := oslots } := Heap.get?_push_of_some _ hol
        have hsls := F.sub_list_set
        have hslf := F.sub_list_frozenset
        have hne : (Value.type "list" == Value.type "dict") = false := by decide
        have hl1 : (s.heap.push { cls := .type "set", dict := none, data := .set #[] 0 (.fresh 0 0 (!w.params.followText "set-order")) }).IsList l items := ⟨_, hol', rfl, nl, rfl⟩
        unfold Builtin.«set.__init__» noKeywords Builtin.Frozenset.updateFrom
        generalize hPI : pyIter = PI
        wp_walk
        subst hPI

        refine wpAny_pyIter_list hl1 ?_
        refine wpAny_bind (wpAny_runValue ?_)
        have hlS : l < s.heap.objs.size := Heap.lt_size hol
        have hh3 : A.in1.in1.in1.handled = none := by simp [hh]
        have hz1 : (s.heap.push { cls := .type "set", dict := none, data := .set #[] 0 (.fresh 0 0 (!w.params.followText "set-order")) }).objs.size = s.heap.objs.size + 1 := Heap.size_push ..
        have hneI : l ≠ (s.heap.push { cls := .type "set", dict := none, data := .set #[] 0 (.fresh 0 0 (!w.params.followText "set-order")) }).objs.size := by
          rw [Heap.size_push]; exact Nat.ne_of_lt (Nat.lt_succ_of_lt hlS)
        have hSf : s.heap.objs.size ∉ [(s.heap.push { cls := .type "set", dict := none, data := .set #[] 0 (.fresh 0 0 (!w.params.followText "set-order")) }).objs.size, l] := by
          rw [Heap.size_push]; simp only [List.mem_cons, List.mem_singleton, List.not_mem_nil, or_false, not_or]
          exact ⟨Nat.ne_of_lt (Nat.lt_succ_self _), Nat.ne_of_gt hlS⟩
        have hval : ∀ (i : Nat) (v : Value), items[i]? = some v → ∃ k, ks[i]? = some k ∧ v = Value.bool k := fun i v hv => by
          have q : items.toList[i]? = some v := by rw [Array.getElem?_toList]; exact hv
          rw [hit, List.getElem?_map] at q
          cases e : ks[i]? with
          | none => rw [e] at q; cases q
          | some k => rw [e] at q; cases q; exact ⟨k, rfl, rfl⟩
        refine set_update_bls ((Walks.list hh3 _ l hneI items).toS) s.heap.objs.size
          hSf ks hisz hb hval (items.size - 0) 0 _ (by omega) (Nat.zero_le _)
          ⟨⟨_, Heap.get?_push_size _ rfl, rfl, rfl⟩, (hl1.push _)⟩ ?hS0 ?hR
        case hS0 =>
          have hget : ((s.heap.push { cls := .type "set", dict := none, data := .set #[] 0 (.fresh 0 0 (!w.params.followText "set-order")) }).push { cls := .type "list_iterator", data := .fields #[.ref l, .int 0 0] }).get? s.heap.objs.size
              = some { cls := .type "set", dict := none, data := .set #[] 0 (.fresh 0 0 (!w.params.followText "set-order")) } := Heap.get?_push_of_some _ hS
          exact ⟨0, Nat.le_refl 0, setB_new_at hget⟩
        case hR =>
          intro s' c' hm hc' hS'
          obtain ⟨h', g2, d', tk', os'⟩ := s'
          have eg : g2 = s.gens := hm.gens
          have ed : d' = s.drawn := hm.drawn
          have eo : os' = s.os := hm.os
          subst eg; subst ed; subst eo
          show wpAny _ _ _ _ _ _
          refine wpAny_pure ?_
          show wpAny _ _ (ret Value.none) _ _ _
          rw [hisz] at hc'
          refine wpAny_pure ⟨rfl, h', tk', c', rfl, hS', hc', fun b o e => ?_⟩
          have hb0 : b < s.heap.objs.size := Heap.lt_size e
          have hb1 : b ≠ s.heap.objs.size := Nat.ne_of_lt hb0
          have hb2 : b ≠ (s.heap.push { cls := .type "set", dict := none, data := .set #[] 0 (.fresh 0 0 (!w.params.followText "set-order")) }).objs.size := by
            rw [Heap.size_push]; exact Nat.ne_of_lt (Nat.lt_succ_of_lt hb0)
          exact hm.heap b o (by simp only [List.mem_cons, List.mem_singleton, List.not_mem_nil, or_false, not_or]; exact ⟨hb1, hb2⟩) (Heap.get?_push_of_some _ (Heap.get?_push_of_some _ e))

      · cases r₂ with
        | error e => exact hr₂
        | ok fl₂ =>
          cases fl₂ with
          | ret r =>
            obtain ⟨rfl, h', tk, c', rfl, hS', hc', hk'⟩ := hr₂
            repeat (any_goals (first | assumption | wp_step))
            exact h _ _ _ hS' hc' hk'
          | _ => exact hr₂.elim
    | _ => exact hr.elim
end
end Mini
end
section
set_option maxHeartbeats 4000000
namespace Mini
open PySem PySem.Spec PyProof.Rows L2
theorem mt_indexE {X : Cx} (hu : X.A.units + 250 < cLine) : MtR X "list.index" (rIndexD X.K) := mt_indexD (by omega)
section
variable {X : Cx}
end
variable [Tabs]
end Mini
end
section
namespace Mini
open PySem PySem.Spec PyProof.Rows L2 PpSet
theorem bls_vals : ∀ {bs : List Bool} {us : List Value}, Vals (bs.map V.bl) us → us = bs.map Value.bool
  | [], _, r => by cases r; rfl
  | b :: bs, _, r => by
    cases r with
    | cons r rs => cases r; rw [bls_vals rs]; rfl
def tLenSetBo (K : PySem.W.Frag) (te : TE) : TE := fun σ H Q => te σ H fun x H1 => ∃ (l : Addr) (bs : List Bool), x = V.ref l ∧ SqL K H1 l (bs.map V.bl) ∧ bs.length < 4000 ∧ ∀ n : Nat, (∃ ms : List Bool, ms.Nodup ∧ (∀ k, k ∈ ms ↔ k ∈ bs) ∧ ms.length = n) → Q (.int n) H1
section
variable {X : Cx} {e : Expr} {te : TE} {p p2 pos pos2 : Pos}
theorem pe_lenSetBo (hc : X.calm = true) (hg : Gl X "len") (hm : X.mg "len" = none) (hg2 : Gl X "set") (hm2 : X.mg "set" = none) (hb : bootBuiltins "len" = some (.builtin "len")) (hb2 : bootBuiltins "set" = some (.type "set")) (he : PE X e te)
    (n1 : starEach [e] X.env = (false, eval e X.env) :: starEach [] X.env := by rfl) (n2 : starEach [.Call (.Name "set" p2) [e] [] pos2] X.env = (false, eval (.Call (.Name "set" p2) [e] [] pos2) X.env) :: starEach [] X.env := by rfl) :
    PE X (.Call (.Name "len" p) [.Call (.Name "set" p2) [e] [] pos2] [] pos) (tLenSetBo X.K te) := by
  refine ⟨fun pins s σ H Q I h => ?_⟩
  refine wpAny_Call_Name_kw (ld_blt I hg hm hb ?_)
  refine PyProof.Rows.callWith_builtin1 ?_ n2 (by rfl)
  rw [n2]
  show wpAny _ _ (spliced ((false, eval (.Call (.Name "set" p2) [e] [] pos2) X.env) :: backTo pos (starEach [] X.env))) _ _ s
  refine Calls.spliced_cons ?_
  refine wpAny_Call_Name_kw (ld_blt I hg2 hm2 hb2 ?_)
  refine PyProof.Rows.callWith_type1 ?_ n1 rfl
  rw [n1]
  show wpAny _ _ (spliced ((false, eval e X.env) :: backTo pos2 (starEach [] X.env))) _ _ s
  refine Calls.spliced_cons (thn (he.run pins s σ H _ I h) fun u s1 ⟨x, H1, I1, r1, l, bs, ex, hs, hl, q⟩ => Calls.spliced_nil ?_)
  subst ex
  obtain rfl : u = Value.ref l := r1
  have hA := I1.ok.hd hc
  obtain ⟨its, rv, pl, hz⟩ := I1.list hs
  refine call_set_bls bs hA pl.isList (by simpa using bls_vals rv) (by rw [show scanBound = 4096 from rfl]; omega) fun h' tk c R hcn hk => ?_
  refine Calls.spliced_nil ?_
  obtain ⟨o, es, ep, t, ho, hex, hd, g, nd, hm, hb, hf, hn, hr, hl2⟩ := R
  have I2 : Inv X pins σ H1 { s1 with heap := h', toks := tk } := I1.kept fun b o e => hk b o e
  refine call_len_set (s := { s1 with heap := h', toks := tk }) ho hex hd hf (by rw [hn]; omega) ⟨.int es.size, H1, I2.tok _, ⟨_, rfl⟩, q es.size ⟨es.toList.map keyB, nd, fun k => ?_, by rw [List.length_map, Array.length_toList]⟩⟩
  rw [← hm, decide_eq_true_eq]
end
variable [Tabs]
def nBls (bs : List Bool) : Nat := ([false, true].filter fun b => bs.contains b).length
theorem nBls_eq {bs ms : List Bool} (nd : ms.Nodup) (h : ∀ k, k ∈ ms ↔ k ∈ bs) : ms.length = nBls bs := by
  unfold nBls
  refine len_same nd (List.Pairwise.filter _ (by decide)) fun k => ?_
  rw [h, List.mem_filter, List.contains_iff_mem]
  cases k <;> simp
def xLenSetBo (a : XE) : XE := fun e S => match a e S with
  | some (.loc n, S1) => match lstAt S1 n with
    | some ds => match asBls ds with
      | some bs => if bs.length < 4000 then some (.int (nBls bs), S1) else none
      | none => none
    | none => none
  | _ => none
theorem r_lenSetBo {X : Cx} {e : Expr} {a : XE} {p p2 pos pos2 : Pos} (hc : X.calm = true) (hg : Gl X "len") (hm : X.mg "len" = none) (hg2 : Gl X "set") (hm2 : X.mg "set" = none) (hb : bootBuiltins "len" = some (.builtin "len")) (hb2 : bootBuiltins "set" = some (.type "set")) (ha : PE X e (rE X.K a))
    (n1 : starEach [e] X.env = (false, eval e X.env) :: starEach [] X.env := by rfl) (n2 : starEach [.Call (.Name "set" p2) [e] [] pos2] X.env = (false, eval (.Call (.Name "set" p2) [e] [] pos2) X.env) :: starEach [] X.env := by rfl) :
    PE X (.Call (.Name "len" p) [.Call (.Name "set" p2) [e] [] pos2] [] pos) (rE X.K (xLenSetBo a)) := by
  refine PE.imp (pe_lenSetBo hc hg hm hg2 hm2 hb hb2 ha n1 n2) fun σ H Q ⟨ρ, en, S, d, S', re, g, h, k⟩ => ?_
  unfold xLenSetBo at h
  cases ea : a en S with
  | none => rw [ea] at h; cases h
  | some p =>
  obtain ⟨x, S1⟩ := p
  rw [ea] at h
  cases x with
  | loc n =>
    dsimp only at h
    split at h
    rotate_left
    · cases h
    rename_i ds el
    split at h
    rotate_left
    · cases h
    rename_i bs eb
    split at h
    rotate_left
    · cases h
    rename_i c
    cases h
    refine ⟨ρ, en, S, _, _, re, g, ea, fun ρ1 H1 v x1 g1 hv => ?_⟩
    cases hv with
    | loc hj =>
      obtain ⟨vs, hs, hq⟩ := g1.lst hj el
      rw [asBls_is eb] at hq
      rw [reps_bls hq] at hs
      exact ⟨_, bs, rfl, hs, c, fun m ⟨ms, nd, hm, ln⟩ => by
        rw [← ln, nBls_eq nd hm]
        exact k _ _ _ x1 g1 (.int _)⟩
  | _ => cases h
end Mini
end
section
namespace Mini
open PySem L2
local macro_rules | `(tactic| walk_at "fact") => `(tactic| with_reducible assumption)
local macro_rules | `(tactic| walk_at "yes") => `(tactic| first | with_reducible assumption | (refine decide_eq_true ?_; first | with_reducible assumption | with_reducible rfl | omega))
local macro_rules | `(tactic| walk_at "no") => `(tactic| first | with_reducible exact Bool.false_ne_true | (refine Bool.eq_false_iff.mp ?_; first | with_reducible assumption | (refine decide_eq_false ?_; first | with_reducible assumption | omega)))
local macro_rules | `(tactic| walk_at "bool") => `(tactic| first | rfl | decide | (simp; done) | (simp; omega) | (simp at *; done) | (simp at *; omega))
local macro_rules | `(tactic| walk_at "bool not") => `(tactic| first | exact Bool.eq_false_iff.mp (by first | rfl | decide) | (simp; done) | (simp; omega) | (simp at *; done) | (simp at *; omega))
local macro_rules | `(tactic| walk_at "pick") => `(tactic| first | rw [if_pos (by walk_at "yes")] | rw [if_neg (by walk_at "no")] | rw [if_pos (by walk_at "bool")] | rw [if_neg (by walk_at "bool not")])
local macro_rules | `(tactic| walk_at "target") => `(tactic| first | ((simp only [gN, List.set_cons_zero, List.set_cons_succ]); rfl) | rfl)
local macro_rules | `(tactic| walk_at "prim") => `(tactic| first | walk_at "fact" | rfl)
local macro_rules | `(tactic| walk_at "ev") => `(tactic| (first
  | with_reducible exact v_c
  | with_reducible exact v_nil
  | ((with_reducible show xVar _ _ _ = _); rfl)
  | ((with_reducible apply v_op); (· walk_at "ev"); (· walk_at "ev"); (· walk_at "prim"))
  | ((with_reducible apply v_cons); (· walk_at "ev"); (· walk_at "ev"))
  | ((with_reducible apply v_call); (· walk_at "ev"); (· rfl); (· walk_at "fact"))
  | ((with_reducible apply v_all); (· walk_at "ev"); (· walk_at "prim"))
  | ((with_reducible apply v_un); (· walk_at "ev"); (· walk_at "prim"))
  | ((with_reducible apply v_if); (· walk_at "ev"); (· (walk_at "pick" <;> walk_at "ev")))
  | ((with_reducible apply v_and); (· walk_at "ev"); (· (walk_at "pick" <;> first | rfl | walk_at "ev")))
  | ((with_reducible apply v_or); (· walk_at "ev"); (· (walk_at "pick" <;> first | rfl | walk_at "ev")))
  | ((with_reducible apply v_not); (· walk_at "ev"); (· rfl))
  | ((with_reducible apply v_isi); (· walk_at "ev"); (· walk_at "prim"))
  | ((with_reducible apply v_met); (· walk_at "ev"); (· walk_at "prim"); (· walk_at "ev"); (· walk_at "prim"))
  | ((with_reducible apply t_tru); (· walk_at "ev"); (· walk_at "prim"))
  | ((with_reducible apply t_val); walk_at "ev")
  | ((with_reducible apply t_not); walk_at "ev")
  | ((with_reducible apply t_and); (· walk_at "ev"); (· (walk_at "pick" <;> first | rfl | walk_at "ev")))
  | ((with_reducible apply t_or); (· walk_at "ev"); (· (walk_at "pick" <;> first | rfl | walk_at "ev")))))
local macro_rules | `(tactic| walk_at "st") => `(tactic| (first
  | with_reducible exact s_nil
  | ((with_reducible apply s_ifs); (· walk_at "ev"); (walk_at "pick"))
  | ((with_reducible apply s_rets); walk_at "ev")
  | with_reducible apply s_seqs
  | with_reducible apply s_nils
  | ((with_reducible apply s_asgs); (· walk_at "ev"); (· walk_at "target"))
  | ((with_reducible apply s_exprs); (· walk_at "ev"))
  | ((with_reducible apply s_puts); (· walk_at "ev"); (· walk_at "ev"); (· walk_at "ev"); (· walk_at "prim"))))
local macro_rules | `(tactic| walk_at "sts") => `(tactic| (repeat walk_at "st"))
mutual
def D.dp : D → Nat
  | .tup ds => D.dps ds + 1
  | _ => 0
def D.dps : List D → Nat
  | [] => 0
  | d :: ds => max (D.dp d) (D.dps ds)
end
theorem wRng1_run {e : EnvD} {S S1 : Sto} {m : XE} {j : Int} (h : m e S = some (.int j, S1)) (hs : smallI j = true) : wRng1 m e S = some (.fix (rngD 0 j), S1) := by
  unfold wRng1
  rw [h]
  dsimp only
  rw [if_pos hs]
theorem wRng2_run {e : EnvD} {S S1 S2 : Sto} {m n : XE} {i j : Int} (h : m e S = some (.int i, S1)) (h2 : n e S1 = some (.int j, S2)) (hs : (smallI i && smallI j) = true) : wRng2 m n e S = some (.fix (rngD i j), S2) := by
  unfold wRng2
  rw [h]
  dsimp only
  rw [h2]
  dsimp only
  rw [if_pos hs]
theorem rng_get {i j : Int} {k : Nat} {d : D} (h : (rngD i j)[k]? = some d) : d = .int (i + k) ∧ k < (j - i).toNat := by
  unfold rngD at h
  rw [List.getElem?_map] at h
  by_cases c : k < (j - i).toNat
  · rw [List.getElem?_range c] at h
    cases h
    exact ⟨rfl, c⟩
  · rw [List.getElem?_eq_none_iff.mpr (by simpa using c)] at h
    cases h
theorem rng_len {i j : Int} : (rngD i j).length = (j - i).toNat := by simp [rngD]
theorem small_i {i : Int} (h0 : -1000000 ≤ i) (h1 : i ≤ 1000000) : smallI i = true := by
  unfold smallI
  simp [h0, h1]
def sCell : XS := (sSeq (sIf (bVal (xOp fLt (xVar 1) (xAll fLen (xCons (xVar 0) xNil)))) (sSeq (sRet (xOp fIx (xVar 0) (xVar 1))) sNil) sNil) (sSeq (sRet (xC (.int 0))) sNil))
def sDigits (f : List D → Sto → Option (D × Sto)) : XS := (sSeq (sAsg (xAll mkLst xNil) (gN 3)) (sSeq (sFor (wRng2 (xVar 1) (xVar 2)) (gN 4) (sSeq (sAsg (xCall 2 f (xCons (xVar 0) (xCons (xVar 4) xNil))) (gN 5)) (sSeq (sIf (bVal (xOp fLt (xVar 5) (xC (.int 0)))) (sSeq (sAsg (xOp fSub (xC (.int 1)) (xOp fMul (xC (.int 2)) (xVar 5))) (gN 5)) sNil) sNil) (sSeq (sIf (bVal (xOp fGe (xVar 5) (xOp fPow (xC (.int 10)) (xC (.int 18))))) (sSeq (sFor (wRng1 (xC (.int 60))) (gN 6) (sSeq (sIf (bVal (xOp fGt (xVar 5) (xC (.int 0)))) (sSeq (sExpr (xMet okList fApp (xVar 3) (xCons (xOp fMod (xAll fInt (xCons (xVar 5) xNil)) (xC (.int 1000))) xNil))) (sSeq (sAsg (xOp fDiv (xVar 5) (xC (.int 1000))) (gN 5)) sNil)) sNil) sNil)) sNil) (sSeq (sAsg (xOp fMod (xAll fInt (xCons (xOp fAdd (xOp fAdd (xOp fMul (xVar 5) (xC (.int 48271))) (xOp fMul (xVar 4) (xC (.int 69621)))) (xC (.int 11))) xNil)) (xC (.int 2147483647))) (gN 7)) (sSeq (sFor (wRng1 (xC (.int 12))) (gN 6) (sSeq (sAsg (xOp fMod (xAll fInt (xCons (xOp fAdd (xOp fAdd (xOp fMul (xVar 7) (xC (.int 16807))) (xOp fMul (xC (.int 7)) (xVar 6))) (xC (.int 1))) xNil)) (xC (.int 2147483647))) (gN 7)) (sSeq (sExpr (xMet okList fApp (xVar 3) (xCons (xOp fMod (xAll fInt (xCons (xOp fDiv (xVar 7) (xC (.int 997))) xNil)) (xC (.int 1000))) xNil))) sNil))) sNil))) sNil)))) (sSeq (sRet (xVar 3)) sNil)))
def sBox (f : List D → Sto → Option (D × Sto)) : XS := (sSeq (sRet (xAll mkLst (xCons (xCall 3 f (xCons (xVar 0) (xCons (xVar 1) (xCons (xVar 2) xNil)))) (xCons (xC (.int 0)) xNil)))) sNil)
def sDraw : XS := (sSeq (sAsg (xOp fIx (xVar 0) (xC (.int 1))) (gN 2)) (sSeq (sPut fPut (xOp fAdd (xVar 2) (xC (.int 1))) (xVar 0) (xC (.int 1))) (sSeq (sIf (bVal (xOp fLt (xVar 2) (xAll fLen (xCons (xOp fIx (xVar 0) (xC (.int 0))) xNil)))) (sSeq (sRet (xOp fMod (xAll fInt (xCons (xOp fIx (xOp fIx (xVar 0) (xC (.int 0))) (xVar 2)) xNil)) (xVar 1))) sNil) sNil) (sSeq (sRet (xC (.int 0))) sNil))))
theorem cell_run {S : Sto} {s : Nat} {ns : List Int} (h : lstAt S s = some (ns.map D.int)) (hl : ns.length ≤ 1000) (k : Nat) : ∃ i : Int, ends (sCell [some (.loc s), some (.int (k : Int))] S) = some (.int i, S) := by
  have q1 : fLen [.loc s] S = some (.int (ns.length : Int), S) := by
    have q := len_lst h
    rw [List.length_map] at q
    exact q
  by_cases c : (k : Int) < ns.length
  · have hk : k < ns.length := by omega
    have q2 : fIx (.loc s) (.int (k : Int)) S = some (.int ns[k], S) := ix_lst h (by rw [List.getElem?_map, List.getElem?_eq_getElem hk]; rfl)
    refine ⟨ns[k], ?_⟩
    apply e_rt
    unfold sCell
    walk_at "sts"
  · refine ⟨0, ?_⟩
    apply e_rt
    unfold sCell
    walk_at "sts"
theorem mul_l (i j : Int) (S : Sto) (h : small64 i = true) : fMul (.int i) (.int j) S = some (.int (i * j), S) := by
  show (match (if (small64 i || small64 j) = true then some (D.int (i * j)) else none) with | some d => some (d, S) | none => none) = _
  rw [h, Bool.true_or, if_pos rfl]
theorem mul_r (i j : Int) (S : Sto) (h : small64 j = true) : fMul (.int i) (.int j) S = some (.int (i * j), S) := by
  show (match (if (small64 i || small64 j) = true then some (D.int (i * j)) else none) with | some d => some (d, S) | none => none) = _
  rw [h, Bool.or_true, if_pos rfl]
theorem pow_18 (S : Sto) : fPow (.int 10) (.int 18) S = some (.int 1000000000000000000, S) := by
  unfold fPow fI
  simp
theorem wRng1_c {e : EnvD} {S : Sto} {j : Int} (hs : smallI j = true) : wRng1 (xC (.int j)) e S = some (.fix (rngD 0 j), S) := wRng1_run rfl hs
def IntsAt (S : Sto) (n : Nat) (b : Nat) : Prop := ∃ ms : List Int, S[n]? = some (.lst (ms.map D.int)) ∧ ms.length ≤ b
def Keeps (n : Nat) (S S' : Sto) : Prop := S'.length = S.length ∧ ∀ i, i ≠ n → S'[i]? = S[i]?
theorem Keeps.refl {n : Nat} {S : Sto} : Keeps n S S := ⟨rfl, fun _ _ => rfl⟩
theorem Keeps.trans {n : Nat} {S S1 S2 : Sto} (a : Keeps n S S1) (b : Keeps n S1 S2) : Keeps n S S2 := ⟨b.1.trans a.1, fun i h => (b.2 i h).trans (a.2 i h)⟩
theorem Keeps.set {n : Nat} {S : Sto} {o : O} : Keeps n S (S.set n o) := ⟨List.length_set, fun i h => List.getElem?_set_ne (Ne.symm h)⟩
theorem Keeps.lst {n m : Nat} {S S' : Sto} {ds : List D} (k : Keeps n S S') (h : m ≠ n) (e : lstAt S m = some ds) : lstAt S' m = some ds := by
  unfold lstAt at e ⊢
  rw [k.2 m h]
  exact e
theorem IntsAt.app {S : Sto} {n b : Nat} (h : IntsAt S n b) (hb : b < 1000000) (i : Int) : ∃ S', fApp (.loc n) [.int i] S = some (.non, S') ∧ IntsAt S' n (b + 1) ∧ Keeps n S S' ∧ okList (.loc n) S = true := by
  obtain ⟨ms, h1, h2⟩ := h
  refine ⟨_, app_run h1 (by rw [List.length_map]; omega), ⟨ms ++ [i], ?_, by simp; omega⟩, .set, okl_run h1⟩
  rw [List.getElem?_set_self (List.getElem?_eq_some_iff.mp h1).1]
  simp
theorem IntsAt.mono {S : Sto} {n b c : Nat} (h : IntsAt S n b) (hb : b ≤ c) : IntsAt S n c := let ⟨ms, h1, h2⟩ := h; ⟨ms, h1, Nat.le_trans h2 hb⟩
theorem dig1 {S : Sto} {L b : Nat} {w : Int} {x0 x1 x2 x4 x6 x7 : Option D} (h : IntsAt S L b) (hb : b + 60 < 1000000) :
    ∃ e' S', sFor (wRng1 (xC (.int 60))) (gN 6) (sSeq (sIf (bVal (xOp fGt (xVar 5) (xC (.int 0)))) (sSeq (sExpr (xMet okList fApp (xVar 3) (xCons (xOp fMod (xAll fInt (xCons (xVar 5) xNil)) (xC (.int 1000))) xNil))) (sSeq (sAsg (xOp fDiv (xVar 5) (xC (.int 1000))) (gN 5)) sNil)) sNil) sNil) [x0, x1, x2, some (.loc L), x4, some (.int w), x6, x7] S = some (.nx e' S') ∧ IntsAt S' L (b + 60) ∧ Keeps L S S' ∧ ∃ w' x6', e' = [x0, x1, x2, some (.loc L), x4, some (.int w'), x6', x7] := by
  have loop := forL_all (g := gN 6) (s := (sSeq (sIf (bVal (xOp fGt (xVar 5) (xC (.int 0)))) (sSeq (sExpr (xMet okList fApp (xVar 3) (xCons (xOp fMod (xAll fInt (xCons (xVar 5) xNil)) (xC (.int 1000))) xNil))) (sSeq (sAsg (xOp fDiv (xVar 5) (xC (.int 1000))) (gN 5)) sNil)) sNil) sNil)) (ds := rngD 0 60) (e := [x0, x1, x2, some (.loc L), x4, some (.int w), x6, x7]) (S := S)
    (P := fun j e' S' => IntsAt S' L (b + j) ∧ Keeps L S S' ∧ ∃ w' x6', e' = [x0, x1, x2, some (.loc L), x4, some (.int w'), x6', x7]) ⟨h, .refl, _, _, rfl⟩ (fun i d hd e' S' ⟨p1, p2, w', x6', p3⟩ => by
      obtain ⟨rfl, hi⟩ := rng_get hd
      subst p3
      have hi : i < 60 := hi
      by_cases c : 0 < w'
      · obtain ⟨S2, q1, q2, q3, q4⟩ := p1.app (by omega) (w' % 1000)
        refine ⟨_, [x0, x1, x2, some (.loc L), x4, some (.int (w' / 1000)), some (.int (0 + (i : Int))), x7], S2, rfl, .inl ?_, q2, p2.trans q3, _, _, rfl⟩
        simp only [List.set_cons_zero, List.set_cons_succ]
        walk_at "sts"
      · refine ⟨_, [x0, x1, x2, some (.loc L), x4, some (.int w'), some (.int (0 + (i : Int))), x7], S', rfl, .inl ?_, p1.mono (by omega), p2, _, _, rfl⟩
        simp only [List.set_cons_zero, List.set_cons_succ]
        walk_at "sts")
  obtain ⟨e', S', h1, h2, h3, h4⟩ := loop
  exact ⟨e', S', s_for_fix (wRng1_c rfl) h1, h2, h3, h4⟩
theorem dig2 {S : Sto} {L b : Nat} {w : Int} {x0 x1 x2 x4 x5 x6 : Option D} (h : IntsAt S L b) (hb : b + 12 < 1000000) :
    ∃ e' S', sFor (wRng1 (xC (.int 12))) (gN 6) (sSeq (sAsg (xOp fMod (xAll fInt (xCons (xOp fAdd (xOp fAdd (xOp fMul (xVar 7) (xC (.int 16807))) (xOp fMul (xC (.int 7)) (xVar 6))) (xC (.int 1))) xNil)) (xC (.int 2147483647))) (gN 7)) (sSeq (sExpr (xMet okList fApp (xVar 3) (xCons (xOp fMod (xAll fInt (xCons (xOp fDiv (xVar 7) (xC (.int 997))) xNil)) (xC (.int 1000))) xNil))) sNil)) [x0, x1, x2, some (.loc L), x4, x5, x6, some (.int w)] S = some (.nx e' S') ∧ IntsAt S' L (b + 12) ∧ Keeps L S S' ∧ ∃ w' x6', e' = [x0, x1, x2, some (.loc L), x4, x5, x6', some (.int w')] := by
  have loop := forL_all (g := gN 6) (s := (sSeq (sAsg (xOp fMod (xAll fInt (xCons (xOp fAdd (xOp fAdd (xOp fMul (xVar 7) (xC (.int 16807))) (xOp fMul (xC (.int 7)) (xVar 6))) (xC (.int 1))) xNil)) (xC (.int 2147483647))) (gN 7)) (sSeq (sExpr (xMet okList fApp (xVar 3) (xCons (xOp fMod (xAll fInt (xCons (xOp fDiv (xVar 7) (xC (.int 997))) xNil)) (xC (.int 1000))) xNil))) sNil))) (ds := rngD 0 12) (e := [x0, x1, x2, some (.loc L), x4, x5, x6, some (.int w)]) (S := S)
    (P := fun j e' S' => IntsAt S' L (b + j) ∧ Keeps L S S' ∧ ∃ w' x6', e' = [x0, x1, x2, some (.loc L), x4, x5, x6', some (.int w')]) ⟨h, .refl, _, _, rfl⟩ (fun i d hd e' S' ⟨p1, p2, w', x6', p3⟩ => by
      obtain ⟨rfl, hi⟩ := rng_get hd
      subst p3
      have hi : i < 12 := hi
      have m1 := mul_r w' 16807 S' rfl
      have m2 := mul_l 7 (0 + (i : Int)) S' rfl
      obtain ⟨S2, q1, q2, q3, q4⟩ := p1.app (by omega) (((w' * 16807 + 7 * (0 + (i : Int)) + 1) % 2147483647) / 997 % 1000)
      refine ⟨_, [x0, x1, x2, some (.loc L), x4, x5, some (.int (0 + (i : Int))), some (.int ((w' * 16807 + 7 * (0 + (i : Int)) + 1) % 2147483647))], S2, rfl, .inl ?_, q2, p2.trans q3, _, _, rfl⟩
      simp only [List.set_cons_zero, List.set_cons_succ]
      walk_at "sts")
  obtain ⟨e', S', h1, h2, h3, h4⟩ := loop
  exact ⟨e', S', s_for_fix (wRng1_c rfl) h1, h2, h3, h4⟩
theorem digits_run (f : List D → Sto → Option (D × Sto)) {S : Sto} {s : Nat} {ns : List Int} (hf : ∀ (S' : Sto) (k : Nat), lstAt S' s = some (ns.map D.int) → ∃ i : Int, f [.loc s, .int (k : Int)] S' = some (.int i, S')) (h : lstAt S s = some (ns.map D.int)) (last : Nat) (hlast : last ≤ 100) :
    ∃ ms : List Int, ms.length ≤ 6000 ∧ ends (sDigits f [some (.loc s), some (.int 0), some (.int (last : Int)), none, none, none, none, none] S) = some (.loc S.length, S ++ [.lst (ms.map D.int)]) := by
  have hs : s < S.length := by
    unfold lstAt at h
    cases q : S[s]? with
    | none => rw [q] at h; cases h
    | some o => exact (List.getElem?_eq_some_iff.mp q).1
  have hne : s ≠ S.length := Nat.ne_of_lt hs
  have h0 : lstAt (S ++ [.lst []]) s = some (ns.map D.int) := by
    unfold lstAt at h ⊢
    rw [List.getElem?_append_left hs]
    exact h
  have loop := forL_all (g := gN 4) (s := (sSeq (sAsg (xCall 2 f (xCons (xVar 0) (xCons (xVar 4) xNil))) (gN 5)) (sSeq (sIf (bVal (xOp fLt (xVar 5) (xC (.int 0)))) (sSeq (sAsg (xOp fSub (xC (.int 1)) (xOp fMul (xC (.int 2)) (xVar 5))) (gN 5)) sNil) sNil) (sSeq (sIf (bVal (xOp fGe (xVar 5) (xOp fPow (xC (.int 10)) (xC (.int 18))))) (sSeq (sFor (wRng1 (xC (.int 60))) (gN 6) (sSeq (sIf (bVal (xOp fGt (xVar 5) (xC (.int 0)))) (sSeq (sExpr (xMet okList fApp (xVar 3) (xCons (xOp fMod (xAll fInt (xCons (xVar 5) xNil)) (xC (.int 1000))) xNil))) (sSeq (sAsg (xOp fDiv (xVar 5) (xC (.int 1000))) (gN 5)) sNil)) sNil) sNil)) sNil) (sSeq (sAsg (xOp fMod (xAll fInt (xCons (xOp fAdd (xOp fAdd (xOp fMul (xVar 5) (xC (.int 48271))) (xOp fMul (xVar 4) (xC (.int 69621)))) (xC (.int 11))) xNil)) (xC (.int 2147483647))) (gN 7)) (sSeq (sFor (wRng1 (xC (.int 12))) (gN 6) (sSeq (sAsg (xOp fMod (xAll fInt (xCons (xOp fAdd (xOp fAdd (xOp fMul (xVar 7) (xC (.int 16807))) (xOp fMul (xC (.int 7)) (xVar 6))) (xC (.int 1))) xNil)) (xC (.int 2147483647))) (gN 7)) (sSeq (sExpr (xMet okList fApp (xVar 3) (xCons (xOp fMod (xAll fInt (xCons (xOp fDiv (xVar 7) (xC (.int 997))) xNil)) (xC (.int 1000))) xNil))) sNil))) sNil))) sNil))))
    (ds := rngD 0 (last : Int)) (e := [some (.loc s), some (.int 0), some (.int (last : Int)), some (.loc S.length), none, none, none, none]) (S := S ++ [.lst []])
    (P := fun j e' S' => IntsAt S' S.length (60 * j) ∧ Keeps S.length (S ++ [.lst []]) S' ∧ ∃ a b c d, e' = [some (.loc s), some (.int 0), some (.int (last : Int)), some (.loc S.length), a, b, c, d]) ⟨⟨[], by simp⟩, .refl, _, _, _, _, rfl⟩ ?_
  · obtain ⟨e', S', h1, ⟨ms, h2, h3⟩, hk, a, b, c, d, rfl⟩ := loop
    rw [rng_len] at h3
    refine ⟨ms, by omega, ?_⟩
    have eS : S' = S ++ [.lst (ms.map D.int)] := by
      apply List.ext_getElem?
      intro i
      by_cases hi : i = S.length
      · subst hi
        rw [h2]
        simp
      · rw [hk.2 i hi]
        by_cases hi2 : i < S.length
        · rw [List.getElem?_append_left hi2, List.getElem?_append_left hi2]
        · rw [List.getElem?_eq_none_iff.mpr (by simp; omega), List.getElem?_eq_none_iff.mpr (by simp; omega)]
    subst eS
    have hw : wRng2 (xVar 1) (xVar 2) [some (.loc s), some (.int 0), some (.int (last : Int)), some (.loc S.length), none, none, none, none] (S ++ [.lst []]) = some (.fix (rngD 0 (last : Int)), S ++ [.lst []]) :=
      wRng2_run rfl rfl (by rw [small_i (by omega) (by omega), small_i (by omega) (by omega)]; rfl)
    have q9 := s_for_fix hw h1
    apply e_rt
    unfold sDigits
    walk_at "st"
    apply s_seq
    · exact q9
    · walk_at "sts"
  · intro i d hd e' S' ⟨p1, p2, a, b, c, dd, p3⟩
    obtain ⟨rfl, hi⟩ := rng_get hd
    subst p3
    rw [Int.zero_add]
    have hi : i < last := by omega
    obtain ⟨v, hv⟩ := hf S' i (p2.lst hne h0)
    -- the cell, made positive
    have rest : ∀ (w : Int), ∃ e2 S2, sSeq (sIf (bVal (xOp fGe (xVar 5) (xOp fPow (xC (.int 10)) (xC (.int 18))))) (sSeq (sFor (wRng1 (xC (.int 60))) (gN 6) (sSeq (sIf (bVal (xOp fGt (xVar 5) (xC (.int 0)))) (sSeq (sExpr (xMet okList fApp (xVar 3) (xCons (xOp fMod (xAll fInt (xCons (xVar 5) xNil)) (xC (.int 1000))) xNil))) (sSeq (sAsg (xOp fDiv (xVar 5) (xC (.int 1000))) (gN 5)) sNil)) sNil) sNil)) sNil) (sSeq (sAsg (xOp fMod (xAll fInt (xCons (xOp fAdd (xOp fAdd (xOp fMul (xVar 5) (xC (.int 48271))) (xOp fMul (xVar 4) (xC (.int 69621)))) (xC (.int 11))) xNil)) (xC (.int 2147483647))) (gN 7)) (sSeq (sFor (wRng1 (xC (.int 12))) (gN 6) (sSeq (sAsg (xOp fMod (xAll fInt (xCons (xOp fAdd (xOp fAdd (xOp fMul (xVar 7) (xC (.int 16807))) (xOp fMul (xC (.int 7)) (xVar 6))) (xC (.int 1))) xNil)) (xC (.int 2147483647))) (gN 7)) (sSeq (sExpr (xMet okList fApp (xVar 3) (xCons (xOp fMod (xAll fInt (xCons (xOp fDiv (xVar 7) (xC (.int 997))) xNil)) (xC (.int 1000))) xNil))) sNil))) sNil))) sNil
        [some (.loc s), some (.int 0), some (.int (last : Int)), some (.loc S.length), some (.int (i : Int)), some (.int w), c, dd] S' = some (.nx e2 S2) ∧ IntsAt S2 S.length (60 * (i + 1)) ∧ Keeps S.length (S ++ [.lst []]) S2 ∧ ∃ a b c d, e2 = [some (.loc s), some (.int 0), some (.int (last : Int)), some (.loc S.length), a, b, c, d] := by
      intro w
      have hp : fPow (.int 10) (.int 18) S' = some (.int 1000000000000000000, S') := pow_18 S'
      by_cases hc : (1000000000000000000 : Int) ≤ w
      · obtain ⟨e2, S2, r1, r2, r3, w', x6', rfl⟩ := dig1 (x0 := some (.loc s)) (x1 := some (.int 0)) (x2 := some (.int (last : Int))) (x4 := some (.int (i : Int))) (x6 := c) (x7 := dd) (w := w) p1 (by omega)
        refine ⟨[some (.loc s), some (.int 0), some (.int (last : Int)), some (.loc S.length), some (.int (i : Int)), some (.int w'), x6', dd], S2, ?_, r2.mono (by omega), p2.trans r3, _, _, _, _, rfl⟩
        walk_at "st"
        apply s_seqs
        apply s_seq
        · exact r1
        · walk_at "sts"
      · have m1 := mul_r w 48271 S' rfl
        have m2 := mul_r (i : Int) 69621 S' rfl
        obtain ⟨e2, S2, r1, r2, r3, w', x6', rfl⟩ := dig2 (x0 := some (.loc s)) (x1 := some (.int 0)) (x2 := some (.int (last : Int))) (x4 := some (.int (i : Int))) (x5 := some (.int w)) (x6 := c) (w := (w * 48271 + (i : Int) * 69621 + 11) % 2147483647) p1 (by omega)
        refine ⟨[some (.loc s), some (.int 0), some (.int (last : Int)), some (.loc S.length), some (.int (i : Int)), some (.int w), x6', some (.int w')], S2, ?_, r2.mono (by omega), p2.trans r3, _, _, _, _, rfl⟩
        walk_at "st"
        walk_at "st"
        walk_at "st"
        walk_at "st"
        apply s_seq
        · exact r1
        · walk_at "sts"
    by_cases hc : v < 0
    · have m1 := mul_l 2 v S' rfl
      obtain ⟨e2, S2, r1, r2, r3, r4⟩ := rest (1 - 2 * v)
      refine ⟨_, e2, S2, rfl, .inl ?_, r2, r3, r4⟩
      simp only [List.set_cons_zero, List.set_cons_succ]
      walk_at "st"
      walk_at "st"
      walk_at "st"
      walk_at "st"
      walk_at "st"
      exact r1
    · obtain ⟨e2, S2, r1, r2, r3, r4⟩ := rest v
      refine ⟨_, e2, S2, rfl, .inl ?_, r2, r3, r4⟩
      simp only [List.set_cons_zero, List.set_cons_succ]
      walk_at "st"
      walk_at "st"
      walk_at "st"
      exact r1
def Box (S : Sto) (b : Nat) : Prop := ∃ (l : Nat) (ms : List Int) (i : Int), S[b]? = some (.lst [.loc l, .int i]) ∧ l ≠ b ∧ S[l]? = some (.lst (ms.map D.int)) ∧ 0 ≤ i ∧ ms.length ≤ 100000
theorem Box.keeps {S S' : Sto} {b n : Nat} (k : Keeps n S S') (h : Box S b) (h1 : b ≠ n) (h2 : ∀ (l : Nat) (ms : List Int) (i : Int), S[b]? = some (.lst [.loc l, .int i]) → S[l]? = some (.lst (ms.map D.int)) → l ≠ n) : Box S' b := by
  obtain ⟨l, ms, i, a1, a2, a3, a4⟩ := h
  exact ⟨l, ms, i, by rw [k.2 b h1]; exact a1, a2, by rw [k.2 l (h2 l ms i a1 a3)]; exact a3, a4⟩
theorem Box.more {S : Sto} {b : Nat} (h : Box S b) (T : Sto) : Box (S ++ T) b := by
  obtain ⟨l, ms, i, a1, a2, a3, a4⟩ := h
  refine ⟨l, ms, i, ?_, a2, ?_, a4⟩
  · rw [List.getElem?_append_left (List.getElem?_eq_some_iff.mp a1).1]; exact a1
  · rw [List.getElem?_append_left (List.getElem?_eq_some_iff.mp a3).1]; exact a3
theorem Box.lt {S : Sto} {b : Nat} (h : Box S b) : b < S.length := by
  obtain ⟨l, ms, i, a1, _⟩ := h
  exact (List.getElem?_eq_some_iff.mp a1).1
theorem box_run (f : List D → Sto → Option (D × Sto)) {S : Sto} {s : Nat} {last : Nat} (hf : ∃ ms : List Int, ms.length ≤ 6000 ∧ f [.loc s, .int 0, .int (last : Int)] S = some (.loc S.length, S ++ [.lst (ms.map D.int)])) :
    ∃ S', ends (sBox f [some (.loc s), some (.int 0), some (.int (last : Int))] S) = some (.loc (S.length + 1), S') ∧ Box S' (S.length + 1) ∧ S'.length = S.length + 2 ∧ S <+: S' := by
  obtain ⟨ms, h1, h2⟩ := hf
  refine ⟨S ++ [.lst (ms.map D.int)] ++ [.lst [.loc S.length, .int 0]], ?_, ⟨S.length, ms, 0, ?_, by omega, ?_, by omega, by omega⟩, by simp, ?_⟩
  · apply fin_eq
    · apply e_rt
      unfold sBox
      walk_at "sts"
    · simp
  · rw [List.getElem?_append_right (by simp)]
    simp
  · rw [List.append_assoc, List.getElem?_append_right (Nat.le_refl _)]
    simp
  · rw [List.append_assoc]
    exact List.prefix_append _ _
end Mini
end
section
namespace Mini
open PySem L2

inductive W where
  | p (d : D) | l (ds : List D) | n (ws : List W) | bx | dk (kvs : List (Key × D)) | m (a ds b : List D)
  deriving Inhabited
abbrev Tape := Option (List Int)
abbrev VEnv := List (Option W)
abbrev UE := VEnv → Tape → Option (W × Tape)
abbrev UL := VEnv → Tape → Option (List W × Tape)
abbrev UB := VEnv → Tape → Option (Bool × Tape)
abbrev UW := VEnv → Tape → Option (List D × Tape)
inductive URes where
  | nx (e : VEnv) (t : Tape) | rt (w : W) (t : Tape) | bk (e : VEnv) (t : Tape) | ct (e : VEnv) (t : Tape)
  deriving Inhabited
abbrev US := VEnv → Tape → Option URes

mutual
def W.nobx : W → Bool
  | .bx => false
  | .n ws => W.nobxs ws
  | _ => true
def W.nobxs : List W → Bool
  | [] => true
  | w :: ws => W.nobx w && W.nobxs ws
end
mutual
def D.np : D → Prop
  | .tup ds => ds.length ≤ 1000000 ∧ D.nps ds
  | .loc _ => False
  | .str x => PyData.strOk x = true
  | _ => True
def D.nps : List D → Prop
  | [] => True
  | d :: ds => D.np d ∧ D.nps ds
end
theorem D.nps_iff : ∀ {ds : List D}, D.nps ds ↔ ∀ d ∈ ds, D.np d
  | [] => by simp [D.nps]
  | d :: ds => by simp [D.nps, D.nps_iff (ds := ds)]
theorem D.nps_get {ds : List D} {i : Nat} {d : D} (h : D.nps ds) (e : ds[i]? = some d) : D.np d := D.nps_iff.mp h d (List.mem_of_getElem? e)
theorem D.nps_app {xs ys : List D} (h : D.nps xs) (k : D.nps ys) : D.nps (xs ++ ys) := D.nps_iff.mpr fun d hd => by
  rcases List.mem_append.mp hd with z | z
  · exact D.nps_iff.mp h d z
  · exact D.nps_iff.mp k d z

mutual
def D.dok : Nat → D → Bool
  | 0, .tup _ => false
  | n + 1, .tup ds => D.doks n ds
  | _, _ => true
def D.doks : Nat → List D → Bool
  | _, [] => true
  | n, d :: ds => D.dok n d && D.doks n ds
end
theorem strOk_app {x y : Str} (h : PyData.strOk x = true) (k : PyData.strOk y = true) : PyData.strOk (x ++ y) = true := by
  unfold PyData.strOk at *
  rw [show (x ++ y).cps = x.cps ++ y.cps from rfl]
  rw [Array.all_append, h, k]; rfl
mutual
theorem D.pub_of : ∀ {d : D} {n : Nat}, D.np d → D.dok n d = true → D.pub n d = true
  | .non, n, _, _ => by cases n <;> rfl
  | .bl _, n, _, _ => by cases n <;> rfl
  | .int _, n, _, _ => by cases n <;> rfl
  | .str x, n, h, _ => by
    have h' : PyData.strOk x = true := h
    cases n <;> exact h'
  | .loc _, _, h, _ => h.elim
  | .tup ds, 0, _, k => by cases k
  | .tup ds, n + 1, h, k => D.pubs_of (ds := ds) (n := n) h.2 k
theorem D.pubs_of : ∀ {ds : List D} {n : Nat}, D.nps ds → D.doks n ds = true → D.pubs n ds = true
  | [], _, _, _ => by unfold D.pubs; rfl
  | d :: ds, n, h, k => by
    have k' : (D.dok n d && D.doks n ds) = true := k
    rw [Bool.and_eq_true] at k'
    show (D.pub n d && D.pubs n ds) = true
    rw [D.pub_of h.1 k'.1, D.pubs_of h.2 k'.2]; rfl
end

abbrev Bxs := Option (Nat × Nat)
def Off (β : Bxs) (k : Nat) : Prop := ∀ b l, β = some (b, l) → k ≠ b ∧ k ≠ l
mutual
inductive Vw (β : Bxs) (S : Sto) : D → W → List Nat → Prop
  | p {d : D} : d.np → Vw β S d (.p d) []
  | l {k : Nat} {ds : List D} : S[k]? = some (.lst ds) → D.nps ds → ds.length ≤ 1000000 → Vw β S (.loc k) (.l ds) [k]
  | n {k : Nat} {ds : List D} {ws : List W} {fs : List (List Nat)} : S[k]? = some (.lst ds) → Vws β S ds ws fs → ds.length ≤ 1000000 → Vw β S (.loc k) (.n ws) (k :: fs.flatten)
  | bx {b l : Nat} : β = some (b, l) → Vw β S (.loc b) .bx []
  | dk {k : Nat} {kvs : List (Key × D)} : S[k]? = some (.dct kvs) → D.nps (kvs.map (·.2)) → Vw β S (.loc k) (.dk kvs) [k]
  | m {k : Nat} {d : D} {a ds b : List D} : d = .tup (a ++ .loc k :: b) → D.nps a → D.nps b → S[k]? = some (.lst ds) → D.nps ds → ds.length ≤ 1000000 → Vw β S d (.m a ds b) [k]
inductive Vws (β : Bxs) (S : Sto) : List D → List W → List (List Nat) → Prop
  | nil : Vws β S [] [] []
  | cons {d : D} {w : W} {f : List Nat} {ds : List D} {ws : List W} {fs : List (List Nat)} : Vw β S d w f → Vws β S ds ws fs → Vws β S (d :: ds) (w :: ws) (f :: fs)
end
def Kn (β : Bxs) (S S' : Sto) : Prop := S.length ≤ S'.length ∧ ∀ i, i < S.length → (∀ b l, β = some (b, l) → i ≠ b) → S'[i]? = S[i]?
def Bx (β : Bxs) (S : Sto) (τ : Tape) : Prop := match β with
  | none => τ = none
  | some (b, l) => ∃ (ms : List Int) (a : Nat), S[b]? = some (.lst [.loc l, .int (a : Int)]) ∧ l ≠ b ∧ S[l]? = some (.lst (ms.map D.int)) ∧ ms.length ≤ 100000 ∧ τ = some (ms.drop a)
theorem Kn.refl {β : Bxs} {S : Sto} : Kn β S S := ⟨Nat.le_refl _, fun _ _ _ => rfl⟩
theorem Kn.trans {β : Bxs} {S S1 S2 : Sto} (a : Kn β S S1) (b : Kn β S1 S2) : Kn β S S2 :=
  ⟨Nat.le_trans a.1 b.1, fun i h k => (b.2 i (Nat.lt_of_lt_of_le h a.1) k).trans (a.2 i h k)⟩
theorem Kn.more {β : Bxs} {S T : Sto} : Kn β S (S ++ T) := ⟨by simp, fun i h _ => List.getElem?_append_left h⟩
theorem Kn.get {β : Bxs} {S S' : Sto} (a : Kn β S S') {i : Nat} {o : O} (h : Off β i) (e : S[i]? = some o) : S'[i]? = some o :=
  (a.2 i (List.getElem?_eq_some_iff.mp e).1 fun b l z => (h b l z).1).trans e
mutual
theorem Vw.kn {β : Bxs} {S S' : Sto} (a : Kn β S S') : ∀ {d : D} {w : W} {f : List Nat}, (∀ k ∈ f, Off β k) → Vw β S d w f → Vw β S' d w f
  | _, _, _, _, .p h => .p h
  | _, _, _, o, .l h k z => .l (a.get (o _ (List.mem_cons_self ..)) h) k z
  | _, _, _, o, .n h k z => .n (a.get (o _ (List.mem_cons_self ..)) h) (Vws.kn a (fun f hf k hk => o k (List.mem_cons_of_mem _ (List.mem_flatten.mpr ⟨f, hf, hk⟩))) k) z
  | _, _, _, _, .bx h => .bx h
  | _, _, _, o, .dk h k => .dk (a.get (o _ (List.mem_cons_self ..)) h) k
  | _, _, _, o, .m e h1 h2 h k z => .m e h1 h2 (a.get (o _ (List.mem_cons_self ..)) h) k z
theorem Vws.kn {β : Bxs} {S S' : Sto} (a : Kn β S S') : ∀ {ds : List D} {ws : List W} {fs : List (List Nat)}, (∀ f ∈ fs, ∀ k ∈ f, Off β k) → Vws β S ds ws fs → Vws β S' ds ws fs
  | _, _, _, _, .nil => .nil
  | _, _, _, o, .cons h k => .cons (Vw.kn a (o _ (List.mem_cons_self ..)) h) (Vws.kn a (fun f hf => o f (List.mem_cons_of_mem _ hf)) k)
end
mutual
theorem Vw.lt {β : Bxs} {S : Sto} : ∀ {d : D} {w : W} {f : List Nat}, Vw β S d w f → ∀ k ∈ f, k < S.length
  | _, _, _, .p _, k, h => by simp at h
  | _, _, _, .l e _ _, k, h => by
    rw [List.mem_singleton] at h; subst h
    exact (List.getElem?_eq_some_iff.mp e).1
  | _, _, _, .n e q _, k, h => by
    rcases List.mem_cons.mp h with rfl | h
    · exact (List.getElem?_eq_some_iff.mp e).1
    · obtain ⟨f, hf, hk⟩ := List.mem_flatten.mp h
      exact Vws.lt q f hf k hk
  | _, _, _, .bx _, k, h => by simp at h
  | _, _, _, .dk e _, k, h => by
    rw [List.mem_singleton] at h; subst h
    exact (List.getElem?_eq_some_iff.mp e).1
  | _, _, _, .m _ _ _ e _ _, k, h => by
    rw [List.mem_singleton] at h; subst h
    exact (List.getElem?_eq_some_iff.mp e).1
theorem Vws.lt {β : Bxs} {S : Sto} : ∀ {ds : List D} {ws : List W} {fs : List (List Nat)}, Vws β S ds ws fs → ∀ f ∈ fs, ∀ k ∈ f, k < S.length
  | _, _, _, .nil, f, hf, _, _ => by simp at hf
  | _, _, _, .cons h q, f, hf, k, hk => by
    rcases List.mem_cons.mp hf with rfl | hf
    · exact Vw.lt h k hk
    · exact Vws.lt q f hf k hk
end
theorem Vws.len {β : Bxs} {S : Sto} : ∀ {ds : List D} {ws : List W} {fs : List (List Nat)}, Vws β S ds ws fs → ds.length = ws.length ∧ fs.length = ws.length
  | _, _, _, .nil => ⟨rfl, rfl⟩
  | _, _, _, .cons _ q => ⟨congrArg (· + 1) (Vws.len q).1, congrArg (· + 1) (Vws.len q).2⟩
theorem Vws.get {β : Bxs} {S : Sto} : ∀ {ds : List D} {ws : List W} {fs : List (List Nat)} {i : Nat} {w : W}, Vws β S ds ws fs → ws[i]? = some w → ∃ d f, ds[i]? = some d ∧ fs[i]? = some f ∧ Vw β S d w f
  | _, _, _, i, w, .nil, e => by simp at e
  | _, _, _, 0, w, .cons h _, e => by simp at e; subst e; exact ⟨_, _, rfl, rfl, h⟩
  | _, _, _, i + 1, w, .cons _ q, e => by
    obtain ⟨d, f, h1, h2, h3⟩ := Vws.get (i := i) q (by simpa using e)
    exact ⟨d, f, by simpa using h1, by simpa using h2, h3⟩
theorem tru_app {S : Sto} {a b : List D} {x : D} : truth S (.tup (a ++ x :: b)) = some true := by cases a <;> rfl
theorem Vws.plain {β : Bxs} {S : Sto} : ∀ {b : List D}, D.nps b → Vws β S b (b.map .p) (b.map fun _ => [])
  | [], _ => .nil
  | _ :: _, h => .cons (.p h.1) (Vws.plain h.2)
theorem Vws.mid {β : Bxs} {S : Sto} {k : Nat} {ds b : List D} (h : S[k]? = some (.lst ds)) (n : D.nps ds) (z : ds.length ≤ 1000000) (hb : D.nps b) : ∀ {a : List D}, D.nps a → Vws β S (a ++ .loc k :: b) (a.map .p ++ .l ds :: b.map .p) (a.map (fun _ => []) ++ [k] :: b.map fun _ => [])
  | [], _ => .cons (.l h n z) (Vws.plain hb)
  | _ :: _, ha => .cons (.p ha.1) (Vws.mid h n z hb ha.2)
theorem flat_mid {k : Nat} {a b : List D} : (a.map (fun _ => ([] : List Nat)) ++ [k] :: b.map fun _ => []).flatten = [k] := by
  induction a with
  | nil =>
    induction b with
    | nil => rfl
    | cons x b ih => simpa using ih
  | cons x a ih => simpa using ih
theorem Bx.kn {β : Bxs} {S S' : Sto} {τ : Tape} (a : Kn β S S') (h : Bx β S τ) (e : ∀ b l, β = some (b, l) → S'[b]? = S[b]?) : Bx β S' τ := by
  cases β with
  | none => exact h
  | some q =>
    obtain ⟨b, l⟩ := q
    obtain ⟨ms, c, h1, h2, h3, h4⟩ := h
    exact ⟨ms, c, (e b l rfl).trans h1, h2, (a.2 l (List.getElem?_eq_some_iff.mp h3).1 fun b' l' z => by cases z; exact h2).trans h3, h4⟩
theorem Bx.more {β : Bxs} {S T : Sto} {τ : Tape} (h : Bx β S τ) : Bx β (S ++ T) τ := h.kn Kn.more fun b l z => by
  subst z
  obtain ⟨ms, c, h1, _⟩ := h
  exact List.getElem?_append_left (List.getElem?_eq_some_iff.mp h1).1
theorem Bx.off {β : Bxs} {S : Sto} {τ : Tape} (h : Bx β S τ) {k : Nat} (hk : S.length ≤ k) : Off β k := fun b l z => by
  subst z
  obtain ⟨ms, c, h1, _, h3, _⟩ := h
  have := (List.getElem?_eq_some_iff.mp h1).1
  have := (List.getElem?_eq_some_iff.mp h3).1
  omega

structure Sit (β : Bxs) (S : Sto) (e : EnvD) (ε : VEnv) (fp : Nat → List Nat) (τ : Tape) : Prop where
  len : e.length = ε.length
  at_ : ∀ (i : Nat) (w : W), ε[i]? = some (some w) → ∃ d, e[i]? = some (some d) ∧ Vw β S d w (fp i)
  off : ∀ i, ∀ k ∈ fp i, Off β k
  nd : ∀ i, (fp i).Nodup
  bx : Bx β S τ
theorem Sit.kn {β : Bxs} {S S' : Sto} {e : EnvD} {ε : VEnv} {fp : Nat → List Nat} {τ τ' : Tape} (s : Sit β S e ε fp τ) (a : Kn β S S') (b : Bx β S' τ') : Sit β S' e ε fp τ' :=
  ⟨s.len, fun i w h => let ⟨d, h1, h2⟩ := s.at_ i w h; ⟨d, h1, h2.kn a (s.off i)⟩, s.off, s.nd, b⟩
def From (β : Bxs) (S : Sto) (us : List Nat) (fp : Nat → List Nat) (fo : List Nat) : Prop := fo.Nodup ∧ ∀ k ∈ fo, Off β k ∧ (S.length ≤ k ∨ ∃ i ∈ us, k ∈ fp i)
theorem From.nil {β : Bxs} {S : Sto} {us : List Nat} {fp : Nat → List Nat} : From β S us fp [] := ⟨.nil, fun k h => by simp at h⟩
theorem From.kn {β : Bxs} {S S1 : Sto} {us : List Nat} {fp : Nat → List Nat} {fo : List Nat} (h : S.length ≤ S1.length) (f : From β S1 us fp fo) : From β S us fp fo :=
  ⟨f.1, fun k hk => ⟨(f.2 k hk).1, (f.2 k hk).2.imp (fun z => Nat.le_trans h z) id⟩⟩
theorem From.sub {β : Bxs} {S : Sto} {us vs : List Nat} {fp : Nat → List Nat} {fo : List Nat} (h : ∀ i ∈ us, i ∈ vs) (f : From β S us fp fo) : From β S vs fp fo :=
  ⟨f.1, fun k hk => ⟨(f.2 k hk).1, (f.2 k hk).2.imp id fun ⟨i, h1, h2⟩ => ⟨i, h i h1, h2⟩⟩⟩

def SE (us : List Nat) (m : XE) (v : UE) : Prop := ∀ β S e ε fp τ w τ', Sit β S e ε fp τ → v ε τ = some (w, τ') → ∃ d S' fo, m e S = some (d, S') ∧ Kn β S S' ∧ Bx β S' τ' ∧ Vw β S' d w fo ∧ From β S us fp fo
def SB (m : XB) (v : UB) : Prop := ∀ β S e ε fp τ k τ', Sit β S e ε fp τ → v ε τ = some (k, τ') → ∃ S', m e S = some (k, S') ∧ Kn β S S' ∧ Bx β S' τ'
def SL (us : List Nat) (m : XL) (v : UL) : Prop := ∀ β S e ε fp τ ws τ', Sit β S e ε fp τ → v ε τ = some (ws, τ') → ∃ ds S' fs, m e S = some (ds, S') ∧ Kn β S S' ∧ Bx β S' τ' ∧ Vws β S' ds ws fs ∧ ∀ fo ∈ fs, From β S us fp fo
def SW (us : List Nat) (m : XW) (v : UW) : Prop := ∀ β S e ε fp τ ds τ', Sit β S e ε fp τ → v ε τ = some (ds, τ') → ∃ wk S', m e S = some (wk, S') ∧ Kn β S S' ∧ Bx β S' τ' ∧ D.nps ds ∧ ds.length ≤ 1000000 ∧
  (wk = .fix ds ∨ ∃ k, wk = .live k ∧ S'[k]? = some (.lst ds) ∧ From β S us fp [k])

def uVar (i : Nat) : UE := fun ε τ => match ε[i]? with
  | some (some w) => some (w, τ)
  | _ => none
def uC (d : D) : UE := fun _ τ => some (.p d, τ)
def uOp (f : W → W → Option W) (a b : UE) : UE := fun ε τ => match a ε τ with
  | none => none
  | some (x, τ1) => match b ε τ1 with
    | none => none
    | some (y, τ2) => match f x y with
      | none => none
      | some z => some (z, τ2)
def uUn (f : W → Option W) (a : UE) : UE := fun ε τ => match a ε τ with
  | none => none
  | some (x, τ1) => match f x with
    | none => none
    | some z => some (z, τ1)
def uNil : UL := fun _ τ => some ([], τ)
def uCons (a : UE) (l : UL) : UL := fun ε τ => match a ε τ with
  | none => none
  | some (x, τ1) => match l ε τ1 with
    | none => none
    | some (xs, τ2) => some (x :: xs, τ2)
def uAll (f : List W → Option W) (l : UL) : UE := fun ε τ => match l ε τ with
  | none => none
  | some (xs, τ1) => match f xs with
    | none => none
    | some z => some (z, τ1)
def uCall (k : Nat) (F : List W → Tape → Option (W × Tape)) (l : UL) : UE := fun ε τ => match l ε τ with
  | none => none
  | some (ws, τ1) => if ws.length = k then F ws τ1 else none
def uCallP (k : Nat) (F : List W → Tape → Option (W × Tape)) (l : UL) : UE := fun ε τ => match l ε τ with
  | none => none
  | some (ws, τ1) => if (decide (ws.length = k) && W.nobxs ws) = true then match F ws none with
      | some (w, none) => some (w, τ1)
      | _ => none
    else none
def uIf (c : UB) (a b : UE) : UE := fun ε τ => match c ε τ with
  | none => none
  | some (true, τ1) => a ε τ1
  | some (false, τ1) => b ε τ1
def uAnd (a b : UE) : UE := fun ε τ => match a ε τ with
  | some (.p (.bl true), τ1) => b ε τ1
  | some (.p (.bl false), τ1) => some (.p (.bl false), τ1)
  | _ => none
def truthW : W → Option Bool
  | .p d => truth [] d
  | .l ds => some (!ds.isEmpty)
  | .n ws => some (!ws.isEmpty)
  | .bx => none
  | .dk _ => none
  | .m _ _ _ => some true
def uNot (a : UE) : UE := fun ε τ => match a ε τ with
  | none => none
  | some (x, τ1) => match truthW x with
    | none => none
    | some k => some (.p (.bl (!k)), τ1)
def tyW : W → Option Ty
  | .p d => tyD [] d
  | .l _ => some .list
  | .n _ => some .list
  | .bx => none
  | .dk _ => none
  | .m _ _ _ => some .tuple
def uIsi (T : Ty) (a : UE) : UE := fun ε τ => match a ε τ with
  | none => none
  | some (x, τ1) => match tyW x with
    | none => none
    | some t => some (.p (.bl (isTy t T)), τ1)
def cTru (a : UE) : UB := fun ε τ => match a ε τ with
  | none => none
  | some (x, τ1) => match truthW x with
    | none => none
    | some k => some (k, τ1)
def cVal (a : UE) : UB := fun ε τ => match a ε τ with
  | some (.p (.bl t), τ1) => some (t, τ1)
  | _ => none
def cAnd (a b : UB) : UB := fun ε τ => match a ε τ with
  | none => none
  | some (true, τ1) => b ε τ1
  | some (false, τ1) => some (false, τ1)
def cOr (a b : UB) : UB := fun ε τ => match a ε τ with
  | none => none
  | some (true, τ1) => some (true, τ1)
  | some (false, τ1) => b ε τ1
def cNot (a : UB) : UB := fun ε τ => match a ε τ with
  | none => none
  | some (k, τ1) => some (!k, τ1)
def cYes : UB := fun _ τ => some (true, τ)

def OpP (f : D → D → Sto → Option (D × Sto)) (g : W → W → Option W) : Prop := ∀ β S x y w1 w2 p1 p2 w, Vw β S x w1 p1 → Vw β S y w2 p2 → g w1 w2 = some w → ∃ d, w = .p d ∧ d.np ∧ f x y S = some (d, S)
def OpV (u : Bool) (f : D → D → Sto → Option (D × Sto)) (g : W → W → Option W) : Prop := ∀ β S x y w1 w2 p1 p2 w, Vw β S x w1 p1 → Vw β S y w2 p2 → p1.Nodup → g w1 w2 = some w →
  ∃ d T fo, f x y S = some (d, S ++ T) ∧ Vw β (S ++ T) d w fo ∧ fo.Nodup ∧ ∀ k ∈ fo, S.length ≤ k ∨ (u = true ∧ k ∈ p1)
theorem OpP.v {f : D → D → Sto → Option (D × Sto)} {g : W → W → Option W} (h : OpP f g) : OpV false f g := fun β S x y w1 w2 p1 p2 w h1 h2 _ e => by
  obtain ⟨d, rfl, q, r⟩ := h β S x y w1 w2 p1 p2 w h1 h2 e
  exact ⟨d, [], [], by rw [List.append_nil]; exact r, .p q, .nil, fun k hk => by simp at hk⟩
def AllV (u : Bool) (f : List D → Sto → Option (D × Sto)) (g : List W → Option W) : Prop := ∀ β S ds ws fs w, Vws β S ds ws fs → g ws = some w →
  ∃ d T fo, f ds S = some (d, S ++ T) ∧ Vw β (S ++ T) d w fo ∧ fo.Nodup ∧ ∀ k ∈ fo, S.length ≤ k ∨ (u = true ∧ ∃ p ∈ fs, k ∈ p)
def SFn (fr : Bool) (f : List D → Sto → Option (D × Sto)) (F : List W → Tape → Option (W × Tape)) : Prop := ∀ β S ds ws fs τ w τ', Vws β S ds ws fs → (∀ f ∈ fs, f.Nodup ∧ ∀ k ∈ f, Off β k) → Bx β S τ → F ws τ = some (w, τ') →
  ∃ d S' fo, f ds S = some (d, S') ∧ Kn β S S' ∧ Bx β S' τ' ∧ Vw β S' d w fo ∧ fo.Nodup ∧ ∀ k ∈ fo, Off β k ∧ (S.length ≤ k ∨ (fr = false ∧ ∃ p ∈ fs, k ∈ p))
theorem SFn.none {fr : Bool} {f : List D → Sto → Option (D × Sto)} : SFn fr f fun _ _ => none := fun _ _ _ _ _ _ _ _ _ _ _ h => nomatch h

section
variable {us vs : List Nat} {a b : XE} {ua ub : UE} {l : XL} {ul : UL} {p q : XB} {up uq : UB}
theorem se_var (i : Nat) : SE [i] (xVar i) (uVar i) := fun β S e ε fp τ w τ' s h => by
  unfold uVar at h
  split at h
  · rename_i w' q
    cases h
    obtain ⟨d, h1, h2⟩ := s.at_ i _ q
    refine ⟨d, S, fp i, ?_, .refl, s.bx, h2, s.nd i, fun k hk => ⟨s.off i k hk, .inr ⟨i, List.mem_singleton.mpr rfl, hk⟩⟩⟩
    unfold xVar
    rw [h1]
  · cases h
theorem se_c {d : D} (hd : d.np := by first | trivial | exact (by decide +kernel : PyData.strOk _ = true)) : SE [] (xC d) (uC d) := fun β S e ε fp τ w τ' s h => by
  cases h
  exact ⟨d, S, [], rfl, .refl, s.bx, .p hd, .nil⟩
theorem se_op {f : D → D → Sto → Option (D × Sto)} {g : W → W → Option W} {u : Bool} (o : OpV u f g) (ha : SE us a ua) (hb : SE vs b ub) : SE (if u then us else []) (xOp f a b) (uOp g ua ub) := fun β S e ε fp τ w τ' s h => by
  unfold uOp at h
  split at h
  · cases h
  rename_i x τ1 e1
  split at h
  · cases h
  rename_i y τ2 e2
  split at h
  · cases h
  rename_i z e3
  cases h
  obtain ⟨d1, S1, f1, a1, a2, a3, a4, a5⟩ := ha β S e ε fp τ x τ1 s e1
  obtain ⟨d2, S2, f2, b1, b2, b3, b4, b5⟩ := hb β S1 e ε fp τ1 y _ (s.kn a2 a3) e2
  obtain ⟨d, T, fo, c1, c2, c3, c4⟩ := o β S2 d1 d2 x y f1 f2 w (a4.kn b2 fun k hk => (a5.2 k hk).1) b4 a5.1 e3
  refine ⟨d, S2 ++ T, fo, ?_, (a2.trans b2).trans .more, b3.more, c2, c3, fun k hk => ?_⟩
  · unfold xOp
    rw [a1]
    dsimp only
    rw [b1]
    exact c1
  · rcases c4 k hk with z | ⟨rfl, z⟩
    · exact ⟨b3.off z, .inl (Nat.le_trans (a2.trans b2).1 z)⟩
    · exact a5.2 k z
theorem se_un {f : D → Sto → Option (D × Sto)} {g : W → Option W} (o : ∀ β S x w1 p1 w, Vw β S x w1 p1 → g w1 = some w → ∃ d, w = .p d ∧ d.np ∧ f x S = some (d, S)) (ha : SE us a ua) : SE [] (xUn f a) (uUn g ua) := fun β S e ε fp τ w τ' s h => by
  unfold uUn at h
  split at h
  · cases h
  rename_i x τ1 e1
  split at h
  · cases h
  rename_i z e3
  cases h
  obtain ⟨d1, S1, f1, a1, a2, a3, a4, a5⟩ := ha β S e ε fp τ x _ s e1
  obtain ⟨d, rfl, c1, c2⟩ := o β S1 d1 x f1 w a4 e3
  refine ⟨d, S1, [], ?_, a2, a3, .p c1, .nil⟩
  unfold xUn
  rw [a1]
  exact c2
theorem sl_nil : SL [] xNil uNil := fun β S e ε fp τ w τ' s h => by
  cases h
  exact ⟨[], S, [], rfl, .refl, s.bx, .nil, fun f hf => by simp at hf⟩
theorem sl_cons (ha : SE us a ua) (hl : SL vs l ul) : SL (us ++ vs) (xCons a l) (uCons ua ul) := fun β S e ε fp τ w τ' s h => by
  unfold uCons at h
  split at h
  · cases h
  rename_i x τ1 e1
  split at h
  · cases h
  rename_i xs τ2 e2
  cases h
  obtain ⟨d1, S1, f1, a1, a2, a3, a4, a5⟩ := ha β S e ε fp τ x τ1 s e1
  obtain ⟨ds, S2, fs, b1, b2, b3, b4, b5⟩ := hl β S1 e ε fp τ1 xs _ (s.kn a2 a3) e2
  refine ⟨d1 :: ds, S2, f1 :: fs, ?_, a2.trans b2, b3, .cons (a4.kn b2 fun k hk => (a5.2 k hk).1) b4, fun f hf => ?_⟩
  · unfold xCons
    rw [a1]
    dsimp only
    rw [b1]
  · rcases List.mem_cons.mp hf with rfl | hf
    · exact a5.sub fun i hi => List.mem_append_left _ hi
    · exact ((b5 f hf).kn a2.1).sub fun i hi => List.mem_append_right _ hi
theorem se_all {f : List D → Sto → Option (D × Sto)} {g : List W → Option W} {u : Bool} (o : AllV u f g) (hl : SL us l ul) : SE (if u then us else []) (xAll f l) (uAll g ul) := fun β S e ε fp τ w τ' s h => by
  unfold uAll at h
  split at h
  · cases h
  rename_i xs τ1 e1
  split at h
  · cases h
  rename_i z e3
  cases h
  obtain ⟨ds, S1, fs, b1, b2, b3, b4, b5⟩ := hl β S e ε fp τ xs _ s e1
  obtain ⟨d, T, fo, c1, c2, c3, c4⟩ := o β S1 ds xs fs w b4 e3
  refine ⟨d, S1 ++ T, fo, ?_, b2.trans .more, b3.more, c2, c3, fun k hk => ?_⟩
  · unfold xAll
    rw [b1]
    exact c1
  · rcases c4 k hk with z | ⟨rfl, p, hp, z⟩
    · exact ⟨b3.off z, .inl (Nat.le_trans b2.1 z)⟩
    · exact (b5 p hp).2 k z
theorem se_call {f : List D → Sto → Option (D × Sto)} {F : List W → Tape → Option (W × Tape)} {fr : Bool} (k : Nat) (o : SFn fr f F) (hl : SL us l ul) : SE (if fr then [] else us) (xCall k f l) (uCall k F ul) := fun β S e ε fp τ w τ' s h => by
  unfold uCall at h
  split at h
  · cases h
  rename_i xs τ1 e1
  split at h
  rotate_left
  · cases h
  rename_i hk
  obtain ⟨ds, S1, fs, b1, b2, b3, b4, b5⟩ := hl β S e ε fp τ xs _ s e1
  obtain ⟨d, S2, fo, c1, c2, c3, c4, c5, c6⟩ := o β S1 ds xs fs τ1 w τ' b4 (fun f hf => ⟨(b5 f hf).1, fun k hk => ((b5 f hf).2 k hk).1⟩) b3 h
  refine ⟨d, S2, fo, ?_, b2.trans c2, c3, c4, c5, fun k hk => ?_⟩
  · unfold xCall
    rw [b1]
    dsimp only
    rw [if_pos (b4.len.1.trans hk)]
    exact c1
  · obtain ⟨q1, q2⟩ := c6 k hk
    rcases q2 with z | ⟨rfl, p, hp, z⟩
    · exact ⟨q1, .inl (Nat.le_trans b2.1 z)⟩
    · exact (b5 p hp).2 k z
theorem Kn.none {β : Bxs} {S S' : Sto} (h : Kn none S S') : Kn β S S' := ⟨h.1, fun i hi _ => h.2 i hi fun _ _ z => by cases z⟩
mutual
theorem Vw.un {β : Bxs} {S : Sto} : ∀ {d : D} {w : W} {f : List Nat}, Vw none S d w f → Vw β S d w f
  | _, _, _, .p h => .p h
  | _, _, _, .l h k z => .l h k z
  | _, _, _, .n h k z => .n h (Vws.un k) z
  | _, _, _, .bx h => by cases h
  | _, _, _, .dk h k => .dk h k
  | _, _, _, .m e h1 h2 h k z => .m e h1 h2 h k z
theorem Vws.un {β : Bxs} {S : Sto} : ∀ {ds : List D} {ws : List W} {fs : List (List Nat)}, Vws none S ds ws fs → Vws β S ds ws fs
  | _, _, _, .nil => .nil
  | _, _, _, .cons h k => .cons (Vw.un h) (Vws.un k)
end
mutual
theorem Vw.to {β : Bxs} {S : Sto} : ∀ {d : D} {w : W} {f : List Nat}, W.nobx w = true → Vw β S d w f → Vw none S d w f
  | _, _, _, _, .p h => .p h
  | _, _, _, _, .l h k z => .l h k z
  | _, _, _, n, .n h k z => .n h (Vws.to n k) z
  | _, _, _, n, .bx h => by cases n
  | _, _, _, n, .dk h k => .dk h k
  | _, _, _, n, .m e h1 h2 h k z => .m e h1 h2 h k z
theorem Vws.to {β : Bxs} {S : Sto} : ∀ {ds : List D} {ws : List W} {fs : List (List Nat)}, W.nobxs ws = true → Vws β S ds ws fs → Vws none S ds ws fs
  | _, _, _, _, .nil => .nil
  | _, w :: ws, _, n, .cons h k => by
    have n' : (W.nobx w && W.nobxs ws) = true := n
    rw [Bool.and_eq_true] at n'
    exact .cons (Vw.to n'.1 h) (Vws.to n'.2 k)
end
theorem se_callP {f : List D → Sto → Option (D × Sto)} {F : List W → Tape → Option (W × Tape)} {fr : Bool} (k : Nat) (o : SFn fr f F) (hl : SL us l ul) : SE (if fr then [] else us) (xCall k f l) (uCallP k F ul) := fun β S e ε fp τ w τ' s h => by
  unfold uCallP at h
  split at h
  · cases h
  rename_i xs τ1 e1
  split at h
  rotate_left
  · cases h
  rename_i hk
  rw [Bool.and_eq_true, decide_eq_true_eq] at hk
  split at h
  rotate_left
  · cases h
  rename_i w' e2
  cases h
  obtain ⟨ds, S1, fs, b1, b2, b3, b4, b5⟩ := hl β S e ε fp τ xs _ s e1
  obtain ⟨d, S2, fo, c1, c2, c3, c4, c5, c6⟩ := o none S1 ds xs fs none w none (b4.to hk.2) (fun f hf => ⟨(b5 f hf).1, fun k hk b l z => by cases z⟩) rfl e2
  have kn : Kn β S1 S2 := c2.none
  refine ⟨d, S2, fo, ?_, b2.trans kn, ?_, c4.un, c5, fun k hk => ?_⟩
  · unfold xCall
    rw [b1]
    dsimp only
    rw [if_pos (b4.len.1.trans hk.1)]
    exact c1
  · refine b3.kn kn fun b l z => ?_
    subst z
    obtain ⟨ms, c, h1, _⟩ := b3
    exact c2.2 b (List.getElem?_eq_some_iff.mp h1).1 fun _ _ z => by cases z
  · obtain ⟨_, q2⟩ := c6 k hk
    rcases q2 with z | ⟨rfl, p, hp, z⟩
    · exact ⟨b3.off z, .inl (Nat.le_trans b2.1 z)⟩
    · exact (b5 p hp).2 k z
theorem se_if (hc : SB p up) (ha : SE us a ua) (hb : SE vs b ub) : SE (us ++ vs) (xIf p a b) (uIf up ua ub) := fun β S e ε fp τ w τ' s h => by
  unfold uIf at h
  split at h
  · cases h
  · rename_i τ1 e1
    obtain ⟨S1, a1, a2, a3⟩ := hc β S e ε fp τ _ _ s e1
    obtain ⟨d, S2, fo, b1, b2, b3, b4, b5⟩ := ha β S1 e ε fp _ w τ' (s.kn a2 a3) h
    exact ⟨d, S2, fo, by unfold xIf; rw [a1]; exact b1, a2.trans b2, b3, b4, (b5.kn a2.1).sub fun i hi => List.mem_append_left _ hi⟩
  · rename_i τ1 e1
    obtain ⟨S1, a1, a2, a3⟩ := hc β S e ε fp τ _ _ s e1
    obtain ⟨d, S2, fo, b1, b2, b3, b4, b5⟩ := hb β S1 e ε fp _ w τ' (s.kn a2 a3) h
    exact ⟨d, S2, fo, by unfold xIf; rw [a1]; exact b1, a2.trans b2, b3, b4, (b5.kn a2.1).sub fun i hi => List.mem_append_right _ hi⟩
theorem Vw.bl {β : Bxs} {S : Sto} {d : D} {k : Bool} {f : List Nat} (h : Vw β S d (.p (.bl k)) f) : d = .bl k := by cases h; rfl
theorem se_and (ha : SE us a ua) (hb : SE vs b ub) : SE vs (xAnd a b) (uAnd ua ub) := fun β S e ε fp τ w τ' s h => by
  unfold uAnd at h
  split at h
  · rename_i τ1 e1
    obtain ⟨d, S1, f1, a1, a2, a3, a4, a5⟩ := ha β S e ε fp τ _ _ s e1
    cases a4.bl
    obtain ⟨d2, S2, fo, b1, b2, b3, b4, b5⟩ := hb β S1 e ε fp _ w τ' (s.kn a2 a3) h
    exact ⟨d2, S2, fo, by unfold xAnd; rw [a1]; exact b1, a2.trans b2, b3, b4, b5.kn a2.1⟩
  · rename_i τ1 e1
    cases h
    obtain ⟨d, S1, f1, a1, a2, a3, a4, a5⟩ := ha β S e ε fp τ _ _ s e1
    cases a4.bl
    exact ⟨.bl false, S1, [], by unfold xAnd; rw [a1], a2, a3, .p trivial, .nil⟩
  · cases h
theorem truthW_of {β : Bxs} {S : Sto} {d : D} {w : W} {f : List Nat} {k : Bool} (h : Vw β S d w f) (e : truthW w = some k) : truth S d = some k := by
  have go : ∀ {n : Nat} {ds : List D}, S[n]? = some (.lst ds) → truth S (.loc n) = some (!ds.isEmpty) := fun {n ds} h1 => by
    show (match S[n]? with | some (O.lst ds) => some (!ds.isEmpty) | some (O.frz ds) => some (!ds.isEmpty) | _ => none) = _
    rw [h1]
  cases h with
  | p hd =>
    cases d with
    | loc n => exact hd.elim
    | _ => exact e
  | l h1 h2 =>
    cases e
    exact go h1
  | n h1 h2 =>
    cases e
    rw [go h1]
    cases h2 <;> rfl
  | bx _ => cases e
  | dk _ _ => cases e
  | m z _ _ _ _ _ => cases e; subst z; exact tru_app
theorem tyW_of {β : Bxs} {S : Sto} {d : D} {w : W} {f : List Nat} {k : Ty} (h : Vw β S d w f) (e : tyW w = some k) : tyD S d = some k := by
  have go : ∀ {n : Nat} {ds : List D}, S[n]? = some (.lst ds) → tyD S (.loc n) = some .list := fun {n ds} h1 => by
    show (match lstAt S n with | some _ => some Ty.list | none => none) = _
    unfold lstAt
    rw [h1]
  cases h with
  | p hd =>
    cases d with
    | loc n => exact hd.elim
    | _ => exact e
  | l h1 h2 => cases e; exact go h1
  | n h1 h2 => cases e; exact go h1
  | bx _ => cases e
  | dk _ _ => cases e
  | m z _ _ _ _ _ => cases e; subst z; rfl
theorem se_not (ha : SE us a ua) : SE [] (xNot a) (uNot ua) := fun β S e ε fp τ w τ' s h => by
  unfold uNot at h
  split at h
  · cases h
  rename_i x τ1 e1
  split at h
  · cases h
  rename_i k e2
  cases h
  obtain ⟨d, S1, fo, a1, a2, a3, a4, a5⟩ := ha β S e ε fp τ x _ s e1
  exact ⟨.bl (!k), S1, [], by unfold xNot; rw [a1]; dsimp only; rw [truthW_of a4 e2], a2, a3, .p trivial, .nil⟩
theorem se_isi (T : Ty) (ha : SE us a ua) : SE [] (xIsi T a) (uIsi T ua) := fun β S e ε fp τ w τ' s h => by
  unfold uIsi at h
  split at h
  · cases h
  rename_i x τ1 e1
  split at h
  · cases h
  rename_i k e2
  cases h
  obtain ⟨d, S1, fo, a1, a2, a3, a4, a5⟩ := ha β S e ε fp τ x _ s e1
  exact ⟨.bl (isTy k T), S1, [], by unfold xIsi; rw [a1]; dsimp only; rw [tyW_of a4 e2], a2, a3, .p trivial, .nil⟩
theorem sb_tru (ha : SE us a ua) : SB (bTru a) (cTru ua) := fun β S e ε fp τ w τ' s h => by
  unfold cTru at h
  split at h
  · cases h
  rename_i x τ1 e1
  split at h
  · cases h
  rename_i k e2
  cases h
  obtain ⟨d, S1, fo, a1, a2, a3, a4, a5⟩ := ha β S e ε fp τ x _ s e1
  exact ⟨S1, by unfold bTru; rw [a1]; dsimp only; rw [truthW_of a4 e2], a2, a3⟩
theorem sb_val (ha : SE us a ua) : SB (bVal a) (cVal ua) := fun β S e ε fp τ w τ' s h => by
  unfold cVal at h
  split at h
  rotate_left
  · cases h
  rename_i t τ1 e1
  cases h
  obtain ⟨d, S1, fo, a1, a2, a3, a4, a5⟩ := ha β S e ε fp τ _ _ s e1
  cases a4.bl
  exact ⟨S1, by unfold bVal; rw [a1], a2, a3⟩
theorem sb_and (ha : SB p up) (hb : SB q uq) : SB (bAnd p q) (cAnd up uq) := fun β S e ε fp τ w τ' s h => by
  unfold cAnd at h
  split at h
  · cases h
  · rename_i τ1 e1
    obtain ⟨S1, a1, a2, a3⟩ := ha β S e ε fp τ _ _ s e1
    obtain ⟨S2, b1, b2, b3⟩ := hb β S1 e ε fp _ w τ' (s.kn a2 a3) h
    exact ⟨S2, by unfold bAnd; rw [a1]; exact b1, a2.trans b2, b3⟩
  · rename_i τ1 e1
    cases h
    obtain ⟨S1, a1, a2, a3⟩ := ha β S e ε fp τ _ _ s e1
    exact ⟨S1, by unfold bAnd; rw [a1], a2, a3⟩
theorem sb_or (ha : SB p up) (hb : SB q uq) : SB (bOr p q) (cOr up uq) := fun β S e ε fp τ w τ' s h => by
  unfold cOr at h
  split at h
  · cases h
  · rename_i τ1 e1
    cases h
    obtain ⟨S1, a1, a2, a3⟩ := ha β S e ε fp τ _ _ s e1
    exact ⟨S1, by unfold bOr; rw [a1], a2, a3⟩
  · rename_i τ1 e1
    obtain ⟨S1, a1, a2, a3⟩ := ha β S e ε fp τ _ _ s e1
    obtain ⟨S2, b1, b2, b3⟩ := hb β S1 e ε fp _ w τ' (s.kn a2 a3) h
    exact ⟨S2, by unfold bOr; rw [a1]; exact b1, a2.trans b2, b3⟩
theorem sb_not (ha : SB p up) : SB (bNot p) (cNot up) := fun β S e ε fp τ w τ' s h => by
  unfold cNot at h
  split at h
  · cases h
  rename_i k τ1 e1
  cases h
  obtain ⟨S1, a1, a2, a3⟩ := ha β S e ε fp τ _ _ s e1
  exact ⟨S1, by unfold bNot; rw [a1], a2, a3⟩
theorem sb_yes : SB bYes cYes := fun β S e ε fp τ w τ' s h => by
  cases h
  exact ⟨S, rfl, .refl, s.bx⟩
end
end Mini
end
section
namespace Mini
open PySem L2

def wI (g : Int → Int → Option D) : W → W → Option W
  | .p (.int i), .p (.int j) => match g i j with
    | some d => some (.p d)
    | none => none
  | _, _ => none
theorem opP_I {g : Int → Int → Option D} (h : ∀ i j d, g i j = some d → d.np) : OpP (fI g) (wI g) := fun β S x y w1 w2 p1 p2 w h1 h2 e => by
  unfold wI at e
  split at e
  · rename_i i j
    split at e
    · rename_i d eg
      cases e
      cases h1; cases h2
      exact ⟨d, rfl, h i j d eg, by unfold fI; dsimp only; rw [eg]⟩
    · cases e
  · cases e
def wSub : W → W → Option W := wI fun i j => some (.int (i - j))
def wMul : W → W → Option W := wI fun i j => if (small64 i || small64 j) = true then some (.int (i * j)) else none
def wDiv : W → W → Option W := wI fun i j => if (decide (0 < j) && decide (j < 1073741824)) = true then some (.int (i / j)) else none
def wMod : W → W → Option W := wI fun i j => if decide (0 < j) = true then some (.int (i % j)) else none
def wLt : W → W → Option W := wI fun i j => some (.bl (decide (i < j)))
def wLe : W → W → Option W := wI fun i j => some (.bl (decide (i ≤ j)))
def wGt : W → W → Option W := wI fun i j => some (.bl (decide (j < i)))
def wGe : W → W → Option W := wI fun i j => some (.bl (decide (j ≤ i)))
theorem op_sub' : OpP fSub wSub := opP_I fun i j d h => by cases h; trivial
theorem op_mul' : OpP fMul wMul := opP_I fun i j d h => by split at h <;> cases h; trivial
theorem op_div' : OpP fDiv wDiv := opP_I fun i j d h => by split at h <;> cases h; trivial
theorem op_mod' : OpP fMod wMod := opP_I fun i j d h => by split at h <;> cases h; trivial
theorem op_lt' : OpP fLt wLt := opP_I fun i j d h => by cases h; trivial
theorem op_le' : OpP fLe wLe := opP_I fun i j d h => by cases h; trivial
theorem op_gt' : OpP fGt wGt := opP_I fun i j d h => by cases h; trivial
theorem op_ge' : OpP fGe wGe := opP_I fun i j d h => by cases h; trivial
def wAdd : W → W → Option W := wI fun i j => some (.int (i + j))
theorem op_add' : OpP fAdd wAdd := fun β S x y w1 w2 p1 p2 w h1 h2 e => by
  unfold wAdd wI at e
  split at e
  · cases e
    cases h1; cases h2
    exact ⟨_, rfl, trivial, rfl⟩
  · cases e
def wNeg : W → Option W
  | .p (.int i) => some (.p (.int (-i)))
  | _ => none
theorem un_neg' : ∀ β S x w1 p1 w, Vw β S x w1 p1 → wNeg w1 = some w → ∃ d, w = .p d ∧ d.np ∧ fNeg x S = some (d, S) := fun β S x w1 p1 w h e => by
  unfold wNeg at e
  split at e
  · cases e
    cases h
    exact ⟨_, rfl, trivial, rfl⟩
  · cases e
def wPlus : W → W → Option W
  | .p (.int i), .p (.int j) => some (.p (.int (i + j)))
  | .p (.str i), .p (.str j) => if i.length + j.length ≤ 1000000 then some (.p (.str (i ++ j))) else none
  | .p (.tup xs), .p (.tup ys) => if xs.length + ys.length ≤ 1000000 then some (.p (.tup (xs ++ ys))) else none
  | .l xs, .l ys => if xs.length + ys.length ≤ 1000000 then some (.l (xs ++ ys)) else none
  | _, _ => none
theorem op_plus' : OpV false fPlus wPlus := fun β S x y w1 w2 p1 p2 w h1 h2 _ e => by
  unfold wPlus at e
  split at e
  · cases e; cases h1; cases h2
    exact ⟨_, [], [], by rw [List.append_nil]; rfl, .p trivial, .nil, fun k hk => by simp at hk⟩
  · split at e
    · rename_i c
      cases e; cases h1; cases h2
      rename_i n2 _ n1
      exact ⟨_, [], [], by rw [List.append_nil]; unfold fPlus; dsimp only; rw [if_pos c], .p (strOk_app n2 n1), .nil, fun k hk => by simp at hk⟩
    · cases e
  · split at e
    · rename_i c
      cases e
      cases h1 with
      | p n1 =>
        cases h2 with
        | p n2 =>
          exact ⟨_, [], [], by rw [List.append_nil]; unfold fPlus; dsimp only; rw [if_pos c], .p ⟨by rw [List.length_append]; exact c, D.nps_app n1.2 n2.2⟩, .nil, fun k hk => by simp at hk⟩
    · cases e
  · rename_i xs ys
    split at e
    · rename_i c
      cases e
      cases h1 with
      | l a1 a2 a3 =>
        cases h2 with
        | l b1 b2 b3 =>
          refine ⟨.loc S.length, [.lst (xs ++ ys)], [S.length], ?_, .l (by simp) (D.nps_app a2 b2) (by rw [List.length_append]; exact c), by simp, fun k hk => .inl (by simp at hk; omega)⟩
          unfold fPlus
          dsimp only
          rw [a1, b1]
          dsimp only
          rw [if_pos c]
    · cases e
  · cases e
def eqV (x y : D) : Option Bool := match eqS x y with
  | some b => some b
  | none => if (D.dok 200 x && D.dok 200 y) = true then some (eqB x y) else none
theorem eqV_F {x y : D} {b : Bool} (hx : x.np) (hy : y.np) (h : eqV x y = some b) : eqF x y = some b := by
  unfold eqV at h
  unfold eqF
  cases q : eqS x y with
  | some b1 => rw [q] at h; exact h
  | none =>
    rw [q] at h
    dsimp only at h ⊢
    by_cases c : (D.dok 200 x && D.dok 200 y) = true
    · rw [if_pos c] at h
      rw [Bool.and_eq_true] at c
      rw [D.pub_of hx c.1, D.pub_of hy c.2]
      exact h
    · rw [if_neg c] at h
      cases h
def wEq : W → W → Option W
  | .p x, .p y => match eqV x y with
    | some b => some (.p (.bl b))
    | none => none
  | _, _ => none
def wNe : W → W → Option W
  | .p x, .p y => match eqV x y with
    | some b => some (.p (.bl (!b)))
    | none => none
  | _, _ => none
theorem Vw.pd {β : Bxs} {S : Sto} {d d' : D} {f : List Nat} (h : Vw β S d (.p d') f) : d = d' ∧ d'.np ∧ f = [] := by
  cases h with
  | p q => exact ⟨rfl, q, rfl⟩
theorem op_eq' : OpP fEq wEq := fun β S x y w1 w2 p1 p2 w h1 h2 e => by
  unfold wEq at e
  split at e
  · split at e
    · rename_i b eb
      cases e
      obtain ⟨rfl, n1, _⟩ := h1.pd
      obtain ⟨rfl, n2, _⟩ := h2.pd
      exact ⟨_, rfl, trivial, by unfold fEq; rw [eqV_F n1 n2 eb]⟩
    · cases e
  · cases e
theorem op_ne' : OpP fNe wNe := fun β S x y w1 w2 p1 p2 w h1 h2 e => by
  unfold wNe at e
  split at e
  · split at e
    · rename_i b eb
      cases e
      obtain ⟨rfl, n1, _⟩ := h1.pd
      obtain ⟨rfl, n2, _⟩ := h2.pd
      exact ⟨_, rfl, trivial, by unfold fNe; rw [eqV_F n1 n2 eb]⟩
    · cases e
  · cases e
def isW : W → W → Option Bool
  | .p x, .p y => isF x y
  | .l _, .p .non => some false
  | .n _, .p .non => some false
  | _, _ => none
def wIs (x y : W) : Option W := match isW x y with
  | some b => some (.p (.bl b))
  | none => none
def wIsNot (x y : W) : Option W := match isW x y with
  | some b => some (.p (.bl (!b)))
  | none => none
theorem isW_of {β : Bxs} {S : Sto} {x y : D} {w1 w2 : W} {p1 p2 : List Nat} {b : Bool} (h1 : Vw β S x w1 p1) (h2 : Vw β S y w2 p2) (e : isW w1 w2 = some b) : isF x y = some b := by
  unfold isW at e
  split at e
  · obtain ⟨rfl, _, _⟩ := h1.pd
    obtain ⟨rfl, _, _⟩ := h2.pd
    exact e
  · cases e
    obtain ⟨rfl, _, _⟩ := h2.pd
    cases h1
    rfl
  · cases e
    obtain ⟨rfl, _, _⟩ := h2.pd
    cases h1
    rfl
  · cases e
theorem op_is' : OpP fIs wIs := fun β S x y w1 w2 p1 p2 w h1 h2 e => by
  unfold wIs at e
  split at e
  · rename_i b eb
    cases e
    exact ⟨_, rfl, trivial, by unfold fIs; rw [isW_of h1 h2 eb]⟩
  · cases e
theorem op_isNot' : OpP fIsNot wIsNot := fun β S x y w1 w2 p1 p2 w h1 h2 e => by
  unfold wIsNot at e
  split at e
  · rename_i b eb
    cases e
    exact ⟨_, rfl, trivial, by unfold fIsNot; rw [isW_of h1 h2 eb]⟩
  · cases e
def wIx : W → W → Option W
  | .p (.tup ds), .p (.int i) => match atI ds i with
    | some d => some (.p d)
    | none => none
  | .p (.str z), .p (.int i) => if z.length ≤ 100000 then match atI z.cps.toList i with
      | some c => some (.p (.str ⟨#[c]⟩))
      | none => none
    else none
  | .l ds, .p (.int i) => match atI ds i with
    | some d => some (.p d)
    | none => none
  | .n ws, .p (.int i) => atI ws i
  | .m a ds b, .p (.int i) => atI (a.map W.p ++ W.l ds :: b.map W.p) i
  | _, _ => none
theorem atI_mem {α : Type} {l : List α} {i : Int} {x : α} (h : atI l i = some x) : ∃ j : Nat, l[j]? = some x := by
  unfold atI at h
  cases q : ixN l.length i with
  | none => rw [q] at h; cases h
  | some j => rw [q] at h; exact ⟨j, h⟩
theorem atI_view {β : Bxs} {S : Sto} {ds : List D} {ws : List W} {fs : List (List Nat)} {i : Int} {w : W} (v : Vws β S ds ws fs) (h : atI ws i = some w) : ∃ d f, atI ds i = some d ∧ f ∈ fs ∧ Vw β S d w f := by
  unfold atI at h ⊢
  rw [v.len.1]
  cases q : ixN ws.length i with
  | none => rw [q] at h; cases h
  | some j =>
    rw [q] at h
    obtain ⟨d, f, h1, h2, h3⟩ := v.get (i := j) h
    exact ⟨d, f, h1, List.mem_of_getElem? h2, h3⟩
theorem nodup_flatten {fs : List (List Nat)} (h : fs.flatten.Nodup) {f : List Nat} (hf : f ∈ fs) : f.Nodup := (List.pairwise_flatten.mp h).1 f hf
theorem op_ix' : OpV true fIx wIx := fun β S x y w1 w2 p1 p2 w h1 h2 nd e => by
  unfold wIx at e
  split at e
  · split at e
    · rename_i d ed
      cases e
      obtain ⟨rfl, n1, _⟩ := h1.pd
      obtain ⟨rfl, _, _⟩ := h2.pd
      obtain ⟨j, hj⟩ := atI_mem ed
      exact ⟨d, [], [], by rw [List.append_nil]; unfold fIx; dsimp only; rw [ed], .p (D.nps_get n1.2 hj), .nil, fun k hk => by simp at hk⟩
    · cases e
  · split at e
    · rename_i c
      split at e
      · rename_i cc ec
        cases e
        obtain ⟨rfl, n1, _⟩ := h1.pd
        obtain ⟨rfl, _, _⟩ := h2.pd
        refine ⟨_, [], [], by rw [List.append_nil]; unfold fIx; dsimp only; rw [if_pos c, ec], .p ?_, .nil, fun k hk => by simp at hk⟩
        obtain ⟨j, hj⟩ := atI_mem ec
        have n1' : PyData.strOk _ = true := n1
        unfold PyData.strOk at n1'
        rw [← Array.all_toList, List.all_eq_true] at n1'
        have := n1' _ (List.mem_of_getElem? hj)
        show PyData.strOk _ = true
        unfold PyData.strOk
        simpa using this
      · cases e
    · cases e
  · split at e
    · rename_i d ed
      cases e
      obtain ⟨rfl, _, _⟩ := h2.pd
      cases h1 with
      | l a1 a2 a3 =>
        obtain ⟨j, hj⟩ := atI_mem ed
        refine ⟨d, [], [], ?_, .p (D.nps_get a2 hj), .nil, fun k hk => by simp at hk⟩
        rw [List.append_nil]
        unfold fIx lstAt
        dsimp only
        rw [a1]
        dsimp only
        rw [ed]
    · cases e
  · obtain ⟨rfl, _, _⟩ := h2.pd
    cases h1 with
    | n a1 a2 a3 =>
      obtain ⟨d, f, ed, hf, v⟩ := atI_view a2 e
      refine ⟨d, [], f, ?_, by rw [List.append_nil]; exact v, nodup_flatten (List.nodup_cons.mp nd).2 hf, fun k hk => .inr ⟨rfl, List.mem_cons_of_mem _ (List.mem_flatten.mpr ⟨f, hf, hk⟩)⟩⟩
      rw [List.append_nil]
      unfold fIx lstAt
      dsimp only
      rw [a1]
      dsimp only
      rw [ed]
  · obtain ⟨rfl, _, _⟩ := h2.pd
    cases h1 with
    | m z n1 n2 q1 q2 q3 =>
      subst z
      rename_i k0
      obtain ⟨d, f, ed, hf, v⟩ := atI_view (Vws.mid (β := β) q1 q2 q3 n2 n1) e
      have hk : ∀ k ∈ f, k ∈ [k0] := fun k hk => by rw [← flat_mid (k := k0)]; exact List.mem_flatten.mpr ⟨f, hf, hk⟩
      refine ⟨d, [], f, ?_, by rw [List.append_nil]; exact v, ?_, fun k h => .inr ⟨rfl, hk k h⟩⟩
      · rw [List.append_nil]
        unfold fIx
        dsimp only
        rw [ed]
      · rcases List.mem_append.mp hf with h | h
        · obtain ⟨_, _, rfl⟩ := List.mem_map.mp h; exact .nil
        · rcases List.mem_cons.mp h with rfl | h
          · simp
          · obtain ⟨_, _, rfl⟩ := List.mem_map.mp h; exact .nil
  · cases e
def itemsW : W → Option (List D)
  | .p (.tup ds) => some ds
  | .l ds => some ds
  | _ => none
theorem itemsW_of {β : Bxs} {S : Sto} {x : D} {w : W} {p : List Nat} {ds : List D} (h : Vw β S x w p) (e : itemsW w = some ds) : itemsOf S x = some ds ∧ D.nps ds ∧ ds.length ≤ 1000000 := by
  unfold itemsW at e
  split at e
  · cases e
    obtain ⟨rfl, n1, _⟩ := h.pd
    exact ⟨rfl, n1.2, n1.1⟩
  · cases e
    cases h with
    | l a1 a2 a3 =>
      refine ⟨?_, a2, a3⟩
      unfold itemsOf lstAt
      dsimp only
      rw [a1]
  · cases e
def lenW : W → Option Int
  | .p (.str z) => if z.length ≤ 100000 then some z.length else none
  | .p (.tup ds) => some ds.length
  | .l ds => some ds.length
  | .n ws => some ws.length
  | .m a _ b => some ((a.length + (b.length + 1) : Nat) : Int)
  | _ => none
def wLen : List W → Option W
  | [x] => match lenW x with
    | some n => some (.p (.int n))
    | none => none
  | _ => none
theorem pureV {f : List D → Sto → Option (D × Sto)} {g : List W → Option W} (h : ∀ β S ds ws fs w, Vws β S ds ws fs → g ws = some w → ∃ d, w = .p d ∧ d.np ∧ f ds S = some (d, S)) : AllV false f g := fun β S ds ws fs w v e => by
  obtain ⟨d, rfl, h1, h2⟩ := h β S ds ws fs w v e
  exact ⟨d, [], [], by rw [List.append_nil]; exact h2, .p h1, .nil, fun k hk => by simp at hk⟩
theorem av_len : AllV false fLen wLen := pureV fun β S ds ws fs w v e => by
  unfold wLen at e
  split at e
  · rename_i x
    split at e
    · rename_i n en
      cases e
      cases v with
      | @cons d0 _ _ _ _ _ h q =>
        cases q
        refine ⟨_, rfl, trivial, ?_⟩
        have : lenF S d0 = some n := by
          unfold lenW at en
          split at en
          · obtain ⟨rfl, _, _⟩ := h.pd; exact en
          · obtain ⟨rfl, _, _⟩ := h.pd; exact en
          · cases en
            cases h with
            | l a1 a2 a3 => unfold lenF lstAt; dsimp only; rw [a1]
          · cases en
            cases h with
            | n a1 a2 a3 => unfold lenF lstAt; dsimp only; rw [a1]; dsimp only; rw [a2.len.1]
          · cases en
            cases h with
            | m z _ _ _ _ _ => subst z; show some (((_ ++ _ :: _ : List D).length : Nat) : Int) = _; rw [List.length_append, List.length_cons]
          · cases en
        unfold fLen
        dsimp only
        rw [this]
    · cases e
  · cases e
def asP : List W → Option (List D)
  | [] => some []
  | .p d :: r => match asP r with
    | some ds => some (d :: ds)
    | none => none
  | _ => none
theorem asP_of {β : Bxs} {S : Sto} : ∀ {ds : List D} {ws : List W} {fs : List (List Nat)} {es : List D}, Vws β S ds ws fs → asP ws = some es → ds = es ∧ D.nps es
  | _, _, _, es, .nil, e => by cases e; exact ⟨rfl, trivial⟩
  | _, .p d' :: ws, _, es, .cons h q, e => by
    unfold asP at e
    split at e
    · rename_i es' e'
      cases e
      obtain ⟨rfl, n1, _⟩ := h.pd
      obtain ⟨rfl, n2⟩ := asP_of q e'
      exact ⟨rfl, n1, n2⟩
    · cases e
  | _, .l _ :: _, _, _, _, e => by cases e
  | _, .n _ :: _, _, _, _, e => by cases e
  | _, .bx :: _, _, _, _, e => by cases e
  | _, .dk _ :: _, _, _, _, e => by cases e
  | _, .m _ _ _ :: _, _, _, _, e => by cases e
def wTupL (ws : List W) : Option W := match asP ws with
  | some ds => if ds.length ≤ 100000 then some (.p (.tup ds)) else none
  | none => none
def wLstL (ws : List W) : Option W := match asP ws with
  | some ds => if ds.length ≤ 100000 then some (.l ds) else none
  | none => none
theorem av_tupL : AllV false mkTup wTupL := pureV fun β S ds ws fs w v e => by
  unfold wTupL at e
  split at e
  · rename_i es ee
    split at e
    · rename_i c
      cases e
      obtain ⟨rfl, n⟩ := asP_of v ee
      exact ⟨_, rfl, ⟨by omega, n⟩, by unfold mkTup; rw [if_pos c]⟩
    · cases e
  · cases e
theorem av_lstL : AllV false mkLst wLstL := fun β S ds ws fs w v e => by
  unfold wLstL at e
  split at e
  · rename_i es ee
    split at e
    · rename_i c
      cases e
      obtain ⟨rfl, n⟩ := asP_of v ee
      exact ⟨.loc S.length, [.lst ds], [S.length], by unfold mkLst; rw [if_pos c], .l (by simp) n (by omega), by simp, fun k hk => .inl (by simp at hk; omega)⟩
    · cases e
  · cases e
def wTupC : List W → Option W
  | [x] => match itemsW x with
    | some ds => some (.p (.tup ds))
    | none => none
  | _ => none
theorem av_tup : AllV false fTup wTupC := pureV fun β S ds ws fs w v e => by
  unfold wTupC at e
  split at e
  · split at e
    · rename_i es ee
      cases e
      cases v with
      | cons h q =>
        cases q
        obtain ⟨i1, i2, i3⟩ := itemsW_of h ee
        exact ⟨_, rfl, ⟨i3, i2⟩, by unfold fTup; dsimp only; rw [i1]⟩
    · cases e
  · cases e
end Mini
end
section
namespace Mini
open PySem L2

mutual
theorem Vw.fr {β : Bxs} {S S' : Sto} : ∀ {d : D} {w : W} {f : List Nat}, (∀ k ∈ f, S'[k]? = S[k]?) → Vw β S d w f → Vw β S' d w f
  | _, _, _, _, .p h => .p h
  | _, _, _, o, .l h k z => .l ((o _ (List.mem_cons_self ..)).trans h) k z
  | _, _, _, o, .n h k z => .n ((o _ (List.mem_cons_self ..)).trans h) (Vws.fr (fun f hf k hk => o k (List.mem_cons_of_mem _ (List.mem_flatten.mpr ⟨f, hf, hk⟩))) k) z
  | _, _, _, _, .bx h => .bx h
  | _, _, _, o, .dk h k => .dk ((o _ (List.mem_cons_self ..)).trans h) k
  | _, _, _, o, .m e h1 h2 h k z => .m e h1 h2 ((o _ (List.mem_cons_self ..)).trans h) k z
theorem Vws.fr {β : Bxs} {S S' : Sto} : ∀ {ds : List D} {ws : List W} {fs : List (List Nat)}, (∀ f ∈ fs, ∀ k ∈ f, S'[k]? = S[k]?) → Vws β S ds ws fs → Vws β S' ds ws fs
  | _, _, _, _, .nil => .nil
  | _, _, _, o, .cons h k => .cons (Vw.fr (o _ (List.mem_cons_self ..)) h) (Vws.fr (fun f hf => o f (List.mem_cons_of_mem _ hf)) k)
end
theorem Vws.app {β : Bxs} {S : Sto} : ∀ {ds es : List D} {ws us : List W} {fs gs : List (List Nat)}, Vws β S ds ws fs → Vws β S es us gs → Vws β S (ds ++ es) (ws ++ us) (fs ++ gs)
  | _, _, _, _, _, _, .nil, k => k
  | _, _, _, _, _, _, .cons h q, k => .cons h (Vws.app q k)
theorem Vws.set {β : Bxs} {S : Sto} {d : D} {w : W} {f : List Nat} (h : Vw β S d w f) : ∀ {ds : List D} {ws : List W} {fs : List (List Nat)} (j : Nat), Vws β S ds ws fs → Vws β S (ds.set j d) (ws.set j w) (fs.set j f)
  | _, _, _, _, .nil => .nil
  | _, _, _, 0, .cons _ q => .cons h q
  | _, _, _, j + 1, .cons x q => .cons x (Vws.set h j q)
theorem Vws.pure {β : Bxs} {S : Sto} : ∀ {ds : List D}, D.nps ds → Vws β S ds (ds.map .p) (ds.map fun _ => [])
  | [], _ => .nil
  | _ :: _, h => .cons (.p h.1) (Vws.pure h.2)
theorem flat_nil {α : Type} : ∀ (l : List α), (l.map fun _ => ([] : List Nat)).flatten = []
  | [] => rfl
  | _ :: r => by rw [List.map_cons, List.flatten_cons, flat_nil r]; rfl

structure Stt (br : List Nat) (A : Nat → Prop) (β : Bxs) (n0 : Nat) (S : Sto) (e : EnvD) (ε : VEnv) (fp : Nat → List Nat) (τ : Tape) : Prop where
  sit : Sit β S e ε fp τ
  nl : n0 ≤ S.length
  bn : ∀ b l, β = some (b, l) → b < n0 ∧ l < n0
  lt : ∀ i, ∀ k ∈ fp i, k < S.length
  ow : ∀ i, i ∉ br → ∀ k ∈ fp i, n0 ≤ k
  bo : ∀ i, i ∈ br → ∀ k ∈ fp i, A k
  dj : ∀ i j, i ∉ br → j ∉ br → i ≠ j → ∀ k ∈ fp i, k ∉ fp j
theorem Stt.kn {br : List Nat} {A : Nat → Prop} {β : Bxs} {n0 : Nat} {S S' : Sto} {e : EnvD} {ε : VEnv} {fp : Nat → List Nat} {τ τ' : Tape} (s : Stt br A β n0 S e ε fp τ) (a : Kn β S S') (b : Bx β S' τ') : Stt br A β n0 S' e ε fp τ' :=
  ⟨s.sit.kn a b, Nat.le_trans s.nl a.1, s.bn, fun i k hk => Nat.lt_of_lt_of_le (s.lt i k hk) a.1, s.ow, s.bo, s.dj⟩
def Frm (br kp : List Nat) (β : Bxs) (S : Sto) (fp : Nat → List Nat) (S' : Sto) : Prop := S.length ≤ S'.length ∧ ∀ i, i < S.length → (∀ b l, β = some (b, l) → i ≠ b) → (∀ j, j ∉ br → j ∉ kp → i ∉ fp j) → S'[i]? = S[i]?
structure NxF (br kp : List Nat) (A : Nat → Prop) (β : Bxs) (n0 : Nat) (S : Sto) (e : EnvD) (ε : VEnv) (fp : Nat → List Nat) (S' : Sto) (e' : EnvD) (ε' : VEnv) (fp' : Nat → List Nat) (τ' : Tape) : Prop where
  st : Stt br A β n0 S' e' ε' fp' τ'
  fr : Frm br kp β S fp S'
  kq : ∀ j ∈ kp, fp' j = fp j
  sub : ∀ j, j ∉ br → j ∉ kp → ∀ k ∈ fp' j, S.length ≤ k ∨ ∃ j', j' ∉ br ∧ j' ∉ kp ∧ k ∈ fp j'
structure RtF (br kp : List Nat) (fh : Bool) (A : Nat → Prop) (β : Bxs) (n0 : Nat) (S : Sto) (fp : Nat → List Nat) (S' : Sto) (d : D) (w : W) (fo : List Nat) (τ' : Tape) : Prop where
  fr : Frm br kp β S fp S'
  bx : Bx β S' τ'
  vw : Vw β S' d w fo
  nd : fo.Nodup
  src : ∀ k ∈ fo, Off β k ∧ (n0 ≤ k ∨ (fh = false ∧ A k))
def Aft (br kp : List Nat) (fh : Bool) (A : Nat → Prop) (β : Bxs) (n0 : Nat) (S : Sto) (e : EnvD) (ε : VEnv) (fp : Nat → List Nat) : URes → Res → Prop
  | .nx ε' τ', .nx e' S' => ∃ fp', NxF br kp A β n0 S e ε fp S' e' ε' fp' τ'
  | .bk ε' τ', .bk e' S' => ∃ fp', NxF br kp A β n0 S e ε fp S' e' ε' fp' τ'
  | .ct ε' τ', .ct e' S' => ∃ fp', NxF br kp A β n0 S e ε fp S' e' ε' fp' τ'
  | .rt w τ', .rt d S' => ∃ fo, RtF br kp fh A β n0 S fp S' d w fo τ'
  | _, _ => False
def SS (br kp : List Nat) (fh : Bool) (m : XS) (v : US) : Prop := ∀ A β n0 S e ε fp τ r, (∀ k, A k → k < n0 ∧ Off β k) → Stt br A β n0 S e ε fp τ → v ε τ = some r → ∃ q, m e S = some q ∧ Aft br kp fh A β n0 S e ε fp r q
section
variable {br kp : List Nat} {fh : Bool} {A : Nat → Prop} {β : Bxs} {n0 : Nat} {S S1 S2 : Sto} {e e1 e2 : EnvD} {ε ε1 ε2 : VEnv} {fp fp1 fp2 : Nat → List Nat} {τ τ1 τ2 : Tape} {r : URes} {q : Res}
theorem Frm.refl : Frm br kp β S fp S := ⟨Nat.le_refl _, fun _ _ _ _ => rfl⟩
theorem Frm.kn (a : Kn β S S1) : Frm br kp β S fp S1 := ⟨a.1, fun i h k _ => a.2 i h k⟩
theorem NxF.refl (s : Stt br A β n0 S e ε fp τ) : NxF br kp A β n0 S e ε fp S e ε fp τ := ⟨s, .refl, fun _ _ => rfl, fun j h1 h2 _ h => .inr ⟨j, h1, h2, h⟩⟩
theorem NxF.kn (s : Stt br A β n0 S e ε fp τ) (a : Kn β S S1) (b : Bx β S1 τ1) : NxF br kp A β n0 S e ε fp S1 e ε fp τ1 := ⟨s.kn a b, .kn a, fun _ _ => rfl, fun j h1 h2 _ h => .inr ⟨j, h1, h2, h⟩⟩
theorem Frm.trans (a : Frm br kp β S fp S1) (sub : ∀ j, j ∉ br → j ∉ kp → ∀ k ∈ fp1 j, S.length ≤ k ∨ ∃ j', j' ∉ br ∧ j' ∉ kp ∧ k ∈ fp j') (b : Frm br kp β S1 fp1 S2) : Frm br kp β S fp S2 :=
  ⟨Nat.le_trans a.1 b.1, fun i h k n => (b.2 i (Nat.lt_of_lt_of_le h a.1) k fun j h1 h2 h3 => by
    rcases sub j h1 h2 i h3 with z | ⟨j', z1, z2, z⟩
    · omega
    · exact n j' z1 z2 z).trans (a.2 i h k n)⟩
theorem NxF.trans (a : NxF br kp A β n0 S e ε fp S1 e1 ε1 fp1 τ1) (b : NxF br kp A β n0 S1 e1 ε1 fp1 S2 e2 ε2 fp2 τ2) : NxF br kp A β n0 S e ε fp S2 e2 ε2 fp2 τ2 :=
  ⟨b.st, a.fr.trans a.sub b.fr, fun j h => (b.kq j h).trans (a.kq j h), fun j h1 h2 k h3 => by
    rcases b.sub j h1 h2 k h3 with z | ⟨j', z1, z2, z⟩
    · exact .inl (Nat.le_trans a.fr.1 z)
    · exact a.sub j' z1 z2 k z⟩
theorem Aft.trans (a : NxF br kp A β n0 S e ε fp S1 e1 ε1 fp1 τ1) (b : Aft br kp fh A β n0 S1 e1 ε1 fp1 r q) : Aft br kp fh A β n0 S e ε fp r q := by
  cases r <;> cases q <;> first
    | exact b.elim
    | exact let ⟨f, h⟩ := b; ⟨f, a.trans h⟩
    | exact let ⟨f, h⟩ := b; ⟨f, a.fr.trans a.sub h.fr, h.bx, h.vw, h.nd, h.src⟩
theorem Frm.wide {kq : List Nat} (h : ∀ i ∈ kp, i ∈ kq) (a : Frm br kq β S fp S1) : Frm br kp β S fp S1 := ⟨a.1, fun i h1 h2 h3 => a.2 i h1 h2 fun j k1 k2 => h3 j k1 fun z => k2 (h j z)⟩
theorem NxF.wide {kq : List Nat} (h : ∀ i ∈ kp, i ∈ kq) (a : NxF br kq A β n0 S e ε fp S1 e1 ε1 fp1 τ1) : NxF br kp A β n0 S e ε fp S1 e1 ε1 fp1 τ1 :=
  ⟨a.st, a.fr.wide h, fun j hj => a.kq j (h j hj), fun j h1 h2 k h3 => by
    by_cases z : j ∈ kq
    · rw [a.kq j z] at h3; exact .inr ⟨j, h1, h2, h3⟩
    · rcases a.sub j h1 z k h3 with q | ⟨j', z1, z2, q⟩
      · exact .inl q
      · exact .inr ⟨j', z1, fun y => z2 (h j' y), q⟩⟩
theorem Aft.wide {kq : List Nat} (h : ∀ i ∈ kp, i ∈ kq) (b : Aft br kq fh A β n0 S e ε fp r q) : Aft br kp fh A β n0 S e ε fp r q := by
  cases r <;> cases q <;> first
    | exact b.elim
    | exact let ⟨f, k⟩ := b; ⟨f, k.wide h⟩
    | exact let ⟨f, k⟩ := b; ⟨f, k.fr.wide h, k.bx, k.vw, k.nd, k.src⟩
theorem Bx.len {β : Bxs} {S : Sto} {τ : Tape} (h : Bx β S τ) {b l : Nat} (z : β = some (b, l)) : b < S.length ∧ l < S.length := by
  subst z
  obtain ⟨ms, c, h1, _, h3, _⟩ := h
  exact ⟨(List.getElem?_eq_some_iff.mp h1).1, (List.getElem?_eq_some_iff.mp h3).1⟩
def fset (fp : Nat → List Nat) (i : Nat) (fo : List Nat) : Nat → List Nat := fun j => if j = i then fo else fp j
theorem fset_self {fp : Nat → List Nat} {i : Nat} {fo : List Nat} : fset fp i fo i = fo := if_pos rfl
theorem fset_ne {fp : Nat → List Nat} {i j : Nat} {fo : List Nat} (h : j ≠ i) : fset fp i fo j = fp j := if_neg h
theorem nx_own {i : Nat} {d : D} {w : W} {fo : List Nat} (s : Stt br A β n0 S e ε fp τ) (hA : ∀ k, A k → k < n0 ∧ Off β k) (hb : i ∉ br) (hk : i ∉ kp) (le : S.length ≤ S1.length) (fr : ∀ k, k < S.length → (∀ b l, β = some (b, l) → k ≠ b) → k ∉ fp i → S1[k]? = S[k]?)
    (bx : Bx β S1 τ1) (vw : Vw β S1 d w fo) (nd : fo.Nodup) (src : ∀ k ∈ fo, Off β k ∧ (S.length ≤ k ∨ k ∈ fp i)) : NxF br kp A β n0 S e ε fp S1 (e.set i (some d)) (ε.set i (some w)) (fset fp i fo) τ1 := by
  have off : ∀ j, ∀ k ∈ fset fp i fo j, Off β k := fun j k hk => by
    by_cases z : j = i
    · subst z; rw [fset_self] at hk; exact (src k hk).1
    · rw [fset_ne z] at hk; exact s.sit.off j k hk
  have apart : ∀ j, j ≠ i → ∀ k ∈ fp j, k ∉ fp i := fun j hj k hk hi => by
    by_cases z : j ∈ br
    · have h1 := (hA k (s.bo j z k hk)).1
      have h2 := s.ow i hb k hi
      omega
    · exact s.dj j i z hb hj k hk hi
  refine ⟨⟨⟨?_, fun j u hu => ?_, off, fun j => ?_, bx⟩, Nat.le_trans s.nl le, s.bn, fun j k hk => ?_, fun j hj k hk => ?_, fun j hj k hk => ?_, fun j1 j2 h1 h2 h3 k hk1 hk2 => ?_⟩, ⟨le, fun k h1 h2 h3 => fr k h1 h2 (h3 i hb hk)⟩, fun j hj => ?_, fun j h1 h2 k h3 => ?_⟩
  · rw [List.length_set, List.length_set]; exact s.sit.len
  · by_cases z : j = i
    · subst z
      have hl := (List.getElem?_eq_some_iff.mp hu).1
      rw [List.length_set] at hl
      rw [List.getElem?_set_self hl] at hu
      cases hu
      exact ⟨d, List.getElem?_set_self (by rw [s.sit.len]; exact hl), by rw [fset_self]; exact vw⟩
    · rw [List.getElem?_set_ne (Ne.symm z)] at hu
      obtain ⟨d', h1, h2⟩ := s.sit.at_ j u hu
      exact ⟨d', by rw [List.getElem?_set_ne (Ne.symm z)]; exact h1, by
        rw [fset_ne z]
        exact h2.fr fun k hk => fr k (s.lt j k hk) (fun b l q => (s.sit.off j k hk b l q).1) (apart j z k hk)⟩
  · by_cases z : j = i
    · subst z; rw [fset_self]; exact nd
    · rw [fset_ne z]; exact s.sit.nd j
  · by_cases z : j = i
    · subst z; rw [fset_self] at hk; exact vw.lt k hk
    · rw [fset_ne z] at hk; exact Nat.lt_of_lt_of_le (s.lt j k hk) le
  · by_cases z : j = i
    · subst z; rw [fset_self] at hk
      rcases (src k hk).2 with q | q
      · exact Nat.le_trans s.nl q
      · exact s.ow j hj k q
    · rw [fset_ne z] at hk; exact s.ow j hj k hk
  · have z : j ≠ i := fun z => hb (z ▸ hj)
    rw [fset_ne z] at hk; exact s.bo j hj k hk
  · by_cases z1 : j1 = i
    · subst z1
      rw [fset_self] at hk1
      rw [fset_ne (Ne.symm h3)] at hk2
      rcases (src k hk1).2 with q | q
      · have := s.lt j2 k hk2; omega
      · exact s.dj j1 j2 h1 h2 h3 k q hk2
    · rw [fset_ne z1] at hk1
      by_cases z2 : j2 = i
      · subst z2
        rw [fset_self] at hk2
        rcases (src k hk2).2 with q | q
        · have := s.lt j1 k hk1; omega
        · exact s.dj j1 j2 h1 h2 h3 k hk1 q
      · rw [fset_ne z2] at hk2
        exact s.dj j1 j2 h1 h2 h3 k hk1 hk2
  · exact fset_ne fun z => hk (z ▸ hj)
  · by_cases z : j = i
    · subst z; rw [fset_self] at h3; exact (src k h3).2.imp id fun q => ⟨j, h1, h2, q⟩
    · rw [fset_ne z] at h3; exact .inr ⟨j, h1, h2, h3⟩
theorem nx_pure {i : Nat} {d : D} (s : Stt br A β n0 S e ε fp τ) (hk : i ∉ kp) (a : Kn β S S1) (bx : Bx β S1 τ1) (hd : d.np) : NxF br kp A β n0 S e ε fp S1 (e.set i (some d)) (ε.set i (some (.p d))) (fset fp i []) τ1 := by
  have s1 := s.kn a bx
  have sub : ∀ j, ∀ k ∈ fset fp i [] j, k ∈ fp j := fun j k hk => by
    by_cases z : j = i
    · subst z; rw [fset_self] at hk; simp at hk
    · rw [fset_ne z] at hk; exact hk
  refine ⟨⟨⟨?_, fun j u hu => ?_, fun j k h => s1.sit.off j k (sub j k h), fun j => ?_, bx⟩, s1.nl, s1.bn, fun j k h => s1.lt j k (sub j k h), fun j hj k h => s1.ow j hj k (sub j k h), fun j hj k h => s1.bo j hj k (sub j k h), fun j1 j2 h1 h2 h3 k k1 k2 => s1.dj j1 j2 h1 h2 h3 k (sub j1 k k1) (sub j2 k k2)⟩, .kn a, fun j hj => fset_ne fun z => hk (z ▸ hj), fun j h1 h2 k h3 => .inr ⟨j, h1, h2, sub j k h3⟩⟩
  · rw [List.length_set, List.length_set]; exact s.sit.len
  · by_cases z : j = i
    · subst z
      have hl := (List.getElem?_eq_some_iff.mp hu).1
      rw [List.length_set] at hl
      rw [List.getElem?_set_self hl] at hu
      cases hu
      exact ⟨d, List.getElem?_set_self (by rw [s.sit.len]; exact hl), by rw [fset_self]; exact .p hd⟩
    · rw [List.getElem?_set_ne (Ne.symm z)] at hu
      obtain ⟨d', h1, h2⟩ := s1.sit.at_ j u hu
      exact ⟨d', by rw [List.getElem?_set_ne (Ne.symm z)]; exact h1, by rw [fset_ne z]; exact h2⟩
  · by_cases z : j = i
    · subst z; rw [fset_self]; exact .nil
    · rw [fset_ne z]; exact s.sit.nd j
end

def tNil : US := fun ε τ => some (.nx ε τ)
def tSeq (a b : US) : US := fun ε τ => match a ε τ with
  | some (.nx ε1 τ1) => b ε1 τ1
  | r => r
def tRet (m : UE) : US := fun ε τ => match m ε τ with
  | none => none
  | some (w, τ1) => some (.rt w τ1)
def tIf (c : UB) (a b : US) : US := fun ε τ => match c ε τ with
  | none => none
  | some (true, τ1) => a ε τ1
  | some (false, τ1) => b ε τ1
def tSet (i : Nat) (m : UE) : US := fun ε τ => match m ε τ with
  | none => none
  | some (w, τ1) => some (.nx (ε.set i (some w)) τ1)
abbrev VG := D → VEnv → Option VEnv
abbrev VGs := List D → VEnv → Option VEnv
def vgN (i : Nat) : VG := fun d ε => some (ε.set i (some (.p d)))
def vgsN : VGs := fun ds ε => match ds with
  | [] => some ε
  | _ => none
def vgsC (g : VG) (u : VGs) : VGs := fun ds ε => match ds with
  | [] => none
  | d :: r => match g d ε with
    | none => none
    | some ε1 => u r ε1
def vgT (n : Nat) (u : VGs) : VG := fun d ε => match d with
  | .tup ds => if ds.length = n then u ds ε else none
  | _ => none
def tAsg (m : UE) (g : VG) : US := fun ε τ => match m ε τ with
  | some (.p d, τ1) => match g d ε with
    | none => none
    | some ε1 => some (.nx ε1 τ1)
  | _ => none
def appW (w : W) (d : D) : Option W := match w with
  | .l ds => if ds.length < 1000000 then some (.l (ds ++ [d])) else none
  | .n ws => if ws.length < 1000000 then some (.n (ws ++ [.p d])) else none
  | _ => none
def tApp (i : Nat) (a : UE) : US := fun ε τ => match ε[i]? with
  | some (some w) => match a ε τ with
    | some (.p d, τ1) => match appW w d with
      | none => none
      | some w' => some (.nx (ε.set i (some w')) τ1)
    | _ => none
  | _ => none
def uForL (g : VG) (b : US) : List D → VEnv → Tape → Option URes
  | [], ε, τ => some (.nx ε τ)
  | d :: ds, ε, τ => match g d ε with
    | none => none
    | some ε1 => match b ε1 τ with
      | none => none
      | some (.nx ε2 τ2) => uForL g b ds ε2 τ2
      | some (.ct ε2 τ2) => uForL g b ds ε2 τ2
      | some (.bk ε2 τ2) => some (.nx ε2 τ2)
      | some (.rt w τ2) => some (.rt w τ2)
def tFor (w : UW) (g : VG) (b : US) : US := fun ε τ => match w ε τ with
  | none => none
  | some (ds, τ1) => uForL g b ds ε τ1
def SG (br kp : List Nat) (g : XG) (v : VG) : Prop := ∀ A β n0 S e ε fp τ d ε', D.np d → Stt br A β n0 S e ε fp τ → v d ε = some ε' → ∃ e' fp', g d e = some e' ∧ NxF br kp A β n0 S e ε fp S e' ε' fp' τ
section
variable {br kp us vs : List Nat} {fh : Bool}
theorem sg_n (i : Nat) (hk : kp.contains i = false := by rfl) : SG br kp (gN i) (vgN i) := fun A β n0 S e ε fp τ d ε' hd s h => by
  cases h
  exact ⟨_, _, rfl, nx_pure s (by simpa using hk) .refl s.sit.bx hd⟩
theorem ss_nil : SS br kp fh sNil tNil := fun A β n0 S e ε fp τ r hA s h => by
  cases h
  exact ⟨_, rfl, fp, .refl s⟩
theorem ss_seq {a b : XS} {ua ub : US} (ha : SS br kp fh a ua) (hb : SS br kp fh b ub) : SS br kp fh (sSeq a b) (tSeq ua ub) := fun A β n0 S e ε fp τ r hA s h => by
  unfold tSeq at h
  split at h
  · rename_i ε1 τ1 e1
    obtain ⟨q, h1, h2⟩ := ha A β n0 S e ε fp τ _ hA s e1
    cases q with
    | nx ea Sa =>
      obtain ⟨fa, n1⟩ := h2
      obtain ⟨q2, k1, k2⟩ := hb A β n0 Sa ea ε1 fa τ1 r hA n1.st h
      exact ⟨q2, by unfold sSeq; rw [h1]; exact k1, k2.trans n1⟩
    | _ => exact h2.elim
  · rename_i o no
    obtain ⟨q, h1, h2⟩ := ha A β n0 S e ε fp τ _ hA s h
    refine ⟨q, ?_, h2⟩
    unfold sSeq
    rw [h1]
    cases r with
    | nx x y => exact absurd h (no x y)
    | _ => cases q <;> first | exact h2.elim | rfl
theorem ss_ret {m : XE} {v : UE} (h : SE us m v) (hf : (!fh || us.all fun i => !br.contains i) = true := by rfl) : SS br kp fh (sRet m) (tRet v) := fun A β n0 S e ε fp τ r hA s h9 => by
  unfold tRet at h9
  split at h9
  · cases h9
  rename_i w τ1 e1
  cases h9
  obtain ⟨d, S1, fo, a1, a2, a3, a4, a5⟩ := h β S e ε fp τ w τ1 s.sit e1
  refine ⟨.rt d S1, by unfold sRet; rw [a1], fo, .kn a2, a3, a4, a5.1, fun k hk => ⟨(a5.2 k hk).1, ?_⟩⟩
  rcases (a5.2 k hk).2 with z | ⟨i, hi, z⟩
  · exact .inl (Nat.le_trans s.nl z)
  · by_cases q : i ∈ br
    · refine .inr ⟨?_, s.bo i q k z⟩
      cases fh with
      | false => rfl
      | true =>
        have hf' : (us.all fun i => !br.contains i) = true := hf
        rw [List.all_eq_true] at hf'
        have := hf' i hi
        simp [q] at this
    · exact .inl (s.ow i q k z)
theorem ss_if {c : XB} {a b : XS} {uc : UB} {ua ub : US} (hc : SB c uc) (ha : SS br kp fh a ua) (hb : SS br kp fh b ub) : SS br kp fh (sIf c a b) (tIf uc ua ub) := fun A β n0 S e ε fp τ r hA s h => by
  unfold tIf at h
  split at h
  · cases h
  · rename_i τ1 e1
    obtain ⟨S1, a1, a2, a3⟩ := hc β S e ε fp τ _ _ s.sit e1
    obtain ⟨q, b1, b2⟩ := ha A β n0 S1 e ε fp τ1 r hA (s.kn a2 a3) h
    exact ⟨q, by unfold sIf; rw [a1]; exact b1, b2.trans (.kn s a2 a3)⟩
  · rename_i τ1 e1
    obtain ⟨S1, a1, a2, a3⟩ := hc β S e ε fp τ _ _ s.sit e1
    obtain ⟨q, b1, b2⟩ := hb A β n0 S1 e ε fp τ1 r hA (s.kn a2 a3) h
    exact ⟨q, by unfold sIf; rw [a1]; exact b1, b2.trans (.kn s a2 a3)⟩
theorem ss_set {m : XE} {v : UE} (i : Nat) (h : SE [] m v) (hb : br.contains i = false := by rfl) (hk : kp.contains i = false := by rfl) : SS br kp fh (sAsg m (gN i)) (tSet i v) := fun A β n0 S e ε fp τ r hA s h9 => by
  unfold tSet at h9
  split at h9
  · cases h9
  rename_i w τ1 e1
  cases h9
  obtain ⟨d, S1, fo, a1, a2, a3, a4, a5⟩ := h β S e ε fp τ w τ1 s.sit e1
  refine ⟨.nx (e.set i (some d)) S1, by unfold sAsg; rw [a1]; rfl, _, nx_own s hA (by simpa using hb) (by simpa using hk) a2.1 (fun k h1 h2 _ => a2.2 k h1 h2) a3 a4 a5.1 fun k hk => ⟨(a5.2 k hk).1, ?_⟩⟩
  rcases (a5.2 k hk).2 with z | ⟨j, hj, _⟩
  · exact .inl z
  · simp at hj
theorem ss_asg {m : XE} {v : UE} {g : XG} {vg : VG} (h : SE us m v) (hg : SG br kp g vg) : SS br kp fh (sAsg m g) (tAsg v vg) := fun A β n0 S e ε fp τ r hA s h9 => by
  unfold tAsg at h9
  split at h9
  rotate_left
  · cases h9
  rename_i d τ1 e1
  split at h9
  · cases h9
  rename_i ε1 eg
  cases h9
  obtain ⟨d', S1, fo, a1, a2, a3, a4, a5⟩ := h β S e ε fp τ _ τ1 s.sit e1
  obtain ⟨rfl, hd, _⟩ := a4.pd
  obtain ⟨e2, f2, b1, b2⟩ := hg A β n0 S1 e ε fp τ1 _ ε1 hd (s.kn a2 a3) eg
  exact ⟨.nx e2 S1, by unfold sAsg; rw [a1]; dsimp only; rw [b1], f2, (NxF.kn s a2 a3).trans b2⟩
def tMov (i j : Nat) : US := fun ε τ => match ε[i]? with
  | some (some w) => some (.nx ((ε.set j (some w)).set i none) τ)
  | _ => none
theorem ss_mov (i j : Nat) (hij : (i == j) = false := by rfl) (hbi : br.contains i = false := by rfl) (hki : kp.contains i = false := by rfl) (hbj : br.contains j = false := by rfl) (hkj : kp.contains j = false := by rfl) : SS br kp fh (sAsg (xVar i) (gN j)) (tMov i j) := fun A β n0 S e ε fp τ r hA s h9 => by
  have hij : i ≠ j := by simpa using hij
  have bi : i ∉ br := by simpa using hbi
  have bj : j ∉ br := by simpa using hbj
  have ki : i ∉ kp := by simpa using hki
  have kj : j ∉ kp := by simpa using hkj
  unfold tMov at h9
  split at h9
  rotate_left
  · cases h9
  rename_i w ew
  cases h9
  obtain ⟨d, h1, h2⟩ := s.sit.at_ i w ew
  have fpi : ∀ k, fset (fset fp j (fp i)) i [] k = if k = i then [] else if k = j then fp i else fp k := fun k => rfl
  refine ⟨.nx (e.set j (some d)) S, by unfold sAsg xVar; rw [h1]; rfl, fset (fset fp j (fp i)) i [], ⟨⟨⟨?_, fun k u hu => ?_, fun k x hx => ?_, fun k => ?_, s.sit.bx⟩, s.nl, s.bn, fun k x hx => ?_, fun k hk x hx => ?_, fun k hk x hx => ?_, fun k1 k2 b1 b2 hne x hx1 hx2 => ?_⟩, .refl, fun k hk => ?_, fun k b1 b2 x hx => ?_⟩⟩
  · simp only [List.length_set]; exact s.sit.len
  · rw [fpi]
    by_cases z : k = i
    · subst z
      have hl := (List.getElem?_eq_some_iff.mp hu).1
      rw [List.getElem?_set_self (by simpa using hl)] at hu
      cases hu
    · rw [List.getElem?_set_ne (Ne.symm z)] at hu
      rw [if_neg z]
      by_cases z2 : k = j
      · subst z2
        have hl := (List.getElem?_eq_some_iff.mp hu).1
        rw [List.length_set] at hl
        rw [List.getElem?_set_self hl] at hu
        cases hu
        rw [if_pos rfl]
        exact ⟨d, List.getElem?_set_self (by rw [s.sit.len]; exact hl), h2⟩
      · rw [List.getElem?_set_ne (Ne.symm z2)] at hu
        rw [if_neg z2]
        obtain ⟨d', q1, q2⟩ := s.sit.at_ k u hu
        exact ⟨d', by rw [List.getElem?_set_ne (Ne.symm z2)]; exact q1, q2⟩
  · rw [fpi] at hx
    split at hx
    · cases hx
    · split at hx
      · exact s.sit.off i x hx
      · exact s.sit.off k x hx
  · rw [fpi]
    split
    · exact List.nodup_nil
    · split
      · exact s.sit.nd i
      · exact s.sit.nd k
  · rw [fpi] at hx
    split at hx
    · cases hx
    · split at hx
      · exact s.lt i x hx
      · exact s.lt k x hx
  · rw [fpi] at hx
    split at hx
    · cases hx
    · split at hx
      · exact s.ow i bi x hx
      · exact s.ow k hk x hx
  · rw [fpi, if_neg (fun z : k = i => bi (z ▸ hk)), if_neg (fun z : k = j => bj (z ▸ hk))] at hx
    exact s.bo k hk x hx
  · rw [fpi] at hx1 hx2
    split at hx1
    · cases hx1
    · rename_i n1
      split at hx2
      · cases hx2
      · rename_i n2
        split at hx1
        · rename_i e1
          split at hx2
          · rename_i e2
            exact hne (e1.trans e2.symm)
          · exact s.dj i k2 bi b2 (fun z => n2 z.symm) x hx1 hx2
        · split at hx2
          · exact s.dj i k1 bi b1 (fun z => n1 z.symm) x hx2 hx1
          · exact s.dj k1 k2 b1 b2 hne x hx1 hx2
  · rw [fpi, if_neg (fun z : k = i => ki (z ▸ hk)), if_neg (fun z : k = j => kj (z ▸ hk))]
  · rw [fpi] at hx
    split at hx
    · cases hx
    · split at hx
      · exact .inr ⟨i, bi, ki, hx⟩
      · exact .inr ⟨k, b1, b2, hx⟩
end
end Mini
end
section
namespace Mini
open PySem L2

theorem set_same {α : Type} {l : List α} {i : Nat} {x : α} (h : l[i]? = some x) : l.set i x = l := by
  apply List.ext_getElem?
  intro j
  by_cases z : i = j
  · subst z
    rw [List.getElem?_set_self (List.getElem?_eq_some_iff.mp h).1, h]
  · rw [List.getElem?_set_ne z]
theorem set_off {S : Sto} {k j : Nat} {o : O} {f : List Nat} (h : j ∈ f) (n : k ∉ f) : (S.set k o)[j]? = S[j]? := List.getElem?_set_ne (fun z => n (by rw [z]; exact h))
section
variable {br kp us vs : List Nat} {fh : Bool}
theorem appW_of {β : Bxs} {S : Sto} {d0 d : D} {w w' : W} {f : List Nat} (h : Vw β S d0 w f) (nd : f.Nodup) (of : ∀ k ∈ f, Off β k) (hd : d.np) (e : appW w d = some w') :
    ∃ (k : Nat) (ds : List D), d0 = .loc k ∧ k ∈ f ∧ S[k]? = some (.lst ds) ∧ ds.length < 1000000 ∧ Vw β (S.set k (.lst (ds ++ [d]))) d0 w' f := by
  cases h with
  | l a1 a2 a3 =>
    rename_i k ds
    unfold appW at e
    dsimp only at e
    split at e
    · rename_i c
      cases e
      exact ⟨k, ds, rfl, by simp, a1, c, .l (List.getElem?_set_self (List.getElem?_eq_some_iff.mp a1).1) (D.nps_app a2 ⟨hd, trivial⟩) (by simp; omega)⟩
    · cases e
  | n a1 a2 a3 =>
    rename_i k ds ws fs
    unfold appW at e
    dsimp only at e
    split at e
    · rename_i c
      cases e
      have nk := (List.nodup_cons.mp nd).1
      refine ⟨k, ds, rfl, by simp, a1, by rw [a2.len.1]; exact c, ?_⟩
      have v2 : Vws β (S.set k (.lst (ds ++ [d]))) (ds ++ [d]) (ws ++ [.p d]) (fs ++ [[]]) := Vws.app (a2.fr fun f hf j hj => set_off (List.mem_flatten.mpr ⟨f, hf, hj⟩) nk) (.cons (.p hd) .nil)
      have := Vw.n (List.getElem?_set_self (List.getElem?_eq_some_iff.mp a1).1) v2 (by rw [List.length_append, a2.len.1]; simp; omega)
      rw [List.flatten_append] at this
      simpa using this
    · cases e
  | p _ => cases e
  | bx _ => cases e
  | dk _ _ => cases e
  | m _ _ _ _ _ _ => cases e
theorem nx_chg {A : Nat → Prop} {β : Bxs} {n0 i k : Nat} {S : Sto} {e : EnvD} {ε : VEnv} {fp : Nat → List Nat} {τ : Tape} {d0 : D} {w' : W} {o : O} {fo : List Nat} (s : Stt br A β n0 S e ε fp τ) (hA : ∀ k, A k → k < n0 ∧ Off β k) (hb : i ∉ br) (hk : i ∉ kp) (he : e[i]? = some (some d0)) (hm : k ∈ fp i)
    (vw : Vw β (S.set k o) d0 w' fo) (nd : fo.Nodup) (src : ∀ k ∈ fo, Off β k ∧ (S.length ≤ k ∨ k ∈ fp i)) : NxF br kp A β n0 S e ε fp (S.set k o) e (ε.set i (some w')) (fset fp i fo) τ := by
  have q := nx_own (e := e) (ε := ε) (kp := kp) (S1 := S.set k o) (d := d0) (τ1 := τ) s hA hb hk (by rw [List.length_set]; exact Nat.le_refl _) (fun j h1 h2 h3 => List.getElem?_set_ne fun z => h3 (by rw [← z]; exact hm)) ?_ vw nd src
  · rw [set_same he] at q; exact q
  · have hx := s.sit.bx
    have of := s.sit.off i k hm
    cases β with
    | none => exact hx
    | some q =>
      obtain ⟨b, l⟩ := q
      obtain ⟨ms, c, h1, h2, h3, h4⟩ := hx
      obtain ⟨o1, o2⟩ := of b l rfl
      exact ⟨ms, c, by rw [List.getElem?_set_ne o1]; exact h1, h2, by rw [List.getElem?_set_ne o2]; exact h3, h4⟩
theorem okList_at {S : Sto} {k : Nat} {ds : List D} (h : S[k]? = some (.lst ds)) : okList (.loc k) S = true := by
  unfold okList lstAt
  dsimp only
  rw [h]
theorem fApp_at {S : Sto} {k : Nat} {ds : List D} {d : D} (h : S[k]? = some (.lst ds)) (c : ds.length < 1000000) : fApp (.loc k) [d] S = some (.non, S.set k (.lst (ds ++ [d]))) := by
  unfold fApp
  dsimp only
  rw [h]
  dsimp only
  rw [if_pos c]
theorem Vw.list {β : Bxs} {S : Sto} {d : D} {w : W} {f : List Nat} (h : Vw β S d w f) (c : (match w with | .l _ => true | .n _ => true | _ => false) = true) : okList d S = true := by
  cases h with
  | l a _ _ => exact okList_at a
  | n a _ _ => exact okList_at a
  | p _ => cases c
  | bx _ => cases c
  | dk _ _ => cases c
  | m _ _ _ _ _ _ => cases c
theorem ss_app {a : XE} {v : UE} (i : Nat) (h : SE us a v) (hb : br.contains i = false := by rfl) (hk : kp.contains i = false := by rfl) : SS br kp fh (sExpr (xMet okList fApp (xVar i) (xCons a xNil))) (tApp i v) := fun A β n0 S e ε fp τ r hA s h9 => by
  unfold tApp at h9
  split at h9
  rotate_left
  · cases h9
  rename_i w ew
  split at h9
  rotate_left
  · cases h9
  rename_i d τ1 e1
  split at h9
  · cases h9
  rename_i w' e2
  cases h9
  obtain ⟨d', S1, fo, a1, a2, a3, a4, a5⟩ := h β S e ε fp τ _ τ1 s.sit e1
  obtain ⟨rfl, hd, _⟩ := a4.pd
  have s1 := s.kn a2 a3
  obtain ⟨d0, h0, v0⟩ := s1.sit.at_ i w ew
  obtain ⟨dx, hx0, vx⟩ := s.sit.at_ i w ew
  have ed : dx = d0 := by rw [hx0] at h0; cases h0; rfl
  subst ed
  obtain ⟨k, ds, rfl, b1, b2, b3, b4⟩ := appW_of v0 (s1.sit.nd i) (s1.sit.off i) hd e2
  have ok : okList (.loc k) S = true := vx.list (by
    unfold appW at e2
    split at e2
    · rfl
    · rfl
    · cases e2)
  refine ⟨.nx e (S1.set k (.lst (ds ++ [_]))), ?_, _, (NxF.kn s a2 a3).trans (nx_chg s1 hA (by simpa using hb) (by simpa using hk) h0 b1 b4 (s1.sit.nd i) fun j hj => ⟨s1.sit.off i j hj, .inr hj⟩)⟩
  unfold sExpr xMet xVar xCons xNil
  rw [hx0]
  dsimp only
  rw [if_pos ok, a1]
  dsimp only
  rw [fApp_at b2 b3]
end
end Mini
end
section
namespace Mini
open PySem L2
section
variable {br kp us vs : List Nat} {fh : Bool} {A : Nat → Prop} {β : Bxs} {n0 : Nat}
theorem for_fix' {g : XG} {vg : VG} {b : XS} {ub : US} (hA : ∀ k, A k → k < n0 ∧ Off β k) (hg : SG br kp g vg) (hb : SS br kp fh b ub) : ∀ (ds : List D) (S : Sto) (e : EnvD) (ε : VEnv) (fp : Nat → List Nat) (τ : Tape) (r : URes), D.nps ds → Stt br A β n0 S e ε fp τ → uForL vg ub ds ε τ = some r →
    ∃ q, forL g b ds e S = some q ∧ Aft br kp fh A β n0 S e ε fp r q
  | [], S, e, ε, fp, τ, r, _, s, h => by
    cases h
    exact ⟨_, rfl, fp, .refl s⟩
  | d :: ds, S, e, ε, fp, τ, r, hd, s, h => by
    unfold uForL at h
    split at h
    · cases h
    rename_i ε1 eg
    obtain ⟨e1, f1, a1, a2⟩ := hg A β n0 S e ε fp τ d ε1 hd.1 s eg
    have go : ∀ ε2 τ2 e2 S2, (∃ f2, NxF br kp A β n0 S e1 ε1 f1 S2 e2 ε2 f2 τ2) → uForL vg ub ds ε2 τ2 = some r → ∃ q, forL g b ds e2 S2 = some q ∧ Aft br kp fh A β n0 S e ε fp r q := fun ε2 τ2 e2 S2 ⟨f2, n2⟩ h2 => by
      obtain ⟨q, k1, k2⟩ := for_fix' hA hg hb ds S2 e2 ε2 f2 τ2 r hd.2 n2.st h2
      exact ⟨q, k1, k2.trans (a2.trans n2)⟩
    split at h
    · cases h
    · rename_i ε2 τ2 eb
      obtain ⟨q, b1, b2⟩ := hb A β n0 S e1 ε1 f1 τ _ hA a2.st eb
      cases q with
      | nx e2 S2 =>
        obtain ⟨q, k1, k2⟩ := go ε2 τ2 e2 S2 b2 h
        exact ⟨q, by unfold forL; rw [a1]; dsimp only; rw [b1]; exact k1, k2⟩
      | _ => exact b2.elim
    · rename_i ε2 τ2 eb
      obtain ⟨q, b1, b2⟩ := hb A β n0 S e1 ε1 f1 τ _ hA a2.st eb
      cases q with
      | ct e2 S2 =>
        obtain ⟨q, k1, k2⟩ := go ε2 τ2 e2 S2 b2 h
        exact ⟨q, by unfold forL; rw [a1]; dsimp only; rw [b1]; exact k1, k2⟩
      | _ => exact b2.elim
    · rename_i ε2 τ2 eb
      cases h
      obtain ⟨q, b1, b2⟩ := hb A β n0 S e1 ε1 f1 τ _ hA a2.st eb
      cases q with
      | bk e2 S2 =>
        obtain ⟨f2, n2⟩ := b2
        exact ⟨.nx e2 S2, by unfold forL; rw [a1]; dsimp only; rw [b1], f2, a2.trans n2⟩
      | _ => exact b2.elim
    · rename_i w τ2 eb
      cases h
      obtain ⟨q, b1, b2⟩ := hb A β n0 S e1 ε1 f1 τ _ hA a2.st eb
      cases q with
      | rt d2 S2 => exact ⟨.rt d2 S2, by unfold forL; rw [a1]; dsimp only; rw [b1], Aft.trans (r := .rt w τ2) (q := .rt d2 S2) a2 b2⟩
      | _ => exact b2.elim
theorem for_live' {n : Nat} {all : List D} {g : XG} {vg : VG} {b : XS} {ub : US} (hA : ∀ k, A k → k < n0 ∧ Off β k) (hn : ∀ b l, β = some (b, l) → n ≠ b) (hg : SG br kp g vg) (hb : SS br kp fh b ub) : ∀ (ds : List D) (t i : Nat) (S : Sto) (e : EnvD) (ε : VEnv) (fp : Nat → List Nat) (τ : Tape) (r : URes), all.drop i = ds → D.nps ds → ds.length < t →
    S[n]? = some (.lst all) → (∀ j, j ∉ br → j ∉ kp → n ∉ fp j) → Stt br A β n0 S e ε fp τ → uForL vg ub ds ε τ = some r →
    ∃ q, forV n g b t i e S = some q ∧ Aft br kp fh A β n0 S e ε fp r q
  | ds, 0, i, S, e, ε, fp, τ, r, _, _, hl, _, _, _, _ => absurd hl (Nat.not_lt_zero _)
  | [], t + 1, i, S, e, ε, fp, τ, r, hdr, _, _, hS, _, s, h => by
    cases h
    refine ⟨.nx e S, ?_, fp, .refl s⟩
    unfold forV lstAt
    rw [hS]
    dsimp only
    rw [List.getElem?_eq_none_iff.mpr (List.drop_eq_nil_iff.mp hdr)]
  | d :: ds, t + 1, i, S, e, ε, fp, τ, r, hdr, hd, hl, hS, hst, s, h => by
    have hi : all[i]? = some d := by
      have := congrArg (fun l => l[0]?) hdr
      simpa using this
    have hdr' : all.drop (i + 1) = ds := by
      rw [← List.drop_drop, hdr]
      rfl
    unfold uForL at h
    split at h
    · cases h
    rename_i ε1 eg
    obtain ⟨e1, f1, a1, a2⟩ := hg A β n0 S e ε fp τ d ε1 hd.1 s eg
    have go : ∀ ε2 τ2 e2 S2, (∃ f2, NxF br kp A β n0 S e1 ε1 f1 S2 e2 ε2 f2 τ2) → uForL vg ub ds ε2 τ2 = some r → ∃ q, forV n g b t (i + 1) e2 S2 = some q ∧ Aft br kp fh A β n0 S e ε fp r q := fun ε2 τ2 e2 S2 ⟨f2, n2⟩ h2 => by
      have n3 := a2.trans n2
      have hlt := (List.getElem?_eq_some_iff.mp hS).1
      obtain ⟨q, k1, k2⟩ := for_live' hA hn hg hb ds t (i + 1) S2 e2 ε2 f2 τ2 r hdr' hd.2 (Nat.lt_of_succ_lt_succ hl) ((n3.fr.2 n hlt hn hst).trans hS) (fun j h1 h2 h3 => by
        rcases n3.sub j h1 h2 n h3 with z | ⟨j', z1, z2, z⟩
        · omega
        · exact hst j' z1 z2 z) n2.st h2
      exact ⟨q, k1, k2.trans n3⟩
    have step : ∀ (x : Option Res), forV n g b (t + 1) i e S = (match b e1 S with
        | none => none
        | some (.nx e2 S2) => forV n g b t (i + 1) e2 S2
        | some (.ct e2 S2) => forV n g b t (i + 1) e2 S2
        | some (.bk e2 S2) => some (.nx e2 S2)
        | some (.rt d S2) => some (.rt d S2)) := fun _ => by
      conv => lhs; unfold forV lstAt
      rw [hS]
      dsimp only
      rw [hi]
      dsimp only
      rw [a1]
      all_goals dsimp only
      all_goals (cases b e1 S with
      | none => rfl
      | some x => cases x <;> rfl)
    split at h
    · cases h
    · rename_i ε2 τ2 eb
      obtain ⟨q, b1, b2⟩ := hb A β n0 S e1 ε1 f1 τ _ hA a2.st eb
      cases q with
      | nx e2 S2 =>
        obtain ⟨q, k1, k2⟩ := go ε2 τ2 e2 S2 b2 h
        exact ⟨q, by rw [step none, b1]; exact k1, k2⟩
      | _ => exact b2.elim
    · rename_i ε2 τ2 eb
      obtain ⟨q, b1, b2⟩ := hb A β n0 S e1 ε1 f1 τ _ hA a2.st eb
      cases q with
      | ct e2 S2 =>
        obtain ⟨q, k1, k2⟩ := go ε2 τ2 e2 S2 b2 h
        exact ⟨q, by rw [step none, b1]; exact k1, k2⟩
      | _ => exact b2.elim
    · rename_i ε2 τ2 eb
      cases h
      obtain ⟨q, b1, b2⟩ := hb A β n0 S e1 ε1 f1 τ _ hA a2.st eb
      cases q with
      | bk e2 S2 =>
        obtain ⟨f2, n2⟩ := b2
        exact ⟨.nx e2 S2, by rw [step none, b1], f2, a2.trans n2⟩
      | _ => exact b2.elim
    · rename_i w τ2 eb
      cases h
      obtain ⟨q, b1, b2⟩ := hb A β n0 S e1 ε1 f1 τ _ hA a2.st eb
      cases q with
      | rt d2 S2 => exact ⟨.rt d2 S2, by rw [step none, b1], Aft.trans (r := .rt w τ2) (q := .rt d2 S2) a2 b2⟩
      | _ => exact b2.elim
theorem turns_big {n : Nat} (h : n ≤ 1000000) : n < turns := Nat.lt_of_le_of_lt h (by decide)
theorem ss_for {w : XW} {uw : UW} {g : XG} {vg : VG} {b : XS} {ub : US} (hw : SW us w uw) (hg : SG br (us ++ kp) g vg) (hb : SS br (us ++ kp) fh b ub) : SS br kp fh (sFor w g b) (tFor uw vg ub) := fun A β n0 S e ε fp τ r hA s h => by
  unfold tFor at h
  split at h
  · cases h
  rename_i ds τ1 ew
  obtain ⟨wk, S1, a1, a2, a3, a4, a5, a6⟩ := hw β S e ε fp τ ds τ1 s.sit ew
  have s1 := s.kn a2 a3
  have n1 : NxF br kp A β n0 S e ε fp S1 e ε fp τ1 := .kn s a2 a3
  rcases a6 with rfl | ⟨n, rfl, hS, fr⟩
  · obtain ⟨q, k1, k2⟩ := for_fix' hA hg hb ds S1 e ε fp τ1 r a4 s1 h
    exact ⟨q, by unfold sFor; rw [a1]; exact k1, (k2.wide fun i hi => List.mem_append_right _ hi).trans n1⟩
  · obtain ⟨of, src⟩ := fr.2 n (by simp)
    have st : ∀ j, j ∉ br → j ∉ us ++ kp → n ∉ fp j := fun j h1 h2 h3 => by
      rcases src with z | ⟨i, hi, z⟩
      · have := s.lt j n h3
        omega
      · by_cases hib : i ∈ br
        · have := (hA n (s.bo i hib n z)).1
          have := s.ow j h1 n h3
          omega
        · exact s.dj i j hib h1 (fun q => h2 (List.mem_append_left _ (q ▸ hi))) n z h3
    obtain ⟨q, k1, k2⟩ := for_live' hA (fun b l z => (of b l z).1) hg hb ds turns 0 S1 e ε fp τ1 r rfl a4 (turns_big a5) hS st s1 h
    exact ⟨q, by unfold sFor; rw [a1]; exact k1, (k2.wide fun i hi => List.mem_append_right _ hi).trans n1⟩
def uAny (m : UE) : UW := fun ε τ => match m ε τ with
  | some (w, τ1) => match itemsW w with
    | some ds => some (ds, τ1)
    | none => none
  | none => none
def smallL (i : Int) : Bool := decide (-400000 ≤ i) && decide (i ≤ 400000)
def uRng1 (m : UE) : UW := fun ε τ => match m ε τ with
  | some (.p (.int j), τ1) => if smallL j = true then some (rngD 0 j, τ1) else none
  | _ => none
theorem nps_rng {i j : Int} : D.nps (rngD i j) := D.nps_iff.mpr fun d hd => by
  unfold rngD at hd
  obtain ⟨k, _, rfl⟩ := List.mem_map.mp hd
  trivial
theorem smallL_i {i : Int} (h : smallL i = true) : smallI i = true ∧ -400000 ≤ i ∧ i ≤ 400000 := by
  unfold smallL at h
  simp only [Bool.and_eq_true, decide_eq_true_eq] at h
  refine ⟨?_, h⟩
  unfold smallI
  simp only [Bool.and_eq_true, decide_eq_true_eq]
  omega
theorem rngD_len {i j : Int} : (rngD i j).length = (j - i).toNat := by simp [rngD]
theorem sw_any {m : XE} {v : UE} (h : SE us m v) : SW us (wAny m) (uAny v) := fun β S e ε fp τ ds τ' s h9 => by
  unfold uAny at h9
  split at h9
  rotate_left
  · cases h9
  rename_i w τ1 e1
  split at h9
  rotate_left
  · cases h9
  rename_i ds' ei
  cases h9
  obtain ⟨d, S1, fo, a1, a2, a3, a4, a5⟩ := h β S e ε fp τ w _ s e1
  obtain ⟨i1, i2, i3⟩ := itemsW_of a4 ei
  unfold itemsW at ei
  split at ei
  · cases ei
    obtain ⟨rfl, _, _⟩ := a4.pd
    exact ⟨.fix ds, S1, by unfold wAny; rw [a1], a2, a3, i2, i3, .inl rfl⟩
  · cases ei
    cases a4 with
    | l q1 q2 q3 => exact ⟨.live _, S1, by unfold wAny; rw [a1]; dsimp only; rw [show lstAt S1 _ = some ds from i1], a2, a3, i2, i3, .inr ⟨_, rfl, q1, a5⟩⟩
  · cases ei
theorem sw_rng1 {m : XE} {v : UE} (h : SE us m v) : SW [] (wRng1 m) (uRng1 v) := fun β S e ε fp τ ds τ' s h9 => by
  unfold uRng1 at h9
  split at h9
  rotate_left
  · cases h9
  rename_i j τ1 e1
  split at h9
  rotate_left
  · cases h9
  rename_i c
  cases h9
  obtain ⟨d, S1, fo, a1, a2, a3, a4, a5⟩ := h β S e ε fp τ _ _ s e1
  obtain ⟨rfl, _, _⟩ := a4.pd
  obtain ⟨c1, c2, c3⟩ := smallL_i c
  exact ⟨.fix (rngD 0 j), S1, by unfold wRng1; rw [a1]; dsimp only; rw [if_pos c1], a2, a3, nps_rng, by rw [rngD_len]; omega, .inl rfl⟩
def wipeV (ε : VEnv) : List Nat → VEnv
  | [] => ε
  | v :: vs => (wipeV ε vs).set v none
theorem Sit.unset {S : Sto} {e : EnvD} {ε : VEnv} {fp : Nat → List Nat} {τ : Tape} (s : Sit β S e ε fp τ) (i : Nat) : Sit β S (e.set i none) (ε.set i none) fp τ := by
  refine ⟨by rw [List.length_set, List.length_set]; exact s.len, fun j w h => ?_, s.off, s.nd, s.bx⟩
  by_cases z : j = i
  · subst z
    have hl := (List.getElem?_eq_some_iff.mp h).1
    rw [List.length_set] at hl
    rw [List.getElem?_set_self hl] at h
    cases h
  · rw [List.getElem?_set_ne (Ne.symm z)] at h ⊢
    exact s.at_ j w h
theorem Sit.wipe {S : Sto} {e : EnvD} {ε : VEnv} {fp : Nat → List Nat} {τ : Tape} (s : Sit β S e ε fp τ) : ∀ vs : List Nat, Sit β S (wipeD e vs) (wipeV ε vs) fp τ
  | [] => s
  | v :: vs => (s.wipe vs).unset v
theorem Sit.put {S : Sto} {e : EnvD} {ε : VEnv} {fp : Nat → List Nat} {τ : Tape} (s : Sit β S e ε fp τ) (i : Nat) {d : D} (hd : d.np) : Sit β S (e.set i (some d)) (ε.set i (some (.p d))) (fset fp i []) τ := by
  have sub : ∀ j, ∀ k ∈ fset fp i [] j, k ∈ fp j := fun j k hk => by
    by_cases z : j = i
    · subst z; rw [fset_self] at hk; simp at hk
    · rw [fset_ne z] at hk; exact hk
  refine ⟨by rw [List.length_set, List.length_set]; exact s.len, fun j w h => ?_, fun j k h => s.off j k (sub j k h), fun j => ?_, s.bx⟩
  · by_cases z : j = i
    · subst z
      have hl := (List.getElem?_eq_some_iff.mp h).1
      rw [List.length_set] at hl
      rw [List.getElem?_set_self hl] at h
      cases h
      exact ⟨d, List.getElem?_set_self (by rw [s.len]; exact hl), by rw [fset_self]; exact .p hd⟩
    · rw [List.getElem?_set_ne (Ne.symm z)] at h ⊢
      rw [fset_ne z]
      exact s.at_ j w h
  · by_cases z : j = i
    · subst z; rw [fset_self]; exact .nil
    · rw [fset_ne z]; exact s.nd j
def SC (g : XG) (v : VG) : Prop := ∀ β S e ε fp τ d ε', D.np d → Sit β S e ε fp τ → v d ε = some ε' → ∃ e' fp', g d e = some e' ∧ Sit β S e' ε' fp' τ ∧ ∀ j, ∀ k ∈ fp' j, k ∈ fp j
def SCs (g : XGs) (v : VGs) : Prop := ∀ β S e ε fp τ d ε', D.nps d → Sit β S e ε fp τ → v d ε = some ε' → ∃ e' fp', g d e = some e' ∧ Sit β S e' ε' fp' τ ∧ ∀ j, ∀ k ∈ fp' j, k ∈ fp j
theorem sc_n (i : Nat) : SC (gN i) (vgN i) := fun β S e ε fp τ d ε' hd s h => by
  cases h
  refine ⟨_, _, rfl, s.put i hd, fun j k hk => ?_⟩
  by_cases z : j = i
  · subst z; rw [fset_self] at hk; simp at hk
  · rw [fset_ne z] at hk; exact hk
theorem scs_n : SCs gsN vgsN := fun β S e ε fp τ ds ε' hd s h => by
  unfold vgsN at h
  split at h
  · cases h
    exact ⟨e, fp, rfl, s, fun _ _ h => h⟩
  · cases h
theorem scs_c {g : XG} {u : XGs} {vg : VG} {vu : VGs} (h1 : SC g vg) (h2 : SCs u vu) : SCs (gsC g u) (vgsC vg vu) := fun β S e ε fp τ ds ε' hd s h => by
  cases ds with
  | nil => cases h
  | cons d r =>
  unfold vgsC at h
  dsimp only at h
  split at h
  · cases h
  rename_i ε1 e1
  obtain ⟨ea, fa, a1, a2, a3⟩ := h1 β S e ε fp τ d ε1 hd.1 s e1
  obtain ⟨eb, fb, b1, b2, b3⟩ := h2 β S ea ε1 fa τ r ε' hd.2 a2 h
  exact ⟨eb, fb, by unfold gsC; dsimp only; rw [a1]; exact b1, b2, fun j k hk => a3 j k (b3 j k hk)⟩
theorem sc_t {u : XGs} {vu : VGs} (n : Nat) (h1 : SCs u vu) : SC (gT n u) (vgT n vu) := fun β S e ε fp τ d ε' hd s h => by
  unfold vgT at h
  split at h
  rotate_left
  · cases h
  rename_i ds
  split at h
  rotate_left
  · cases h
  rename_i hl
  obtain ⟨ea, fa, a1, a2⟩ := h1 β S e ε fp τ ds ε' hd.2 s h
  exact ⟨ea, fa, by unfold gT; dsimp only; rw [if_pos hl]; exact a1, a2⟩
def uOne (g : VG) (c : UB) (a : UE) (d : D) (ε : VEnv) (τ : Tape) : Option (Option D × Tape) := match g d ε with
  | none => none
  | some ε1 => match c ε1 τ with
    | none => none
    | some (false, τ1) => some (none, τ1)
    | some (true, τ1) => match a ε1 τ1 with
      | some (.p y, τ2) => some (some y, τ2)
      | _ => none
def uLcL (g : VG) (c : UB) (a : UE) : List D → VEnv → Tape → Option (List D × Tape)
  | [], _, τ => some ([], τ)
  | d :: ds, ε, τ => match uOne g c a d ε τ with
    | none => none
    | some (o, τ1) => match uLcL g c a ds ε τ1 with
      | none => none
      | some (ys, τ2) => some (o.toList ++ ys, τ2)
def uLc (w : UW) (vs : List Nat) (g : VG) (c : UB) (a : UE) : UE := fun ε τ => match w ε τ with
  | none => none
  | some (ds, τ1) => match uLcL g c a ds (wipeV ε vs) τ1 with
    | none => none
    | some (ys, τ2) => some (.l ys, τ2)
def uQL (k : Bool) (g : VG) (c : UB) (a : UE) : List D → VEnv → Tape → Option (Bool × Tape)
  | [], _, τ => some (k, τ)
  | d :: ds, ε, τ => match uOne g c a d ε τ with
    | some (none, τ1) => uQL k g c a ds ε τ1
    | some (some (.bl b), τ1) => if b = k then uQL k g c a ds ε τ1 else some (!k, τ1)
    | _ => none
def uQ (k : Bool) (w : UW) (vs : List Nat) (g : VG) (c : UB) (a : UE) : UE := fun ε τ => match w ε τ with
  | none => none
  | some (ds, τ1) => match uQL k g c a ds (wipeV ε vs) τ1 with
    | none => none
    | some (b, τ2) => some (.p (.bl b), τ2)
theorem lcOne' {g : XG} {vg : VG} {c : XB} {uc : UB} {a : XE} {ua : UE} {n : Nat} {d : D} {S : Sto} {e : EnvD} {ε : VEnv} {fp : Nat → List Nat} {τ τ1 : Tape} {o : Option D} {acc : List D} (hg : SC g vg) (hc : SB c uc) (ha : SE us a ua) (hd : d.np) (s : Sit β S e ε fp τ)
    (hn : S[n]? = some (.lst acc)) (of : Off β n) (hf : ∀ j, n ∉ fp j) (hl : acc.length < 1000000) (h : uOne vg uc ua d ε τ = some (o, τ1)) :
    ∃ S1, lcOne g c a n d e S = some S1 ∧ Sit β S1 e ε fp τ1 ∧ S.length ≤ S1.length ∧ (∀ i, i < S.length → i ≠ n → (∀ b l, β = some (b, l) → i ≠ b) → S1[i]? = S[i]?) ∧ S1[n]? = some (.lst (acc ++ o.toList)) ∧ (∀ y, o = some y → y.np) := by
  unfold uOne at h
  split at h
  · cases h
  rename_i ε1 eg
  obtain ⟨e1, f1, g1, g2, g3⟩ := hg β S e ε fp τ d ε1 hd s eg
  split at h
  · cases h
  · rename_i τ2 ec
    cases h
    obtain ⟨S1, c1, c2, c3⟩ := hc β S e1 ε1 f1 τ _ _ g2 ec
    exact ⟨S1, by unfold lcOne; rw [g1]; dsimp only; rw [c1], s.kn c2 c3, c2.1, fun i h1 _ h2 => c2.2 i h1 h2, by rw [Option.toList_none, List.append_nil]; exact c2.get of hn, fun y hy => by cases hy⟩
  · rename_i τ2 ec
    obtain ⟨S1, c1, c2, c3⟩ := hc β S e1 ε1 f1 τ _ _ g2 ec
    split at h
    rotate_left
    · cases h
    rename_i y τ3 ea
    cases h
    obtain ⟨d2, S2, fo, a1, a2, a3, a4, a5⟩ := ha β S1 e1 ε1 f1 τ2 _ _ (g2.kn c2 c3) ea
    obtain ⟨rfl, hy, _⟩ := a4.pd
    have kn := c2.trans a2
    have hn2 := kn.get of hn
    have s2 := s.kn kn a3
    refine ⟨S2.set n (.lst (acc ++ [d2])), ?_, ⟨s.len, fun i w hi => ?_, s.off, s.nd, ?_⟩, by rw [List.length_set]; exact kn.1, fun i h1 h2 h3 => (List.getElem?_set_ne (Ne.symm h2)).trans (kn.2 i h1 h3), ?_, fun y' hy' => by cases hy'; exact hy⟩
    · unfold lcOne
      rw [g1]
      dsimp only
      rw [c1]
      dsimp only
      rw [a1]
      dsimp only
      unfold grown
      rw [hn2]
      dsimp only
      rw [if_pos hl]
    · obtain ⟨dd, q1, q2⟩ := s2.at_ i w hi
      exact ⟨dd, q1, q2.fr fun k hk => set_off hk (hf i)⟩
    · cases β with
      | none => exact a3
      | some q =>
        obtain ⟨b, l⟩ := q
        obtain ⟨ms, cc, h1, h2, h3, h4⟩ := a3
        obtain ⟨o1, o2⟩ := of b l rfl
        exact ⟨ms, cc, by rw [List.getElem?_set_ne o1]; exact h1, h2, by rw [List.getElem?_set_ne o2]; exact h3, h4⟩
    · rw [List.getElem?_set_self (List.getElem?_eq_some_iff.mp hn2).1]
      rfl
theorem lcL' {g : XG} {vg : VG} {c : XB} {uc : UB} {a : XE} {ua : UE} {n : Nat} {e : EnvD} {ε : VEnv} {fp : Nat → List Nat} (hg : SC g vg) (hc : SB c uc) (ha : SE us a ua) (of : Off β n) (hf : ∀ j, n ∉ fp j) : ∀ (ds : List D) (S : Sto) (τ τ1 : Tape) (acc ys : List D), D.nps ds → Sit β S e ε fp τ →
    S[n]? = some (.lst acc) → acc.length + ds.length ≤ 1000000 → uLcL vg uc ua ds ε τ = some (ys, τ1) →
    ∃ S1, lcL g c a n ds e S = some S1 ∧ Sit β S1 e ε fp τ1 ∧ S.length ≤ S1.length ∧ (∀ i, i < S.length → i ≠ n → (∀ b l, β = some (b, l) → i ≠ b) → S1[i]? = S[i]?) ∧ S1[n]? = some (.lst (acc ++ ys)) ∧ D.nps ys ∧ ys.length ≤ ds.length
  | [], S, τ, τ1, acc, ys, _, s, hn, _, h => by
    cases h
    exact ⟨S, rfl, s, Nat.le_refl _, fun _ _ _ _ => rfl, by rw [List.append_nil]; exact hn, trivial, Nat.le_refl _⟩
  | d :: ds, S, τ, τ1, acc, ys, hd, s, hn, hl, h => by
    unfold uLcL at h
    split at h
    · cases h
    rename_i o τ2 e1
    split at h
    · cases h
    rename_i zs τ3 e2
    cases h
    rw [List.length_cons] at hl
    obtain ⟨S1, a1, a2, a3, a4, a5, a6⟩ := lcOne' hg hc ha hd.1 s hn of hf (by omega) e1
    have ol : o.toList.length ≤ 1 := by cases o <;> simp
    obtain ⟨S2, b1, b2, b3, b4, b5, b6, b7⟩ := lcL' hg hc ha of hf ds S1 τ2 _ (acc ++ o.toList) zs hd.2 a2 a5 (by rw [List.length_append]; omega) e2
    refine ⟨S2, by unfold lcL; rw [a1]; exact b1, b2, Nat.le_trans a3 b3, fun i h1 h2 h3 => (b4 i (Nat.lt_of_lt_of_le h1 a3) h2 h3).trans (a4 i h1 h2 h3), by rw [← List.append_assoc]; exact b5, D.nps_app ?_ b6, by rw [List.length_append, List.length_cons]; omega⟩
    cases o with
    | none => trivial
    | some y => exact ⟨a6 y rfl, trivial⟩
theorem lcV' {m : Nat} {all : List D} {g : XG} {vg : VG} {c : XB} {uc : UB} {a : XE} {ua : UE} {n : Nat} {e : EnvD} {ε : VEnv} {fp : Nat → List Nat} (hg : SC g vg) (hc : SB c uc) (ha : SE us a ua) (of : Off β n) (hf : ∀ j, n ∉ fp j) (om : Off β m) (hm : m ≠ n) : ∀ (ds : List D) (t i : Nat) (S : Sto) (τ τ1 : Tape) (acc ys : List D), all.drop i = ds → ds.length < t → S[m]? = some (.lst all) → D.nps ds → Sit β S e ε fp τ →
    S[n]? = some (.lst acc) → acc.length + ds.length ≤ 1000000 → uLcL vg uc ua ds ε τ = some (ys, τ1) →
    ∃ S1, lcV m g c a n t i e S = some S1 ∧ Sit β S1 e ε fp τ1 ∧ S.length ≤ S1.length ∧ (∀ i, i < S.length → i ≠ n → (∀ b l, β = some (b, l) → i ≠ b) → S1[i]? = S[i]?) ∧ S1[n]? = some (.lst (acc ++ ys)) ∧ D.nps ys ∧ ys.length ≤ ds.length
  | ds, 0, i, S, τ, τ1, acc, ys, _, hl, _, _, _, _, _, _ => absurd hl (Nat.not_lt_zero _)
  | [], t + 1, i, S, τ, τ1, acc, ys, hdr, _, hS, _, s, hn, _, h => by
    cases h
    refine ⟨S, ?_, s, Nat.le_refl _, fun _ _ _ _ => rfl, by rw [List.append_nil]; exact hn, trivial, Nat.le_refl _⟩
    unfold lcV lstAt
    rw [hS]
    dsimp only
    rw [List.getElem?_eq_none_iff.mpr (List.drop_eq_nil_iff.mp hdr)]
  | d :: ds, t + 1, i, S, τ, τ1, acc, ys, hdr, ht, hS, hd, s, hn, hl, h => by
    have hi : all[i]? = some d := by
      have := congrArg (fun l => l[0]?) hdr
      simpa using this
    have hdr' : all.drop (i + 1) = ds := by
      rw [← List.drop_drop, hdr]
      rfl
    unfold uLcL at h
    split at h
    · cases h
    rename_i o τ2 e1
    split at h
    · cases h
    rename_i zs τ3 e2
    cases h
    rw [List.length_cons] at hl
    obtain ⟨S1, a1, a2, a3, a4, a5, a6⟩ := lcOne' hg hc ha hd.1 s hn of hf (by omega) e1
    have ol : o.toList.length ≤ 1 := by cases o <;> simp
    obtain ⟨S2, b1, b2, b3, b4, b5, b6, b7⟩ := lcV' hg hc ha of hf om hm ds t (i + 1) S1 τ2 _ (acc ++ o.toList) zs hdr' (Nat.lt_of_succ_lt_succ ht) ((a4 m (List.getElem?_eq_some_iff.mp hS).1 hm fun b l z => (om b l z).1).trans hS) hd.2 a2 a5 (by rw [List.length_append]; omega) e2
    refine ⟨S2, ?_, b2, Nat.le_trans a3 b3, fun i h1 h2 h3 => (b4 i (Nat.lt_of_lt_of_le h1 a3) h2 h3).trans (a4 i h1 h2 h3), by rw [← List.append_assoc]; exact b5, D.nps_app ?_ b6, by rw [List.length_append, List.length_cons]; omega⟩
    · unfold lcV lstAt
      rw [hS]
      dsimp only
      rw [hi]
      dsimp only
      rw [a1]
      exact b1
    · cases o with
      | none => trivial
      | some y => exact ⟨a6 y rfl, trivial⟩
end
end Mini
end
section
namespace Mini
open PySem L2
section
variable {us vs : List Nat} {β : Bxs}
theorem Sit.lt0 {S : Sto} {e : EnvD} {ε : VEnv} {fp : Nat → List Nat} {τ : Tape} (s : Sit β S e ε fp τ) : ∃ fq : Nat → List Nat, Sit β S e ε fq τ ∧ (∀ j, ∀ k ∈ fq j, k < S.length) ∧ ∀ j, ∀ k ∈ fq j, k ∈ fp j := by
  have sub : ∀ j, ∀ k ∈ ((fp j).filter fun k => decide (k < S.length)), k ∈ fp j ∧ k < S.length := fun j k hk => by
    rw [List.mem_filter] at hk
    exact ⟨hk.1, of_decide_eq_true hk.2⟩
  refine ⟨fun j => (fp j).filter fun k => decide (k < S.length), ⟨s.len, fun i w h => ?_, fun i k hk => s.off i k (sub i k hk).1, fun i => (s.nd i).filter _, s.bx⟩, fun j k hk => (sub j k hk).2, fun j k hk => (sub j k hk).1⟩
  obtain ⟨d, h1, h2⟩ := s.at_ i w h
  refine ⟨d, h1, ?_⟩
  have : (fp i).filter (fun k => decide (k < S.length)) = fp i := List.filter_eq_self.mpr fun k hk => decide_eq_true (h2.lt k hk)
  rw [this]
  exact h2
theorem lc_whole {w : XW} {uw : UW} {own : List Nat} {g : XG} {vg : VG} {c : XB} {uc : UB} {a : XE} {ua : UE} (hw : SW us w uw) (hg : SC g vg) (hc : SB c uc) (ha : SE vs a ua) {S : Sto} {e : EnvD} {ε : VEnv} {fp : Nat → List Nat} {τ τ1 τ2 : Tape} {ds ys : List D} (s : Sit β S e ε fp τ)
    (e1 : uw ε τ = some (ds, τ1)) (e2 : uLcL vg uc ua ds (wipeV ε own) τ1 = some (ys, τ2)) : ∃ n S', S.length ≤ n ∧ xLc w own g c a e S = some (.loc n, S') ∧ Kn β S S' ∧ Bx β S' τ2 ∧ S'[n]? = some (.lst ys) ∧ D.nps ys ∧ ys.length ≤ 1000000 := by
  obtain ⟨wk, S1, a1, a2, a3, a4, a5, a6⟩ := hw β S e ε fp τ ds τ1 s e1
  obtain ⟨fq, sq, lq, _⟩ := (s.kn a2 a3).lt0
  have s2 : Sit β (S1 ++ [O.lst []]) (wipeD e own) (wipeV ε own) fq τ1 := (sq.wipe own).kn .more a3.more
  have of : Off β S1.length := a3.off (Nat.le_refl _)
  have hf : ∀ j, S1.length ∉ fq j := fun j h => Nat.lt_irrefl _ (lq j _ h)
  have hn : (S1 ++ [O.lst []])[S1.length]? = some (.lst []) := by simp
  have l2 : (S1 ++ [O.lst []]).length = S1.length + 1 := by simp
  have fin : ∀ S2, Sit β S2 (wipeD e own) (wipeV ε own) fq τ2 → (S1 ++ [O.lst []]).length ≤ S2.length → (∀ i, i < (S1 ++ [O.lst []]).length → i ≠ S1.length → (∀ b l, β = some (b, l) → i ≠ b) → S2[i]? = (S1 ++ [O.lst []])[i]?) → Kn β S S2 := fun S2 _ q3 q4 =>
    a2.trans ⟨by omega, fun i h1 h2 => (q4 i (by omega) (by omega) h2).trans (List.getElem?_append_left h1)⟩
  rcases a6 with rfl | ⟨m, rfl, hS, fr⟩
  · obtain ⟨S2, b1, b2, b3, b4, b5, b6, b7⟩ := lcL' hg hc ha of hf ds _ τ1 τ2 [] ys a4 s2 hn (by simpa using a5) e2
    refine ⟨S1.length, S2, a2.1, ?_, fin S2 b2 b3 b4, b2.bx, by simpa using b5, b6, by omega⟩
    unfold xLc
    rw [a1]
    dsimp only
    rw [b1]
  · have ml := (List.getElem?_eq_some_iff.mp hS).1
    obtain ⟨S2, b1, b2, b3, b4, b5, b6, b7⟩ := lcV' hg hc ha of hf (fr.2 m (by simp)).1 (by omega) ds turns 0 _ τ1 τ2 [] ys rfl (turns_big a5) ((List.getElem?_append_left ml).trans hS) a4 s2 hn (by simpa using a5) e2
    refine ⟨S1.length, S2, a2.1, ?_, fin S2 b2 b3 b4, b2.bx, by simpa using b5, b6, by omega⟩
    unfold xLc
    rw [a1]
    dsimp only
    rw [b1]
theorem se_lc {w : XW} {uw : UW} {own : List Nat} {g : XG} {vg : VG} {c : XB} {uc : UB} {a : XE} {ua : UE} (hw : SW us w uw) (hg : SC g vg) (hc : SB c uc) (ha : SE vs a ua) : SE [] (xLc w own g c a) (uLc uw own vg uc ua) := fun β S e ε fp τ w' τ' s h => by
  unfold uLc at h
  split at h
  · cases h
  rename_i ds τ1 e1
  split at h
  · cases h
  rename_i ys τ2 e2
  cases h
  obtain ⟨n, S', h0, h1, h2, h3, h4, h5, h6⟩ := lc_whole hw hg hc ha s e1 e2
  exact ⟨.loc n, S', [n], h1, h2, h3, .l h4 h5 h6, by simp, fun k hk => by
    rw [List.mem_singleton] at hk
    subst hk
    exact ⟨s.bx.off h0, .inl h0⟩⟩
theorem qOne' {g : XG} {vg : VG} {c : XB} {uc : UB} {a : XE} {ua : UE} {d : D} {S : Sto} {e : EnvD} {ε : VEnv} {fp : Nat → List Nat} {τ τ1 : Tape} {o : Option D} (hg : SC g vg) (hc : SB c uc) (ha : SE us a ua) (hd : d.np) (s : Sit β S e ε fp τ)
    (h : uOne vg uc ua d ε τ = some (o, τ1)) : ∃ S1, Kn β S S1 ∧ Bx β S1 τ1 ∧ (o = none → qOne g c a d e S = some (none, S1)) ∧ ∀ b, o = some (.bl b) → qOne g c a d e S = some (some b, S1) := by
  unfold uOne at h
  split at h
  · cases h
  rename_i ε1 eg
  obtain ⟨e1, f1, g1, g2, g3⟩ := hg β S e ε fp τ d ε1 hd s eg
  split at h
  · cases h
  · rename_i τ2 ec
    cases h
    obtain ⟨S1, c1, c2, c3⟩ := hc β S e1 ε1 f1 τ _ _ g2 ec
    exact ⟨S1, c2, c3, fun _ => by unfold qOne; rw [g1]; dsimp only; rw [c1], fun b hb => by cases hb⟩
  · rename_i τ2 ec
    obtain ⟨S1, c1, c2, c3⟩ := hc β S e1 ε1 f1 τ _ _ g2 ec
    split at h
    rotate_left
    · cases h
    rename_i y τ3 ea
    cases h
    obtain ⟨d2, S2, fo, a1, a2, a3, a4, a5⟩ := ha β S1 e1 ε1 f1 τ2 _ _ (g2.kn c2 c3) ea
    refine ⟨S2, c2.trans a2, a3, (fun z => by cases z), fun b hb => ?_⟩
    cases hb
    cases a4.bl
    unfold qOne
    rw [g1]
    dsimp only
    rw [c1]
    dsimp only
    rw [a1]
theorem qL' {k : Bool} {g : XG} {vg : VG} {c : XB} {uc : UB} {a : XE} {ua : UE} {e : EnvD} {ε : VEnv} {fp : Nat → List Nat} (hg : SC g vg) (hc : SB c uc) (ha : SE us a ua) : ∀ (ds : List D) (S : Sto) (τ τ1 : Tape) (b : Bool), D.nps ds → Sit β S e ε fp τ → uQL k vg uc ua ds ε τ = some (b, τ1) →
    ∃ S1, qL k g c a ds e S = some (b, S1) ∧ Kn β S S1 ∧ Bx β S1 τ1
  | [], S, τ, τ1, b, _, s, h => by
    cases h
    exact ⟨S, rfl, .refl, s.bx⟩
  | d :: ds, S, τ, τ1, b, hd, s, h => by
    unfold uQL at h
    split at h
    · rename_i τ2 e1
      obtain ⟨S1, a1, a2, a3, _⟩ := qOne' hg hc ha hd.1 s e1
      obtain ⟨S2, b1, b2, b3⟩ := qL' hg hc ha ds S1 τ2 τ1 b hd.2 (s.kn a1 a2) h
      exact ⟨S2, by unfold qL; rw [a3 rfl]; exact b1, a1.trans b2, b3⟩
    · rename_i b' τ2 e1
      obtain ⟨S1, a1, a2, _, a3⟩ := qOne' hg hc ha hd.1 s e1
      split at h
      · rename_i z
        obtain ⟨S2, b1, b2, b3⟩ := qL' hg hc ha ds S1 τ2 τ1 b hd.2 (s.kn a1 a2) h
        exact ⟨S2, by unfold qL; rw [a3 _ rfl]; dsimp only; rw [if_pos z]; exact b1, a1.trans b2, b3⟩
      · rename_i z
        cases h
        exact ⟨S1, by unfold qL; rw [a3 _ rfl]; dsimp only; rw [if_neg z], a1, a2⟩
    · cases h
theorem qV' {k : Bool} {m : Nat} {all : List D} {g : XG} {vg : VG} {c : XB} {uc : UB} {a : XE} {ua : UE} {e : EnvD} {ε : VEnv} {fp : Nat → List Nat} (hg : SC g vg) (hc : SB c uc) (ha : SE us a ua) (om : Off β m) : ∀ (ds : List D) (t i : Nat) (S : Sto) (τ τ1 : Tape) (b : Bool), all.drop i = ds → ds.length < t → S[m]? = some (.lst all) → D.nps ds → Sit β S e ε fp τ → uQL k vg uc ua ds ε τ = some (b, τ1) →
    ∃ S1, qV k m g c a t i e S = some (b, S1) ∧ Kn β S S1 ∧ Bx β S1 τ1
  | ds, 0, i, S, τ, τ1, b, _, hl, _, _, _, _ => absurd hl (Nat.not_lt_zero _)
  | [], t + 1, i, S, τ, τ1, b, hdr, _, hS, _, s, h => by
    cases h
    refine ⟨S, ?_, .refl, s.bx⟩
    unfold qV lstAt
    rw [hS]
    dsimp only
    rw [List.getElem?_eq_none_iff.mpr (List.drop_eq_nil_iff.mp hdr)]
  | d :: ds, t + 1, i, S, τ, τ1, b, hdr, ht, hS, hd, s, h => by
    have hi : all[i]? = some d := by
      have := congrArg (fun l => l[0]?) hdr
      simpa using this
    have hdr' : all.drop (i + 1) = ds := by
      rw [← List.drop_drop, hdr]
      rfl
    have step : ∀ o S1, qOne g c a d e S = some (o, S1) → qV k m g c a (t + 1) i e S = (match o with | none => qV k m g c a t (i + 1) e S1 | some b => if b = k then qV k m g c a t (i + 1) e S1 else some (!k, S1)) := fun o S1 hq => by
      conv => lhs; unfold qV lstAt
      rw [hS]
      dsimp only
      rw [hi]
      dsimp only
      rw [hq]
      cases o <;> rfl
    unfold uQL at h
    split at h
    · rename_i τ2 e1
      obtain ⟨S1, a1, a2, a3, _⟩ := qOne' hg hc ha hd.1 s e1
      obtain ⟨S2, b1, b2, b3⟩ := qV' hg hc ha om ds t (i + 1) S1 τ2 τ1 b hdr' (Nat.lt_of_succ_lt_succ ht) (a1.get om hS) hd.2 (s.kn a1 a2) h
      exact ⟨S2, by rw [step _ _ (a3 rfl)]; exact b1, a1.trans b2, b3⟩
    · rename_i b' τ2 e1
      obtain ⟨S1, a1, a2, _, a3⟩ := qOne' hg hc ha hd.1 s e1
      split at h
      · rename_i z
        obtain ⟨S2, b1, b2, b3⟩ := qV' hg hc ha om ds t (i + 1) S1 τ2 τ1 b hdr' (Nat.lt_of_succ_lt_succ ht) (a1.get om hS) hd.2 (s.kn a1 a2) h
        exact ⟨S2, by rw [step _ _ (a3 _ rfl)]; dsimp only; rw [if_pos z]; exact b1, a1.trans b2, b3⟩
      · rename_i z
        cases h
        exact ⟨S1, by rw [step _ _ (a3 _ rfl)]; dsimp only; rw [if_neg z], a1, a2⟩
    · cases h
theorem se_q {k : Bool} {w : XW} {uw : UW} {own : List Nat} {g : XG} {vg : VG} {c : XB} {uc : UB} {a : XE} {ua : UE} (hw : SW us w uw) (hg : SC g vg) (hc : SB c uc) (ha : SE vs a ua) : SE [] (xQ k w own g c a) (uQ k uw own vg uc ua) := fun β S e ε fp τ w' τ' s h => by
  unfold uQ at h
  split at h
  · cases h
  rename_i ds τ1 e1
  split at h
  · cases h
  rename_i b τ2 e2
  cases h
  obtain ⟨wk, S1, a1, a2, a3, a4, a5, a6⟩ := hw β S e ε fp τ ds τ1 s e1
  have s2 := (s.kn a2 a3).wipe own
  rcases a6 with rfl | ⟨m, rfl, hS, fr⟩
  · obtain ⟨S2, b1, b2, b3⟩ := qL' hg hc ha ds S1 τ1 _ b a4 s2 e2
    exact ⟨.bl b, S2, [], by unfold xQ; rw [a1]; dsimp only; rw [b1], a2.trans b2, b3, .p trivial, .nil⟩
  · obtain ⟨S2, b1, b2, b3⟩ := qV' hg hc ha (fr.2 m (by simp)).1 ds turns 0 S1 τ1 _ b rfl (turns_big a5) hS a4 s2 e2
    exact ⟨.bl b, S2, [], by unfold xQ; rw [a1]; dsimp only; rw [b1], a2.trans b2, b3, .p trivial, .nil⟩
end

def uentry (k : Nat) (ws : List W) : VEnv := ws.map some ++ List.replicate (k - ws.length) none
def uends : Option URes → Option (W × Tape)
  | some (.rt w τ) => some (w, τ)
  | some (.nx _ τ) => some (.p .non, τ)
  | _ => none
def uFn (np N : Nat) (b : US) (ws : List W) (τ : Tape) : Option (W × Tape) := if ws.length = np then uends (b (uentry N ws) τ) else none
theorem Vws.fp {β : Bxs} {S : Sto} {ds : List D} {ws : List W} {fs : List (List Nat)} (v : Vws β S ds ws fs) {i : Nat} {w : W} (h : ws[i]? = some w) : ∃ d, ds[i]? = some d ∧ Vw β S d w (fs.getD i []) := by
  obtain ⟨d, f, h1, h2, h3⟩ := v.get h
  exact ⟨d, h1, by rw [List.getD_eq_getElem?_getD, h2]; exact h3⟩
theorem sfn_of {fh : Bool} {np N : Nat} {b : XS} {ub : US} (br : List Nat) (h : SS br [] fh b ub) (hb : ((List.range np).all fun i => br.contains i) = true := by rfl) : SFn fh (fun ds S => ends (b (entry N ds) S)) (uFn np N ub) := fun β S ds ws fs τ w τ' v o bx e => by
  unfold uFn at e
  split at e
  rotate_left
  · cases e
  rename_i hl
  obtain ⟨l1, l2⟩ := v.len
  have geti : ∀ i, ∀ k ∈ fs.getD i [], ∃ f ∈ fs, k ∈ f := fun i k hk => by
    rw [List.getD_eq_getElem?_getD] at hk
    cases q : fs[i]? with
    | none => rw [q] at hk; simp at hk
    | some f => rw [q] at hk; exact ⟨f, List.mem_of_getElem? q, hk⟩
  have hA : ∀ k, (∃ f ∈ fs, k ∈ f) → k < S.length ∧ Off β k := fun k ⟨f, hf, hk⟩ => ⟨v.lt f hf k hk, (o f hf).2 k hk⟩
  have big : ∀ i, i ∉ br → fs.getD i [] = [] := fun i hi => by
    rw [List.getD_eq_getElem?_getD, List.getElem?_eq_none_iff.mpr]
    · rfl
    · rw [l2, hl]
      refine Nat.le_of_not_lt fun q => hi ?_
      have := List.all_eq_true.mp hb i (List.mem_range.mpr q)
      simpa using this
  have s : Stt br (fun k => ∃ f ∈ fs, k ∈ f) β S.length S (entry N ds) (uentry N ws) (fun i => fs.getD i []) τ := by
    refine ⟨⟨?_, fun i w hw => ?_, fun i k hk => (hA k (geti i k hk)).2, fun i => ?_, bx⟩, Nat.le_refl _, fun b l z => bx.len z, fun i k hk => (hA k (geti i k hk)).1, fun i hi k hk => ?_, fun i hi k hk => geti i k hk, fun i j hi hj _ k hk => ?_⟩
    · unfold entry uentry
      rw [List.length_append, List.length_append, List.length_map, List.length_map, List.length_replicate, List.length_replicate, l1]
    · unfold uentry at hw
      by_cases hi : i < ws.length
      · rw [List.getElem?_append_left (by rw [List.length_map]; exact hi), List.getElem?_map] at hw
        cases q : ws[i]? with
        | none => rw [q] at hw; cases hw
        | some w' =>
          rw [q] at hw
          cases hw
          obtain ⟨d, h1, h2⟩ := v.fp q
          refine ⟨d, ?_, h2⟩
          unfold entry
          rw [List.getElem?_append_left (by rw [List.length_map]; omega), List.getElem?_map, h1]
          rfl
      · rw [List.getElem?_append_right (by rw [List.length_map]; omega), List.getElem?_replicate] at hw
        split at hw <;> cases hw
    · show (fs.getD i []).Nodup
      rw [List.getD_eq_getElem?_getD]
      cases q : fs[i]? with
      | none => exact .nil
      | some f => exact (o f (List.mem_of_getElem? q)).1
    · have hk' : k ∈ fs.getD i [] := hk
      rw [big i hi] at hk'; simp at hk'
    · have hk' : k ∈ fs.getD i [] := hk
      rw [big i hi] at hk'; simp at hk'
  unfold uends at e
  split at e
  · rename_i w' τ1 e1
    cases e
    obtain ⟨q, a1, a2⟩ := h _ β S.length S _ _ _ τ _ hA s e1
    cases q with
    | rt d S' =>
      obtain ⟨fo, f1, f2, f3, f4, f5⟩ := a2
      refine ⟨d, S', fo, by show ends (b (entry N ds) S) = _; rw [a1]; rfl, ⟨f1.1, fun i h1 h2 => f1.2 i h1 h2 fun j hj _ hk => ?_⟩, f2, f3, f4, fun k hk => ⟨(f5 k hk).1, (f5 k hk).2⟩⟩
      have hk' : i ∈ fs.getD j [] := hk
      rw [big j hj] at hk'; simp at hk'
    | _ => exact a2.elim
  · rename_i ε1 τ1 e1
    cases e
    obtain ⟨q, a1, a2⟩ := h _ β S.length S _ _ _ τ _ hA s e1
    cases q with
    | nx e' S' =>
      obtain ⟨f', n⟩ := a2
      refine ⟨.non, S', [], by show ends (b (entry N ds) S) = _; rw [a1]; rfl, ⟨n.fr.1, fun i h1 h2 => n.fr.2 i h1 h2 fun j hj _ hk => ?_⟩, n.st.sit.bx, .p trivial, .nil, fun k hk => by simp at hk⟩
      have hk' : i ∈ fs.getD j [] := hk
      rw [big j hj] at hk'; simp at hk'
    | _ => exact a2.elim
  · cases e
end Mini
end
section
open PySem L2 Mini
local macro_rules | `(tactic| walk_at "fact") => `(tactic| with_reducible assumption)
local macro_rules | `(tactic| walk_at "yes") => `(tactic| first | with_reducible assumption | (refine decide_eq_true ?_; first | with_reducible assumption | with_reducible rfl | omega))
local macro_rules | `(tactic| walk_at "no") => `(tactic| first | with_reducible exact Bool.false_ne_true | (refine Bool.eq_false_iff.mp ?_; first | with_reducible assumption | (refine decide_eq_false ?_; first | with_reducible assumption | omega)))
local macro_rules | `(tactic| walk_at "bool") => `(tactic| first | rfl | decide | (simp; done) | (simp; omega) | (simp at *; done) | (simp at *; omega))
local macro_rules | `(tactic| walk_at "bool not") => `(tactic| first | exact Bool.eq_false_iff.mp (by first | rfl | decide) | (simp; done) | (simp; omega) | (simp at *; done) | (simp at *; omega))
local macro_rules | `(tactic| walk_at "pick") => `(tactic| first | rw [if_pos (by walk_at "yes")] | rw [if_neg (by walk_at "no")] | rw [if_pos (by walk_at "bool")] | rw [if_neg (by walk_at "bool not")])
local macro_rules | `(tactic| walk_at "target") => `(tactic| first | ((simp only [gN, List.set_cons_zero, List.set_cons_succ]); rfl) | rfl)
local macro_rules | `(tactic| walk_at "prim") => `(tactic| first | walk_at "fact" | rfl)
local macro_rules | `(tactic| walk_at "ev") => `(tactic| (first
  | with_reducible exact v_c
  | with_reducible exact v_nil
  | ((with_reducible show xVar _ _ _ = _); rfl)
  | ((with_reducible apply v_op); (· walk_at "ev"); (· walk_at "ev"); (· walk_at "prim"))
  | ((with_reducible apply v_cons); (· walk_at "ev"); (· walk_at "ev"))
  | ((with_reducible apply v_call); (· walk_at "ev"); (· rfl); (· walk_at "fact"))
  | ((with_reducible apply v_all); (· walk_at "ev"); (· walk_at "prim"))
  | ((with_reducible apply v_un); (· walk_at "ev"); (· walk_at "prim"))
  | ((with_reducible apply v_if); (· walk_at "ev"); (· (walk_at "pick" <;> walk_at "ev")))
  | ((with_reducible apply v_and); (· walk_at "ev"); (· (walk_at "pick" <;> first | rfl | walk_at "ev")))
  | ((with_reducible apply v_or); (· walk_at "ev"); (· (walk_at "pick" <;> first | rfl | walk_at "ev")))
  | ((with_reducible apply v_not); (· walk_at "ev"); (· rfl))
  | ((with_reducible apply v_isi); (· walk_at "ev"); (· walk_at "prim"))
  | ((with_reducible apply v_met); (· walk_at "ev"); (· walk_at "prim"); (· walk_at "ev"); (· walk_at "prim"))
  | ((with_reducible apply t_tru); (· walk_at "ev"); (· walk_at "prim"))
  | ((with_reducible apply t_val); walk_at "ev")
  | ((with_reducible apply t_not); walk_at "ev")
  | ((with_reducible apply t_and); (· walk_at "ev"); (· (walk_at "pick" <;> first | rfl | walk_at "ev")))
  | ((with_reducible apply t_or); (· walk_at "ev"); (· (walk_at "pick" <;> first | rfl | walk_at "ev")))))
local macro_rules | `(tactic| walk_at "st") => `(tactic| (first
  | with_reducible exact s_nil
  | ((with_reducible apply s_ifs); (· walk_at "ev"); (walk_at "pick"))
  | ((with_reducible apply s_rets); walk_at "ev")
  | with_reducible apply s_seqs
  | with_reducible apply s_nils
  | ((with_reducible apply s_asgs); (· walk_at "ev"); (· walk_at "target"))
  | ((with_reducible apply s_exprs); (· walk_at "ev"))
  | ((with_reducible apply s_puts); (· walk_at "ev"); (· walk_at "ev"); (· walk_at "ev"); (· walk_at "prim"))))
local macro_rules | `(tactic| walk_at "sts") => `(tactic| (repeat walk_at "st"))

namespace Mini
open PySem L2
def uDraw (ws : List W) (τ : Tape) : Option (W × Tape) := match ws, τ with
  | [.bx, .p (.int m)], some ds => if 0 < m then match ds with
      | [] => some (.p (.int 0), some [])
      | x :: r => some (.p (.int (x % m)), some r)
    else none
  | _, _ => none
theorem draw_at {S : Sto} {b l a : Nat} {ms : List Int} {many : Int} (a1 : S[b]? = some (.lst [.loc l, .int (a : Int)])) (a2 : l ≠ b) (a3 : S[l]? = some (.lst (ms.map D.int))) (hm : 0 < many) :
    ends (sDraw [some (.loc b), some (.int many), none] S) = some (.int (match ms.drop a with | [] => 0 | x :: _ => x % many), S.set b (.lst [.loc l, .int ((a + 1 : Nat) : Int)])) := by
  have e1 : ((a + 1 : Nat) : Int) = (a : Int) + 1 := by omega
  rw [e1]
  have lb : lstAt S b = some [.loc l, .int (a : Int)] := lst_len a1
  have q1 : fIx (.loc b) (.int 1) S = some (.int (a : Int), S) := ix_lst (i := 1) lb rfl
  have q2 : fPut (.loc b) (.int 1) (.int ((a : Int) + 1)) S = some (S.set b (.lst [.loc l, .int ((a : Int) + 1)])) := put_run (j := 1) a1 (by simp)
  have hb := (List.getElem?_eq_some_iff.mp a1).1
  have b1 : (S.set b (.lst [.loc l, .int ((a : Int) + 1)]))[b]? = some (.lst [.loc l, .int ((a : Int) + 1)]) := List.getElem?_set_self hb
  have b2 : (S.set b (.lst [.loc l, .int ((a : Int) + 1)]))[l]? = some (.lst (ms.map D.int)) := by rw [List.getElem?_set_ne (Ne.symm a2)]; exact a3
  generalize hS : S.set b (.lst [.loc l, .int ((a : Int) + 1)]) = S1 at *
  have q3 : fIx (.loc b) (.int 0) S1 = some (.loc l, S1) := ix_lst (i := 0) (lst_len b1) rfl
  have q4 : fLen [.loc l] S1 = some (.int (ms.length : Int), S1) := by
    have q := len_lst (lst_len b2)
    rw [List.length_map] at q
    exact q
  by_cases c : (a : Int) < (ms.length : Int)
  · have hi : a < ms.length := by omega
    have q5 : fIx (.loc l) (.int (a : Int)) S1 = some (.int ms[a], S1) := ix_lst (i := a) (lst_len b2) (by rw [List.getElem?_map, List.getElem?_eq_getElem hi]; rfl)
    have q6 : fMod (.int ms[a]) (.int many) S1 = some (.int (ms[a] % many), S1) := by
      show (match (if decide (0 < many) = true then some (D.int (ms[a] % many)) else none) with | some d => some (d, S1) | none => none) = _
      rw [if_pos (decide_eq_true hm)]
    rw [List.drop_eq_getElem_cons hi]
    apply e_rt
    unfold sDraw
    walk_at "sts"
  · have hi : ms.length ≤ a := by omega
    rw [List.drop_eq_nil_of_le hi]
    apply e_rt
    unfold sDraw
    walk_at "sts"
theorem sfn_draw : SFn true (fun ds S => ends (sDraw (entry 3 ds) S)) uDraw := fun β S ds ws fs τ w τ' v o bx e => by
  unfold uDraw at e
  split at e
  rotate_left
  · cases e
  rename_i m xs
  split at e
  rotate_left
  · cases e
  rename_i hm
  cases v with
  | cons h1 q =>
    cases q with
    | cons h2 q2 =>
      cases q2
      obtain ⟨rfl, _, _⟩ := h2.pd
      cases h1 with
      | bx hb =>
        rename_i b l
        subst hb
        obtain ⟨ms, a, a1, a2, a3, a4, a5⟩ := bx
        have r := draw_at (many := m) a1 a2 a3 hm
        cases a5
        have hbl := (List.getElem?_eq_some_iff.mp a1).1
        have nb : Bx (some (b, l)) (S.set b (.lst [.loc l, .int ((a + 1 : Nat) : Int)])) (some (ms.drop (a + 1))) := ⟨ms, a + 1, List.getElem?_set_self hbl, a2, by rw [List.getElem?_set_ne (Ne.symm a2)]; exact a3, a4, rfl⟩
        have kn : Kn (some (b, l)) S (S.set b (.lst [.loc l, .int ((a + 1 : Nat) : Int)])) := ⟨by rw [List.length_set]; exact Nat.le_refl _, fun i h1 h2 => List.getElem?_set_ne fun z => h2 b l rfl z.symm⟩
        have dd : ms.drop (a + 1) = (ms.drop a).tail := by rw [List.tail_drop]
        cases hd : ms.drop a with
        | nil =>
          rw [hd] at e r dd
          cases e
          rw [dd] at nb
          exact ⟨.int 0, _, [], r, kn, nb, .p trivial, .nil, fun k hk => by simp at hk⟩
        | cons x t =>
          rw [hd] at e r dd
          cases e
          rw [dd] at nb
          exact ⟨.int (x % m), _, [], r, kn, nb, .p trivial, .nil, fun k hk => by simp at hk⟩
theorem box_ok {S : Sto} {s last : Nat} {ns : List Int} (fb fd fc : List D → Sto → Option (D × Sto)) (hb : ∀ ds S, fb ds S = ends (sBox fd (entry 3 ds) S)) (hd : ∀ ds S, fd ds S = ends (sDigits fc (entry 8 ds) S)) (hc : ∀ ds S, fc ds S = ends (sCell (entry 2 ds) S))
    (h : lstAt S s = some (ns.map D.int)) (hl : ns.length ≤ 1000) (hlast : last ≤ 100) : ∃ S', fb [.loc s, .int 0, .int (last : Int)] S = some (.loc (S.length + 1), S') ∧ Box S' (S.length + 1) ∧ S'.length = S.length + 2 ∧ S <+: S' := by
  rw [hb]
  refine box_run (last := last) fd ?_
  obtain ⟨ms, h1, h2⟩ := digits_run (f := fc) (S := S) (s := s) (fun S' k hk => by
    obtain ⟨i, hi⟩ := cell_run (S := S') (s := s) (ns := ns) hk hl k
    exact ⟨i, by rw [hc]; exact hi⟩) h last hlast
  exact ⟨ms, h1, by rw [hd]; exact h2⟩
theorem law_start {N last : Nat} {o : O} {ns : List Int} {fb : List D → Sto → Option (D × Sto)} {b : XS} {ub : US} {fh : Bool} (br : List Nat) (ho : o = .lst (ns.map D.int) ∨ o = .frz (ns.map D.int))
    (hbox : ∃ S', fb [.loc 0, .int 0, .int (last : Int)] [o] = some (.loc 2, S') ∧ Box S' 2 ∧ S'.length = 3 ∧ [o] <+: S') (h : SS br [] fh b ub)
    (hv : ∀ ds : List Int, ∃ τ, ub (none :: some .bx :: List.replicate N none) (some ds) = some (.rt (.p (.bl true)) τ)) :
    ∃ S', ends (sSeq (sAsg (xCall 3 fb (xCons (xVar 0) (xCons (xC (.int 0)) (xCons (xC (.int (last : Int))) xNil)))) (gN 1)) b (entry (N + 2) [.loc 0]) [o]) = some (.bl true, S') := by
  obtain ⟨S', h1, ⟨l, ms, i, q1, q2, q3, q4, q5⟩, h2, h3⟩ := hbox
  obtain ⟨τ, hv⟩ := hv (ms.drop i.toNat)
  have ei : i = ((i.toNat : Nat) : Int) := by omega
  have hl := (List.getElem?_eq_some_iff.mp q3).1
  have en : entry (N + 2) [.loc 0] = some (.loc 0) :: none :: List.replicate N none := by
    unfold entry
    show some (D.loc 0) :: List.replicate (N + 2 - 1) none = _
    rw [show N + 2 - 1 = N + 1 from rfl, List.replicate_succ]
  have s : Stt br (fun _ => False) (some (2, l)) 3 S' (some (.loc 0) :: some (.loc 2) :: List.replicate N none) (none :: some .bx :: List.replicate N none) (fun _ => []) (some (ms.drop i.toNat)) := by
    refine ⟨⟨by simp, fun j w hw => ?_, fun _ k hk => by simp at hk, fun _ => .nil, ⟨ms, i.toNat, by rw [← ei]; exact q1, q2, q3, q5, rfl⟩⟩, by omega, fun b l' z => by cases z; omega, fun _ k hk => by simp at hk, fun _ _ k hk => by simp at hk, fun _ _ k hk => by simp at hk, fun _ _ _ _ _ k hk => by simp at hk⟩
    match j, hw with
    | 0, hw => cases hw
    | 1, hw => cases hw; exact ⟨.loc 2, rfl, .bx rfl⟩
    | j + 2, hw =>
      have hw' : (List.replicate N (none : Option W))[j]? = some (some w) := hw
      rw [List.getElem?_replicate] at hw'
      split at hw' <;> cases hw'
  obtain ⟨q, a1, a2⟩ := h _ (some (2, l)) 3 S' _ _ _ _ _ (fun k z => z.elim) s hv
  cases q with
  | rt d S2 =>
    obtain ⟨fo, f1, f2, f3, f4, f5⟩ := a2
    cases f3.bl
    refine ⟨S2, ?_⟩
    have e0 : sSeq (sAsg (xCall 3 fb (xCons (xVar 0) (xCons (xC (.int 0)) (xCons (xC (.int (last : Int))) xNil)))) (gN 1)) b (entry (N + 2) [.loc 0]) [o] = some (.rt (.bl true) S2) := by
      rw [en]
      refine s_seq (s_asg (d := .loc 2) (S1 := S') (v_call (xs := [.loc 0, .int 0, .int (last : Int)]) (S1 := [o]) rfl rfl h1) rfl) a1
    rw [e0]
    rfl
  | _ => exact a2.elim
section
variable {us vs br kp : List Nat} {fh : Bool} {a b : XE} {ua ub : UE} {l : XL} {ul : UL}
theorem se_opF {f : D → D → Sto → Option (D × Sto)} {g : W → W → Option W} (o : OpV false f g) (ha : SE us a ua) (hb : SE vs b ub) : SE [] (xOp f a b) (uOp g ua ub) := se_op o ha hb
theorem se_opT {f : D → D → Sto → Option (D × Sto)} {g : W → W → Option W} (o : OpV true f g) (ha : SE us a ua) (hb : SE vs b ub) : SE us (xOp f a b) (uOp g ua ub) := se_op o ha hb
theorem se_allF {f : List D → Sto → Option (D × Sto)} {g : List W → Option W} (o : AllV false f g) (hl : SL us l ul) : SE [] (xAll f l) (uAll g ul) := se_all o hl
theorem se_callF {f : List D → Sto → Option (D × Sto)} {F : List W → Tape → Option (W × Tape)} (k : Nat) (o : SFn true f F) (hl : SL us l ul) : SE [] (xCall k f l) (uCall k F ul) := se_call k o hl
theorem se_callPF {f : List D → Sto → Option (D × Sto)} {F : List W → Tape → Option (W × Tape)} (k : Nat) (o : SFn true f F) (hl : SL us l ul) : SE [] (xCall k f l) (uCallP k F ul) := se_callP k o hl
theorem se_callPA {f : List D → Sto → Option (D × Sto)} {F : List W → Tape → Option (W × Tape)} (k : Nat) (o : SFn false f F) (hl : SL us l ul) : SE us (xCall k f l) (uCallP k F ul) := se_callP k o hl
end
end Mini
end
section
namespace Mini
open PySem L2
abbrev UO := VEnv → Tape → Option (Option Int × Tape)
def uoN : UO := fun _ τ => some (none, τ)
def uoS (m : UE) : UO := fun ε τ => match m ε τ with
  | some (.p (.int i), τ1) => some (some i, τ1)
  | _ => none
def SO (m : XO) (v : UO) : Prop := ∀ β S e ε fp τ o τ', Sit β S e ε fp τ → v ε τ = some (o, τ') → ∃ S', m e S = some (o, S') ∧ Kn β S S' ∧ Bx β S' τ'
def wSl (w : W) (lo hi : Option Int) : Option W := match w with
  | .p (.tup ds) => some (.p (.tup (cutD ds lo hi)))
  | .p (.str z) => if z.length ≤ 100000 then some (.p (.str (Txt.slice z lo hi))) else none
  | .l ds => some (.l (cutD ds lo hi))
  | _ => none
theorem strOk_slice {z : Str} {lo hi : Option Int} (h : PyData.strOk z = true) : PyData.strOk (Txt.slice z lo hi) = true := by
  unfold PyData.strOk at *
  rw [← Array.all_toList, List.all_eq_true] at *
  intro x hx
  refine h x ?_
  unfold Txt.slice at hx
  split at hx
  · exact hx
  · simp only [List.mem_filterMap] at hx
    obtain ⟨i, _, e⟩ := hx
    rw [← Array.getElem?_toList] at e
    exact List.mem_of_getElem? e
def uSl (a : UE) (lo hi : UO) : UE := fun ε τ => match a ε τ with
  | none => none
  | some (x, τ1) => match lo ε τ1 with
    | none => none
    | some (l, τ2) => match hi ε τ2 with
      | none => none
      | some (u, τ3) => match wSl x l u with
        | none => none
        | some z => some (z, τ3)
theorem cutD_mem {α : Type} {xs : List α} {lo hi : Option Int} {x : α} (h : x ∈ cutD xs lo hi) : x ∈ xs := List.mem_of_mem_drop (List.mem_of_mem_take h)
theorem cutD_len {α : Type} {xs : List α} {lo hi : Option Int} : (cutD xs lo hi).length ≤ xs.length := by
  unfold cutD
  rw [List.length_take, List.length_drop]
  omega
theorem cutD_nps {ds : List D} {lo hi : Option Int} (h : D.nps ds) : D.nps (cutD ds lo hi) := D.nps_iff.mpr fun x hx => D.nps_iff.mp h x (cutD_mem hx)
section
variable {us : List Nat} {a b : XE} {ua ub : UE} {l : XL} {ul : UL}
theorem so_n : SO xoN uoN := fun β S e ε fp τ o τ' s h => by
  cases h
  exact ⟨S, rfl, .refl, s.bx⟩
theorem so_s (h : SE us a ua) : SO (xoS a) (uoS ua) := fun β S e ε fp τ o τ' s h9 => by
  unfold uoS at h9
  split at h9
  · rename_i i τ1 e1
    cases h9
    obtain ⟨d, S1, fo, a1, a2, a3, a4, a5⟩ := h β S e ε fp τ _ _ s e1
    obtain ⟨rfl, _, _⟩ := a4.pd
    exact ⟨S1, by unfold xoS; rw [a1], a2, a3⟩
  · cases h9
theorem se_sl {lo hi : XO} {ulo uhi : UO} (ha : SE us a ua) (hl : SO lo ulo) (hh : SO hi uhi) : SE [] (xSl a lo hi) (uSl ua ulo uhi) := fun β S e ε fp τ w τ' s h => by
  unfold uSl at h
  split at h
  · cases h
  rename_i x τ1 e1
  split at h
  · cases h
  rename_i l τ2 e2
  split at h
  · cases h
  rename_i u τ3 e3
  split at h
  · cases h
  rename_i z e4
  cases h
  obtain ⟨d, S1, fo, a1, a2, a3, a4, a5⟩ := ha β S e ε fp τ _ _ s e1
  have s1 := s.kn a2 a3
  obtain ⟨S2, b1, b2, b3⟩ := hl β S1 e ε fp τ1 l τ2 s1 e2
  obtain ⟨S3, c1, c2, c3⟩ := hh β S2 e ε fp τ2 u _ (s1.kn b2 b3) e3
  have kn := (a2.trans b2).trans c2
  have a4' := a4.kn (b2.trans c2) fun k hk => (a5.2 k hk).1
  have fin : ∀ d' T fo', fSl d l u S3 = some (d', S3 ++ T) → Vw β (S3 ++ T) d' w fo' → fo'.Nodup → (∀ k ∈ fo', S3.length ≤ k) → ∃ d S' fo, xSl a lo hi e S = some (d, S') ∧ Kn β S S' ∧ Bx β S' τ' ∧ Vw β S' d w fo ∧ From β S [] fp fo := fun d' T fo' h1 h2 h3 h4 =>
    ⟨d', S3 ++ T, fo', by unfold xSl; rw [a1]; dsimp only; rw [b1]; dsimp only; rw [c1]; exact h1, kn.trans .more, c3.more, h2, h3, fun k hk => ⟨c3.off (h4 k hk), .inl (Nat.le_trans kn.1 (h4 k hk))⟩⟩
  unfold wSl at e4
  split at e4
  · rename_i ds
    cases e4
    obtain ⟨rfl, n1, _⟩ := a4'.pd
    exact fin _ [] [] (by rw [List.append_nil]; rfl) (.p ⟨Nat.le_trans cutD_len n1.1, cutD_nps n1.2⟩) .nil fun k hk => by simp at hk
  · split at e4
    · rename_i hz
      cases e4
      obtain ⟨rfl, n1, _⟩ := a4'.pd
      exact fin _ [] [] (by rw [List.append_nil]; unfold fSl; dsimp only; rw [if_pos hz]) (.p (strOk_slice n1)) .nil fun k hk => by simp at hk
    · cases e4
  · rename_i ds
    cases e4
    cases a4' with
    | l q1 q2 q3 =>
      refine fin (.loc S3.length) [.lst (cutD ds l u)] [S3.length] ?_ (.l (by simp) (cutD_nps q2) (Nat.le_trans cutD_len q3)) (by simp) fun k hk => by simp at hk; omega
      unfold fSl lstAt
      dsimp only
      rw [q1]
  · cases e4
end
end Mini
end
section
namespace Mini
open PySem L2
section
variable {us vs : List Nat} {β : Bxs}
structure Gro (β : Bxs) (n : Nat) (S S1 : Sto) (e : EnvD) (ε : VEnv) (fp : Nat → List Nat) (τ1 : Tape) (acc ys : List D) : Prop where
  sit : Sit β S1 e ε fp τ1
  le : S.length ≤ S1.length
  fr : ∀ i, i < S.length → i ≠ n → (∀ b l, β = some (b, l) → i ≠ b) → S1[i]? = S[i]?
  at_ : S1[n]? = some (.lst (acc ++ ys))
  np : D.nps ys
theorem Gro.trans {n : Nat} {S S1 S2 : Sto} {e : EnvD} {ε : VEnv} {fp : Nat → List Nat} {τ1 τ2 : Tape} {acc ys zs : List D} (a : Gro β n S S1 e ε fp τ1 acc ys) (b : Gro β n S1 S2 e ε fp τ2 (acc ++ ys) zs) : Gro β n S S2 e ε fp τ2 acc (ys ++ zs) :=
  ⟨b.sit, Nat.le_trans a.le b.le, fun i h1 h2 h3 => (b.fr i (Nat.lt_of_lt_of_le h1 a.le) h2 h3).trans (a.fr i h1 h2 h3), by rw [← List.append_assoc]; exact b.at_, D.nps_app a.np b.np⟩
end
end Mini
end
section
namespace Mini
open PySem L2
def uMt (f : List D → D → Option W) (o a : UE) : UE := fun ε τ => match o ε τ with
  | some (.l ds, τ1) => match a ε τ1 with
    | some (.p y, τ2) => match f ds y with
      | some z => some (z, τ2)
      | none => none
    | _ => none
  | _ => none
def MtV (F : D → List D → Sto → Option (D × Sto)) (f : List D → D → Option W) : Prop := ∀ (S : Sto) (n : Nat) (ds : List D) (y : D) (z : W), S[n]? = some (.lst ds) → D.nps ds → ds.length ≤ 1000000 → y.np → f ds y = some z → ∃ d, z = .p d ∧ d.np ∧ F (.loc n) [y] S = some (d, S)
theorem se_mt {us vs : List Nat} {o a : XE} {uo ua : UE} {F : D → List D → Sto → Option (D × Sto)} {f : List D → D → Option W} (m : MtV F f) (ho : SE us o uo) (ha : SE vs a ua) : SE [] (xMet okList F o (xCons a xNil)) (uMt f uo ua) := fun β S e ε fp τ w τ' s h => by
  unfold uMt at h
  split at h
  rotate_left
  · cases h
  rename_i ds τ1 e1
  split at h
  rotate_left
  · cases h
  rename_i y τ2 e2
  split at h
  rotate_left
  · cases h
  rename_i z e3
  cases h
  obtain ⟨d, S1, fo, a1, a2, a3, a4, a5⟩ := ho β S e ε fp τ _ _ s e1
  have s1 := s.kn a2 a3
  obtain ⟨dk, S2, fk, b1, b2, b3, b4, b5⟩ := ha β S1 e ε fp τ1 _ _ s1 e2
  obtain ⟨rfl, ny, _⟩ := b4.pd
  cases a4 with
  | l q1 q2 q3 =>
    rename_i n
    have of := (a5.2 n (by simp)).1
    obtain ⟨d, rfl, nd, hF⟩ := m S2 n ds dk w (b2.get of q1) q2 q3 ny e3
    refine ⟨d, S2, [], ?_, a2.trans b2, b3, .p nd, .nil, fun k hk => by simp at hk⟩
    unfold xMet
    rw [a1]
    dsimp only
    rw [if_pos (by unfold okList lstAt; dsimp only; rw [q1])]
    unfold xCons xNil
    rw [b1]
    exact hF
def wIdx (ds : List D) (y : D) : Option W := if (D.dok 60 y && D.doks 60 ds) = true then match ds.findIdx? fun z => eqB z y with
    | some j => some (.p (.int (j : Int)))
    | none => none
  else none
theorem mv_idx : MtV fIdx wIdx := fun S n ds y z hS hd hl hy h => by
  unfold wIdx at h
  split at h
  rotate_left
  · cases h
  rename_i c
  rw [Bool.and_eq_true] at c
  split at h
  rotate_left
  · cases h
  rename_i j ej
  cases h
  refine ⟨_, rfl, True.intro, ?_⟩
  unfold fIdx lstAt
  dsimp only
  rw [hS]
  dsimp only
  rw [if_pos (by rw [D.pub_of hy c.1, D.pubs_of hd c.2]; rfl), ej]
def wLtA : W → W → Option W
  | .p (.str a), .p (.str b) => some (.p (.bl (ltS a b)))
  | x, y => wLt x y
theorem op_ltA' : OpP fLtA wLtA := fun β S x y w1 w2 p1 p2 w h1 h2 e => by
  unfold wLtA at e
  split at e
  · cases e
    obtain ⟨rfl, n1, _⟩ := h1.pd
    obtain ⟨rfl, n2, _⟩ := h2.pd
    exact ⟨_, rfl, trivial, rfl⟩
  · rename_i hno
    obtain ⟨d, h3, h4, h5⟩ := op_lt' β S x y w1 w2 p1 p2 w h1 h2 e
    refine ⟨d, h3, h4, ?_⟩
    unfold fLtA
    split
    · rename_i a b
      unfold fLt fI at h5
      cases h5
    · exact h5
def uRev (a : UE) : UE := fun ε τ => match a ε τ with
  | some (.l ds, τ1) => some (.l ds.reverse, τ1)
  | _ => none
theorem se_rev {us : List Nat} {a : XE} {ua : UE} (ha : SE us a ua) : SE [] (xRev a) (uRev ua) := fun β S e ε fp τ w τ' s h => by
  unfold uRev at h
  split at h
  rotate_left
  · cases h
  rename_i ds τ1 e1
  cases h
  obtain ⟨d, S1, fo, a1, a2, a3, a4, a5⟩ := ha β S e ε fp τ _ _ s e1
  cases a4 with
  | l q1 q2 q3 =>
    rename_i n
    refine ⟨.loc S1.length, S1 ++ [.lst ds.reverse], [S1.length], ?_, a2.trans .more, a3.more, .l (by simp) (D.nps_iff.mpr fun x hx => D.nps_iff.mp q2 x (List.mem_reverse.mp hx)) (by rw [List.length_reverse]; exact q3), by simp, fun k hk => by
      rw [List.mem_singleton] at hk
      subst hk
      exact ⟨a3.off (Nat.le_refl _), .inl a2.1⟩⟩
    unfold xRev lstAt
    rw [a1]
    dsimp only
    rw [q1]
end Mini
end
section
namespace Mini
open PySem L2
def uZip (a b : UE) : UW := fun ε τ => match a ε τ with
  | some (.p (.tup ds), τ1) => match b ε τ1 with
    | some (.p (.tup es), τ2) => some (zipD ds es, τ2)
    | _ => none
  | _ => none
theorem zipD_nps : ∀ {xs ys : List D}, D.nps xs → D.nps ys → D.nps (zipD xs ys)
  | [], _, _, _ => by unfold zipD; trivial
  | _ :: _, [], _, _ => by unfold zipD; trivial
  | x :: xs, y :: ys, h1, h2 => ⟨⟨by simp, h1.1, h2.1, trivial⟩, zipD_nps h1.2 h2.2⟩
theorem sw_zip {us vs : List Nat} {m n : XE} {u v : UE} (h : SE us m u) (g : SE vs n v) : SW [] (wZip m n) (uZip u v) := fun β S e ε fp τ ds τ' s h9 => by
  unfold uZip at h9
  split at h9
  rotate_left
  · cases h9
  rename_i ds1 τ1 e1
  split at h9
  rotate_left
  · cases h9
  rename_i es τ2 e2
  cases h9
  obtain ⟨d, S1, fo, a1, a2, a3, a4, a5⟩ := h β S e ε fp τ _ _ s e1
  obtain ⟨rfl, n1, _⟩ := a4.pd
  obtain ⟨d2, S2, fo2, b1, b2, b3, b4, b5⟩ := g β S1 e ε fp τ1 _ _ (s.kn a2 a3) e2
  obtain ⟨rfl, n2, _⟩ := b4.pd
  refine ⟨.fix (zipD ds1 es), S2, by unfold wZip; rw [a1]; dsimp only; rw [b1], a2.trans b2, b3, zipD_nps n1.2 n2.2, ?_, .inl rfl⟩
  rw [zipD_len]
  exact Nat.le_trans (Nat.min_le_left _ _) n1.1
end Mini
end
section
namespace Mini
open PySem L2
abbrev UX := VEnv → Tape → Option (D × VEnv × Tape)
section
variable {us br kp : List Nat}
end
end Mini
end
section
namespace Mini
open PySem L2
structure VCl where
  w : UW
  vs : List Nat
  g : VG
  c : UB
def uNL (k : Bool) (one : D → VEnv → Tape → Option (Bool × Tape)) : List D → VEnv → Tape → Option (Bool × Tape)
  | [], _, τ => some (k, τ)
  | d :: ds, ε, τ => match one d ε τ with
    | none => none
    | some (b, τ1) => if b = k then uNL k one ds ε τ1 else some (!k, τ1)
def uNOne (k : Bool) (g : VG) (c : UB) (inn : VEnv → Tape → Option (Bool × Tape)) (d : D) (ε : VEnv) (τ : Tape) : Option (Bool × Tape) := match g d ε with
  | none => none
  | some ε1 => match c ε1 τ with
    | none => none
    | some (false, τ1) => some (k, τ1)
    | some (true, τ1) => inn ε1 τ1
def uNIn (k : Bool) (a : UE) : List VCl → VEnv → Tape → Option (Bool × Tape)
  | [], ε, τ => match a ε τ with
    | some (.p (.bl q), τ1) => some (q, τ1)
    | _ => none
  | x :: xs, ε, τ => match x.w ε τ with
    | none => none
    | some (ds, τ1) => uNL k (uNOne k x.g x.c (uNIn k a xs)) ds (wipeV ε x.vs) τ1
def uBoolN (k : Bool) (a : UE) (xs : List VCl) : UE := fun ε τ => match uNIn k a xs ε τ with
  | none => none
  | some (b, τ1) => some (.p (.bl b), τ1)
section
inductive VCx : List XCl → List VCl → Prop
  | nil : VCx [] []
  | cons {us : List Nat} {x : XCl} {v : VCl} {xs : List XCl} {vs : List VCl} : SW us x.w v.w → x.vs = v.vs → SC x.g v.g → SB x.c v.c → VCx xs vs → VCx (x :: xs) (v :: vs)
def outB (k b : Bool) : Bool := !decide (b = k)
theorem outB_t {k b : Bool} (h : b = k) : outB k b = false := by subst h; unfold outB; simp
theorem outB_f {k b : Bool} (h : ¬ b = k) : outB k b = true := by unfold outB; simp [h]
def OneSim (k : Bool) (one : EnvD → D → Unit → Sto → NR Unit) (uone : D → VEnv → Tape → Option (Bool × Tape)) : Prop := ∀ (β : Bxs) (S : Sto) (e : EnvD) (ε : VEnv) (fp : Nat → List Nat) (τ τ1 : Tape) (d : D) (b : Bool), d.np → Sit β S e ε fp τ → uone d ε τ = some (b, τ1) →
  ∃ ts S1, one e d () S = some (outB k b, ts, (), S1) ∧ Kn β S S1 ∧ Bx β S1 τ1
theorem nL_sim {k : Bool} {one : EnvD → D → Unit → Sto → NR Unit} {uone : D → VEnv → Tape → Option (Bool × Tape)} (ho : OneSim k one uone) {β : Bxs} {e : EnvD} {ε : VEnv} {fp : Nat → List Nat} : ∀ (ds : List D) (S : Sto) (τ τ1 : Tape) (b : Bool), D.nps ds → Sit β S e ε fp τ → uNL k uone ds ε τ = some (b, τ1) →
    ∃ ts S1, nL (one e) ds () S = some (outB k b, ts, (), S1) ∧ Kn β S S1 ∧ Bx β S1 τ1
  | [], S, τ, τ1, b, _, s, h => by
    cases h
    exact ⟨[], S, by rw [outB_t rfl]; rfl, .refl, s.bx⟩
  | d :: ds, S, τ, τ1, b, hd, s, h => by
    unfold uNL at h
    split at h
    · cases h
    rename_i b' τ2 e1
    obtain ⟨ts, S1, a1, a2, a3⟩ := ho β S e ε fp τ τ2 d b' hd.1 s e1
    split at h
    · rename_i z
      rw [outB_t z] at a1
      obtain ⟨us, S2, b1, b2, b3⟩ := nL_sim ho ds S1 τ2 τ1 b hd.2 (s.kn a2 a3) h
      exact ⟨ts ++ us, S2, by unfold nL; rw [a1]; dsimp only; rw [b1], a2.trans b2, b3⟩
    · rename_i z
      cases h
      rw [outB_f z] at a1
      exact ⟨ts, S1, by unfold nL; rw [a1]; dsimp only; rw [outB_f (by cases k <;> simp)], a2, a3⟩
theorem nV_sim {k : Bool} {m : Nat} {all : List D} {one : EnvD → D → Unit → Sto → NR Unit} {uone : D → VEnv → Tape → Option (Bool × Tape)} (ho : OneSim k one uone) {β : Bxs} {e : EnvD} {ε : VEnv} {fp : Nat → List Nat} (om : Off β m) : ∀ (ds : List D) (t i : Nat) (S : Sto) (τ τ1 : Tape) (b : Bool), all.drop i = ds → ds.length < t → S[m]? = some (.lst all) → D.nps ds → Sit β S e ε fp τ → uNL k uone ds ε τ = some (b, τ1) →
    ∃ ts S1, nV (one e) m t i () S = some (outB k b, ts, (), S1) ∧ Kn β S S1 ∧ Bx β S1 τ1
  | ds, 0, i, S, τ, τ1, b, _, hl, _, _, _, _ => absurd hl (Nat.not_lt_zero _)
  | [], t + 1, i, S, τ, τ1, b, hdr, _, hS, _, s, h => by
    cases h
    refine ⟨[], S, ?_, .refl, s.bx⟩
    rw [outB_t rfl]
    unfold nV lstAt
    rw [hS]
    dsimp only
    rw [List.getElem?_eq_none_iff.mpr (List.drop_eq_nil_iff.mp hdr)]
  | d :: ds, t + 1, i, S, τ, τ1, b, hdr, ht, hS, hd, s, h => by
    have hi : all[i]? = some d := by
      have := congrArg (fun l => l[0]?) hdr
      simpa using this
    have hdr' : all.drop (i + 1) = ds := by
      rw [← List.drop_drop, hdr]
      rfl
    unfold uNL at h
    split at h
    · cases h
    rename_i b' τ2 e1
    obtain ⟨ts, S1, a1, a2, a3⟩ := ho β S e ε fp τ τ2 d b' hd.1 s e1
    split at h
    · rename_i z
      rw [outB_t z] at a1
      obtain ⟨us, S2, b1, b2, b3⟩ := nV_sim ho om ds t (i + 1) S1 τ2 τ1 b hdr' (Nat.lt_of_succ_lt_succ ht) (a2.get om hS) hd.2 (s.kn a2 a3) h
      refine ⟨ts ++ us, S2, ?_, a2.trans b2, b3⟩
      unfold nV lstAt
      rw [hS]
      dsimp only
      rw [hi]
      dsimp only
      rw [a1]
      dsimp only
      rw [b1]
    · rename_i z
      cases h
      rw [outB_f z] at a1
      refine ⟨ts, S1, ?_, a2, a3⟩
      unfold nV lstAt
      rw [hS]
      dsimp only
      rw [hi]
      dsimp only
      rw [a1]
      dsimp only
      rw [outB_f (by cases k <;> simp)]
theorem one_sim {k : Bool} {g : XG} {vg : VG} {c : XB} {uc : UB} {inn : EnvD → Unit → Sto → NR Unit} {uinn : VEnv → Tape → Option (Bool × Tape)} (hg : SC g vg) (hc : SB c uc)
    (hi : ∀ (β : Bxs) (S : Sto) (e : EnvD) (ε : VEnv) (fp : Nat → List Nat) (τ τ1 : Tape) (b : Bool), Sit β S e ε fp τ → uinn ε τ = some (b, τ1) → ∃ ts S1, inn e () S = some (outB k b, ts, (), S1) ∧ Kn β S S1 ∧ Bx β S1 τ1) :
    OneSim k (nOne g c inn) (uNOne k vg uc uinn) := by
  intro β S e ε fp τ τ1 d b hd s h
  unfold uNOne at h
  split at h
  · cases h
  rename_i ε1 eg
  obtain ⟨e1, f1, g1, g2, g3⟩ := hg β S e ε fp τ d ε1 hd s eg
  split at h
  · cases h
  · rename_i τ2 ec
    cases h
    obtain ⟨S1, c1, c2, c3⟩ := hc β S e1 ε1 f1 τ _ _ g2 ec
    exact ⟨[], S1, by unfold nOne; rw [g1]; dsimp only; rw [c1, outB_t rfl], c2, c3⟩
  · rename_i τ2 ec
    obtain ⟨S1, c1, c2, c3⟩ := hc β S e1 ε1 f1 τ _ _ g2 ec
    obtain ⟨ts, S2, a1, a2, a3⟩ := hi β S1 e1 ε1 f1 τ2 τ1 b (g2.kn c2 c3) h
    exact ⟨ts, S2, by unfold nOne; rw [g1]; dsimp only; rw [c1]; exact a1, c2.trans a2, a3⟩
theorem in_sim {k : Bool} {us2 : List Nat} {a : XE} {ua : UE} (ha : SE us2 a ua) : ∀ {xs : List XCl} {vs : List VCl}, VCx xs vs → ∀ (β : Bxs) (S : Sto) (e : EnvD) (ε : VEnv) (fp : Nat → List Nat) (τ τ1 : Tape) (b : Bool), Sit β S e ε fp τ → uNIn k ua vs ε τ = some (b, τ1) →
    ∃ ts S1, nIn (actB k) a xs e () S = some (outB k b, ts, (), S1) ∧ Kn β S S1 ∧ Bx β S1 τ1
  | _, _, .nil => by
    intro β S e ε fp τ τ1 b s h
    unfold uNIn at h
    split at h
    · rename_i q τ2 ea
      cases h
      obtain ⟨d2, S2, fo, a1, a2, a3, a4, a5⟩ := ha β S e ε fp τ _ _ s ea
      cases a4.bl
      exact ⟨[()], S2, by unfold nIn; rw [a1]; rfl, a2, a3⟩
    · cases h
  | _, _, .cons hw hv hg hc hr => by
    intro β S e ε fp τ τ1 b s h
    unfold uNIn at h
    split at h
    · cases h
    rename_i ds τ2 ew
    have ho := one_sim (k := k) hg hc (fun β S e ε fp τ τ1 b s h => in_sim (k := k) ha hr β S e ε fp τ τ1 b s h)
    obtain ⟨wk, S1, a1, a2, a3, a4, a5, a6⟩ := hw β S e ε fp τ ds τ2 s ew
    rcases a6 with rfl | ⟨m, rfl, hS, fr⟩
    · obtain ⟨ts, S2, b1, b2, b3⟩ := nL_sim ho ds S1 τ2 τ1 b a4 ((s.kn a2 a3).wipe _) h
      exact ⟨ts, S2, by unfold nIn; rw [a1]; unfold nW; dsimp only; rw [hv]; exact b1, a2.trans b2, b3⟩
    · obtain ⟨ts, S2, b1, b2, b3⟩ := nV_sim ho (fr.2 m (by simp)).1 ds turns 0 S1 τ2 τ1 b rfl (turns_big a5) hS a4 ((s.kn a2 a3).wipe _) h
      exact ⟨ts, S2, by unfold nIn; rw [a1]; unfold nW; dsimp only; rw [hv]; exact b1, a2.trans b2, b3⟩
theorem se_boolN {k : Bool} {us2 : List Nat} {a : XE} {ua : UE} {xs : List XCl} {vs : List VCl} (ha : SE us2 a ua) (hx : VCx xs vs) : SE [] (xBoolN k a xs) (uBoolN k ua vs) := fun β S e ε fp τ w' τ' s h => by
  unfold uBoolN at h
  split at h
  · cases h
  rename_i b τ1 e1
  cases h
  obtain ⟨ts, S1, a1, a2, a3⟩ := in_sim ha hx β S e ε fp τ _ b s e1
  refine ⟨.bl b, S1, [], ?_, a2, a3, .p trivial, .nil⟩
  unfold xBoolN
  rw [a1]
  dsimp only
  by_cases z : b = k
  · subst z; rw [outB_t rfl]; rfl
  · rw [outB_f z]
    have : b = !k := by cases b <;> cases k <;> simp_all
    subst this; rfl
section
variable {T : Type} {us : List Nat} {β : Bxs} {stp : T → D → Option T} {slot : T → List D} {act : NA T} {n : Nat}
structure Sl (β : Bxs) (n : Nat) (S S1 : Sto) (e : EnvD) (ε : VEnv) (fp : Nat → List Nat) (τ1 : Tape) (q : List D) : Prop where
  sit : Sit β S1 e ε fp τ1
  le : S.length ≤ S1.length
  fr : ∀ i, i < S.length → i ≠ n → (∀ b l, β = some (b, l) → i ≠ b) → S1[i]? = S[i]?
  at_ : S1[n]? = some (.lst q)
theorem Sl.trans {S S1 S2 : Sto} {e : EnvD} {ε : VEnv} {fp : Nat → List Nat} {τ1 τ2 : Tape} {q r : List D} (a : Sl β n S S1 e ε fp τ1 q) (b : Sl β n S1 S2 e ε fp τ2 r) : Sl β n S S2 e ε fp τ2 r :=
  ⟨b.sit, Nat.le_trans a.le b.le, fun i h1 h2 h3 => (b.fr i (Nat.lt_of_lt_of_le h1 a.le) h2 h3).trans (a.fr i h1 h2 h3), b.at_⟩
theorem Sl.put {S S2 : Sto} {e : EnvD} {ε : VEnv} {fp : Nat → List Nat} {τ1 : Tape} {q r : List D} (kn : Kn β S S2) (s : Sit β S2 e ε fp τ1) (of : Off β n) (hf : ∀ j, n ∉ fp j) (hn : S2[n]? = some (.lst q)) : Sl β n S (S2.set n (.lst r)) e ε fp τ1 r := by
  refine ⟨⟨s.len, fun i w hi => ?_, s.off, s.nd, ?_⟩, by rw [List.length_set]; exact kn.1, fun i h1 h2 h3 => (List.getElem?_set_ne (Ne.symm h2)).trans (kn.2 i h1 h3), by rw [List.getElem?_set_self (List.getElem?_eq_some_iff.mp hn).1]⟩
  · obtain ⟨dd, q1, q2⟩ := s.at_ i w hi
    exact ⟨dd, q1, q2.fr fun k hk => set_off hk (hf i)⟩
  · have a3 := s.bx
    cases β with
    | none => exact a3
    | some q =>
      obtain ⟨b, l⟩ := q
      obtain ⟨ms, cc, h1, h2, h3, h4⟩ := a3
      obtain ⟨o1, o2⟩ := of b l rfl
      exact ⟨ms, cc, by rw [List.getElem?_set_ne o1]; exact h1, h2, by rw [List.getElem?_set_ne o2]; exact h3, h4⟩
theorem Sl.kn {S S1 : Sto} {e : EnvD} {ε : VEnv} {fp : Nat → List Nat} {τ1 : Tape} {q : List D} (kn : Kn β S S1) (s : Sit β S1 e ε fp τ1) (hn : S1[n]? = some (.lst q)) : Sl β n S S1 e ε fp τ1 q := ⟨s, kn.1, fun i h1 _ h3 => kn.2 i h1 h3, hn⟩
end
end
section
end
end Mini
end
section
namespace Mini
open PySem L2
section
inductive PPv : List (XE × XE) → List (UE × UE) → Prop
  | nil : PPv [] []
  | cons {us vs : List Nat} {a b : XE} {ua ub : UE} {r : List (XE × XE)} {ur : List (UE × UE)} : SE us a ua → SE vs b ub → PPv r ur → PPv ((a, b) :: r) ((ua, ub) :: ur)
end
end Mini
end
section
namespace Mini
open PySem L2
def wGtA : W → W → Option W
  | .p (.tup a), .p (.tup b) => if (D.dok 100 (.tup a) && D.dok 100 (.tup b) && alikeD (.tup a) (.tup b)) = true then some (.p (.bl (ltD (.tup b) (.tup a)))) else none
  | x, y => wGt x y
theorem op_gtA' : OpP fGtA wGtA := fun β S x y w1 w2 p1 p2 w h1 h2 e => by
  unfold wGtA at e
  split at e
  · split at e
    · rename_i c
      cases e
      simp only [Bool.and_eq_true] at c
      obtain ⟨rfl, n1, _⟩ := h1.pd
      obtain ⟨rfl, n2, _⟩ := h2.pd
      refine ⟨_, rfl, trivial, ?_⟩
      unfold fGtA
      dsimp only
      rw [D.pub_of n1 c.1.1, D.pub_of n2 c.1.2, c.2]
      rfl
    · cases e
  · rename_i hno
    obtain ⟨d, h3, h4, h5⟩ := op_gt' β S x y w1 w2 p1 p2 w h1 h2 e
    refine ⟨d, h3, h4, ?_⟩
    unfold fGtA
    split
    · rename_i a b
      unfold fGt fI at h5
      cases h5
    · exact h5
end Mini
end
section
namespace Mini
open PySem L2
def asM : List W → Option (List D × List D × List D)
  | .p d :: r => match asM r with
    | some (a, l, b) => some (d :: a, l, b)
    | none => none
  | .l l :: r => match asP r with
    | some b => some ([], l, b)
    | none => none
  | _ => none
theorem asM_of {β : Bxs} {S : Sto} : ∀ {ds : List D} {ws : List W} {fs : List (List Nat)} {a l b : List D}, Vws β S ds ws fs → asM ws = some (a, l, b) → ∃ k, ds = a ++ .loc k :: b ∧ D.nps a ∧ D.nps b ∧ S[k]? = some (.lst l) ∧ D.nps l ∧ l.length ≤ 1000000 ∧ [k] ∈ fs
  | _, _, _, _, _, _, .nil, e => by cases e
  | _, .p d :: r, _, _, _, _, .cons h q, e => by
    unfold asM at e
    split at e
    · rename_i a l b er
      cases e
      obtain ⟨k, rfl, h1, h2, h3, h4, h5, h6⟩ := asM_of q er
      obtain ⟨rfl, n1, rfl⟩ := h.pd
      exact ⟨k, rfl, ⟨n1, h1⟩, h2, h3, h4, h5, List.mem_cons_of_mem _ h6⟩
    · cases e
  | _, .l x :: r, _, _, _, _, .cons h q, e => by
    unfold asM at e
    split at e
    · rename_i b er
      cases e
      obtain ⟨rfl, n2⟩ := asP_of q er
      cases h with
      | l a1 a2 a3 => exact ⟨_, rfl, trivial, n2, a1, a2, a3, List.mem_cons_self⟩
    · cases e
  | _, .n _ :: _, _, _, _, _, _, e => by cases e
  | _, .bx :: _, _, _, _, _, _, e => by cases e
  | _, .dk _ :: _, _, _, _, _, _, e => by cases e
  | _, .m _ _ _ :: _, _, _, _, _, _, e => by cases e
def wTupM (ws : List W) : Option W := match asM ws with
  | some (a, l, b) => if a.length + (b.length + 1) ≤ 100000 then some (.m a l b) else none
  | none => none
theorem av_tupM : AllV true mkTup wTupM := fun β S ds ws fs w v e => by
  unfold wTupM at e
  split at e
  · rename_i a l b em
    split at e
    · rename_i c
      cases e
      obtain ⟨k, rfl, h1, h2, h3, h4, h5, h6⟩ := asM_of v em
      exact ⟨_, [], [k], by unfold mkTup; rw [List.append_nil, if_pos (by rw [List.length_append, List.length_cons]; exact c)], by rw [List.append_nil]; exact .m rfl h1 h2 h3 h4 h5, by simp, fun j hj => .inr ⟨rfl, _, h6, hj⟩⟩
    · cases e
  · cases e
def oneM : List W → Bool
  | [] => true
  | .p _ :: r => oneM r
  | .l _ :: r => (asP r).isSome
  | .m _ _ _ :: r => (asP r).isSome
  | _ => false
theorem asP_flat {β : Bxs} {S : Sto} : ∀ {ds : List D} {ws : List W} {fs : List (List Nat)}, Vws β S ds ws fs → (asP ws).isSome = true → fs.flatten = []
  | _, _, _, .nil, _ => rfl
  | _, .p d :: r, _, .cons h q, e => by
    unfold asP at e
    obtain ⟨_, _, rfl⟩ := h.pd
    cases er : asP r with
    | none => rw [er] at e; cases e
    | some b => rw [List.flatten_cons, asP_flat q (by rw [er]; rfl)]; rfl
  | _, .l _ :: _, _, _, e => by cases e
  | _, .n _ :: _, _, _, e => by cases e
  | _, .bx :: _, _, _, e => by cases e
  | _, .dk _ :: _, _, _, e => by cases e
  | _, .m _ _ _ :: _, _, _, e => by cases e
theorem oneM_flat {β : Bxs} {S : Sto} : ∀ {ds : List D} {ws : List W} {fs : List (List Nat)}, Vws β S ds ws fs → oneM ws = true → fs.flatten.Nodup
  | _, _, _, .nil, _ => .nil
  | _, .p d :: r, _, .cons h q, e => by
    obtain ⟨_, _, rfl⟩ := h.pd
    rw [List.flatten_cons]
    exact oneM_flat q e
  | _, .l _ :: r, _, .cons h q, e => by
    rw [List.flatten_cons, asP_flat q e]
    cases h with
    | l _ _ _ => simp
  | _, .m _ _ _ :: r, _, .cons h q, e => by
    rw [List.flatten_cons, asP_flat q e]
    cases h with
    | m _ _ _ _ _ _ => simp
  | _, .n _ :: _, _, _, e => by cases e
  | _, .bx :: _, _, _, e => by cases e
  | _, .dk _ :: _, _, _, e => by cases e
def wLstM (ws : List W) : Option W := if (oneM ws && decide (ws.length ≤ 100000)) = true then some (.n ws) else none
theorem av_lstM : AllV true mkLst wLstM := fun β S ds ws fs w v e => by
  unfold wLstM at e
  split at e
  · rename_i c
    cases e
    rw [Bool.and_eq_true, decide_eq_true_eq] at c
    have lt : ∀ k ∈ fs.flatten, k < S.length := fun k hk => by
      obtain ⟨f, hf, hk⟩ := List.mem_flatten.mp hk
      exact v.lt f hf k hk
    have v2 : Vws β (S ++ [.lst ds]) ds ws fs := Vws.fr (fun f hf k hk => List.getElem?_append_left (v.lt f hf k hk)) v
    refine ⟨.loc S.length, [.lst ds], S.length :: fs.flatten, by unfold mkLst; rw [if_pos (by rw [v.len.1]; exact c.2)], .n (by simp) v2 (by rw [v.len.1]; omega), List.nodup_cons.mpr ⟨fun h => by have := lt _ h; omega, oneM_flat v c.1⟩, fun k hk => ?_⟩
    rcases List.mem_cons.mp hk with rfl | hk
    · exact .inl (Nat.le_refl _)
    · obtain ⟨f, hf, hk⟩ := List.mem_flatten.mp hk
      exact .inr ⟨rfl, f, hf, hk⟩
  · cases e
def uPl (a : UE) : UE := fun ε τ => match a ε τ with
  | some (.p d, τ1) => some (.p d, τ1)
  | _ => none
section
variable {us vs : List Nat} {a b : XE} {ua ub : UE} {l : XL} {ul : UL}
theorem se_pl (h : SE us a ua) : SE vs a (uPl ua) := fun β S e ε fp τ w τ' s h9 => by
  unfold uPl at h9
  split at h9
  · rename_i d τ1 e1
    cases h9
    obtain ⟨d', S1, fo, a1, a2, a3, a4, a5⟩ := h β S e ε fp τ _ _ s e1
    obtain ⟨rfl, n, rfl⟩ := a4.pd
    exact ⟨_, S1, [], a1, a2, a3, .p n, .nil⟩
  · cases h9
theorem se_allM {f : List D → Sto → Option (D × Sto)} {g : List W → Option W} (o : AllV true f g) (hl : SL [] l ul) : SE [] (xAll f l) (uAll g ul) := se_all o hl
def uPlusM (a b : UE) : UE := fun ε τ => match a ε τ with
  | some (.l xs, τ1) => match b ε τ1 with
    | some (.n ws, τ2) => if xs.length + ws.length ≤ 1000000 then some (.n (xs.map .p ++ ws), τ2) else none
    | _ => none
  | _ => none
theorem se_plusM (ha : SE us a ua) (hb : SE [] b ub) : SE [] (xOp fPlus a b) (uPlusM ua ub) := fun β S e ε fp τ w τ' s h => by
  unfold uPlusM at h
  split at h
  rotate_left
  · cases h
  rename_i xs τ1 e1
  split at h
  rotate_left
  · cases h
  rename_i ws τ2 e2
  split at h
  rotate_left
  · cases h
  rename_i c
  cases h
  obtain ⟨d1, S1, f1, a1, a2, a3, a4, a5⟩ := ha β S e ε fp τ _ _ s e1
  obtain ⟨d2, S2, f2, b1, b2, b3, b4, b5⟩ := hb β S1 e ε fp τ1 _ _ (s.kn a2 a3) e2
  have a6 := a4.kn b2 fun k hk => (a5.2 k hk).1
  cases a6 with
  | l p1 p2 p3 =>
    cases b4 with
    | n q1 q2 q3 =>
      rename_i k1 k2 es fs
      have ln : es.length = ws.length := q2.len.1
      have nd := (List.nodup_cons.mp b5.1).2
      have lt : ∀ k ∈ fs.flatten, k < S2.length := fun k hk => by
        obtain ⟨f, hf, hk⟩ := List.mem_flatten.mp hk
        exact q2.lt f hf k hk
      have v2 : Vws β (S2 ++ [.lst (xs ++ es)]) (xs ++ es) (xs.map .p ++ ws) (xs.map (fun _ => []) ++ fs) := Vws.fr (fun f hf k hk => List.getElem?_append_left (by
        rcases List.mem_append.mp hf with z | z
        · obtain ⟨_, _, rfl⟩ := List.mem_map.mp z; cases hk
        · exact q2.lt f z k hk)) (Vws.app (Vws.pure p2) q2)
      have v3 := Vw.n (k := S2.length) (S := S2 ++ [.lst (xs ++ es)]) (by simp) v2 (by rw [List.length_append, ln]; exact c)
      rw [List.flatten_append, flat_nil, List.nil_append] at v3
      refine ⟨.loc S2.length, S2 ++ [.lst (xs ++ es)], S2.length :: fs.flatten, ?_, (a2.trans b2).trans .more, b3.more, v3, List.nodup_cons.mpr ⟨fun h => by have := lt _ h; omega, nd⟩, fun k hk => ?_⟩
      · unfold xOp
        rw [a1]; dsimp only; rw [b1]; dsimp only
        unfold fPlus
        dsimp only
        rw [p1, q1]
        dsimp only
        rw [if_pos (by rw [ln]; exact c)]
      · rcases List.mem_cons.mp hk with rfl | hk
        · exact ⟨b3.off (Nat.le_refl _), .inl (Nat.le_trans a2.1 b2.1)⟩
        · obtain ⟨h1, h2⟩ := b5.2 k (List.mem_cons_of_mem _ hk)
          refine ⟨h1, .inl ?_⟩
          rcases h2 with z | ⟨i, hi, _⟩
          · exact Nat.le_trans a2.1 z
          · cases hi
end
section
variable {br kp : List Nat} {fh : Bool} {A : Nat → Prop} {β : Bxs} {n0 : Nat} {S : Sto} {e : EnvD} {ε : VEnv} {fp : Nat → List Nat} {τ : Tape}
end
end Mini
end
section
namespace Mini
open PySem L2
def uLenSetBo (a : UE) : UE := fun ε τ => match a ε τ with
  | some (.l ds, τ1) => match asBls ds with
    | some bs => if bs.length < 4000 then some (.p (.int (nBls bs)), τ1) else none
    | none => none
  | _ => none
theorem se_lenSetBo {us : List Nat} {a : XE} {ua : UE} (ha : SE us a ua) : SE [] (xLenSetBo a) (uLenSetBo ua) := fun β S e ε fp τ w τ' s h => by
  unfold uLenSetBo at h
  split at h
  rotate_left
  · cases h
  rename_i ds τ1 e1
  split at h
  rotate_left
  · cases h
  rename_i bs e2
  split at h
  rotate_left
  · cases h
  rename_i c
  cases h
  obtain ⟨d, S1, fo, a1, a2, a3, a4, a5⟩ := ha β S e ε fp τ _ _ s e1
  cases a4 with
  | l q1 q2 q3 =>
    refine ⟨.int (nBls bs), S1, [], ?_, a2, a3, .p True.intro, .nil, fun k hk => by simp at hk⟩
    unfold xLenSetBo
    rw [a1]
    dsimp only
    rw [show lstAt S1 _ = some ds from by unfold lstAt; rw [q1]]
    dsimp only
    rw [e2]
    dsimp only
    rw [if_pos c]
end Mini
end
section
namespace Mini
open PySem L2
section
variable {ε ε1 : VEnv} {τ τ1 τ2 τ3 : Tape} {a b c : UE} {p q : UB} {s t : US} {l : UL} {x y z w : W} {d d1 : D} {k : Bool} {g : VG} {ws : List W} {n i : Nat} {r : Option (W × Tape)} {rb : Option (Bool × Tape)} {rs : Option URes}
theorem u_c : uC d ε τ = some (.p d, τ) := rfl
theorem u_nil : uNil ε τ = some ([], τ) := rfl
theorem u_cons (h1 : a ε τ = some (x, τ1)) (h2 : l ε τ1 = some (ws, τ2)) : uCons a l ε τ = some (x :: ws, τ2) := by unfold uCons; rw [h1]; dsimp only; rw [h2]
theorem u_op {f} (h1 : a ε τ = some (x, τ1)) (h2 : b ε τ1 = some (y, τ2)) (h3 : f x y = some z) : uOp f a b ε τ = some (z, τ2) := by unfold uOp; rw [h1]; dsimp only; rw [h2]; dsimp only; rw [h3]
theorem u_un {f} (h1 : a ε τ = some (x, τ1)) (h3 : f x = some z) : uUn f a ε τ = some (z, τ1) := by unfold uUn; rw [h1]; dsimp only; rw [h3]
theorem u_all {f} (h1 : l ε τ = some (ws, τ1)) (h3 : f ws = some z) : uAll f l ε τ = some (z, τ1) := by unfold uAll; rw [h1]; dsimp only; rw [h3]
theorem u_call {n F} (h1 : l ε τ = some (ws, τ1)) (h2 : ws.length = n) (h3 : F ws τ1 = r) : uCall n F l ε τ = r := by unfold uCall; rw [h1]; dsimp only; rw [if_pos h2]; exact h3
theorem u_callP {n F} (h1 : l ε τ = some (ws, τ1)) (h2 : (decide (ws.length = n) && W.nobxs ws) = true) (h3 : F ws none = some (w, none)) : uCallP n F l ε τ = some (w, τ1) := by unfold uCallP; rw [h1]; dsimp only; rw [if_pos h2, h3]
theorem u_not (h : a ε τ = some (x, τ1)) (h2 : truthW x = some k) : uNot a ε τ = some (.p (.bl (!k)), τ1) := by unfold uNot; rw [h]; dsimp only; rw [h2]
theorem u_isi {T ty} (h : a ε τ = some (x, τ1)) (h2 : tyW x = some ty) : uIsi T a ε τ = some (.p (.bl (isTy ty T)), τ1) := by unfold uIsi; rw [h]; dsimp only; rw [h2]
theorem c_tru (h : a ε τ = some (x, τ1)) (h2 : truthW x = some k) : cTru a ε τ = some (k, τ1) := by unfold cTru; rw [h]; dsimp only; rw [h2]
theorem c_val (h : a ε τ = some (.p (.bl k), τ1)) : cVal a ε τ = some (k, τ1) := by unfold cVal; rw [h]
theorem c_not (h : p ε τ = some (k, τ1)) : cNot p ε τ = some (!k, τ1) := by unfold cNot; rw [h]
theorem t_seq (h : s ε τ = some (.nx ε1 τ1)) (h2 : t ε1 τ1 = rs) : tSeq s t ε τ = rs := by unfold tSeq; rw [h]; exact h2
theorem t_seqr (h : s ε τ = some (.rt w τ1)) : tSeq s t ε τ = some (.rt w τ1) := by unfold tSeq; rw [h]
theorem t_ret (h : a ε τ = some (w, τ1)) : tRet a ε τ = some (.rt w τ1) := by unfold tRet; rw [h]
theorem t_if (h : p ε τ = some (k, τ1)) (h2 : (if k = true then s ε τ1 else t ε τ1) = rs) : tIf p s t ε τ = rs := by unfold tIf; rw [h]; cases k <;> exact h2
theorem t_ifs {u : US} (h : p ε τ = some (k, τ1)) (h2 : (if k = true then tSeq s u ε τ1 else tSeq t u ε τ1) = rs) : tSeq (tIf p s t) u ε τ = rs := by
  have hh : tIf p s t ε τ = if k = true then s ε τ1 else t ε τ1 := t_if h rfl
  cases k
  · have h2' : tSeq t u ε τ1 = rs := h2
    unfold tSeq at h2' ⊢
    rw [hh]; exact h2'
  · have h2' : tSeq s u ε τ1 = rs := h2
    unfold tSeq at h2' ⊢
    rw [hh]; exact h2'
theorem t_rets {u : US} (h : a ε τ = some (w, τ1)) : tSeq (tRet a) u ε τ = some (.rt w τ1) := t_seqr (t_ret h)
theorem t_seqs {u v : US} (h : tSeq s (tSeq u v) ε τ = rs) : tSeq (tSeq s u) v ε τ = rs := by
  unfold tSeq at h ⊢
  cases q : s ε τ with
  | none => rw [q] at h; exact h
  | some r => cases r <;> (rw [q] at h; exact h)
theorem t_set (h : a ε τ = some (w, τ1)) : tSet i a ε τ = some (.nx (ε.set i (some w)) τ1) := by unfold tSet; rw [h]
theorem t_asg (h : a ε τ = some (.p d, τ1)) (h2 : g d ε = some ε1) : tAsg a g ε τ = some (.nx ε1 τ1) := by unfold tAsg; rw [h]; dsimp only; rw [h2]
theorem t_app (h1 : ε[i]? = some (some x)) (h : a ε τ = some (.p d, τ1)) (h2 : appW x d = some y) : tApp i a ε τ = some (.nx (ε.set i (some y)) τ1) := by unfold tApp; rw [h1]; dsimp only; rw [h]; dsimp only; rw [h2]
theorem t_apps {u : US} (h1 : ε[i]? = some (some x)) (h : a ε τ = some (.p d, τ1)) (h2 : appW x d = some y) (h3 : ε.set i (some y) = ε1) (h4 : u ε1 τ1 = rs) : tSeq (tApp i a) u ε τ = rs := t_seq (t_app h1 h h2) (by rw [h3]; exact h4)
theorem app_l {ds : List D} (h : ds.length < 1000000) : appW (.l ds) d = some (.l (ds ++ [d])) := by unfold appW; dsimp only; rw [if_pos h]
theorem ixN_nat {m n : Nat} (h : m < n) : ixN n (m : Int) = some m := by
  unfold ixN
  rw [if_pos (by omega), if_pos (by omega)]
  simp
theorem t_for {w : UW} {ds : List D} (h : w ε τ = some (ds, τ1)) (h2 : uForL g s ds ε τ1 = rs) : tFor w g s ε τ = rs := by unfold tFor; rw [h]; exact h2
theorem t_fors {u : US} {w : UW} {ds : List D} (h : w ε τ = some (ds, τ1)) (h2 : uForL g s ds ε τ1 = some (.nx ε1 τ2)) (h3 : u ε1 τ2 = rs) : tSeq (tFor w g s) u ε τ = rs := t_seq (t_for h h2) h3
theorem w_any {ds : List D} (h : a ε τ = some (x, τ1)) (h2 : itemsW x = some ds) : uAny a ε τ = some (ds, τ1) := by unfold uAny; rw [h]; dsimp only; rw [h2]
theorem w_rng1 {j : Int} (h : a ε τ = some (.p (.int j), τ1)) (h2 : smallL j = true) : uRng1 a ε τ = some (rngD 0 j, τ1) := by unfold uRng1; rw [h]; dsimp only; rw [if_pos h2]
theorem u_lc {w : UW} {vs : List Nat} {ds ys : List D} (h : w ε τ = some (ds, τ1)) (h2 : uLcL g p a ds (wipeV ε vs) τ1 = some (ys, τ2)) : uLc w vs g p a ε τ = some (.l ys, τ2) := by unfold uLc; rw [h]; dsimp only; rw [h2]
theorem u_q {w : UW} {vs : List Nat} {ds : List D} {kk : Bool} (h : w ε τ = some (ds, τ1)) (h2 : uQL kk g p a ds (wipeV ε vs) τ1 = some (k, τ2)) : uQ kk w vs g p a ε τ = some (.p (.bl k), τ2) := by unfold uQ; rw [h]; dsimp only; rw [h2]
inductive Sel (P : D → Option D → Prop) : List D → List D → Prop
  | nil : Sel P [] []
  | skip {d : D} {ds out : List D} : P d none → Sel P ds out → Sel P (d :: ds) out
  | take {d y : D} {ds out : List D} : P d (some y) → Sel P ds out → Sel P (d :: ds) (y :: out)
theorem Sel.len {P : D → Option D → Prop} {ds out : List D} (h : Sel P ds out) : out.length ≤ ds.length := by
  induction h with
  | nil => exact Nat.le_refl _
  | skip _ _ ih => exact Nat.le_succ_of_le ih
  | take _ _ ih => exact Nat.succ_le_succ ih
theorem Sel.sub {P : D → Option D → Prop} {ds out : List D} (h : Sel P ds out) (hp : ∀ d y, P d (some y) → y = d) : out.Sublist ds := by
  induction h with
  | nil => exact .slnil
  | skip _ _ ih => exact .cons _ ih
  | take p _ ih => rw [hp _ _ p]; exact .cons_cons _ ih
end
end Mini
end
section
namespace Mini
open PySem L2
section
variable {α β γ δ ι : Type}
def eD (d : D) : D := d
def eU (_ : Unit) : D := .non
def eO (e : α → D) : Option α → D
  | none => .non
  | some a => e a
def eT (e : α → D) (l : List α) : D := .tup (l.map e)
def eP1 (e : α → D) (a : α) : D := .tup [e a]
def eP2 (e : α → D) (f : β → D) (p : α × β) : D := .tup [e p.1, f p.2]
def eP3 (e : α → D) (f : β → D) (g : γ → D) (p : α × β × γ) : D := .tup [e p.1, f p.2.1, g p.2.2]
def eP4 (e : α → D) (f : β → D) (g : γ → D) (h : δ → D) (p : α × β × γ × δ) : D := .tup [e p.1, f p.2.1, g p.2.2.1, h p.2.2.2]
def eP5 (e : α → D) (f : β → D) (g : γ → D) (h : δ → D) (i : ι → D) (p : α × β × γ × δ × ι) : D := .tup [e p.1, f p.2.1, g p.2.2.1, h p.2.2.2.1, i p.2.2.2.2]
theorem map_eD : ∀ l : List D, l.map eD = l
  | [] => rfl
  | x :: l => by rw [List.map_cons, map_eD l]; rfl
class Em {α : Type} [DecidableEq α] (e : α → D) where
  k : Nat
  dok : ∀ a n, k ≤ n → D.dok n (e a) = true
  eq : ∀ a b, eqB (e a) (e b) = decide (a = b)
class EmN {α : Type} (e : α → D) : Prop where
  nn : ∀ a, e a ≠ .non
class EmA {α : Type} (e : α → D) : Prop where
  al : ∀ a b, alikeD (e a) (e b) = true
  kd : (∀ a, isTupD (e a) = true) ∨ ∀ a, isAtom (e a) = true
instance : Em D.int := ⟨0, fun a n _ => by cases n <;> rfl, fun a b => rfl⟩
instance : Em D.bl := ⟨0, fun a n _ => by cases n <;> rfl, fun a b => rfl⟩
instance : Em D.str := ⟨0, fun a n _ => by cases n <;> rfl, fun a b => rfl⟩
instance : Em eU := ⟨0, fun a n _ => by cases n <;> rfl, fun a b => rfl⟩
instance : EmN D.int := ⟨fun a => nofun⟩
instance : EmN D.bl := ⟨fun a => nofun⟩
instance : EmN D.str := ⟨fun a => nofun⟩
instance {e : α → D} : EmN (eT e) := ⟨fun a => nofun⟩
instance {e : α → D} : EmN (eP1 e) := ⟨fun a => nofun⟩
instance {e : α → D} {f : β → D} : EmN (eP2 e f) := ⟨fun a => nofun⟩
instance {e : α → D} {f : β → D} {g : γ → D} : EmN (eP3 e f g) := ⟨fun a => nofun⟩
instance {e : α → D} {f : β → D} {g : γ → D} {h : δ → D} : EmN (eP4 e f g h) := ⟨fun a => nofun⟩
theorem eqB_non {d : D} (h : d ≠ .non) : eqB .non d = false ∧ eqB d .non = false := by
  cases d <;> first | exact absurd rfl h | exact ⟨rfl, rfl⟩
instance {e : α → D} [DecidableEq α] [Em e] [EmN e] : Em (eO e) := ⟨Em.k e, fun a n h => by
  cases a with
  | none => cases n <;> rfl
  | some a => exact Em.dok a n h, fun a b => by
  cases a <;> cases b
  · rfl
  · rename_i b; exact ((eqB_non (EmN.nn (e := e) b)).1).trans (by simp)
  · rename_i b; exact ((eqB_non (EmN.nn (e := e) b)).2).trans (by simp)
  · exact (Em.eq (e := e) _ _).trans (by simp)⟩
theorem doks_map {e : α → D} [DecidableEq α] [Em e] {n : Nat} (h : Em.k e ≤ n) : ∀ l : List α, D.doks n (l.map e) = true
  | [] => by unfold D.doks; rfl
  | a :: l => by
    show (D.dok n (e a) && D.doks n (l.map e)) = true
    rw [Em.dok a n h, doks_map h l]; rfl
theorem eqBs_map {e : α → D} [DecidableEq α] [Em e] : ∀ l m : List α, eqBs (l.map e) (m.map e) = decide (l = m)
  | [], [] => rfl
  | [], _ :: _ => rfl
  | _ :: _, [] => rfl
  | a :: l, b :: m => by
    show (eqB (e a) (e b) && eqBs (l.map e) (m.map e)) = _
    rw [Em.eq (e := e), eqBs_map l m, Bool.eq_iff_iff]
    simp
theorem dok_tup {ds : List D} {n k : Nat} (h : k + 1 ≤ n) (hd : ∀ m, k ≤ m → D.doks m ds = true) : D.dok n (.tup ds) = true := by
  cases n with
  | zero => omega
  | succ n => exact hd n (by omega)
instance {e : α → D} [DecidableEq α] [Em e] : Em (eT e) := ⟨Em.k e + 1, fun a n h => dok_tup h fun m hm => doks_map hm a, fun a b => eqBs_map a b⟩
instance {e : α → D} [DecidableEq α] [Em e] : Em (eP1 e) := ⟨Em.k e + 1, fun a n h => dok_tup h fun m hm => by
  show (D.dok m (e a) && true) = true
  rw [Em.dok a m hm]; rfl, fun a b => by
  show (eqB (e a) (e b) && true) = _
  rw [Em.eq (e := e), Bool.and_true]⟩
instance {e : α → D} {f : β → D} [DecidableEq α] [DecidableEq β] [Em e] [Em f] : Em (eP2 e f) := ⟨max (Em.k e) (Em.k f) + 1, fun a n h => dok_tup h fun m hm => by
  show (D.dok m (e a.1) && (D.dok m (f a.2) && true)) = true
  rw [Em.dok a.1 m (by omega), Em.dok a.2 m (by omega)]; rfl, fun a b => by
  show (eqB (e a.1) (e b.1) && (eqB (f a.2) (f b.2) && true)) = _
  rw [Em.eq (e := e), Em.eq (e := f), Bool.and_true, Bool.eq_iff_iff]
  simp [Prod.ext_iff]⟩
instance {e : α → D} {f : β → D} {g : γ → D} [DecidableEq α] [DecidableEq β] [DecidableEq γ] [Em e] [Em f] [Em g] : Em (eP3 e f g) := ⟨max (Em.k e) (max (Em.k f) (Em.k g)) + 1, fun a n h => dok_tup h fun m hm => by
  show (D.dok m (e a.1) && (D.dok m (f a.2.1) && (D.dok m (g a.2.2) && true))) = true
  rw [Em.dok a.1 m (by omega), Em.dok a.2.1 m (by omega), Em.dok a.2.2 m (by omega)]; rfl, fun a b => by
  show (eqB (e a.1) (e b.1) && (eqB (f a.2.1) (f b.2.1) && (eqB (g a.2.2) (g b.2.2) && true))) = _
  rw [Em.eq (e := e), Em.eq (e := f), Em.eq (e := g), Bool.and_true, Bool.eq_iff_iff]
  simp [Prod.ext_iff]⟩
instance {e : α → D} {f : β → D} {g : γ → D} {h : δ → D} [DecidableEq α] [DecidableEq β] [DecidableEq γ] [DecidableEq δ] [Em e] [Em f] [Em g] [Em h] : Em (eP4 e f g h) := ⟨max (Em.k e) (max (Em.k f) (max (Em.k g) (Em.k h))) + 1, fun a n q => dok_tup q fun m hm => by
  show (D.dok m (e a.1) && (D.dok m (f a.2.1) && (D.dok m (g a.2.2.1) && (D.dok m (h a.2.2.2) && true)))) = true
  rw [Em.dok a.1 m (by omega), Em.dok a.2.1 m (by omega), Em.dok a.2.2.1 m (by omega), Em.dok a.2.2.2 m (by omega)]; rfl, fun a b => by
  show (eqB (e a.1) (e b.1) && (eqB (f a.2.1) (f b.2.1) && (eqB (g a.2.2.1) (g b.2.2.1) && (eqB (h a.2.2.2) (h b.2.2.2) && true)))) = _
  rw [Em.eq (e := e), Em.eq (e := f), Em.eq (e := g), Em.eq (e := h), Bool.and_true, Bool.eq_iff_iff]
  simp [Prod.ext_iff]⟩
instance : EmA D.int := ⟨fun a b => rfl, .inr fun a => rfl⟩
instance : EmA D.str := ⟨fun a b => rfl, .inr fun a => rfl⟩
instance : EmA D.bl := ⟨fun a b => rfl, .inr fun a => rfl⟩
theorem al_map {e : α → D} (h : ∀ a b, alikeD (e a) (e b) = true) : ∀ l m : List α, PySem.W.alikeAll (D.pys (l.map e)) (D.pys (m.map e)) = true
  | [], [] => rfl
  | [], _ :: _ => rfl
  | _ :: _, [] => rfl
  | a :: l, b :: m => by
    show (PySem.W.alike (e a).py (e b).py && PySem.W.alikeAll (D.pys (l.map e)) (D.pys (m.map e))) = true
    rw [show PySem.W.alike (e a).py (e b).py = true from h a b, al_map h l m]; rfl
instance {e : α → D} [EmA e] : EmA (eT e) := ⟨fun a b => al_map EmA.al a b, .inl fun a => rfl⟩
instance {e : α → D} [EmA e] : EmA (eP1 e) := ⟨fun a b => al_map (e := e) EmA.al [a] [b], .inl fun a => rfl⟩
instance {e : α → D} {f : β → D} [EmA e] [EmA f] : EmA (eP2 e f) := ⟨fun a b => by
  show (PySem.W.alike (e a.1).py (e b.1).py && (PySem.W.alike (f a.2).py (f b.2).py && true)) = true
  rw [show PySem.W.alike (e a.1).py (e b.1).py = true from EmA.al _ _, show PySem.W.alike (f a.2).py (f b.2).py = true from EmA.al _ _]; rfl, .inl fun a => rfl⟩
instance {e : α → D} {f : β → D} {g : γ → D} [EmA e] [EmA f] [EmA g] : EmA (eP3 e f g) := ⟨fun a b => by
  show (PySem.W.alike (e a.1).py (e b.1).py && (PySem.W.alike (f a.2.1).py (f b.2.1).py && (PySem.W.alike (g a.2.2).py (g b.2.2).py && true))) = true
  rw [show PySem.W.alike (e a.1).py (e b.1).py = true from EmA.al _ _, show PySem.W.alike (f a.2.1).py (f b.2.1).py = true from EmA.al _ _, show PySem.W.alike (g a.2.2).py (g b.2.2).py = true from EmA.al _ _]; rfl, .inl fun a => rfl⟩
def insE (e : α → D) (x : α) : List α → List α
  | [] => [x]
  | y :: r => if leD (e x) (e y) = true then x :: y :: r else y :: insE e x r
def srtE (e : α → D) : List α → List α
  | [] => []
  | x :: r => insE e x (srtE e r)
def obn (e : Option α) (k : α → Option β) : Option β := match e with
  | none => none
  | some a => k a
def tbn (e : Option (α × List Int)) (k : α → List Int → Option β) : Option β := match e with
  | none => none
  | some (a, t) => k a t
theorem obn_e {e : Option α} {k : α → Option β} {r : β} {C : Prop} (h : obn e k = some r) (f : ∀ a, e = some a → k a = some r → C) : C := by
  cases e with
  | none => cases h
  | some a => exact f a rfl h
theorem tbn_e {e : Option (α × List Int)} {k : α → List Int → Option β} {r : β} {C : Prop} (h : tbn e k = some r) (f : ∀ a t, e = some (a, t) → k a t = some r → C) : C := by
  cases e with
  | none => cases h
  | some a => exact f a.1 a.2 rfl h
theorem ite_e {c : Prop} [Decidable c] {x y : γ} {r : γ} {C : Prop} (h : (if c then x else y) = r) (f : c → x = r → C) (g : ¬ c → y = r → C) : C := by
  by_cases q : c
  · rw [if_pos q] at h; exact f q h
  · rw [if_neg q] at h; exact g q h
def drw (m : Int) (t : List Int) : Option (Int × List Int) := if 0 < m then match t with
    | [] => some (0, [])
    | x :: r => some (x % m, r)
  else none
theorem uDraw_ok {m x : Int} {t t' : List Int} (h : drw m t = some (x, t')) : uDraw [.bx, .p (.int m)] (some t) = some (.p (.int x), some t') := by
  unfold drw at h
  unfold uDraw
  dsimp only
  split at h
  · rename_i c
    rw [if_pos c]
    cases t <;> (cases h; rfl)
  · cases h
theorem eqS_B : ∀ {x y : D} {b : Bool}, eqS x y = some b → eqB x y = b := by
  intro x y b h
  unfold eqS at h
  split at h <;> first | (cases h; rfl) | cases h
theorem eqV_em {e : α → D} [DecidableEq α] [Em e] (h : Em.k e ≤ 200) {a b : α} : eqV (e a) (e b) = some (decide (a = b)) := by
  unfold eqV
  split
  · rename_i q
    rw [← eqS_B q, Em.eq (e := e)]
  · rw [Em.dok a 200 h, Em.dok b 200 h, if_pos (by rfl), Em.eq (e := e)]
theorem wEq_em (e : α → D) [DecidableEq α] [Em e] {a b : α} (h : Em.k e ≤ 200 := by decide) : wEq (.p (e a)) (.p (e b)) = some (.p (.bl (decide (a = b)))) := by
  unfold wEq; dsimp only; rw [eqV_em h]
theorem wNe_em (e : α → D) [DecidableEq α] [Em e] {a b : α} (h : Em.k e ≤ 200 := by decide) : wNe (.p (e a)) (.p (e b)) = some (.p (.bl (!decide (a = b)))) := by
  unfold wNe; dsimp only; rw [eqV_em h]
theorem wEq_d {x y : D} {b : Bool} (h : eqV x y = some b) : wEq (.p x) (.p y) = some (.p (.bl b)) := by
  unfold wEq; dsimp only; rw [h]
theorem wNe_d {x y : D} {b : Bool} (h : eqV x y = some b) : wNe (.p x) (.p y) = some (.p (.bl (!b))) := by
  unfold wNe; dsimp only; rw [h]
def inL [DecidableEq α] (a : α) (l : List α) : Bool := l.any fun b => decide (b = a)
theorem lenW_q {w : W} {ds : List D} (h : itemsW w = some ds) : lenW w = some (ds.length : Int) := by
  unfold itemsW at h
  split at h <;> first | (cases h; rfl) | cases h
theorem wLen_q {w : W} {e : α → D} {l : List α} (h : itemsW w = some (l.map e)) : wLen [w] = some (.p (.int (l.length : Int))) := by
  unfold wLen; dsimp only; rw [lenW_q h]; simp
theorem wTupC_q {w : W} {ds : List D} (h : itemsW w = some ds) : wTupC [w] = some (.p (.tup ds)) := by unfold wTupC; dsimp only; rw [h]
theorem atI_map (f : α → β) (l : List α) (i : Int) : atI (l.map f) i = (atI l i).map f := by
  unfold atI
  rw [List.length_map]
  cases ixN l.length i with
  | none => rfl
  | some j => simp
theorem wIx_T (e : α → D) {l : List α} {i : Int} {a : α} (h : atI l i = some a) : wIx (.p (eT e l)) (.p (.int i)) = some (.p (e a)) := by
  unfold wIx eT; dsimp only; rw [atI_map, h]; rfl
theorem wIx_lT (e : α → D) {l : List α} {i : Int} {a : α} (h : atI l i = some a) : wIx (.l (l.map e)) (.p (.int i)) = some (.p (e a)) := by
  unfold wIx; dsimp only; rw [atI_map, h]; rfl
def ixD (d : D) (i : Int) : Option D := match d with
  | .tup ds => atI ds i
  | .str z => if z.length ≤ 100000 then (atI z.cps.toList i).map fun c => .str ⟨#[c]⟩ else none
  | _ => none
theorem wIx_d {d a : D} {i : Int} (h : ixD d i = some a) : wIx (.p d) (.p (.int i)) = some (.p a) := by
  unfold ixD at h
  split at h
  · unfold wIx; dsimp only; rw [h]
  · unfold wIx; dsimp only
    split at h
    · rename_i c
      rw [if_pos c]
      obtain ⟨c, hc, rfl⟩ := Option.map_eq_some_iff.mp h
      rw [hc]
    · cases h
  · cases h
def appO (xs ys : List α) : Option (List α) := if xs.length + ys.length ≤ 1000000 then some (xs ++ ys) else none
theorem appO_ok {xs ys zs : List α} (h : appO xs ys = some zs) : xs.length + ys.length ≤ 1000000 ∧ zs = xs ++ ys := by
  unfold appO at h
  split at h
  · cases h; exact ⟨by assumption, rfl⟩
  · cases h
theorem wPlus_t (e : α → D) {xs ys zs : List α} (h : appO xs ys = some zs) : wPlus (.p (eT e xs)) (.p (eT e ys)) = some (.p (eT e zs)) := by
  obtain ⟨h1, rfl⟩ := appO_ok h
  unfold wPlus eT; dsimp only; rw [List.length_map, List.length_map, if_pos h1, List.map_append]
theorem wPlus_lT (e : α → D) {xs ys zs : List α} (h : appO xs ys = some zs) : wPlus (.l (xs.map e)) (.l (ys.map e)) = some (.l (zs.map e)) := by
  obtain ⟨h1, rfl⟩ := appO_ok h
  unfold wPlus; dsimp only; rw [List.length_map, List.length_map, if_pos h1, List.map_append]
def mulO (i j : Int) : Option Int := if (small64 i || small64 j) = true then some (i * j) else none
theorem wMul_o {i j k : Int} (h : mulO i j = some k) : wMul (.p (.int i)) (.p (.int j)) = some (.p (.int k)) := by
  unfold mulO at h
  unfold wMul wI; dsimp only
  split at h
  · rename_i c; cases h; rw [if_pos c]
  · cases h
theorem wMul_1 {i j : Int} (h : small64 i = true := by decide) : wMul (.p (.int i)) (.p (.int j)) = some (.p (.int (i * j))) := wMul_o (by unfold mulO; rw [h]; rfl)
theorem wMul_2 {i j : Int} (h : small64 j = true := by decide) : wMul (.p (.int i)) (.p (.int j)) = some (.p (.int (i * j))) := wMul_o (by unfold mulO; rw [h, Bool.or_true]; rfl)
def divO (i j : Int) : Option Int := if (decide (0 < j) && decide (j < 1073741824)) = true then some (i / j) else none
theorem wDiv_o {i j k : Int} (h : divO i j = some k) : wDiv (.p (.int i)) (.p (.int j)) = some (.p (.int k)) := by
  unfold divO at h
  unfold wDiv wI; dsimp only
  split at h
  · rename_i c; cases h; rw [if_pos c]
  · cases h
theorem wDiv_c {i j : Int} (h : (decide (0 < j) && decide (j < 1073741824)) = true := by decide) : wDiv (.p (.int i)) (.p (.int j)) = some (.p (.int (i / j))) := wDiv_o (by unfold divO; rw [if_pos h])
def modO (i j : Int) : Option Int := if decide (0 < j) = true then some (i % j) else none
theorem wMod_o {i j k : Int} (h : modO i j = some k) : wMod (.p (.int i)) (.p (.int j)) = some (.p (.int k)) := by
  unfold modO at h
  unfold wMod wI; dsimp only
  split at h
  · rename_i c; cases h; rw [if_pos c]
  · cases h
theorem wMod_c {i j : Int} (h : decide (0 < j) = true := by decide) : wMod (.p (.int i)) (.p (.int j)) = some (.p (.int (i % j))) := wMod_o (by unfold modO; rw [if_pos h])
theorem sIx_map (f : α → β) (l : List α) (lo hi : Option Int) : cutD (l.map f) lo hi = (cutD l lo hi).map f := by
  unfold cutD
  rw [List.length_map, List.map_take, List.map_drop]
theorem wSl_t (e : α → D) {l : List α} {lo hi : Option Int} : wSl (.p (eT e l)) lo hi = some (.p (eT e (cutD l lo hi))) := by
  unfold wSl eT; dsimp only; rw [sIx_map]
def itD : D → Option (List D)
  | .tup ds => some ds
  | _ => none
theorem itemsW_d {d : D} {ds : List D} (h : itD d = some ds) : itemsW (.p d) = some (ds.map eD) := by
  unfold itD at h
  split at h
  · cases h; rw [map_eD]; rfl
  · cases h
def isiD (T : Ty) (d : D) : Option Bool := (tyD [] d).map fun t => isTy t T
theorem tyW_d {T : Ty} {d : D} {b : Bool} (h : isiD T d = some b) : ∃ t, tyW (.p d) = some t ∧ isTy t T = b := by
  unfold isiD at h
  obtain ⟨t, h1, rfl⟩ := Option.map_eq_some_iff.mp h
  exact ⟨t, h1, rfl⟩
def asI : D → Option Int
  | .int x => some x
  | _ => none
theorem asI_ok {d : D} {x : Int} (h : asI d = some x) : d = .int x := by cases d <;> first | (cases h; rfl) | cases h
theorem wIs_d {d : D} {b : Bool} (h : isF d .non = some b) : wIs (.p d) (.p .non) = some (.p (.bl b)) := by unfold wIs isW; dsimp only; rw [h]
def rngT (i j : Int) : List Int := (List.range (j - i).toNat).map fun (k : Nat) => i + (k : Int)
theorem rngT_map (i j : Int) : (rngT i j).map D.int = rngD i j := by unfold rngT rngD; rw [List.map_map]; rfl
def rngO (i j : Int) : Option (List Int) := if (smallL i && smallL j) = true then some (rngT i j) else none
end
end Mini
end
section
namespace Mini
open PySem L2
section
variable {α β γ δ σ υ ρ : Type}
def mapO (f : α → Option β) : List α → Option (List β)
  | [] => some []
  | x :: l => obn (f x) fun y => obn (mapO f l) fun ys => some (y :: ys)
def cmpO (f : α → Option (Option β)) : List α → Option (List β)
  | [] => some []
  | x :: l => obn (f x) fun o => obn (cmpO f l) fun ys => some (o.toList ++ ys)
def mapT (f : α → List Int → Option (β × List Int)) : List α → List Int → Option (List β × List Int)
  | [], t => some ([], t)
  | x :: l, t => tbn (f x t) fun y t1 => tbn (mapT f l t1) fun ys t2 => some (y :: ys, t2)
def allO (f : α → Option Bool) : List α → Option Bool
  | [] => some true
  | x :: l => obn (f x) fun b => if b = true then allO f l else some false
section
variable {g : VG} {p : UB} {a : UE} {ε : VEnv} {τ : Tape} {e : α → D} {f : β → D}
theorem lcl_M {l : List α} {k : α → β} (h : ∀ x ∈ l, ∃ ε1, g (e x) ε = some ε1 ∧ a ε1 τ = some (.p (f (k x)), τ)) :
    uLcL g cYes a (l.map e) ε τ = some ((l.map k).map f, τ) := by
  induction l with
  | nil => rfl
  | cons x l ih =>
    obtain ⟨ε1, h1, h3⟩ := h x List.mem_cons_self
    have ih := ih fun y hy => h y (List.mem_cons_of_mem _ hy)
    rw [List.map_cons]
    unfold uLcL uOne
    rw [h1]; dsimp only [cYes]; rw [h3]; dsimp only; rw [ih]; rfl
theorem lcl_O {l : List α} {k : α → Option (Option β)} (h : ∀ x ∈ l, ∀ o, k x = some o → uOne g p a (e x) ε τ = some (o.map f, τ)) {ys : List β} (hy : cmpO k l = some ys) :
    uLcL g p a (l.map e) ε τ = some (ys.map f, τ) := by
  induction l generalizing ys with
  | nil => cases hy; rfl
  | cons x l ih =>
    refine obn_e hy fun o e1 hy => obn_e hy fun zs e2 hy => ?_
    cases hy
    rw [List.map_cons]
    unfold uLcL
    rw [h x List.mem_cons_self o e1]; dsimp only
    rw [ih (fun y hy => h y (List.mem_cons_of_mem _ hy)) e2]
    cases o <;> rfl
theorem lcl_MO {l : List α} {k : α → Option β} (h : ∀ x ∈ l, ∀ o, k x = some o → ∃ ε1, g (e x) ε = some ε1 ∧ a ε1 τ = some (.p (f o), τ)) {ys : List β} (hy : mapO k l = some ys) :
    uLcL g cYes a (l.map e) ε τ = some (ys.map f, τ) := by
  induction l generalizing ys with
  | nil => cases hy; rfl
  | cons x l ih =>
    refine obn_e hy fun o e1 hy => obn_e hy fun zs e2 hy => ?_
    cases hy
    obtain ⟨ε1, h1, h3⟩ := h x List.mem_cons_self o e1
    rw [List.map_cons]
    unfold uLcL uOne
    rw [h1]; dsimp only [cYes]; rw [h3]; dsimp only
    rw [ih (fun y hy => h y (List.mem_cons_of_mem _ hy)) e2]
    rfl
theorem lcl_MT {l : List α} {k : α → List Int → Option (β × List Int)} (h : ∀ x ∈ l, ∀ t o t', k x t = some (o, t') → ∃ ε1, g (e x) ε = some ε1 ∧ a ε1 (some t) = some (.p (f o), some t')) {ys : List β} {t t' : List Int} (hy : mapT k l t = some (ys, t')) :
    uLcL g cYes a (l.map e) ε (some t) = some (ys.map f, some t') := by
  induction l generalizing ys t with
  | nil => cases hy; rfl
  | cons x l ih =>
    refine tbn_e hy fun o t1 e1 hy => tbn_e hy fun zs t2 e2 hy => ?_
    cases hy
    obtain ⟨ε1, h1, h3⟩ := h x List.mem_cons_self t o t1 e1
    rw [List.map_cons]
    unfold uLcL uOne
    rw [h1]; dsimp only [cYes]; rw [h3]; dsimp only
    rw [ih (fun y hy => h y (List.mem_cons_of_mem _ hy)) e2]
    rfl
theorem one_of {x : α} {o : Option β} {ε1 : VEnv} {c : Bool} {τ1 τ2 : Tape} (h1 : g (e x) ε = some ε1) (h2 : p ε1 τ = some (c, τ1)) (h3 : (c = true ∧ ∃ y, o = some y ∧ a ε1 τ1 = some (.p (f y), τ2)) ∨ (c = false ∧ o = none ∧ τ1 = τ2)) :
    uOne g p a (e x) ε τ = some (o.map f, τ2) := by
  unfold uOne
  rw [h1]; dsimp only; rw [h2]
  rcases h3 with ⟨rfl, y, rfl, h⟩ | ⟨rfl, rfl, rfl⟩
  · dsimp only; rw [h]; rfl
  · rfl
theorem ql_all' {l : List α} {q : α → Bool} (h : ∀ x ∈ l, (uOne g p a (e x) ε τ = some (none, τ) ∧ q x = true) ∨ uOne g p a (e x) ε τ = some (some (.bl (q x)), τ)) : uQL true g p a (l.map e) ε τ = some (l.all q, τ) := by
  induction l with
  | nil => rfl
  | cons x l ih =>
    have ih := ih fun y hy => h y (List.mem_cons_of_mem _ hy)
    rw [List.map_cons, List.all_cons]
    unfold uQL
    rcases h x List.mem_cons_self with ⟨h1, h2⟩ | h1
    · rw [h1]; dsimp only; rw [ih, h2]; rfl
    · rw [h1]; dsimp only
      cases q x with
      | false => rfl
      | true => rw [if_pos rfl, ih]; rfl
theorem one_q {x : α} {q : Bool} {ε1 : VEnv} (h1 : g (e x) ε = some ε1) (h3 : a ε1 τ = some (.p (.bl q), τ)) : uOne g cYes a (e x) ε τ = some (some (.bl q), τ) := by
  unfold uOne
  rw [h1]; dsimp only [cYes]; rw [h3]
theorem ql_allP {l : List α} {q : α → Bool} (h : ∀ x ∈ l, ∃ ε1, g (e x) ε = some ε1 ∧ a ε1 τ = some (.p (.bl (q x)), τ)) : uQL true g cYes a (l.map e) ε τ = some (l.all q, τ) :=
  ql_all' fun x hx => let ⟨_, h1, h2⟩ := h x hx; .inr (one_q h1 h2)
theorem ql_allO {l : List α} {k : α → Option Bool} (h : ∀ x ∈ l, ∀ b, k x = some b → (uOne g p a (e x) ε τ = some (none, τ) ∧ b = true) ∨ uOne g p a (e x) ε τ = some (some (.bl b), τ)) {r : Bool} (hr : allO k l = some r) : uQL true g p a (l.map e) ε τ = some (r, τ) := by
  induction l with
  | nil => cases hr; rfl
  | cons x l ih =>
    refine obn_e hr fun b e1 hr => ?_
    have ih := ih fun y hy => h y (List.mem_cons_of_mem _ hy)
    rw [List.map_cons]
    unfold uQL
    rcases h x List.mem_cons_self b e1 with ⟨h1, rfl⟩ | h1
    · rw [h1]; exact ih hr
    · rw [h1]; dsimp only
      cases b with
      | false => cases hr; rfl
      | true => rw [if_pos rfl]; exact ih hr
end
def lett (a : α) (k : α → β) : β := k a
def jpt (F : σ → γ) (B : (σ → γ) → γ) : γ := B F
inductive LR (σ ρ : Type) where
  | nx (s : σ) | bk (s : σ) | rt (r : ρ)
def lrk (o : LR σ ρ) (F : σ → γ) (G : ρ → γ) : γ := match o with
  | .nx s => F s
  | .bk s => F s
  | .rt r => G r
def FnP (R : ρ → W) (τ : Tape) (r : ρ) (X : Option URes) : Prop := uends X = some (R r, τ)
def FnT (R : ρ → W) (r : ρ × List Int) (X : Option URes) : Prop := uends X = some (R r.1, some r.2)
def LbP (E : σ → υ → VEnv) (τ : Tape) (s : σ) (X : Option URes) : Prop := ∃ u, X = some (.nx (E s u) τ) ∨ X = some (.ct (E s u) τ)
def LxP (E : σ → υ → VEnv) (R : ρ → W) (τ : Tape) (o : LR σ ρ) (X : Option URes) : Prop := match o with
  | .nx s => ∃ u, X = some (.nx (E s u) τ) ∨ X = some (.ct (E s u) τ)
  | .bk s => ∃ u, X = some (.bk (E s u) τ)
  | .rt r => X = some (.rt (R r) τ)
def LxT (E : σ → υ → VEnv) (R : ρ → W) (o : LR σ ρ × List Int) (X : Option URes) : Prop := LxP E R (some o.2) o.1 X
def PO (Q : γ → Option URes → Prop) (o : Option γ) (X : Option URes) : Prop := ∀ r, o = some r → Q r X
section
variable {Post : γ → Option URes → Prop} {t t1 t2 : γ} {ε ε1 ε2 : VEnv} {τ τ1 τ2 : Tape} {s u v : US} {p : UB} {a b : UE} {c : Bool} {w w1 : W} {i : Nat} {d : D} {X : Option URes}
theorem p_eq {Y : Option URes} (h : Y = X) (k : Post t X) : Post t Y := h ▸ k
theorem p_seqs (k : Post t (tSeq s (tSeq u v) ε τ)) : Post t (tSeq (tSeq s u) v ε τ) := p_eq (t_seqs rfl) k
theorem p_nils (k : Post t (u ε τ)) : Post t (tSeq tNil u ε τ) := k
theorem p_if (h : p ε τ = some (c, τ1)) (h1 : c = true → Post t1 (tSeq s v ε τ1)) (h2 : c = false → Post t2 (tSeq u v ε τ1)) : Post (if c = true then t1 else t2) (tSeq (tIf p s u) v ε τ) := by
  refine p_eq (t_ifs h rfl) ?_
  cases c with
  | true => exact h1 rfl
  | false => exact h2 rfl
theorem p_set {e : α} {R : α → W} {F : α → γ} (h : a ε τ = some (R e, τ1)) (k : ∀ x, x = e → Post (F x) (u (ε.set i (some (R x))) τ1)) : Post (lett e F) (tSeq (tSet i a) u ε τ) :=
  p_eq (t_seq (t_set h) rfl) (k e rfl)
theorem p_asgN {e : α} {R : α → D} {F : α → γ} (h : a ε τ = some (.p (R e), τ1)) (k : ∀ x, x = e → Post (F x) (u (ε.set i (some (.p (R x)))) τ1)) : Post (lett e F) (tSeq (tAsg a (vgN i)) u ε τ) :=
  p_eq (t_seq (t_asg h rfl) rfl) (k e rfl)
theorem p_jp {F : σ → γ} {B : (σ → γ) → γ} {E : σ → υ → VEnv} {rest : US} (hB : (∀ st u, Post (F st) (rest (E st u) τ)) → Post (B F) X) (hF : ∀ st u, Post (F st) (rest (E st u) τ)) : Post (jpt F B) X := hB hF
theorem p_jpT {F : σ × List Int → γ} {B : (σ × List Int → γ) → γ} {E : σ → υ → VEnv} {rest : US} (hB : (∀ st t u, Post (F (st, t)) (rest (E st u) (some t))) → Post (B F) X) (hF : ∀ st t u, Post (F (st, t)) (rest (E st u) (some t))) : Post (jpt F B) X := hB hF
theorem po_obn {Q : γ → Option URes → Prop} {e : Option α} {k : α → Option γ} (h : ∀ a, e = some a → PO Q (k a) X) : PO Q (obn e k) X := fun r hr => obn_e hr fun a ha hk => h a ha r hk
theorem po_tbn {Q : γ → Option URes → Prop} {e : Option (α × List Int)} {k : α → List Int → Option γ} (h : ∀ a t, e = some (a, t) → PO Q (k a t) X) : PO Q (tbn e k) X := fun r hr => tbn_e hr fun a t ha hk => h a t ha r hk
theorem po_some {Q : γ → Option URes → Prop} {r : γ} (h : Q r X) : PO Q (some r) X := fun r' e => by cases e; exact h
theorem po_none {Q : γ → Option URes → Prop} : PO Q none X := fun r e => by cases e
theorem f_ret {R : ρ → W} {r : ρ} (h : a ε τ = some (R r, τ1)) : FnP R τ1 r (tSeq (tRet a) u ε τ) := by unfold FnP; rw [t_rets h]; rfl
theorem f_retT {R : ρ → W} {r : ρ} {t : List Int} (h : a ε τ = some (R r, some t)) : FnT R (r, t) (tSeq (tRet a) u ε τ) := by unfold FnT; rw [t_rets h]; rfl
theorem l_nx {E : σ → υ → VEnv} {s : σ} (u : υ) : LbP E τ s (tNil (E s u) τ) := ⟨u, .inl rfl⟩
theorem x_nx {E : σ → υ → VEnv} {R : ρ → W} {s : σ} (u : υ) : LxP E R τ (.nx s) (tNil (E s u) τ) := ⟨u, .inl rfl⟩
theorem x_rt {E : σ → υ → VEnv} {R : ρ → W} {r : ρ} (h : a ε τ = some (R r, τ1)) : LxP E R τ1 (.rt r) (tSeq (tRet a) u ε τ) := t_rets h
theorem x_nxT {E : σ → υ → VEnv} {R : ρ → W} {s : σ} {t : List Int} (u : υ) : LxT E R (.nx s, t) (tNil (E s u) (some t)) := ⟨u, .inl rfl⟩
theorem x_rtT {E : σ → υ → VEnv} {R : ρ → W} {r : ρ} {t : List Int} (h : a ε τ = some (R r, some t)) : LxT E R (.rt r, t) (tSeq (tRet a) u ε τ) := t_rets h
end
def foldO (f : σ → α → Option σ) : List α → σ → Option σ
  | [], s => some s
  | x :: l, s => obn (f s x) fun s => foldO f l s
def loopO (f : σ → α → Option (LR σ ρ)) : List α → σ → Option (LR σ ρ)
  | [], s => some (.nx s)
  | x :: l, s => match f s x with
    | none => none
    | some (.nx s) => loopO f l s
    | some (.bk s) => some (.nx s)
    | some (.rt r) => some (.rt r)
def loopT (f : σ → α → List Int → Option (LR σ ρ × List Int)) : List α → σ → List Int → Option (LR σ ρ × List Int)
  | [], s, t => some (.nx s, t)
  | x :: l, s, t => match f s x t with
    | none => none
    | some (.nx s, t) => loopT f l s t
    | some (.bk s, t) => some (.nx s, t)
    | some (.rt r, t) => some (.rt r, t)
section
variable {g : VG} {b rest : US} {wk : UW} {ε : VEnv} {τ τ1 : Tape} {k : α → D} {l : List α} {E : σ → υ → VEnv} {R : ρ → W} {Post : γ → Option URes → Prop} {st0 : σ} {u0 : υ}
theorem fl_cont {ds : List D} {d : D} {ε1 : VEnv} {s : σ} (h1 : g d ε = some ε1) (h2 : LbP E τ1 s (b ε1 τ)) : ∃ u, uForL g b (d :: ds) ε τ = uForL g b ds (E s u) τ1 := by
  obtain ⟨u, h2⟩ := h2
  refine ⟨u, ?_⟩
  rw [uForL]
  rw [h1]; dsimp only
  rcases h2 with h2 | h2 <;> rw [h2]
theorem fl_foldl {f : σ → α → σ} (hb : ∀ x ∈ l, ∀ st u, ∃ ε1, g (k x) (E st u) = some ε1 ∧ LbP E τ (f st x) (b ε1 τ)) : ∀ st u, ∃ u', uForL g b (l.map k) (E st u) τ = some (.nx (E (l.foldl f st) u') τ) := by
  induction l with
  | nil => exact fun st u => ⟨u, rfl⟩
  | cons x l ih =>
    intro st u
    obtain ⟨ε1, h1, h2⟩ := hb x List.mem_cons_self st u
    obtain ⟨u1, e1⟩ := fl_cont (ds := l.map k) h1 h2
    obtain ⟨u2, e2⟩ := ih (fun y hy => hb y (List.mem_cons_of_mem _ hy)) (f st x) u1
    exact ⟨u2, by rw [List.map_cons, e1, e2]; rfl⟩
theorem fl_foldO {f : σ → α → Option σ} (hb : ∀ x ∈ l, ∀ st u, ∃ ε1, g (k x) (E st u) = some ε1 ∧ PO (LbP E τ) (f st x) (b ε1 τ)) : ∀ st u r, foldO f l st = some r → ∃ u', uForL g b (l.map k) (E st u) τ = some (.nx (E r u') τ) := by
  induction l with
  | nil => intro st u r h; cases h; exact ⟨u, rfl⟩
  | cons x l ih =>
    intro st u r h
    refine obn_e h fun s hs h => ?_
    obtain ⟨ε1, h1, h2⟩ := hb x List.mem_cons_self st u
    obtain ⟨u1, e1⟩ := fl_cont (ds := l.map k) h1 (h2 s hs)
    obtain ⟨u2, e2⟩ := ih (fun y hy => hb y (List.mem_cons_of_mem _ hy)) s u1 r h
    exact ⟨u2, by rw [List.map_cons, e1, e2]⟩
def LE (E : σ → υ → VEnv) (R : ρ → W) (τ : Tape) (o : LR σ ρ) (X : Option URes) : Prop := match o with
  | .nx s => ∃ u, X = some (.nx (E s u) τ)
  | .bk s => ∃ u, X = some (.nx (E s u) τ)
  | .rt r => X = some (.rt (R r) τ)
theorem fl_loopO {f : σ → α → Option (LR σ ρ)} (hb : ∀ x ∈ l, ∀ st u, ∃ ε1, g (k x) (E st u) = some ε1 ∧ PO (LxP E R τ) (f st x) (b ε1 τ)) : ∀ st u r, loopO f l st = some r → LE E R τ r (uForL g b (l.map k) (E st u) τ) := by
  induction l with
  | nil => intro st u r h; cases h; exact ⟨u, rfl⟩
  | cons x l ih =>
    intro st u r h
    obtain ⟨ε1, h1, h2⟩ := hb x List.mem_cons_self st u
    have ih := ih fun y hy => hb y (List.mem_cons_of_mem _ hy)
    unfold loopO at h
    cases q : f st x with
    | none => rw [q] at h; cases h
    | some o =>
      rw [q] at h
      have h2 := h2 o q
      cases o with
      | nx s =>
        obtain ⟨u1, e1⟩ := fl_cont (ds := l.map k) h1 (show LbP E τ s _ from h2)
        rw [List.map_cons, e1]
        exact ih s u1 r h
      | bk s =>
        cases h
        obtain ⟨u1, h2⟩ := h2
        exact ⟨u1, by rw [List.map_cons, uForL, h1]; dsimp only; rw [h2]⟩
      | rt r' =>
        cases h
        have h2 : b ε1 τ = some (.rt (R r') τ) := h2
        show uForL _ _ _ _ _ = _
        rw [List.map_cons, uForL, h1]; dsimp only; rw [h2]
theorem fl_loopT {f : σ → α → List Int → Option (LR σ ρ × List Int)} (hb : ∀ x ∈ l, ∀ st t u, ∃ ε1, g (k x) (E st u) = some ε1 ∧ PO (LxT E R) (f st x t) (b ε1 (some t))) : ∀ st t u r t', loopT f l st t = some (r, t') → LE E R (some t') r (uForL g b (l.map k) (E st u) (some t)) := by
  induction l with
  | nil => intro st t u r t' h; cases h; exact ⟨u, rfl⟩
  | cons x l ih =>
    intro st t u r t' h
    obtain ⟨ε1, h1, h2⟩ := hb x List.mem_cons_self st t u
    have ih := ih fun y hy => hb y (List.mem_cons_of_mem _ hy)
    unfold loopT at h
    cases q : f st x t with
    | none => rw [q] at h; cases h
    | some o =>
      rw [q] at h
      have h2 := h2 o q
      obtain ⟨o, t1⟩ := o
      cases o with
      | nx s =>
        obtain ⟨u1, e1⟩ := fl_cont (ds := l.map k) h1 (show LbP E (some t1) s _ from h2)
        rw [List.map_cons, e1]
        exact ih s t1 u1 r t' h
      | bk s =>
        cases h
        obtain ⟨u1, h2⟩ := h2
        exact ⟨u1, by rw [List.map_cons, uForL, h1]; dsimp only; rw [h2]⟩
      | rt r' =>
        cases h
        have h2 : b ε1 (some t) = some (.rt (R r') (some t')) := h2
        show uForL _ _ _ _ _ = _
        rw [List.map_cons, uForL, h1]; dsimp only; rw [h2]
theorem p_fold {f : σ → α → σ} {F : σ → γ} (hw : wk ε τ = some (l.map k, τ1)) (he : ε = E st0 u0) (hb : ∀ x ∈ l, ∀ st u, ∃ ε1, g (k x) (E st u) = some ε1 ∧ LbP E τ1 (f st x) (b ε1 τ1)) (hr : ∀ st u, st = l.foldl f st0 → Post (F st) (rest (E st u) τ1)) : Post (lett (l.foldl f st0) F) (tSeq (tFor wk g b) rest ε τ) := by
  subst he
  obtain ⟨u, e⟩ := fl_foldl hb st0 u0
  exact p_eq (t_fors hw e rfl) (hr _ u rfl)
theorem p_foldO {Q : γ → Option URes → Prop} {f : σ → α → Option σ} {F : σ → Option γ} (hw : wk ε τ = some (l.map k, τ1)) (he : ε = E st0 u0) (hb : ∀ x ∈ l, ∀ st u, ∃ ε1, g (k x) (E st u) = some ε1 ∧ PO (LbP E τ1) (f st x) (b ε1 τ1)) (hr : ∀ st u, foldO f l st0 = some st → PO Q (F st) (rest (E st u) τ1)) : PO Q (obn (foldO f l st0) F) (tSeq (tFor wk g b) rest ε τ) :=
  po_obn fun st h => by
    subst he
    obtain ⟨u, e⟩ := fl_foldO hb st0 u0 st h
    exact p_eq (Post := PO Q) (t_fors hw e rfl) (hr st u h)
def seqR (rest : US) : Option URes → Option URes
  | some (.nx e t) => rest e t
  | r => r
theorem tSeq_R {s rest : US} {ε : VEnv} {τ : Tape} : tSeq s rest ε τ = seqR rest (s ε τ) := by
  unfold tSeq seqR
  cases s ε τ with
  | none => rfl
  | some r => cases r <;> rfl
theorem p_lrk {X : Option URes} {o : LR σ ρ} {F : σ → γ} {G : ρ → γ} (h : LE E R τ o X) (hn : ∀ st u, Post (F st) (rest (E st u) τ)) (hr : ∀ r, Post (G r) (some (.rt (R r) τ))) : Post (lrk o F G) (seqR rest X) := by
  cases o with
  | nx s => obtain ⟨u, rfl⟩ := h; exact hn s u
  | bk s => obtain ⟨u, rfl⟩ := h; exact hn s u
  | rt r => cases (show X = some (.rt (R r) τ) from h); exact hr r
theorem tSeq_for {ds : List D} (hw : wk ε τ = some (ds, τ1)) : tSeq (tFor wk g b) rest ε τ = seqR rest (uForL g b ds ε τ1) := by
  rw [tSeq_R]
  unfold tFor
  rw [hw]
theorem p_loopO {Q : γ → Option URes → Prop} {f : σ → α → Option (LR σ ρ)} {F : σ → Option γ} {G : ρ → Option γ} (hw : wk ε τ = some (l.map k, τ1)) (he : ε = E st0 u0) (hb : ∀ x ∈ l, ∀ st u, ∃ ε1, g (k x) (E st u) = some ε1 ∧ PO (LxP E R τ1) (f st x) (b ε1 τ1)) (hn : ∀ st u, PO Q (F st) (rest (E st u) τ1)) (hr : ∀ r, PO Q (G r) (some (.rt (R r) τ1))) : PO Q (obn (loopO f l st0) fun o => lrk o F G) (tSeq (tFor wk g b) rest ε τ) :=
  po_obn fun o h => by
    subst he
    exact p_eq (Post := PO Q) (tSeq_for hw) (p_lrk (Post := PO Q) (fl_loopO hb st0 u0 o h) hn hr)
theorem p_loopT {t : List Int} {Q : γ → Option URes → Prop} {f : σ → α → List Int → Option (LR σ ρ × List Int)} {F : σ → List Int → Option γ} {G : ρ → List Int → Option γ} (hw : wk ε τ = some (l.map k, some t)) (he : ε = E st0 u0) (hb : ∀ x ∈ l, ∀ st t u, ∃ ε1, g (k x) (E st u) = some ε1 ∧ PO (LxT E R) (f st x t) (b ε1 (some t))) (hn : ∀ st t u, PO Q (F st t) (rest (E st u) (some t))) (hr : ∀ r t, PO Q (G r t) (some (.rt (R r) (some t)))) : PO Q (tbn (loopT f l st0 t) fun o t => lrk o (fun s => F s t) (fun r => G r t)) (tSeq (tFor wk g b) rest ε τ) :=
  po_tbn fun o t' h => by
    subst he
    exact p_eq (Post := PO Q) (tSeq_for hw) (p_lrk (Post := PO Q) (fl_loopT hb st0 t u0 o t' h) (fun st u => hn st t' u) fun r => hr r t')
end
section
variable {p : UB} {b rest : US} {ε : VEnv} {τ : Tape} {E : σ → υ → VEnv} {R : ρ → W} {st0 : σ} {u0 : υ}
end
section
variable {p q : UB} {a b : UE} {ε : VEnv} {τ τ1 τ2 : Tape} {x y c : Bool} {w w1 w2 : W}
theorem c_andO {o : Option Bool} {r : Bool} (h1 : p ε τ = some (x, τ1)) (h2 : x = true → ∀ y, o = some y → q ε τ1 = some (y, τ1)) (h : (if x = true then o else some false) = some r) : cAnd p q ε τ = some (r, τ1) := by
  unfold cAnd; rw [h1]
  cases x with
  | true => exact h2 rfl r h
  | false => cases h; rfl
theorem c_orO {o : Option Bool} {r : Bool} (h1 : p ε τ = some (x, τ1)) (h2 : x = false → ∀ y, o = some y → q ε τ1 = some (y, τ1)) (h : (if x = true then some true else o) = some r) : cOr p q ε τ = some (r, τ1) := by
  unfold cOr; rw [h1]
  cases x with
  | true => cases h; rfl
  | false => exact h2 rfl r h
theorem u_andO {o : Option Bool} {r : Bool} (h1 : a ε τ = some (.p (.bl x), τ1)) (h2 : x = true → ∀ y, o = some y → b ε τ1 = some (.p (.bl y), τ1)) (h : (if x = true then o else some false) = some r) : uAnd a b ε τ = some (.p (.bl r), τ1) := by
  unfold uAnd; rw [h1]
  cases x with
  | true => exact h2 rfl r h
  | false => cases h; rfl
theorem u_ifO {R : α → W} {o1 o2 : Option α} {r : α} (h1 : p ε τ = some (c, τ1)) (h2 : c = true → ∀ y, o1 = some y → a ε τ1 = some (R y, τ1)) (h3 : c = false → ∀ y, o2 = some y → b ε τ1 = some (R y, τ1)) (h : (if c = true then o1 else o2) = some r) : uIf p a b ε τ = some (R r, τ1) := by
  unfold uIf; rw [h1]
  cases c with
  | true => exact h2 rfl r h
  | false => exact h3 rfl r h
theorem u_isiD {T : Ty} {d : D} {k : Bool} (h : a ε τ = some (.p d, τ1)) (h2 : isiD T d = some k) : uIsi T a ε τ = some (.p (.bl k), τ1) := by
  obtain ⟨t, h3, rfl⟩ := tyW_d h2
  exact u_isi h h3
theorem w_rngT1 {j : Int} (h : a ε τ = some (.p (.int j), τ1)) {l : List Int} (h2 : rngO 0 j = some l) : uRng1 a ε τ = some (l.map D.int, τ1) := by
  unfold rngO at h2
  split at h2
  · rename_i c
    cases h2; rw [rngT_map]
    exact w_rng1 h (by rw [Bool.and_eq_true] at c; exact c.2)
  · cases h2
theorem w_rngC1 {j : Int} (h : a ε τ = some (.p (.int j), τ1)) (h2 : smallL j = true := by decide) : uRng1 a ε τ = some ((rngT 0 j).map D.int, τ1) := by rw [rngT_map]; exact w_rng1 h h2
def apnO (l : List α) (x : α) : Option (List α) := if l.length < 1000000 then some (l ++ [x]) else none
end
section
variable {Post : γ → Option URes → Prop} {ε : VEnv} {τ τ1 : Tape} {u : US} {a b : UE} {i : Nat}
theorem p_app {Q : γ → Option URes → Prop} {e : α → D} {l : List α} {x : α} {F : List α → Option γ} (h1 : ε[i]? = some (some (.l (l.map e)))) (h : a ε τ = some (.p (e x), τ1)) (k : ∀ r, apnO l x = some r → PO Q (F r) (u (ε.set i (some (.l (r.map e)))) τ1)) : PO Q (obn (apnO l x) F) (tSeq (tApp i a) u ε τ) :=
  po_obn fun r hr => by
    have hr' := hr
    unfold apnO at hr'
    split at hr'
    · rename_i c
      cases hr'
      exact p_eq (Post := PO Q) (t_apps h1 h (app_l (by rw [List.length_map]; exact c)) rfl rfl) (by have := k _ hr; rw [List.map_append] at this; exact this)
    · cases hr'
end
end
end Mini
end
section
namespace Mini
open PySem L2
section
variable {α β γ δ : Type}
section
variable {g g1 : VG} {p p1 : UB} {a : UE} {w1 : UW} {vs1 : List Nat} {ε : VEnv} {τ : Tape} {e : α → D} {e1 : γ → D} {f : β → D}
end
section
variable {ε : VEnv} {τ τ1 τ2 τ3 : Tape} {a b : UE} {w z : W} {lo hi : UO} {l u : Option Int}
theorem uo_n : uoN ε τ = some (none, τ) := rfl
theorem uo_s {i : Int} (h : a ε τ = some (.p (.int i), τ1)) : uoS a ε τ = some (some i, τ1) := by unfold uoS; rw [h]
theorem u_slT (h : a ε τ = some (w, τ1)) (h1 : lo ε τ1 = some (l, τ2)) (h2 : hi ε τ2 = some (u, τ3)) (h3 : wSl w l u = some z) : uSl a lo hi ε τ = some (z, τ3) := by
  unfold uSl
  rw [h]; dsimp only; rw [h1]; dsimp only; rw [h2]; dsimp only; rw [h3]
theorem co_w {w1 w2 : W} (h : w1 = w2) (p : a ε τ = some (w1, τ1)) : a ε τ = some (w2, τ1) := h ▸ p
theorem itD_ok {d : D} {ds : List D} (h : itD d = some ds) : d = eT eD ds := by
  cases d <;> first | (cases h; unfold eT; rw [map_eD]) | cases h
end
theorem fnT_rt {b : Bool} {t : List Int} {X : Option URes} (h : FnT (fun x => W.p (D.bl x)) (b, t) X) : X = some (.rt (.p (.bl b)) (some t)) := by
  unfold FnT uends at h
  split at h <;> first | (cases h; rfl) | cases h
theorem wIsNot_b {b v : Bool} : wIsNot (.p (.bl b)) (.p (.bl v)) = some (.p (.bl (b != v))) := by cases b <;> cases v <;> rfl
theorem asBls_map : ∀ l : List Bool, asBls (l.map D.bl) = some l
  | [] => rfl
  | x :: l => by rw [List.map_cons]; unfold asBls; rw [asBls_map l]
end
end Mini
end
section
namespace Mini
open PySem L2
section
variable {α β γ δ ι : Type}
class EmT {α : Type} (e : α → D) : Prop where
  tup : ∀ a, isTupD (e a) = true
instance {e : α → D} : EmT (eT e) := ⟨fun a => rfl⟩
instance {e : α → D} : EmT (eP1 e) := ⟨fun a => rfl⟩
instance {e : α → D} {f : β → D} : EmT (eP2 e f) := ⟨fun a => rfl⟩
instance {e : α → D} {f : β → D} {g : γ → D} : EmT (eP3 e f g) := ⟨fun a => rfl⟩
instance {e : α → D} {f : β → D} {g : γ → D} {h : δ → D} : EmT (eP4 e f g h) := ⟨fun a => rfl⟩
instance {e : α → D} {f : β → D} {g : γ → D} {h : δ → D} {i : ι → D} : EmT (eP5 e f g h i) := ⟨fun a => rfl⟩
def dedE [DecidableEq α] : List α → List α
  | [] => []
  | x :: r => if inL x r = true then dedE r else x :: dedE r
section
variable {a : UE} {ε : VEnv} {τ τ1 : Tape} {w : W}
end
end
end Mini
end
section
namespace Mini
open PySem L2
section
variable {α : Type} {e : α → D} [DecidableEq α] [Em e] {o a : UE} {ε : VEnv} {τ τ1 τ2 : Tape} {l : List α} {x : α}
def idxO (x : α) (l : List α) : Option Int := match l.findIdx? fun z => decide (z = x) with
  | some j => some (j : Int)
  | none => none
omit [Em e] in
theorem u_mt {f : List D → D → Option W} {ds : List D} {y : D} {z : W} (h : o ε τ = some (.l ds, τ1)) (h2 : a ε τ1 = some (.p y, τ2)) (h3 : f ds y = some z) : uMt f o a ε τ = some (z, τ2) := by
  unfold uMt; rw [h]; dsimp only; rw [h2]; dsimp only; rw [h3]
theorem u_idxT (e : α → D) [Em e] {r : Int} (h : o ε τ = some (.l (l.map e), τ1)) (h2 : a ε τ1 = some (.p (e x), τ2)) (h3 : idxO x l = some r) (hk : Em.k e ≤ 60 := by decide) : uMt wIdx o a ε τ = some (.p (.int r), τ2) := by
  refine u_mt h h2 ?_
  unfold wIdx
  rw [Em.dok x 60 hk, doks_map hk, if_pos (by rfl), List.findIdx?_map]
  have : (fun z => eqB z (e x)) ∘ e = fun z => decide (z = x) := funext fun z => Em.eq (e := e) z x
  rw [this]
  unfold idxO at h3
  cases q : l.findIdx? fun z => decide (z = x) with
  | some j => rw [q] at h3; cases h3; rfl
  | none => rw [q] at h3; cases h3
end
theorem u_revT {α : Type} {e : α → D} {a : UE} {ε : VEnv} {τ τ1 : Tape} {l : List α} (h : a ε τ = some (.l (l.map e), τ1)) : uRev a ε τ = some (.l (l.reverse.map e), τ1) := by
  unfold uRev; rw [h, List.map_reverse]
theorem zipD_map {α β : Type} {e : α → D} {f : β → D} : ∀ (l : List α) (m : List β), zipD (l.map e) (m.map f) = (l.zip m).map (eP2 e f)
  | [], _ => by simp [zipD]
  | _ :: _, [] => by simp [zipD]
  | a :: l, b :: m => by
    rw [List.map_cons, List.map_cons]
    unfold zipD
    rw [zipD_map l m]; rfl
theorem w_zipT {α β : Type} {e : α → D} {f : β → D} {a b : UE} {ε : VEnv} {τ τ1 τ2 : Tape} {l : List α} {m : List β} (h : a ε τ = some (.p (eT e l), τ1)) (h2 : b ε τ1 = some (.p (eT f m), τ2)) : uZip a b ε τ = some ((l.zip m).map (eP2 e f), τ2) := by
  unfold uZip; rw [h]; dsimp only [eT]; rw [h2]; dsimp only [eT]; rw [zipD_map]
section
variable {w w2 : W → W → Option W} {a b c : UE} {ε : VEnv} {τ τ1 τ2 : Tape} {x y z : W} {p q : Bool}
end
end Mini
end
section
namespace Mini
open PySem
section
variable {α β γ σ ρ : Type}
def TT (o : Option (α × List Int)) (P : α → Prop) : Prop := ∃ r t, o = some (r, t) ∧ P r
def OT (o : Option α) (P : α → Prop) : Prop := ∃ r, o = some r ∧ P r
theorem TT.imp {o : Option (α × List Int)} {P Q : α → Prop} (h : TT o P) (k : ∀ r, P r → Q r) : TT o Q := let ⟨r, t, e, p⟩ := h; ⟨r, t, e, k r p⟩
theorem OT.imp {o : Option α} {P Q : α → Prop} (h : OT o P) (k : ∀ r, P r → Q r) : OT o Q := let ⟨r, e, p⟩ := h; ⟨r, e, k r p⟩
theorem tt_some {r : α} {t : List Int} {P : α → Prop} (h : P r) : TT (some (r, t)) P := ⟨r, t, rfl, h⟩
theorem tt_tbn {o : Option (α × List Int)} {P : α → Prop} {k : α → List Int → Option (β × List Int)} {Q : β → Prop} (h : TT o P) (g : ∀ r t, P r → TT (k r t) Q) : TT (tbn o k) Q := by
  obtain ⟨r, t, rfl, p⟩ := h
  exact g r t p
theorem tt_eq {o : Option α} {a : α} {k : α → Option (β × List Int)} {Q : β → Prop} (h : o = some a) (g : TT (k a) Q) : TT (obn o k) Q := by subst h; exact g
theorem tt_lett {a : α} {k : α → Option (β × List Int)} {Q : β → Prop} (g : TT (k a) Q) : TT (lett a k) Q := g
theorem tt_if {c : Bool} {x y : Option (β × List Int)} {Q : β → Prop} (h : c = true → TT x Q) (g : c = false → TT y Q) : TT (if c = true then x else y) Q := by
  cases c with
  | true => exact h rfl
  | false => exact g rfl
theorem tt_drw {m : Int} {t : List Int} (h : 0 < m) : TT (drw m t) fun d => 0 ≤ d ∧ d < m := by
  unfold drw
  rw [if_pos h]
  cases t with
  | nil => exact ⟨0, [], rfl, by omega, h⟩
  | cons x t => exact ⟨x % m, t, rfl, Int.emod_nonneg _ (by omega), Int.emod_lt_of_pos _ h⟩
theorem tt_loop {f : σ → α → List Int → Option (LR σ ρ × List Int)} {I : σ → Prop} : ∀ {l : List α} {s : σ} {t : List Int}, (∀ s x t, x ∈ l → I s → TT (f s x t) fun o => ∃ s', o = .nx s' ∧ I s') → I s → TT (loopT f l s t) fun o => ∃ s', o = .nx s' ∧ I s'
  | [], s, t, _, h0 => ⟨.nx s, t, rfl, s, rfl, h0⟩
  | x :: l, s, t, h, h0 => by
    obtain ⟨r, t2, e, s2, rfl, h2⟩ := h s x t List.mem_cons_self h0
    unfold loopT
    rw [e]
    exact tt_loop (fun s y t hy => h s y t (List.mem_cons_of_mem _ hy)) h2
inductive Each (R : α → β → Prop) : List α → List β → Prop
  | nil : Each R [] []
  | cons {a : α} {b : β} {l : List α} {m : List β} : R a b → Each R l m → Each R (a :: l) (b :: m)
theorem Each.length {R : α → β → Prop} : ∀ {l : List α} {m : List β}, Each R l m → l.length = m.length
  | _, _, .nil => rfl
  | _, _, .cons _ r => congrArg (· + 1) r.length
theorem Each.right {R : α → β → Prop} : ∀ {l : List α} {m : List β}, Each R l m → ∀ y ∈ m, ∃ x ∈ l, R x y
  | _, _, .nil, y, h => by cases h
  | _, _, .cons h r, y, hy => by
    rcases List.mem_cons.mp hy with rfl | hy
    · exact ⟨_, List.mem_cons_self, h⟩
    · obtain ⟨x, hx, k⟩ := r.right y hy
      exact ⟨x, List.mem_cons_of_mem _ hx, k⟩
theorem Each.imp {R S : α → β → Prop} (k : ∀ a b, R a b → S a b) : ∀ {l : List α} {m : List β}, Each R l m → Each S l m
  | _, _, .nil => .nil
  | _, _, .cons h r => .cons (k _ _ h) (r.imp k)
theorem tt_map {f : α → List Int → Option (β × List Int)} {R : α → β → Prop} : ∀ {l : List α} {t : List Int}, (∀ x ∈ l, ∀ t, TT (f x t) (R x)) → TT (mapT f l t) (Each R l)
  | [], t, _ => ⟨[], t, rfl, .nil⟩
  | x :: l, t, h => by
    obtain ⟨r, t2, e, h2⟩ := h x List.mem_cons_self t
    obtain ⟨rs, t3, e3, h3⟩ := tt_map (l := l) (t := t2) fun y hy => h y (List.mem_cons_of_mem _ hy)
    unfold mapT
    rw [e]; dsimp only [tbn]; rw [e3]
    exact ⟨r :: rs, t3, rfl, .cons h2 h3⟩
theorem tt_lrk_nx {o : Option (LR σ ρ × List Int)} {I : σ → Prop} {F : σ → List Int → Option (β × List Int)} {G : ρ → List Int → Option (β × List Int)} {Q : β → Prop} (h : TT o fun o => ∃ s', o = .nx s' ∧ I s') (k : ∀ s t, I s → TT (F s t) Q) : TT (tbn o fun o t => lrk o (fun s => F s t) fun r => G r t) Q := by
  obtain ⟨r, t, rfl, s, rfl, i⟩ := h
  exact k s t i
theorem end_of {o : Option (Bool × List Int)} (h : TT o (· = true)) : ∃ t2, o = some (true, t2) := by
  obtain ⟨r, t, e, rfl⟩ := h
  exact ⟨t, e⟩
end
section
variable {α β γ σ ρ : Type}
theorem obn_ex {o : Option α} {k : α → Option β} {r : β} (h : obn o k = some r) : ∃ x, o = some x ∧ k x = some r := by
  cases o with
  | none => cases h
  | some x => exact ⟨x, rfl, h⟩
end
end Mini
end
section
namespace Mini
open PySem L2
section
variable {α β : Type} {e : α → D} {ε ε1 : VEnv} {τ τ1 τ2 : Tape} {k : Bool} {a : UE} {g : VG} {p : UB}
theorem nl_allO {one : D → VEnv → Tape → Option (Bool × Tape)} : ∀ {l : List α} {f : α → Option Bool} (_ : ∀ x ∈ l, ∀ b, f x = some b → one (e x) ε τ = some (b, τ)) {r : Bool} (_ : allO f l = some r), uNL true one (l.map e) ε τ = some (r, τ)
  | [], f, _, r, h => by cases h; rfl
  | x :: l, f, h, r, hr => by
    refine obn_e hr fun b e1 hr => ?_
    have ih := fun {r} hr => nl_allO (l := l) (f := f) (r := r) (fun y hy => h y (List.mem_cons_of_mem _ hy)) hr
    rw [List.map_cons]
    unfold uNL
    rw [h x List.mem_cons_self b e1]
    cases b with
    | false => cases hr; rfl
    | true => dsimp only; rw [if_pos rfl]; exact ih hr
theorem no_m {inn : VEnv → Tape → Option (Bool × Tape)} {x : α} {b : Bool} (h1 : g (e x) ε = some ε1) (h : inn ε1 τ = some (b, τ)) : uNOne k g cYes inn (e x) ε τ = some (b, τ) := by
  unfold uNOne; rw [h1]; exact h
theorem no_y {inn : VEnv → Tape → Option (Bool × Tape)} {x : α} {b c : Bool} (h1 : g (e x) ε = some ε1) (h2 : p ε1 τ = some (c, τ)) (hc : c = true) (h : inn ε1 τ = some (b, τ)) : uNOne k g p inn (e x) ε τ = some (b, τ) := by
  subst hc; unfold uNOne; rw [h1]; dsimp only; rw [h2]; exact h
theorem no_n {inn : VEnv → Tape → Option (Bool × Tape)} {x : α} {c : Bool} (h1 : g (e x) ε = some ε1) (h2 : p ε1 τ = some (c, τ)) (hc : c = false) : uNOne k g p inn (e x) ε τ = some (k, τ) := by
  subst hc; unfold uNOne; rw [h1]; dsimp only; rw [h2]
theorem ni_nil {q : Bool} (h : a ε τ = some (.p (.bl q), τ)) : uNIn k a [] ε τ = some (q, τ) := by unfold uNIn; rw [h]
theorem ni_c {w : UW} {vs : List Nat} {xs : List VCl} {ds : List D} {b : Bool} (hw : w ε τ = some (ds, τ)) (h : uNL k (uNOne k g p (uNIn k a xs)) ds (wipeV ε vs) τ = some (b, τ)) : uNIn k a (⟨w, vs, g, p⟩ :: xs) ε τ = some (b, τ) := by
  show (match w ε τ with
    | none => none
    | some (ds, τ1) => uNL k (uNOne k g p (uNIn k a xs)) ds (wipeV ε vs) τ1) = _
  rw [hw]; exact h
theorem u_bN {xs : List VCl} {b : Bool} (h : uNIn k a xs ε τ = some (b, τ)) : uBoolN k a xs ε τ = some (.p (.bl b), τ) := by unfold uBoolN; rw [h]
end
theorem p_mov {γ : Type} {Post : γ → Option URes → Prop} {t : γ} {u : US} {ε : VEnv} {τ : Tape} {i j : Nat} {w : W} (h : ε[i]? = some (some w)) (k : Post t (u ((ε.set j (some w)).set i none) τ)) : Post t (tSeq (tMov i j) u ε τ) :=
  p_eq (t_seq (by unfold tMov; rw [h]) rfl) k
section
variable {α β : Type} {r : α → W} {f : β → D} {ε : VEnv} {τ : Tape} {a : UE} {p : UB} {i : Nat}
end
end Mini
end
section
namespace Mini
open PySem L2
class KI {κ : Type} (kf : κ → Key) : Prop where
  inj : ∀ a b, kf a = kf b → a = b
instance : KI (fun x : Str => (.inr x : Key)) := ⟨fun a b h => by cases h; rfl⟩
instance : KI (fun x : Int => (.inl x : Key)) := ⟨fun a b h => by cases h; rfl⟩
section
variable {κ α : Type} [DecidableEq κ] {kf : κ → Key} {e : α → D}
variable {o i f a b : UE} {ε : VEnv} {τ τ1 τ2 τ3 : Tape} {l : List (κ × α)} {k : κ} {v : α} {d : D}
end
end Mini
end
section
namespace Mini
open PySem L2
theorem u_plT {a : UE} {ε : VEnv} {τ τ1 : Tape} {d : D} (h : a ε τ = some (.p d, τ1)) : uPl a ε τ = some (.p d, τ1) := by unfold uPl; rw [h]
def plusMO (xs : List D) (ws : List W) : Option (List W) := if xs.length + ws.length ≤ 1000000 then some (xs.map .p ++ ws) else none
theorem u_plusM {a b : UE} {ε : VEnv} {τ τ1 τ2 : Tape} {xs : List D} {ws r : List W} (h : a ε τ = some (.l xs, τ1)) (h2 : b ε τ1 = some (.n ws, τ2)) (h3 : plusMO xs ws = some r) : uPlusM a b ε τ = some (.n r, τ2) := by
  unfold plusMO at h3
  split at h3
  · rename_i c
    cases h3
    unfold uPlusM
    rw [h]; dsimp only; rw [h2]; dsimp only; rw [if_pos c]
  · cases h3
theorem wIx_W {l : List W} {i : Int} {w : W} (h : atI l i = some w) : wIx (.n l) (.p (.int i)) = some w := h
end Mini
end
section
namespace Mini
open PySem L2
def setNB (l : List Bool) : Option Int := if l.length < 4000 then some (nBls l : Int) else none
variable {a : UE} {ε : VEnv} {τ τ1 : Tape}
theorem u_lenBo {l : List Bool} {n : Int} (h : a ε τ = some (.l (l.map D.bl), τ1)) (h2 : setNB l = some n) : uLenSetBo a ε τ = some (.p (.int n), τ1) := by
  unfold setNB at h2
  split at h2
  · rename_i c
    cases h2
    unfold uLenSetBo; rw [h]; dsimp only; rw [asBls_map]; dsimp only; rw [if_pos c]
  · cases h2
end Mini
end
section
set_option maxHeartbeats 4000000
namespace K24
open PySem PySem.Spec PyProof.Rows L2 GxR He Mini
def top (i : Nat) : Stmt := PySem.Challenge.pw_proofabode_k24_classes_of_gates.main.body.getD i (.Pass ⟨0, 0, 0, 0⟩)
abbrev s0 : Stmt := top 1
abbrev s1 : Stmt := top 3
abbrev s2 : Stmt := top 4
abbrev s3 : Stmt := top 5
abbrev s4 : Stmt := top 6
abbrev s5 : Stmt := top 7
abbrev s6 : Stmt := top 8
abbrev s7 : Stmt := top 9
abbrev s8 : Stmt := top 10
abbrev s9 : Stmt := top 11
abbrev s10 : Stmt := top 13
abbrev s11 : Stmt := top 14
abbrev s12 : Stmt := top 15
abbrev s13 : Stmt := top 16
abbrev s14 : Stmt := top 17
abbrev s15 : Stmt := top 18
abbrev s16 : Stmt := top 19
abbrev s17 : Stmt := top 20
abbrev s18 : Stmt := top 21
def m0 (T : Nat → List D → Sto → Option (D × Sto)) : XS := (sSeq (sRet (xAnd (xIsi .int (xVar 0)) (xAnd (xNot (xIsi .bool (xVar 0))) (xOp fGe (xVar 0) (xC (.int 0)))))) sNil)
theorem sc0 : FnScope ["value"] ["value"] (defScope s0) := ⟨rfl, rfl, rfl, by decide +kernel, rfl, by decide +kernel, by decide +kernel⟩
def m1 (T : Nat → List D → Sto → Option (D × Sto)) : XS := (sSeq (sIf (bOr (bNot (bTru (xIsi .tuple (xVar 0)))) (bOr (bVal (xOp fNe (xAll fLen (xCons (xVar 0) xNil)) (xC (.int 3)))) (bOr (bNot (bTru (xIsi .str (xOp fIx (xVar 0) (xC (.int 0)))))) (bVal (xOp fNe (xOp fIx (xVar 0) (xC (.int 0))) (xC (.str "gate"))))))) (sSeq (sRet (xC (.bl false))) sNil) sNil) (sSeq (sIf (bOr (bNot (bTru (xCall 1 (T 0) (xCons (xOp fIx (xVar 0) (xC (.int 1))) xNil)))) (bOr (bVal (xOp fGtA (xOp fIx (xVar 0) (xC (.int 1))) (xC (.int 8)))) (bOr (bNot (bTru (xIsi .tuple (xOp fIx (xVar 0) (xC (.int 2)))))) (bVal (xOp fNe (xAll fLen (xCons (xOp fIx (xVar 0) (xC (.int 2))) xNil)) (xCall 1 (T 2) (xCons (xOp fIx (xVar 0) (xC (.int 1))) xNil))))))) (sSeq (sRet (xC (.bl false))) sNil) sNil) (sSeq (sRet (xQ true (wAny (xOp fIx (xVar 0) (xC (.int 2)))) [1] (gN 1) bYes (xAnd (xCall 1 (T 0) (xCons (xVar 1) xNil)) (xOp fLtA (xVar 1) (xC (.int 2)))))) sNil)))
theorem sc1 : FnScope ["value", "bit"] ["value"] (defScope s1) := ⟨rfl, rfl, rfl, by decide +kernel, rfl, by decide +kernel, by decide +kernel⟩
def m2 (T : Nat → List D → Sto → Option (D × Sto)) : XS := (sSeq (sAsg (xC (.int 1)) (gN 1)) (sSeq (sFor (wRng1 (xVar 0)) (gN 2) (sSeq (sAsg (xOp fMul (xVar 1) (xC (.int 2))) (gN 1)) sNil)) (sSeq (sRet (xVar 1)) sNil)))
theorem sc2 : FnScope ["many", "found", "_"] ["many"] (defScope s2) := ⟨rfl, rfl, rfl, by decide +kernel, rfl, by decide +kernel, by decide +kernel⟩
def m3 (T : Nat → List D → Sto → Option (D × Sto)) : XS := (sSeq (sAsg (xC (.int 0)) (gN 1)) (sSeq (sFor (wAny (xVar 0)) (gN 2) (sSeq (sAsg (xOp fAdd (xOp fMul (xC (.int 2)) (xVar 1)) (xVar 2)) (gN 1)) sNil)) (sSeq (sRet (xVar 1)) sNil)))
theorem sc3 : FnScope ["inputs", "found", "bit"] ["inputs"] (defScope s3) := ⟨rfl, rfl, rfl, by decide +kernel, rfl, by decide +kernel, by decide +kernel⟩
def m4 (T : Nat → List D → Sto → Option (D × Sto)) : XS := (sSeq (sAsg (xAll mkLst xNil) (gN 2)) (sSeq (sFor (wRng1 (xVar 0)) (gN 3) (sSeq (sExpr (xMet okList fApp (xVar 2) (xCons (xOp fMod (xVar 1) (xC (.int 2))) xNil))) (sSeq (sAsg (xOp fDiv (xVar 1) (xC (.int 2))) (gN 1)) sNil))) (sSeq (sRet (xAll fTup (xCons (xRev (xVar 2)) xNil))) sNil)))
theorem sc4 : FnScope ["many", "place", "found", "_"] ["many", "place"] (defScope s4) := ⟨rfl, rfl, rfl, by decide +kernel, rfl, by decide +kernel, by decide +kernel⟩
def m5 (T : Nat → List D → Sto → Option (D × Sto)) : XS := (sSeq (sRet (xOp fIx (xOp fIx (xVar 0) (xC (.int 2))) (xCall 1 (T 3) (xCons (xVar 1) xNil)))) sNil)
theorem sc5 : FnScope ["gate", "inputs"] ["gate", "inputs"] (defScope s5) := ⟨rfl, rfl, rfl, by decide +kernel, rfl, by decide +kernel, by decide +kernel⟩
def m6 (T : Nat → List D → Sto → Option (D × Sto)) : XS := (sSeq (sAsg (xLc (wRng1 (xAll fLen (xCons (xOp fIx (xVar 0) (xC (.int 2))) xNil))) [2] (gN 2) bYes (xCall 2 (T 4) (xCons (xOp fIx (xVar 0) (xC (.int 1))) (xCons (xVar 2) xNil)))) (gN 1)) (sSeq (sRet (xBoolN true (xOp fLe (xOp fIx (xOp fIx (xVar 0) (xC (.int 2))) (xVar 3)) (xOp fIx (xOp fIx (xVar 0) (xC (.int 2))) (xVar 4))) [⟨(wRng1 (xAll fLen (xCons (xVar 1) xNil))), [3, 4], (gN 3), bYes⟩, ⟨(wRng1 (xAll fLen (xCons (xVar 1) xNil))), [4], (gN 4), (bTru (xQ true (wZip (xOp fIx (xVar 1) (xVar 3)) (xOp fIx (xVar 1) (xVar 4))) [5, 6] (gT 2 (gsC (gN 5) (gsC (gN 6) gsN))) bYes (xOp fLe (xVar 5) (xVar 6))))⟩])) sNil))
theorem sc6 : FnScope ["gate", "rows", "place", "one", "two", "low", "high"] ["gate"] (defScope s6) := ⟨rfl, rfl, rfl, by decide +kernel, rfl, by decide +kernel, by decide +kernel⟩
def m7 (T : Nat → List D → Sto → Option (D × Sto)) : XS := (sSeq (sRet (xQ true (wRng1 (xAll fLen (xCons (xOp fIx (xVar 0) (xC (.int 2))) xNil))) [1] (gN 1) bYes (xOp fNe (xOp fIx (xOp fIx (xVar 0) (xC (.int 2))) (xVar 1)) (xOp fIx (xOp fIx (xVar 0) (xC (.int 2))) (xOp fSub (xOp fSub (xAll fLen (xCons (xOp fIx (xVar 0) (xC (.int 2))) xNil)) (xC (.int 1))) (xVar 1)))))) sNil)
theorem sc7 : FnScope ["gate", "place"] ["gate"] (defScope s7) := ⟨rfl, rfl, rfl, by decide +kernel, rfl, by decide +kernel, by decide +kernel⟩
def m8 (T : Nat → List D → Sto → Option (D × Sto)) : XS := (sSeq (sAsg (xOp fIx (xVar 0) (xC (.int 1))) (gN 1)) (sSeq (sFor (wRng1 (xVar 1)) (gN 2) (sSeq (sAsg (xAll mkLst xNil) (gN 3)) (sSeq (sFor (wRng1 (xAll fLen (xCons (xOp fIx (xVar 0) (xC (.int 2))) xNil))) (gN 4) (sSeq (sAsg (xCall 2 (T 4) (xCons (xVar 1) (xCons (xVar 4) xNil))) (gN 5)) (sSeq (sAsg (xOp fPlus (xOp fPlus (xSl (xVar 5) xoN (xoS (xVar 2))) (xAll mkTup (xCons (xOp fSub (xC (.int 1)) (xOp fIx (xVar 5) (xVar 2))) xNil))) (xSl (xVar 5) (xoS (xOp fAdd (xVar 2) (xC (.int 1)))) xoN)) (gN 6)) (sSeq (sExpr (xMet okList fApp (xVar 3) (xCons (xOp fNe (xOp fIx (xOp fIx (xVar 0) (xC (.int 2))) (xVar 4)) (xCall 2 (T 5) (xCons (xVar 0) (xCons (xVar 6) xNil)))) xNil))) sNil)))) (sSeq (sIf (bVal (xOp fGtA (xLenSetBo (xVar 3)) (xC (.int 1)))) (sSeq (sRet (xC (.bl false))) sNil) sNil) sNil)))) (sSeq (sRet (xC (.bl true))) sNil)))
theorem sc8 : FnScope ["gate", "many", "place", "turns", "number", "row", "other"] ["gate"] (defScope s8) := ⟨rfl, rfl, rfl, by decide +kernel, rfl, by decide +kernel, by decide +kernel⟩
def m9 (T : Nat → List D → Sto → Option (D × Sto)) : XS := (sSeq (sIf (bVal (xOp fEq (xVar 1) (xC (.str "zero")))) (sSeq (sRet (xOp fEq (xOp fIx (xOp fIx (xVar 0) (xC (.int 2))) (xC (.int 0))) (xC (.int 0)))) sNil) sNil) (sSeq (sIf (bVal (xOp fEq (xVar 1) (xC (.str "one")))) (sSeq (sRet (xOp fEq (xOp fIx (xOp fIx (xVar 0) (xC (.int 2))) (xUn fNeg (xC (.int 1)))) (xC (.int 1)))) sNil) sNil) (sSeq (sIf (bVal (xOp fEq (xVar 1) (xC (.str "rising")))) (sSeq (sRet (xCall 1 (T 6) (xCons (xVar 0) xNil))) sNil) sNil) (sSeq (sRet (xIf (bVal (xOp fEq (xVar 1) (xC (.str "turned")))) (xCall 1 (T 7) (xCons (xVar 0) xNil)) (xCall 1 (T 8) (xCons (xVar 0) xNil)))) sNil))))
theorem sc9 : FnScope ["gate", "word"] ["gate", "word"] (defScope s9) := ⟨rfl, rfl, rfl, by decide +kernel, rfl, by decide +kernel, by decide +kernel⟩
def m10 (T : Nat → List D → Sto → Option (D × Sto)) : XS := (sSeq (sRet (xAll mkLst (xCons (xCall 3 (T 11) (xCons (xVar 0) (xCons (xVar 1) (xCons (xVar 2) xNil)))) (xCons (xC (.int 0)) xNil)))) sNil)
theorem sc10 : FnScope ["script", "first", "last"] ["script", "first", "last"] (defScope s10) := ⟨rfl, rfl, rfl, by decide +kernel, rfl, by decide +kernel, by decide +kernel⟩
def m11 (T : Nat → List D → Sto → Option (D × Sto)) : XS := (sSeq (sAsg (xAll mkLst xNil) (gN 3)) (sSeq (sFor (wRng2 (xVar 1) (xVar 2)) (gN 4) (sSeq (sAsg (xCall 2 (T 12) (xCons (xVar 0) (xCons (xVar 4) xNil))) (gN 5)) (sSeq (sIf (bVal (xOp fLt (xVar 5) (xC (.int 0)))) (sSeq (sAsg (xOp fSub (xC (.int 1)) (xOp fMul (xC (.int 2)) (xVar 5))) (gN 5)) sNil) sNil) (sSeq (sIf (bVal (xOp fGe (xVar 5) (xOp fPow (xC (.int 10)) (xC (.int 18))))) (sSeq (sFor (wRng1 (xC (.int 60))) (gN 6) (sSeq (sIf (bVal (xOp fGt (xVar 5) (xC (.int 0)))) (sSeq (sExpr (xMet okList fApp (xVar 3) (xCons (xOp fMod (xAll fInt (xCons (xVar 5) xNil)) (xC (.int 1000))) xNil))) (sSeq (sAsg (xOp fDiv (xVar 5) (xC (.int 1000))) (gN 5)) sNil)) sNil) sNil)) sNil) (sSeq (sAsg (xOp fMod (xAll fInt (xCons (xOp fAdd (xOp fAdd (xOp fMul (xVar 5) (xC (.int 48271))) (xOp fMul (xVar 4) (xC (.int 69621)))) (xC (.int 11))) xNil)) (xC (.int 2147483647))) (gN 7)) (sSeq (sFor (wRng1 (xC (.int 12))) (gN 6) (sSeq (sAsg (xOp fMod (xAll fInt (xCons (xOp fAdd (xOp fAdd (xOp fMul (xVar 7) (xC (.int 16807))) (xOp fMul (xC (.int 7)) (xVar 6))) (xC (.int 1))) xNil)) (xC (.int 2147483647))) (gN 7)) (sSeq (sExpr (xMet okList fApp (xVar 3) (xCons (xOp fMod (xAll fInt (xCons (xOp fDiv (xVar 7) (xC (.int 997))) xNil)) (xC (.int 1000))) xNil))) sNil))) sNil))) sNil)))) (sSeq (sRet (xVar 3)) sNil)))
theorem sc11 : FnScope ["script", "first", "last", "digits", "k", "cell", "turn", "seed"] ["script", "first", "last"] (defScope s11) := ⟨rfl, rfl, rfl, by decide +kernel, rfl, by decide +kernel, by decide +kernel⟩
def m12 (T : Nat → List D → Sto → Option (D × Sto)) : XS := (sSeq (sIf (bVal (xOp fLt (xVar 1) (xAll fLen (xCons (xVar 0) xNil)))) (sSeq (sRet (xOp fIx (xVar 0) (xVar 1))) sNil) sNil) (sSeq (sRet (xC (.int 0))) sNil))
theorem sc12 : FnScope ["script", "k"] ["script", "k"] (defScope s12) := ⟨rfl, rfl, rfl, by decide +kernel, rfl, by decide +kernel, by decide +kernel⟩
def m13 (T : Nat → List D → Sto → Option (D × Sto)) : XS := (sSeq (sAsg (xCall 2 (T 14) (xCons (xVar 0) (xCons (xOp fAdd (xVar 1) (xC (.int 1))) xNil))) (gN 2)) (sSeq (sAsg (xOp fIx (xAll mkLst (xCons (xC (.int 1)) (xCons (xC (.int 2)) (xCons (xC (.int 4)) (xCons (xC (.int 8)) xNil))))) (xVar 2)) (gN 3)) (sSeq (sRet (xAll mkTup (xCons (xC (.str "gate")) (xCons (xVar 2) (xCons (xAll fTup (xCons (xLc (wRng1 (xVar 3)) [4] (gN 4) bYes (xCall 2 (T 14) (xCons (xVar 0) (xCons (xC (.int 2)) xNil)))) xNil)) xNil))))) sNil)))
theorem sc13 : FnScope ["box", "most", "many", "size", "k"] ["box", "most"] (defScope s13) := ⟨rfl, rfl, rfl, by decide +kernel, rfl, by decide +kernel, by decide +kernel⟩
def m14 (T : Nat → List D → Sto → Option (D × Sto)) : XS := (sSeq (sAsg (xOp fIx (xVar 0) (xC (.int 1))) (gN 2)) (sSeq (sPut fPut (xOp fAdd (xVar 2) (xC (.int 1))) (xVar 0) (xC (.int 1))) (sSeq (sIf (bVal (xOp fLt (xVar 2) (xAll fLen (xCons (xOp fIx (xVar 0) (xC (.int 0))) xNil)))) (sSeq (sRet (xOp fMod (xAll fInt (xCons (xOp fIx (xOp fIx (xVar 0) (xC (.int 0))) (xVar 2)) xNil)) (xVar 1))) sNil) sNil) (sSeq (sRet (xC (.int 0))) sNil))))
theorem sc14 : FnScope ["box", "many", "at"] ["box", "many"] (defScope s14) := ⟨rfl, rfl, rfl, by decide +kernel, rfl, by decide +kernel, by decide +kernel⟩
def m15 (T : Nat → List D → Sto → Option (D × Sto)) : XS := (sSeq (sIf (bTru (xIsi .tuple (xVar 1))) (sSeq (sIf (bOr (bNot (bTru (xIsi .tuple (xVar 0)))) (bVal (xOp fNe (xAll fLen (xCons (xVar 0) xNil)) (xAll fLen (xCons (xVar 1) xNil))))) (sSeq (sRet (xC (.bl false))) sNil) sNil) (sSeq (sFor (wRng1 (xAll fLen (xCons (xVar 1) xNil))) (gN 2) (sSeq (sIf (bNot (bTru (xCall 2 (T 15) (xCons (xOp fIx (xVar 0) (xVar 2)) (xCons (xOp fIx (xVar 1) (xVar 2)) xNil))))) (sSeq (sRet (xC (.bl false))) sNil) sNil) sNil)) (sSeq (sRet (xC (.bl true))) sNil))) sNil) (sSeq (sIf (bVal (xOp fIs (xVar 1) (xC .non))) (sSeq (sRet (xOp fIs (xVar 0) (xC .non))) sNil) sNil) (sSeq (sIf (bTru (xIsi .bool (xVar 1))) (sSeq (sRet (xAnd (xIsi .bool (xVar 0)) (xOp fEq (xVar 0) (xVar 1)))) sNil) sNil) (sSeq (sIf (bTru (xIsi .int (xVar 1))) (sSeq (sRet (xAnd (xIsi .int (xVar 0)) (xAnd (xNot (xIsi .bool (xVar 0))) (xOp fEq (xVar 0) (xVar 1))))) sNil) sNil) (sSeq (sRet (xAnd (xIsi .str (xVar 0)) (xOp fEq (xVar 0) (xVar 1)))) sNil)))))
theorem sc15 : FnScope ["actual", "expected", "k"] ["actual", "expected"] (defScope s15) := ⟨rfl, rfl, rfl, by decide +kernel, rfl, by decide +kernel, by decide +kernel⟩
def m16 (T : Nat → List D → Sto → Option (D × Sto)) : XS := (sSeq (sAsg (xCall 1 (T 17) (xCons (xOp fIx (xVar 0) (xC (.int 1))) xNil)) (gN 2)) (sSeq (sAsg (xOp fIx (xVar 0) (xC (.int 2))) (gN 3)) (sSeq (sIf (bVal (xOp fEq (xVar 1) (xC (.str "zero")))) (sSeq (sRet (xOp fEq (xOp fIx (xVar 3) (xC (.int 0))) (xC (.int 0)))) sNil) sNil) (sSeq (sIf (bVal (xOp fEq (xVar 1) (xC (.str "one")))) (sSeq (sRet (xOp fEq (xOp fIx (xVar 3) (xOp fSub (xAll fLen (xCons (xVar 3) xNil)) (xC (.int 1)))) (xC (.int 1)))) sNil) sNil) (sSeq (sFor (wRng1 (xAll fLen (xCons (xVar 2) xNil))) (gN 4) (sSeq (sFor (wRng1 (xAll fLen (xCons (xVar 2) xNil))) (gN 5) (sSeq (sIf (bAnd (bVal (xOp fEq (xVar 1) (xC (.str "rising")))) (bAnd (bVal (xOp fEq (xAll fLen (xCons (xLc (wRng1 (xOp fIx (xVar 0) (xC (.int 1)))) [6] (gN 6) (bVal (xOp fGtA (xOp fIx (xOp fIx (xVar 2) (xVar 4)) (xVar 6)) (xOp fIx (xOp fIx (xVar 2) (xVar 5)) (xVar 6)))) (xVar 6)) xNil)) (xC (.int 0)))) (bVal (xOp fGtA (xOp fIx (xVar 3) (xVar 4)) (xOp fIx (xVar 3) (xVar 5)))))) (sSeq (sRet (xC (.bl false))) sNil) sNil) (sSeq (sIf (bAnd (bVal (xOp fEq (xVar 1) (xC (.str "turned")))) (bAnd (bVal (xOp fEq (xOp fIx (xVar 2) (xVar 5)) (xAll fTup (xCons (xLc (wAny (xOp fIx (xVar 2) (xVar 4))) [9] (gN 9) bYes (xOp fSub (xC (.int 1)) (xVar 9))) xNil)))) (bVal (xOp fEq (xOp fIx (xVar 3) (xVar 4)) (xOp fIx (xVar 3) (xVar 5)))))) (sSeq (sRet (xC (.bl false))) sNil) sNil) sNil))) sNil)) (sSeq (sIf (bVal (xOp fEq (xVar 1) (xC (.str "even")))) (sSeq (sFor (wRng1 (xOp fIx (xVar 0) (xC (.int 1)))) (gN 6) (sSeq (sAsg (xAll mkLst xNil) (gN 7)) (sSeq (sFor (wRng1 (xAll fLen (xCons (xVar 2) xNil))) (gN 4) (sSeq (sAsg (xOp fPlus (xOp fPlus (xSl (xOp fIx (xVar 2) (xVar 4)) xoN (xoS (xVar 6))) (xAll mkTup (xCons (xOp fSub (xC (.int 1)) (xOp fIx (xOp fIx (xVar 2) (xVar 4)) (xVar 6))) xNil))) (xSl (xOp fIx (xVar 2) (xVar 4)) (xoS (xOp fAdd (xVar 6) (xC (.int 1)))) xoN)) (gN 8)) (sSeq (sExpr (xMet okList fApp (xVar 7) (xCons (xOp fNe (xOp fIx (xVar 3) (xVar 4)) (xOp fIx (xVar 3) (xMet okList fIdx (xVar 2) (xCons (xVar 8) xNil)))) xNil))) sNil))) (sSeq (sIf (bVal (xOp fGtA (xLenSetBo (xVar 7)) (xC (.int 1)))) (sSeq (sRet (xC (.bl false))) sNil) sNil) sNil)))) sNil) sNil) (sSeq (sRet (xC (.bl true))) sNil)))))))
theorem sc16 : FnScope ["gate", "word", "rows", "bits", "x", "y", "k", "turns", "other", "b"] ["gate", "word"] (defScope s16) := ⟨rfl, rfl, rfl, by decide +kernel, rfl, by decide +kernel, by decide +kernel⟩
def m17 (T : Nat → List D → Sto → Option (D × Sto)) : XS := (sSeq (sAsg (xAll mkLst (xCons (xAll mkTup xNil) xNil)) (gN 1)) (sSeq (sFor (wRng1 (xVar 0)) (gN 2) (sSeq (sAsg (xAll mkLst xNil) (gN 3)) (sSeq (sFor (wAny (xVar 1)) (gN 4) (sSeq (sAsg (xOp fPlus (xVar 3) (xAll mkLst (xCons (xOp fPlus (xVar 4) (xAll mkTup (xCons (xC (.int 0)) xNil))) (xCons (xOp fPlus (xVar 4) (xAll mkTup (xCons (xC (.int 1)) xNil))) xNil)))) (gN 3)) sNil)) (sSeq (sAsg (xVar 3) (gN 1)) sNil)))) (sSeq (sRet (xVar 1)) sNil)))
theorem sc17 : FnScope ["many", "rows", "k", "longer", "row"] ["many"] (defScope s17) := ⟨rfl, rfl, rfl, by decide +kernel, rfl, by decide +kernel, by decide +kernel⟩
def m18 (T : Nat → List D → Sto → Option (D × Sto)) : XS := (sSeq (sAsg (xCall 3 (T 10) (xCons (xVar 0) (xCons (xC (.int 0)) (xCons (xC (.int 62)) xNil)))) (gN 1)) (sSeq (sFor (wRng1 (xC (.int 4))) (gN 2) (sSeq (sAsg (xCall 2 (T 13) (xCons (xVar 1) (xCons (xC (.int 3)) xNil))) (gN 3)) (sSeq (sIf (bVal (xOp fEq (xCall 2 (T 14) (xCons (xVar 1) (xCons (xC (.int 3)) xNil))) (xC (.int 0)))) (sSeq (sAsg (xOp fIx (xAll mkLst (xCons (xAll mkTup (xCons (xC (.str "gate")) (xCons (xC (.int 2)) (xCons (xAll mkTup (xCons (xC (.int 0)) (xCons (xC (.int 1)) (xCons (xC (.int 1)) (xCons (xC (.int 0)) xNil))))) xNil)))) (xCons (xAll mkTup (xCons (xC (.str "gate")) (xCons (xC (.int 3)) (xCons (xAll mkTup (xCons (xC (.int 0)) (xCons (xC (.int 0)) (xCons (xC (.int 0)) (xCons (xC (.int 1)) (xCons (xC (.int 0)) (xCons (xC (.int 1)) (xCons (xC (.int 1)) (xCons (xC (.int 1)) xNil))))))))) xNil)))) (xCons (xAll mkTup (xCons (xC (.str "gate")) (xCons (xC (.int 1)) (xCons (xAll mkTup (xCons (xC (.int 1)) (xCons (xC (.int 0)) xNil))) xNil)))) (xCons (xAll mkTup (xCons (xC (.str "gate")) (xCons (xC (.int 2)) (xCons (xAll mkTup (xCons (xC (.int 0)) (xCons (xC (.int 0)) (xCons (xC (.int 0)) (xCons (xC (.int 1)) xNil))))) xNil)))) xNil))))) (xCall 2 (T 14) (xCons (xVar 1) (xCons (xC (.int 4)) xNil)))) (gN 3)) sNil) sNil) (sSeq (sIf (bVal (xOp fIsNot (xCall 1 (T 1) (xCons (xVar 3) xNil)) (xC (.bl true)))) (sSeq (sRet (xC (.bl false))) sNil) sNil) (sSeq (sFor (wAny (xAll mkLst (xCons (xC (.str "zero")) (xCons (xC (.str "one")) (xCons (xC (.str "rising")) (xCons (xC (.str "turned")) (xCons (xC (.str "even")) xNil))))))) (gN 4) (sSeq (sIf (bNot (bTru (xCall 2 (T 15) (xCons (xCall 2 (T 9) (xCons (xVar 3) (xCons (xVar 4) xNil))) (xCons (xCall 2 (T 16) (xCons (xVar 3) (xCons (xVar 4) xNil))) xNil))))) (sSeq (sRet (xC (.bl false))) sNil) sNil) sNil)) (sSeq (sAsg (xAll mkLst (xCons (xC .non) (xCons (xSl (xVar 3) xoN (xoS (xC (.int 2)))) (xCons (xOp fPlus (xAll mkTup (xCons (xC (.str "gates")) xNil)) (xSl (xVar 3) (xoS (xC (.int 1))) xoN)) (xCons (xAll mkTup (xCons (xC (.str "gate")) (xCons (xOp fIx (xVar 3) (xC (.int 1))) (xCons (xOp fPlus (xOp fIx (xVar 3) (xC (.int 2))) (xAll mkTup (xCons (xC (.int 0)) xNil))) xNil)))) (xCons (xAll mkTup (xCons (xC (.str "gate")) (xCons (xOp fIx (xVar 3) (xC (.int 1))) (xCons (xOp fPlus (xAll mkTup (xCons (xC (.int 2)) xNil)) (xSl (xOp fIx (xVar 3) (xC (.int 2))) (xoS (xC (.int 1))) xoN)) xNil)))) xNil)))))) (gN 5)) (sSeq (sAsg (xOp fPlus (xVar 5) (xAll mkLst (xCons (xAll mkTup (xCons (xC (.str "gate")) (xCons (xC (.bl true)) (xCons (xAll mkTup (xCons (xC (.int 0)) (xCons (xC (.int 1)) xNil))) xNil)))) (xCons (xAll mkTup (xCons (xC (.str "gate")) (xCons (xC (.int 1)) (xCons (xAll mkLst (xCons (xC (.int 0)) (xCons (xC (.int 1)) xNil))) xNil)))) (xCons (xAll mkTup (xCons (xC (.str "gate")) (xCons (xC (.int 1)) (xCons (xAll mkTup (xCons (xC (.bl false)) (xCons (xC (.int 1)) xNil))) xNil)))) xNil))))) (gN 5)) (sSeq (sIf (bVal (xOp fIsNot (xCall 1 (T 1) (xCons (xOp fIx (xVar 5) (xCall 2 (T 14) (xCons (xVar 1) (xCons (xC (.int 8)) xNil)))) xNil)) (xC (.bl false)))) (sSeq (sRet (xC (.bl false))) sNil) sNil) sNil)))))))) (sSeq (sRet (xC (.bl true))) sNil)))
theorem sc18 : FnScope ["script", "box", "turn", "gate", "word", "wrong"] ["script"] (defScope s18) := ⟨rfl, rfl, rfl, by decide +kernel, rfl, by decide +kernel, by decide +kernel⟩
def run : Nat → Nat → List D → Sto → Option (D × Sto)
  | 0, _ => fun _ _ => none
  | n + 1, i => match i with
    | 0 => fun ds S => ends (m0 (run n) (entry 1 ds) S)
    | 1 => fun ds S => ends (m1 (run n) (entry 2 ds) S)
    | 2 => fun ds S => ends (m2 (run n) (entry 3 ds) S)
    | 3 => fun ds S => ends (m3 (run n) (entry 3 ds) S)
    | 4 => fun ds S => ends (m4 (run n) (entry 4 ds) S)
    | 5 => fun ds S => ends (m5 (run n) (entry 2 ds) S)
    | 6 => fun ds S => ends (m6 (run n) (entry 7 ds) S)
    | 7 => fun ds S => ends (m7 (run n) (entry 2 ds) S)
    | 8 => fun ds S => ends (m8 (run n) (entry 7 ds) S)
    | 9 => fun ds S => ends (m9 (run n) (entry 2 ds) S)
    | 10 => fun ds S => ends (m10 (run n) (entry 3 ds) S)
    | 11 => fun ds S => ends (m11 (run n) (entry 8 ds) S)
    | 12 => fun ds S => ends (m12 (run n) (entry 2 ds) S)
    | 13 => fun ds S => ends (m13 (run n) (entry 5 ds) S)
    | 14 => fun ds S => ends (m14 (run n) (entry 3 ds) S)
    | 15 => fun ds S => ends (m15 (run n) (entry 3 ds) S)
    | 16 => fun ds S => ends (m16 (run n) (entry 10 ds) S)
    | 17 => fun ds S => ends (m17 (run n) (entry 5 ds) S)
    | 18 => fun ds S => ends (m18 (run n) (entry 6 ds) S)
    | _ => fun _ _ => none
structure Defs (K : PySem.W.Frag) (mg : Str → Option Value) where
  f0 : Addr
  d0 : FuncData
  F0 : Fun K "is_number" "is_number" s0 f0 d0
  k0 : Known K mg "is_number" f0 d0 ["value"]
  f1 : Addr
  d1 : FuncData
  F1 : Fun K "is_gate" "is_gate" s1 f1 d1
  k1 : Known K mg "is_gate" f1 d1 ["value"]
  f2 : Addr
  d2 : FuncData
  F2 : Fun K "size_of" "size_of" s2 f2 d2
  k2 : Known K mg "size_of" f2 d2 ["many"]
  f3 : Addr
  d3 : FuncData
  F3 : Fun K "place_of" "place_of" s3 f3 d3
  k3 : Known K mg "place_of" f3 d3 ["inputs"]
  f4 : Addr
  d4 : FuncData
  F4 : Fun K "inputs_of" "inputs_of" s4 f4 d4
  k4 : Known K mg "inputs_of" f4 d4 ["many", "place"]
  f5 : Addr
  d5 : FuncData
  F5 : Fun K "output" "output" s5 f5 d5
  k5 : Known K mg "output" f5 d5 ["gate", "inputs"]
  f6 : Addr
  d6 : FuncData
  F6 : Fun K "keeps_rising" "keeps_rising" s6 f6 d6
  k6 : Known K mg "keeps_rising" f6 d6 ["gate"]
  f7 : Addr
  d7 : FuncData
  F7 : Fun K "keeps_turned" "keeps_turned" s7 f7 d7
  k7 : Known K mg "keeps_turned" f7 d7 ["gate"]
  f8 : Addr
  d8 : FuncData
  F8 : Fun K "keeps_even" "keeps_even" s8 f8 d8
  k8 : Known K mg "keeps_even" f8 d8 ["gate"]
  f9 : Addr
  d9 : FuncData
  F9 : Fun K "keeps" "keeps" s9 f9 d9
  k9 : Known K mg "keeps" f9 d9 ["gate", "word"]
  f10 : Addr
  d10 : FuncData
  F10 : Fun K "_law_box" "_law_box" s10 f10 d10
  k10 : Known K mg "_law_box" f10 d10 ["script", "first", "last"]
  f11 : Addr
  d11 : FuncData
  F11 : Fun K "_law_digits" "_law_digits" s11 f11 d11
  k11 : Known K mg "_law_digits" f11 d11 ["script", "first", "last"]
  f12 : Addr
  d12 : FuncData
  F12 : Fun K "_law_cell" "_law_cell" s12 f12 d12
  k12 : Known K mg "_law_cell" f12 d12 ["script", "k"]
  f13 : Addr
  d13 : FuncData
  F13 : Fun K "_law_gate" "_law_gate" s13 f13 d13
  k13 : Known K mg "_law_gate" f13 d13 ["box", "most"]
  f14 : Addr
  d14 : FuncData
  F14 : Fun K "_law_draw" "_law_draw" s14 f14 d14
  k14 : Known K mg "_law_draw" f14 d14 ["box", "many"]
  f15 : Addr
  d15 : FuncData
  F15 : Fun K "_law_same" "_law_same" s15 f15 d15
  k15 : Known K mg "_law_same" f15 d15 ["actual", "expected"]
  f16 : Addr
  d16 : FuncData
  F16 : Fun K "_law_keeps" "_law_keeps" s16 f16 d16
  k16 : Known K mg "_law_keeps" f16 d16 ["gate", "word"]
  f17 : Addr
  d17 : FuncData
  F17 : Fun K "_law_inputs" "_law_inputs" s17 f17 d17
  k17 : Known K mg "_law_inputs" f17 d17 ["many"]
  f18 : Addr
  d18 : FuncData
  F18 : Fun K "law" "law" s18 f18 d18
  k18 : Known K mg "law" f18 d18 ["script"]
  z_all : mg "all" = none
  z_bool : mg "bool" = none
  z_int : mg "int" = none
  z_isinstance : mg "isinstance" = none
  z_len : mg "len" = none
  z_range : mg "range" = none
  z_set : mg "set" = none
  z_str : mg "str" = none
  z_tuple : mg "tuple" = none
  z_zip : mg "zip" = none
section
variable [Tabs] {P : Program} {w : World} {K : PySem.W.Frag} {mg : Str → Option Value} {base : Heap} {n : Nat}
structure CallsOk (t : Defs K mg) (P : Program) (w : World) (base : Heap) (n : Nat) (T : Nat → List D → Sto → Option (D × Sto)) : Prop where
  c0 : FnAt P w K mg base 3 n t.f0 t.d0 ["value"] (T 0)
  c1 : FnAt P w K mg base 3 n t.f1 t.d1 ["value"] (T 1)
  c2 : FnAt P w K mg base 3 n t.f2 t.d2 ["many"] (T 2)
  c3 : FnAt P w K mg base 3 n t.f3 t.d3 ["inputs"] (T 3)
  c4 : FnAt P w K mg base 3 n t.f4 t.d4 ["many", "place"] (T 4)
  c5 : FnAt P w K mg base 3 n t.f5 t.d5 ["gate", "inputs"] (T 5)
  c6 : FnAt P w K mg base 3 n t.f6 t.d6 ["gate"] (T 6)
  c7 : FnAt P w K mg base 3 n t.f7 t.d7 ["gate"] (T 7)
  c8 : FnAt P w K mg base 3 n t.f8 t.d8 ["gate"] (T 8)
  c9 : FnAt P w K mg base 3 n t.f9 t.d9 ["gate", "word"] (T 9)
  c10 : FnAt P w K mg base 3 n t.f10 t.d10 ["script", "first", "last"] (T 10)
  c11 : FnAt P w K mg base 3 n t.f11 t.d11 ["script", "first", "last"] (T 11)
  c12 : FnAt P w K mg base 3 n t.f12 t.d12 ["script", "k"] (T 12)
  c13 : FnAt P w K mg base 3 n t.f13 t.d13 ["box", "most"] (T 13)
  c14 : FnAt P w K mg base 3 n t.f14 t.d14 ["box", "many"] (T 14)
  c15 : FnAt P w K mg base 3 n t.f15 t.d15 ["actual", "expected"] (T 15)
  c16 : FnAt P w K mg base 3 n t.f16 t.d16 ["gate", "word"] (T 16)
  c17 : FnAt P w K mg base 3 n t.f17 t.d17 ["many"] (T 17)
  c18 : FnAt P w K mg base 3 n t.f18 t.d18 ["script"] (T 18)
structure Tbs (t : Defs K mg) (base : Heap) : Prop where
  b1 : ∃ cc P, t.d1.code = .ref cc ∧ GxR.TabB base mg cc P ∧ Tabs.ts P
  b6 : ∃ cc P, t.d6.code = .ref cc ∧ GxR.TabB base mg cc P ∧ Tabs.ts P
  b7 : ∃ cc P, t.d7.code = .ref cc ∧ GxR.TabB base mg cc P ∧ Tabs.ts P
theorem ok0 {T : Nat → List D → Sto → Option (D × Sto)} (t : Defs K mg) (C : CallsOk t P w base n T) : FnAt P w K mg base 3 (n + 1) t.f0 t.d0 ["value"] (fun ds S => ends (m0 T (entry 1 ds) S)) := by
  have S := sc0
  refine fnAt_of (by decide) t.F0 S fun cdv A outer s H E hcd hr => ?_
  have hr : Rs 3 n 2 _ := hr
  exact as_body (rs_cons (rs_ret (r_and (r_isi .int (nm := "int") (by rfl) t.z_isinstance (by decide +kernel) (by rfl) t.z_int (by decide +kernel) (r_var 0 rfl (.inl rfl))) (r_and (r_notV (r_isi .bool (nm := "bool") (by rfl) t.z_isinstance (by decide +kernel) (by rfl) t.z_bool (by decide +kernel) (r_var 0 rfl (.inl rfl)))) (r_one (r_cmp op_ge om_ge (r_var 0 rfl (.inl rfl)) r_int (nomark _)))))) rs_nil) rfl rfl
theorem ok1 {T : Nat → List D → Sto → Option (D × Sto)} (t : Defs K mg) (C : CallsOk t P w base n T) (B : ∃ cc P, t.d1.code = .ref cc ∧ GxR.TabB base mg cc P ∧ Tabs.ts P) : FnAt P w K mg base 3 (n + 1) t.f1 t.d1 ["value"] (fun ds S => ends (m1 T (entry 2 ds) S)) := by
  have S := sc1
  obtain ⟨cc, P1, hcc, TB, hP⟩ := B
  refine fnAt_of (by decide) t.F1 S fun cdv A outer s H E hcd hr => ?_
  have hr : Rs 3 n 2 _ := hr
  exact as_body (rs_cons (rs_if (rw_or (r_not (r_tru (r_isi .tuple (nm := "tuple") (by rfl) t.z_isinstance (by decide +kernel) (by rfl) t.z_tuple (by decide +kernel) (r_var 0 rfl (.inl rfl))) (fun _ => rfl))) (rw_or (r_tcmp (orp_ne hr.un250) om_ne (r_blt call_len am_len (by rfl) t.z_len PySem.boot_len (ra_cons (r_var 0 rfl (.inl rfl)) ra_nil)) r_int (nomark _)) (rw_or (r_not (r_tru (r_isi .str (nm := "str") (by rfl) t.z_isinstance (by decide +kernel) (by rfl) t.z_str (by decide +kernel) (r_ix ix_seq om_ix (r_var 0 rfl (.inl rfl)) r_int (fun _ _ => rfl))) (fun _ => rfl))) (rw_or1 (r_tcmp (orp_ne hr.un250) om_ne (r_ix ix_seq om_ix (r_var 0 rfl (.inl rfl)) r_int (fun _ _ => rfl)) r_str (nomark _)))))).pt (rs_cons (rs_ret r_bl) rs_nil) rs_nil) (rs_cons (rs_if (rw_or (r_not (r_tru (r_call C.c0 t.k0 hr (by rfl) 1 rfl (ra_cons (r_ix ix_seq om_ix (r_var 0 rfl (.inl rfl)) r_int (fun _ _ => rfl)) ra_nil)) (fun _ => rfl))) (rw_or (r_tcmp (orp_gtA hr.un250) om_gtA (r_ix ix_seq om_ix (r_var 0 rfl (.inl rfl)) r_int (fun _ _ => rfl)) r_int (nomark _)) (rw_or (r_not (r_tru (r_isi .tuple (nm := "tuple") (by rfl) t.z_isinstance (by decide +kernel) (by rfl) t.z_tuple (by decide +kernel) (r_ix ix_seq om_ix (r_var 0 rfl (.inl rfl)) r_int (fun _ _ => rfl))) (fun _ => rfl))) (rw_or1 (r_tcmp (orp_ne hr.un250) om_ne (r_blt call_len am_len (by rfl) t.z_len PySem.boot_len (ra_cons (r_ix ix_seq om_ix (r_var 0 rfl (.inl rfl)) r_int (fun _ _ => rfl)) ra_nil)) (r_call C.c2 t.k2 hr (by rfl) 1 rfl (ra_cons (r_ix ix_seq om_ix (r_var 0 rfl (.inl rfl)) r_int (fun _ _ => rfl)) ra_nil)) (nomark _)))))).pt (rs_cons (rs_ret r_bl) rs_nil) rs_nil) (rs_cons (rs_ret (r_all rfl (by rfl) t.z_all (by decide +kernel) (gx_ok (N := ["value", "bit"]) [("bit", 1)] [1] (defScope s1) (ck_base TB hP) (hcd.symm.trans hcc) hr rfl rfl (by rfl) S.nd rfl rfl (by decide +kernel) rfl (rw_any (r_ix ix_seq om_ix (r_var 0 rfl (.inl rfl)) r_int (fun _ _ => rfl))) (fun _ => rfl) (fun A' hr s H C' code cl fp c1 P1 hc1 ck1 => (rgw_name 1 S.nd rfl (.inl rfl) (by decide))) (fun A' hr s H C' code cl fp c1 P1 hc1 ck1 => rts_nil) (fun A' hr s H C' code cl fp c1 P1 hc1 ck1 => (r_and (r_call C.c0 t.k0 hr (by rfl) 1 rfl (ra_cons (r_var 1 rfl (.inl rfl)) ra_nil)) (r_one (r_cmp orp_ltA om_ltA (r_var 1 rfl (.inl rfl)) r_int (nomark _)))))))) rs_nil))) rfl rfl
theorem ok2 {T : Nat → List D → Sto → Option (D × Sto)} (t : Defs K mg) (C : CallsOk t P w base n T) : FnAt P w K mg base 3 (n + 1) t.f2 t.d2 ["many"] (fun ds S => ends (m2 T (entry 3 ds) S)) := by
  have S := sc2
  refine fnAt_of (by decide) t.F2 S fun cdv A outer s H E hcd hr => ?_
  have hr : Rs 3 n 2 _ := hr
  exact as_body (rs_cons (rs_asg r_int (rg_name 1 S.nd rfl (.inl rfl))) (rs_cons (rs_for PassesOwn.never rfl (rw_rng1 (by rfl) t.z_range (r_var 0 rfl (.inl rfl))) (rg_name 2 S.nd rfl (.inl rfl)) (rs_cons (rs_augG (i := 1) S.nd rfl (.inl rfl) r_int iop_mul om_mul) rs_nil)) (rs_cons (rs_ret (r_var 1 rfl (.inl rfl))) rs_nil))) rfl rfl
theorem ok3 {T : Nat → List D → Sto → Option (D × Sto)} (t : Defs K mg) (C : CallsOk t P w base n T) : FnAt P w K mg base 3 (n + 1) t.f3 t.d3 ["inputs"] (fun ds S => ends (m3 T (entry 3 ds) S)) := by
  have S := sc3
  refine fnAt_of (by decide) t.F3 S fun cdv A outer s H E hcd hr => ?_
  have hr : Rs 3 n 2 _ := hr
  exact as_body (rs_cons (rs_asg r_int (rg_name 1 S.nd rfl (.inl rfl))) (rs_cons (rs_for PassesOwn.never rfl (rw_any (r_var 0 rfl (.inl rfl))) (rg_name 2 S.nd rfl (.inl rfl)) (rs_cons (rs_asg (r_op orp_add om_add (r_op op_mul om_mul r_int (r_var 1 rfl (.inl rfl))) (r_var 2 rfl (.inl rfl))) (rg_name 1 S.nd rfl (.inl rfl))) rs_nil)) (rs_cons (rs_ret (r_var 1 rfl (.inl rfl))) rs_nil))) rfl rfl
theorem ok4 {T : Nat → List D → Sto → Option (D × Sto)} (t : Defs K mg) (C : CallsOk t P w base n T) : FnAt P w K mg base 3 (n + 1) t.f4 t.d4 ["many", "place"] (fun ds S => ends (m4 T (entry 4 ds) S)) := by
  have S := sc4
  refine fnAt_of (by decide) t.F4 S fun cdv A outer s H E hcd hr => ?_
  have hr : Rs 3 n 2 _ := hr
  exact as_body (rs_cons (rs_asg (r_lst ra_nil) (rg_name 2 S.nd rfl (.inl rfl))) (rs_cons (rs_for PassesOwn.never rfl (rw_rng1 (by rfl) t.z_range (r_var 0 rfl (.inl rfl))) (rg_name 3 S.nd rfl (.inl rfl)) (rs_cons (rs_expr (r_met PySem.F.plainAttrs_list PySem.F.slot_list_append PySem.F.type_list_append mt_append mm_app okList_ty (r_var 2 rfl (.inl rfl)) (ra_cons (r_op op_mod om_mod (r_var 1 rfl (.inl rfl)) r_int) ra_nil))) (rs_cons (rs_augG (i := 1) S.nd rfl (.inl rfl) r_int iop_fdiv om_div) rs_nil))) (rs_cons (rs_ret (r_typ call_tuple_of am_tup (by rfl) t.z_tuple (by decide +kernel) (ra_cons (r_rev (r_var 2 rfl (.inl rfl))) ra_nil))) rs_nil))) rfl rfl
theorem ok5 {T : Nat → List D → Sto → Option (D × Sto)} (t : Defs K mg) (C : CallsOk t P w base n T) : FnAt P w K mg base 3 (n + 1) t.f5 t.d5 ["gate", "inputs"] (fun ds S => ends (m5 T (entry 2 ds) S)) := by
  have S := sc5
  refine fnAt_of (by decide) t.F5 S fun cdv A outer s H E hcd hr => ?_
  have hr : Rs 3 n 2 _ := hr
  exact as_body (rs_cons (rs_ret (r_ix ix_seq om_ix (r_ix ix_seq om_ix (r_var 0 rfl (.inl rfl)) r_int (fun _ _ => rfl)) (r_call C.c3 t.k3 hr (by rfl) 1 rfl (ra_cons (r_var 1 rfl (.inl rfl)) ra_nil)) (fun _ _ => rfl))) rs_nil) rfl rfl
theorem ok6 {T : Nat → List D → Sto → Option (D × Sto)} (t : Defs K mg) (C : CallsOk t P w base n T) (B : ∃ cc P, t.d6.code = .ref cc ∧ GxR.TabB base mg cc P ∧ Tabs.ts P) : FnAt P w K mg base 3 (n + 1) t.f6 t.d6 ["gate"] (fun ds S => ends (m6 T (entry 7 ds) S)) := by
  have S := sc6
  obtain ⟨cc, P1, hcc, TB, hP⟩ := B
  refine fnAt_of (by decide) t.F6 S fun cdv A outer s H E hcd hr => ?_
  have hr : Rs 3 n 2 _ := hr
  exact as_body (rs_cons (rs_asg (r_lc (N := ["gate", "rows", "place", "one", "two", "low", "high"]) [("place", 2)] [2] (defScope s6) rfl S.nd rfl rfl rfl (by decide +kernel) (rw_rng1 (by rfl) t.z_range (r_blt call_len am_len (by rfl) t.z_len PySem.boot_len (ra_cons (r_ix ix_seq om_ix (r_var 0 rfl (.inr (.inl rfl))) r_int (fun _ _ => rfl)) ra_nil))) (fun s H C' cl fp => (rgw_name 2 S.nd rfl (.inl rfl) (by decide))) (fun s H C' cl fp => rts_nil) (fun s H C' cl fp => (r_call C.c4 t.k4 hr (by rfl) 2 rfl (ra_cons (r_ix ix_seq om_ix (r_var 0 rfl (.inr (.inl rfl))) r_int (fun _ _ => rfl)) (ra_cons (r_var 2 rfl (by first | exact .inl rfl | exact .inr (.inl rfl) | exact .inr (.inr rfl))) ra_nil))))) (rg_name 1 S.nd rfl (.inr rfl))) (rs_cons (rs_ret (r_all2 (by rfl) t.z_all (by decide +kernel) (gx_ok2 (N := ["gate", "rows", "place", "one", "two", "low", "high"]) [("one", 3), ("two", 4)] [3, 4] [4] (defScope s6) (ck_base TB hP) (hcd.symm.trans hcc) hr rfl rfl (by rfl) S.nd rfl rfl (by decide +kernel) rfl (by decide) (rw_rng1 (by rfl) t.z_range (r_blt call_len am_len (by rfl) t.z_len PySem.boot_len (ra_cons (r_var 1 rfl (.inr (.inl rfl))) ra_nil))) (fun _ => rfl) (fun A' hr s H C' code cl fp c1 P1 hc1 ck1 => (rgw_name 3 S.nd rfl (by first | exact .inl rfl | exact .inr rfl) (by decide))) (fun A' hr s H C' code cl fp c1 P1 hc1 ck1 => rts_nil) (fun A' hr s H C' code cl fp c1 P1 hc1 ck1 => (rw_rng1 (by rfl) t.z_range (r_blt call_len am_len (by rfl) t.z_len PySem.boot_len (ra_cons (r_var 1 rfl (.inr (.inr rfl))) ra_nil)))) (fun _ _ => rfl) (fun A' hr s H C' code cl fp c1 P1 hc1 ck1 => (rgw_name 4 S.nd rfl (by first | exact .inl rfl | exact .inr rfl) (by decide))) (fun A' hr s H C' code cl fp c1 P1 hc1 ck1 => (rts_one (r_tru (r_all rfl (by rfl) t.z_all (by decide +kernel) (gx_ok (N := ["gate", "rows", "place", "one", "two", "low", "high"]) [("low", 5), ("high", 6)] [5, 6] _ ck1 hc1 hr rfl rfl (by rfl) S.nd rfl rfl (by kernel_rfl) rfl (rw_zip (by rfl) t.z_zip (r_ix ix_seq om_ix (r_var 1 rfl (.inr (.inr rfl))) (r_var 3 rfl (by first | exact .inl rfl | exact .inr (.inl rfl) | exact .inr (.inr rfl))) (fun _ _ => rfl)) (r_ix ix_seq om_ix (r_var 1 rfl (.inr (.inr rfl))) (r_var 4 rfl (by first | exact .inl rfl | exact .inr (.inl rfl) | exact .inr (.inr rfl))) (fun _ _ => rfl))) (fun _ => rfl) (fun A' hr s H C' code cl fp c2 P2 hc2 ck2 => (rgw_tup rfl (rgws_cons (rgw_name 5 S.nd rfl (.inl rfl) (by decide)) (rgws_cons (rgw_name 6 S.nd rfl (.inl rfl) (by decide)) rgws_nil)))) (fun A' hr s H C' code cl fp c2 P2 hc2 ck2 => rts_nil) (fun A' hr s H C' code cl fp c2 P2 hc2 ck2 => (r_cmp op_le om_le (r_var 5 rfl (by first | exact .inl rfl | exact .inr (.inl rfl) | exact .inr (.inr rfl))) (r_var 6 rfl (by first | exact .inl rfl | exact .inr (.inl rfl) | exact .inr (.inr rfl))) (nomark _))))) (fun _ => rfl)))) (fun A' hr s H C' code cl fp c1 P1 hc1 ck1 => (r_cmp op_le om_le (r_ix ix_seq om_ix (r_ix ix_seq om_ix (r_var 0 rfl (.inr (.inr rfl))) r_int (fun _ _ => rfl)) (r_var 3 rfl (by first | exact .inl rfl | exact .inr (.inl rfl) | exact .inr (.inr rfl))) (fun _ _ => rfl)) (r_ix ix_seq om_ix (r_ix ix_seq om_ix (r_var 0 rfl (.inr (.inr rfl))) r_int (fun _ _ => rfl)) (r_var 4 rfl (by first | exact .inl rfl | exact .inr (.inl rfl) | exact .inr (.inr rfl))) (fun _ _ => rfl)) (nomark _)))))) rs_nil)) rfl rfl
theorem ok7 {T : Nat → List D → Sto → Option (D × Sto)} (t : Defs K mg) (C : CallsOk t P w base n T) (B : ∃ cc P, t.d7.code = .ref cc ∧ GxR.TabB base mg cc P ∧ Tabs.ts P) : FnAt P w K mg base 3 (n + 1) t.f7 t.d7 ["gate"] (fun ds S => ends (m7 T (entry 2 ds) S)) := by
  have S := sc7
  obtain ⟨cc, P1, hcc, TB, hP⟩ := B
  refine fnAt_of (by decide) t.F7 S fun cdv A outer s H E hcd hr => ?_
  have hr : Rs 3 n 2 _ := hr
  exact as_body (rs_cons (rs_ret (r_all rfl (by rfl) t.z_all (by decide +kernel) (gx_ok (N := ["gate", "place"]) [("place", 1)] [1] (defScope s7) (ck_base TB hP) (hcd.symm.trans hcc) hr rfl rfl (by rfl) S.nd rfl rfl (by decide +kernel) rfl (rw_rng1 (by rfl) t.z_range (r_blt call_len am_len (by rfl) t.z_len PySem.boot_len (ra_cons (r_ix ix_seq om_ix (r_var 0 rfl (.inr (.inl rfl))) r_int (fun _ _ => rfl)) ra_nil))) (fun _ => rfl) (fun A' hr s H C' code cl fp c1 P1 hc1 ck1 => (rgw_name 1 S.nd rfl (.inl rfl) (by decide))) (fun A' hr s H C' code cl fp c1 P1 hc1 ck1 => rts_nil) (fun A' hr s H C' code cl fp c1 P1 hc1 ck1 => (r_cmp (orp_ne hr.un250) om_ne (r_ix ix_seq om_ix (r_ix ix_seq om_ix (r_var 0 rfl (.inr (.inr rfl))) r_int (fun _ _ => rfl)) (r_var 1 rfl (.inl rfl)) (fun _ _ => rfl)) (r_ix ix_seq om_ix (r_ix ix_seq om_ix (r_var 0 rfl (.inr (.inr rfl))) r_int (fun _ _ => rfl)) (r_op op_sub om_sub (r_op op_sub om_sub (r_blt call_len am_len (by rfl) t.z_len PySem.boot_len (ra_cons (r_ix ix_seq om_ix (r_var 0 rfl (.inr (.inr rfl))) r_int (fun _ _ => rfl)) ra_nil)) r_int) (r_var 1 rfl (.inl rfl))) (fun _ _ => rfl)) (nomark _)))))) rs_nil) rfl rfl
theorem ok8 {T : Nat → List D → Sto → Option (D × Sto)} (t : Defs K mg) (C : CallsOk t P w base n T) : FnAt P w K mg base 3 (n + 1) t.f8 t.d8 ["gate"] (fun ds S => ends (m8 T (entry 7 ds) S)) := by
  have S := sc8
  refine fnAt_of (by decide) t.F8 S fun cdv A outer s H E hcd hr => ?_
  have hr : Rs 3 n 2 _ := hr
  exact as_body (rs_cons (rs_asg (r_ix ix_seq om_ix (r_var 0 rfl (.inl rfl)) r_int (fun _ _ => rfl)) (rg_name 1 S.nd rfl (.inl rfl))) (rs_cons (rs_for PassesOwn.never rfl (rw_rng1 (by rfl) t.z_range (r_var 1 rfl (.inl rfl))) (rg_name 2 S.nd rfl (.inl rfl)) (rs_cons (rs_asg (r_lst ra_nil) (rg_name 3 S.nd rfl (.inl rfl))) (rs_cons (rs_for PassesOwn.never rfl (rw_rng1 (by rfl) t.z_range (r_blt call_len am_len (by rfl) t.z_len PySem.boot_len (ra_cons (r_ix ix_seq om_ix (r_var 0 rfl (.inl rfl)) r_int (fun _ _ => rfl)) ra_nil))) (rg_name 4 S.nd rfl (.inl rfl)) (rs_cons (rs_asg (r_call C.c4 t.k4 hr (by rfl) 2 rfl (ra_cons (r_var 1 rfl (.inl rfl)) (ra_cons (r_var 4 rfl (.inl rfl)) ra_nil))) (rg_name 5 S.nd rfl (.inl rfl))) (rs_cons (rs_asg (r_op orp_plus om_plus (r_op orp_plus om_plus (r_sl (r_var 5 rfl (.inl rfl)) ro_none (ro_some (r_var 2 rfl (.inl rfl)))) (r_tup (ra_cons (r_op op_sub om_sub r_int (r_ix ix_seq om_ix (r_var 5 rfl (.inl rfl)) (r_var 2 rfl (.inl rfl)) (fun _ _ => rfl))) ra_nil))) (r_sl (r_var 5 rfl (.inl rfl)) (ro_some (r_op orp_add om_add (r_var 2 rfl (.inl rfl)) r_int)) ro_none)) (rg_name 6 S.nd rfl (.inl rfl))) (rs_cons (rs_expr (r_met PySem.F.plainAttrs_list PySem.F.slot_list_append PySem.F.type_list_append mt_append mm_app okList_ty (r_var 3 rfl (.inl rfl)) (ra_cons (r_cmp (orp_ne hr.un250) om_ne (r_ix ix_seq om_ix (r_ix ix_seq om_ix (r_var 0 rfl (.inl rfl)) r_int (fun _ _ => rfl)) (r_var 4 rfl (.inl rfl)) (fun _ _ => rfl)) (r_call C.c5 t.k5 hr (by rfl) 2 rfl (ra_cons (r_var 0 rfl (.inl rfl)) (ra_cons (r_var 6 rfl (.inl rfl)) ra_nil))) (nomark _)) ra_nil))) rs_nil)))) (rs_cons (rs_if (r_tcmp (orp_gtA hr.un250) om_gtA (r_lenSetBo rfl (by rfl) t.z_len (by rfl) t.z_set PySem.boot_len (by decide +kernel) (r_var 3 rfl (.inl rfl))) r_int (nomark _)) (rs_cons (rs_ret r_bl) rs_nil) rs_nil) rs_nil)))) (rs_cons (rs_ret r_bl) rs_nil))) rfl rfl
theorem ok9 {T : Nat → List D → Sto → Option (D × Sto)} (t : Defs K mg) (C : CallsOk t P w base n T) : FnAt P w K mg base 3 (n + 1) t.f9 t.d9 ["gate", "word"] (fun ds S => ends (m9 T (entry 2 ds) S)) := by
  have S := sc9
  refine fnAt_of (by decide) t.F9 S fun cdv A outer s H E hcd hr => ?_
  have hr : Rs 3 n 2 _ := hr
  exact as_body (rs_cons (rs_if (r_tcmp (orp_eq hr.un250) om_eq (r_var 1 rfl (.inl rfl)) r_str (nomark _)) (rs_cons (rs_ret (r_cmp (orp_eq hr.un250) om_eq (r_ix ix_seq om_ix (r_ix ix_seq om_ix (r_var 0 rfl (.inl rfl)) r_int (fun _ _ => rfl)) r_int (fun _ _ => rfl)) r_int (nomark _))) rs_nil) rs_nil) (rs_cons (rs_if (r_tcmp (orp_eq hr.un250) om_eq (r_var 1 rfl (.inl rfl)) r_str (nomark _)) (rs_cons (rs_ret (r_cmp (orp_eq hr.un250) om_eq (r_ix ix_seq om_ix (r_ix ix_seq om_ix (r_var 0 rfl (.inl rfl)) r_int (fun _ _ => rfl)) (r_un un_neg um_neg r_int) (fun _ _ => rfl)) r_int (nomark _))) rs_nil) rs_nil) (rs_cons (rs_if (r_tcmp (orp_eq hr.un250) om_eq (r_var 1 rfl (.inl rfl)) r_str (nomark _)) (rs_cons (rs_ret (r_call C.c6 t.k6 hr (by rfl) 1 rfl (ra_cons (r_var 0 rfl (.inl rfl)) ra_nil))) rs_nil) rs_nil) (rs_cons (rs_ret (r_ifx (r_tcmp (orp_eq hr.un250) om_eq (r_var 1 rfl (.inl rfl)) r_str (nomark _)) (r_call C.c7 t.k7 hr (by rfl) 1 rfl (ra_cons (r_var 0 rfl (.inl rfl)) ra_nil)) (r_call C.c8 t.k8 hr (by rfl) 1 rfl (ra_cons (r_var 0 rfl (.inl rfl)) ra_nil)))) rs_nil)))) rfl rfl
theorem ok10 {T : Nat → List D → Sto → Option (D × Sto)} (t : Defs K mg) (C : CallsOk t P w base n T) : FnAt P w K mg base 3 (n + 1) t.f10 t.d10 ["script", "first", "last"] (fun ds S => ends (m10 T (entry 3 ds) S)) := by
  have S := sc10
  refine fnAt_of (by decide) t.F10 S fun cdv A outer s H E hcd hr => ?_
  have hr : Rs 3 n 2 _ := hr
  exact as_body (rs_cons (rs_ret (r_lst (ra_cons (r_call C.c11 t.k11 hr (by rfl) 3 rfl (ra_cons (r_var 0 rfl (.inl rfl)) (ra_cons (r_var 1 rfl (.inl rfl)) (ra_cons (r_var 2 rfl (.inl rfl)) ra_nil)))) (ra_cons r_int ra_nil)))) rs_nil) rfl rfl
theorem ok11 {T : Nat → List D → Sto → Option (D × Sto)} (t : Defs K mg) (C : CallsOk t P w base n T) : FnAt P w K mg base 3 (n + 1) t.f11 t.d11 ["script", "first", "last"] (fun ds S => ends (m11 T (entry 8 ds) S)) := by
  have S := sc11
  refine fnAt_of (by decide) t.F11 S fun cdv A outer s H E hcd hr => ?_
  have hr : Rs 3 n 2 _ := hr
  exact as_body (rs_cons (rs_asg (r_lst ra_nil) (rg_name 3 S.nd rfl (.inl rfl))) (rs_cons (rs_for PassesOwn.never rfl (rw_rng2 (by rfl) t.z_range (r_var 1 rfl (.inl rfl)) (r_var 2 rfl (.inl rfl))) (rg_name 4 S.nd rfl (.inl rfl)) (rs_cons (rs_asg (r_call C.c12 t.k12 hr (by rfl) 2 rfl (ra_cons (r_var 0 rfl (.inl rfl)) (ra_cons (r_var 4 rfl (.inl rfl)) ra_nil))) (rg_name 5 S.nd rfl (.inl rfl))) (rs_cons (rs_if (r_tcmp op_lt om_lt (r_var 5 rfl (.inl rfl)) r_int (nomark _)) (rs_cons (rs_asg (r_op op_sub om_sub r_int (r_op op_mul om_mul r_int (r_var 5 rfl (.inl rfl)))) (rg_name 5 S.nd rfl (.inl rfl))) rs_nil) rs_nil) (rs_cons (rs_if (r_tcmp op_ge om_ge (r_var 5 rfl (.inl rfl)) (r_op op_pow om_pow r_int r_int) (nomark _)) (rs_cons (rs_for PassesOwn.never rfl (rw_rng1 (by rfl) t.z_range r_int) (rg_name 6 S.nd rfl (.inl rfl)) (rs_cons (rs_if (r_tcmp op_gt om_gt (r_var 5 rfl (.inl rfl)) r_int (nomark _)) (rs_cons (rs_expr (r_met PySem.F.plainAttrs_list PySem.F.slot_list_append PySem.F.type_list_append mt_append mm_app okList_ty (r_var 3 rfl (.inl rfl)) (ra_cons (r_op op_mod om_mod (r_typ call_int1 am_int (by rfl) t.z_int (by decide +kernel) (ra_cons (r_var 5 rfl (.inl rfl)) ra_nil)) r_int) ra_nil))) (rs_cons (rs_asg (r_op op_fdiv om_div (r_var 5 rfl (.inl rfl)) r_int) (rg_name 5 S.nd rfl (.inl rfl))) rs_nil)) rs_nil) rs_nil)) rs_nil) (rs_cons (rs_asg (r_op op_mod om_mod (r_typ call_int1 am_int (by rfl) t.z_int (by decide +kernel) (ra_cons (r_op orp_add om_add (r_op orp_add om_add (r_op op_mul om_mul (r_var 5 rfl (.inl rfl)) r_int) (r_op op_mul om_mul (r_var 4 rfl (.inl rfl)) r_int)) r_int) ra_nil)) r_int) (rg_name 7 S.nd rfl (.inl rfl))) (rs_cons (rs_for PassesOwn.never rfl (rw_rng1 (by rfl) t.z_range r_int) (rg_name 6 S.nd rfl (.inl rfl)) (rs_cons (rs_asg (r_op op_mod om_mod (r_typ call_int1 am_int (by rfl) t.z_int (by decide +kernel) (ra_cons (r_op orp_add om_add (r_op orp_add om_add (r_op op_mul om_mul (r_var 7 rfl (.inl rfl)) r_int) (r_op op_mul om_mul r_int (r_var 6 rfl (.inl rfl)))) r_int) ra_nil)) r_int) (rg_name 7 S.nd rfl (.inl rfl))) (rs_cons (rs_expr (r_met PySem.F.plainAttrs_list PySem.F.slot_list_append PySem.F.type_list_append mt_append mm_app okList_ty (r_var 3 rfl (.inl rfl)) (ra_cons (r_op op_mod om_mod (r_typ call_int1 am_int (by rfl) t.z_int (by decide +kernel) (ra_cons (r_op op_fdiv om_div (r_var 7 rfl (.inl rfl)) r_int) ra_nil)) r_int) ra_nil))) rs_nil))) rs_nil))) rs_nil)))) (rs_cons (rs_ret (r_var 3 rfl (.inl rfl))) rs_nil))) rfl rfl
theorem ok12 {T : Nat → List D → Sto → Option (D × Sto)} (t : Defs K mg) (C : CallsOk t P w base n T) : FnAt P w K mg base 3 (n + 1) t.f12 t.d12 ["script", "k"] (fun ds S => ends (m12 T (entry 2 ds) S)) := by
  have S := sc12
  refine fnAt_of (by decide) t.F12 S fun cdv A outer s H E hcd hr => ?_
  have hr : Rs 3 n 2 _ := hr
  exact as_body (rs_cons (rs_if (r_tcmp op_lt om_lt (r_var 1 rfl (.inl rfl)) (r_blt call_len am_len (by rfl) t.z_len PySem.boot_len (ra_cons (r_var 0 rfl (.inl rfl)) ra_nil)) (nomark _)) (rs_cons (rs_ret (r_ix ix_seq om_ix (r_var 0 rfl (.inl rfl)) (r_var 1 rfl (.inl rfl)) (fun _ _ => rfl))) rs_nil) rs_nil) (rs_cons (rs_ret r_int) rs_nil)) rfl rfl
theorem ok13 {T : Nat → List D → Sto → Option (D × Sto)} (t : Defs K mg) (C : CallsOk t P w base n T) : FnAt P w K mg base 3 (n + 1) t.f13 t.d13 ["box", "most"] (fun ds S => ends (m13 T (entry 5 ds) S)) := by
  have S := sc13
  refine fnAt_of (by decide) t.F13 S fun cdv A outer s H E hcd hr => ?_
  have hr : Rs 3 n 2 _ := hr
  exact as_body (rs_cons (rs_asg (r_call C.c14 t.k14 hr (by rfl) 2 rfl (ra_cons (r_var 0 rfl (.inr (.inl rfl))) (ra_cons (r_op orp_add om_add (r_var 1 rfl (.inl rfl)) r_int) ra_nil))) (rg_name 2 S.nd rfl (.inl rfl))) (rs_cons (rs_asg (r_ix ix_seq om_ix (r_lst (ra_cons r_int (ra_cons r_int (ra_cons r_int (ra_cons r_int ra_nil))))) (r_var 2 rfl (.inl rfl)) (fun _ _ => rfl)) (rg_name 3 S.nd rfl (.inl rfl))) (rs_cons (rs_ret (r_tup (ra_cons r_str (ra_cons (r_var 2 rfl (.inl rfl)) (ra_cons (r_typ call_tuple_of am_tup (by rfl) t.z_tuple (by decide +kernel) (ra_cons (r_lc (N := ["box", "most", "many", "size", "k"]) [("k", 4)] [4] (defScope s13) rfl S.nd rfl rfl rfl (by decide +kernel) (rw_rng1 (by rfl) t.z_range (r_var 3 rfl (.inl rfl))) (fun s H C' cl fp => (rgw_name 4 S.nd rfl (.inl rfl) (by decide))) (fun s H C' cl fp => rts_nil) (fun s H C' cl fp => (r_call C.c14 t.k14 hr (by rfl) 2 rfl (ra_cons (r_var 0 rfl (.inr (.inl rfl))) (ra_cons r_int ra_nil))))) ra_nil)) ra_nil))))) rs_nil))) rfl rfl
theorem ok14 {T : Nat → List D → Sto → Option (D × Sto)} (t : Defs K mg) (C : CallsOk t P w base n T) : FnAt P w K mg base 3 (n + 1) t.f14 t.d14 ["box", "many"] (fun ds S => ends (m14 T (entry 3 ds) S)) := by
  have S := sc14
  refine fnAt_of (by decide) t.F14 S fun cdv A outer s H E hcd hr => ?_
  have hr : Rs 3 n 2 _ := hr
  exact as_body (rs_cons (rs_asg (r_ix ix_seq om_ix (r_var 0 rfl (.inl rfl)) r_int (fun _ _ => rfl)) (rg_name 2 S.nd rfl (.inl rfl))) (rs_cons (rs_put set_list pm_put (r_op orp_add om_add (r_var 2 rfl (.inl rfl)) r_int) (r_var 0 rfl (.inl rfl)) r_int) (rs_cons (rs_if (r_tcmp op_lt om_lt (r_var 2 rfl (.inl rfl)) (r_blt call_len am_len (by rfl) t.z_len PySem.boot_len (ra_cons (r_ix ix_seq om_ix (r_var 0 rfl (.inl rfl)) r_int (fun _ _ => rfl)) ra_nil)) (nomark _)) (rs_cons (rs_ret (r_op op_mod om_mod (r_typ call_int1 am_int (by rfl) t.z_int (by decide +kernel) (ra_cons (r_ix ix_seq om_ix (r_ix ix_seq om_ix (r_var 0 rfl (.inl rfl)) r_int (fun _ _ => rfl)) (r_var 2 rfl (.inl rfl)) (fun _ _ => rfl)) ra_nil)) (r_var 1 rfl (.inl rfl)))) rs_nil) rs_nil) (rs_cons (rs_ret r_int) rs_nil)))) rfl rfl
theorem ok15 {T : Nat → List D → Sto → Option (D × Sto)} (t : Defs K mg) (C : CallsOk t P w base n T) : FnAt P w K mg base 3 (n + 1) t.f15 t.d15 ["actual", "expected"] (fun ds S => ends (m15 T (entry 3 ds) S)) := by
  have S := sc15
  refine fnAt_of (by decide) t.F15 S fun cdv A outer s H E hcd hr => ?_
  have hr : Rs 3 n 2 _ := hr
  exact as_body (rs_cons (rs_if (r_tru (r_isi .tuple (nm := "tuple") (by rfl) t.z_isinstance (by decide +kernel) (by rfl) t.z_tuple (by decide +kernel) (r_var 1 rfl (.inl rfl))) (fun _ => rfl)) (rs_cons (rs_if (rw_or (r_not (r_tru (r_isi .tuple (nm := "tuple") (by rfl) t.z_isinstance (by decide +kernel) (by rfl) t.z_tuple (by decide +kernel) (r_var 0 rfl (.inl rfl))) (fun _ => rfl))) (rw_or1 (r_tcmp (orp_ne hr.un250) om_ne (r_blt call_len am_len (by rfl) t.z_len PySem.boot_len (ra_cons (r_var 0 rfl (.inl rfl)) ra_nil)) (r_blt call_len am_len (by rfl) t.z_len PySem.boot_len (ra_cons (r_var 1 rfl (.inl rfl)) ra_nil)) (nomark _)))).pt (rs_cons (rs_ret r_bl) rs_nil) rs_nil) (rs_cons (rs_for PassesOwn.never rfl (rw_rng1 (by rfl) t.z_range (r_blt call_len am_len (by rfl) t.z_len PySem.boot_len (ra_cons (r_var 1 rfl (.inl rfl)) ra_nil))) (rg_name 2 S.nd rfl (.inl rfl)) (rs_cons (rs_if (r_not (r_tru (r_call C.c15 t.k15 hr (by rfl) 2 rfl (ra_cons (r_ix ix_seq om_ix (r_var 0 rfl (.inl rfl)) (r_var 2 rfl (.inl rfl)) (fun _ _ => rfl)) (ra_cons (r_ix ix_seq om_ix (r_var 1 rfl (.inl rfl)) (r_var 2 rfl (.inl rfl)) (fun _ _ => rfl)) ra_nil))) (fun _ => rfl))) (rs_cons (rs_ret r_bl) rs_nil) rs_nil) rs_nil)) (rs_cons (rs_ret r_bl) rs_nil))) rs_nil) (rs_cons (rs_if (r_tcmp orp_is om_is (r_var 1 rfl (.inl rfl)) r_non (nomark _)) (rs_cons (rs_ret (r_cmp orp_is om_is (r_var 0 rfl (.inl rfl)) r_non (nomark _))) rs_nil) rs_nil) (rs_cons (rs_if (r_tru (r_isi .bool (nm := "bool") (by rfl) t.z_isinstance (by decide +kernel) (by rfl) t.z_bool (by decide +kernel) (r_var 1 rfl (.inl rfl))) (fun _ => rfl)) (rs_cons (rs_ret (r_and (r_isi .bool (nm := "bool") (by rfl) t.z_isinstance (by decide +kernel) (by rfl) t.z_bool (by decide +kernel) (r_var 0 rfl (.inl rfl))) (r_one (r_cmp (orp_eq hr.un250) om_eq (r_var 0 rfl (.inl rfl)) (r_var 1 rfl (.inl rfl)) (nomark _))))) rs_nil) rs_nil) (rs_cons (rs_if (r_tru (r_isi .int (nm := "int") (by rfl) t.z_isinstance (by decide +kernel) (by rfl) t.z_int (by decide +kernel) (r_var 1 rfl (.inl rfl))) (fun _ => rfl)) (rs_cons (rs_ret (r_and (r_isi .int (nm := "int") (by rfl) t.z_isinstance (by decide +kernel) (by rfl) t.z_int (by decide +kernel) (r_var 0 rfl (.inl rfl))) (r_and (r_notV (r_isi .bool (nm := "bool") (by rfl) t.z_isinstance (by decide +kernel) (by rfl) t.z_bool (by decide +kernel) (r_var 0 rfl (.inl rfl)))) (r_one (r_cmp (orp_eq hr.un250) om_eq (r_var 0 rfl (.inl rfl)) (r_var 1 rfl (.inl rfl)) (nomark _)))))) rs_nil) rs_nil) (rs_cons (rs_ret (r_and (r_isi .str (nm := "str") (by rfl) t.z_isinstance (by decide +kernel) (by rfl) t.z_str (by decide +kernel) (r_var 0 rfl (.inl rfl))) (r_one (r_cmp (orp_eq hr.un250) om_eq (r_var 0 rfl (.inl rfl)) (r_var 1 rfl (.inl rfl)) (nomark _))))) rs_nil))))) rfl rfl
theorem ok16 {T : Nat → List D → Sto → Option (D × Sto)} (t : Defs K mg) (C : CallsOk t P w base n T) : FnAt P w K mg base 3 (n + 1) t.f16 t.d16 ["gate", "word"] (fun ds S => ends (m16 T (entry 10 ds) S)) := by
  have S := sc16
  refine fnAt_of (by decide) t.F16 S fun cdv A outer s H E hcd hr => ?_
  have hr : Rs 3 n 2 _ := hr
  exact as_body (rs_cons (rs_asg (r_call C.c17 t.k17 hr (by rfl) 1 rfl (ra_cons (r_ix ix_seq om_ix (r_var 0 rfl (.inl rfl)) r_int (fun _ _ => rfl)) ra_nil)) (rg_name 2 S.nd rfl (.inr rfl))) (rs_cons (rs_asg (r_ix ix_seq om_ix (r_var 0 rfl (.inl rfl)) r_int (fun _ _ => rfl)) (rg_name 3 S.nd rfl (.inl rfl))) (rs_cons (rs_if (r_tcmp (orp_eq hr.un250) om_eq (r_var 1 rfl (.inl rfl)) r_str (nomark _)) (rs_cons (rs_ret (r_cmp (orp_eq hr.un250) om_eq (r_ix ix_seq om_ix (r_var 3 rfl (.inl rfl)) r_int (fun _ _ => rfl)) r_int (nomark _))) rs_nil) rs_nil) (rs_cons (rs_if (r_tcmp (orp_eq hr.un250) om_eq (r_var 1 rfl (.inl rfl)) r_str (nomark _)) (rs_cons (rs_ret (r_cmp (orp_eq hr.un250) om_eq (r_ix ix_seq om_ix (r_var 3 rfl (.inl rfl)) (r_op op_sub om_sub (r_blt call_len am_len (by rfl) t.z_len PySem.boot_len (ra_cons (r_var 3 rfl (.inl rfl)) ra_nil)) r_int) (fun _ _ => rfl)) r_int (nomark _))) rs_nil) rs_nil) (rs_cons (rs_for PassesOwn.never rfl (rw_rng1 (by rfl) t.z_range (r_blt call_len am_len (by rfl) t.z_len PySem.boot_len (ra_cons (r_var 2 rfl (.inr (.inl rfl))) ra_nil))) (rg_name 4 S.nd rfl (.inr rfl)) (rs_cons (rs_for PassesOwn.never rfl (rw_rng1 (by rfl) t.z_range (r_blt call_len am_len (by rfl) t.z_len PySem.boot_len (ra_cons (r_var 2 rfl (.inr (.inl rfl))) ra_nil))) (rg_name 5 S.nd rfl (.inr rfl)) (rs_cons (rs_if (rw_and (r_tcmp (orp_eq hr.un250) om_eq (r_var 1 rfl (.inl rfl)) r_str (nomark _)) (rw_and (r_tcmp (orp_eq hr.un250) om_eq (r_blt call_len am_len (by rfl) t.z_len PySem.boot_len (ra_cons (r_lc (N := ["gate", "word", "rows", "bits", "x", "y", "k", "turns", "other", "b"]) [("k", 6)] [6] (defScope s16) rfl S.nd rfl rfl rfl (by decide +kernel) (rw_rng1 (by rfl) t.z_range (r_ix ix_seq om_ix (r_var 0 rfl (.inl rfl)) r_int (fun _ _ => rfl))) (fun s H C' cl fp => (rgw_name 6 S.nd rfl (.inl rfl) (by decide))) (fun s H C' cl fp => (rts_one (r_tcmp (orp_gtA hr.un250) om_gtA (r_ix ix_seq om_ix (r_ix ix_seq om_ix (r_var 2 rfl (.inr (.inl rfl))) (r_var 4 rfl (.inr (.inl rfl))) (fun _ _ => rfl)) (r_var 6 rfl (.inl rfl)) (fun _ _ => rfl)) (r_ix ix_seq om_ix (r_ix ix_seq om_ix (r_var 2 rfl (.inr (.inl rfl))) (r_var 5 rfl (.inr (.inl rfl))) (fun _ _ => rfl)) (r_var 6 rfl (.inl rfl)) (fun _ _ => rfl)) (nomark _)))) (fun s H C' cl fp => (r_var 6 rfl (.inl rfl)))) ra_nil)) r_int (nomark _)) (rw_and1 (r_tcmp (orp_gtA hr.un250) om_gtA (r_ix ix_seq om_ix (r_var 3 rfl (.inl rfl)) (r_var 4 rfl (.inr (.inl rfl))) (fun _ _ => rfl)) (r_ix ix_seq om_ix (r_var 3 rfl (.inl rfl)) (r_var 5 rfl (.inr (.inl rfl))) (fun _ _ => rfl)) (nomark _))))).pt (rs_cons (rs_ret r_bl) rs_nil) rs_nil) (rs_cons (rs_if (rw_and (r_tcmp (orp_eq hr.un250) om_eq (r_var 1 rfl (.inl rfl)) r_str (nomark _)) (rw_and (r_tcmp (orp_eq hr.un250) om_eq (r_ix ix_seq om_ix (r_var 2 rfl (.inr (.inl rfl))) (r_var 5 rfl (.inr (.inl rfl))) (fun _ _ => rfl)) (r_typ call_tuple_of am_tup (by rfl) t.z_tuple (by decide +kernel) (ra_cons (r_lc (N := ["gate", "word", "rows", "bits", "x", "y", "k", "turns", "other", "b"]) [("b", 9)] [9] (defScope s16) rfl S.nd rfl rfl rfl (by decide +kernel) (rw_any (r_ix ix_seq om_ix (r_var 2 rfl (.inr (.inl rfl))) (r_var 4 rfl (.inr (.inl rfl))) (fun _ _ => rfl))) (fun s H C' cl fp => (rgw_name 9 S.nd rfl (.inl rfl) (by decide))) (fun s H C' cl fp => rts_nil) (fun s H C' cl fp => (r_op op_sub om_sub r_int (r_var 9 rfl (.inl rfl))))) ra_nil)) (nomark _)) (rw_and1 (r_tcmp (orp_eq hr.un250) om_eq (r_ix ix_seq om_ix (r_var 3 rfl (.inl rfl)) (r_var 4 rfl (.inr (.inl rfl))) (fun _ _ => rfl)) (r_ix ix_seq om_ix (r_var 3 rfl (.inl rfl)) (r_var 5 rfl (.inr (.inl rfl))) (fun _ _ => rfl)) (nomark _))))).pt (rs_cons (rs_ret r_bl) rs_nil) rs_nil) rs_nil))) rs_nil)) (rs_cons (rs_if (r_tcmp (orp_eq hr.un250) om_eq (r_var 1 rfl (.inl rfl)) r_str (nomark _)) (rs_cons (rs_for PassesOwn.never rfl (rw_rng1 (by rfl) t.z_range (r_ix ix_seq om_ix (r_var 0 rfl (.inl rfl)) r_int (fun _ _ => rfl))) (rg_name 6 S.nd rfl (.inl rfl)) (rs_cons (rs_asg (r_lst ra_nil) (rg_name 7 S.nd rfl (.inl rfl))) (rs_cons (rs_for PassesOwn.never rfl (rw_rng1 (by rfl) t.z_range (r_blt call_len am_len (by rfl) t.z_len PySem.boot_len (ra_cons (r_var 2 rfl (.inr (.inl rfl))) ra_nil))) (rg_name 4 S.nd rfl (.inr rfl)) (rs_cons (rs_asg (r_op orp_plus om_plus (r_op orp_plus om_plus (r_sl (r_ix ix_seq om_ix (r_var 2 rfl (.inr (.inl rfl))) (r_var 4 rfl (.inr (.inl rfl))) (fun _ _ => rfl)) ro_none (ro_some (r_var 6 rfl (.inl rfl)))) (r_tup (ra_cons (r_op op_sub om_sub r_int (r_ix ix_seq om_ix (r_ix ix_seq om_ix (r_var 2 rfl (.inr (.inl rfl))) (r_var 4 rfl (.inr (.inl rfl))) (fun _ _ => rfl)) (r_var 6 rfl (.inl rfl)) (fun _ _ => rfl))) ra_nil))) (r_sl (r_ix ix_seq om_ix (r_var 2 rfl (.inr (.inl rfl))) (r_var 4 rfl (.inr (.inl rfl))) (fun _ _ => rfl)) (ro_some (r_op orp_add om_add (r_var 6 rfl (.inl rfl)) r_int)) ro_none)) (rg_name 8 S.nd rfl (.inl rfl))) (rs_cons (rs_expr (r_met PySem.F.plainAttrs_list PySem.F.slot_list_append PySem.F.type_list_append mt_append mm_app okList_ty (r_var 7 rfl (.inl rfl)) (ra_cons (r_cmp (orp_ne hr.un250) om_ne (r_ix ix_seq om_ix (r_var 3 rfl (.inl rfl)) (r_var 4 rfl (.inr (.inl rfl))) (fun _ _ => rfl)) (r_ix ix_seq om_ix (r_var 3 rfl (.inl rfl)) (r_met PySem.F.plainAttrs_list PySem.F.slot_list_index PySem.F.type_list_index (mt_indexE hr.un250) mm_idx okList_ty (r_var 2 rfl (.inr (.inl rfl))) (ra_cons (r_var 8 rfl (.inl rfl)) ra_nil)) (fun _ _ => rfl)) (nomark _)) ra_nil))) rs_nil))) (rs_cons (rs_if (r_tcmp (orp_gtA hr.un250) om_gtA (r_lenSetBo rfl (by rfl) t.z_len (by rfl) t.z_set PySem.boot_len (by decide +kernel) (r_var 7 rfl (.inl rfl))) r_int (nomark _)) (rs_cons (rs_ret r_bl) rs_nil) rs_nil) rs_nil)))) rs_nil) rs_nil) (rs_cons (rs_ret r_bl) rs_nil))))))) rfl rfl
theorem ok17 {T : Nat → List D → Sto → Option (D × Sto)} (t : Defs K mg) (C : CallsOk t P w base n T) : FnAt P w K mg base 3 (n + 1) t.f17 t.d17 ["many"] (fun ds S => ends (m17 T (entry 5 ds) S)) := by
  have S := sc17
  refine fnAt_of (by decide) t.F17 S fun cdv A outer s H E hcd hr => ?_
  have hr : Rs 3 n 2 _ := hr
  exact as_body (rs_cons (rs_asg (r_lst (ra_cons (r_tup ra_nil) ra_nil)) (rg_name 1 S.nd rfl (.inl rfl))) (rs_cons (rs_for PassesOwn.never rfl (rw_rng1 (by rfl) t.z_range (r_var 0 rfl (.inl rfl))) (rg_name 2 S.nd rfl (.inl rfl)) (rs_cons (rs_asg (r_lst ra_nil) (rg_name 3 S.nd rfl (.inl rfl))) (rs_cons (rs_for PassesOwn.never rfl (rw_any (r_var 1 rfl (.inl rfl))) (rg_name 4 S.nd rfl (.inl rfl)) (rs_cons (rs_asg (r_op orp_plus om_plus (r_var 3 rfl (.inl rfl)) (r_lst (ra_cons (r_op orp_plus om_plus (r_var 4 rfl (.inl rfl)) (r_tup (ra_cons r_int ra_nil))) (ra_cons (r_op orp_plus om_plus (r_var 4 rfl (.inl rfl)) (r_tup (ra_cons r_int ra_nil))) ra_nil)))) (rg_name 3 S.nd rfl (.inl rfl))) rs_nil)) (rs_cons (rs_asg (r_var 3 rfl (.inl rfl)) (rg_name 1 S.nd rfl (.inl rfl))) rs_nil)))) (rs_cons (rs_ret (r_var 1 rfl (.inl rfl))) rs_nil))) rfl rfl
theorem ok18 {T : Nat → List D → Sto → Option (D × Sto)} (t : Defs K mg) (C : CallsOk t P w base n T) : FnAt P w K mg base 3 (n + 1) t.f18 t.d18 ["script"] (fun ds S => ends (m18 T (entry 6 ds) S)) := by
  have S := sc18
  refine fnAt_of (by decide) t.F18 S fun cdv A outer s H E hcd hr => ?_
  have hr : Rs 3 n 2 _ := hr
  exact as_body (rs_cons (rs_asg (r_call C.c10 t.k10 hr (by rfl) 3 rfl (ra_cons (r_var 0 rfl (.inl rfl)) (ra_cons r_int (ra_cons r_int ra_nil)))) (rg_name 1 S.nd rfl (.inl rfl))) (rs_cons (rs_for PassesOwn.never rfl (rw_rng1 (by rfl) t.z_range r_int) (rg_name 2 S.nd rfl (.inl rfl)) (rs_cons (rs_asg (r_call C.c13 t.k13 hr (by rfl) 2 rfl (ra_cons (r_var 1 rfl (.inl rfl)) (ra_cons r_int ra_nil))) (rg_name 3 S.nd rfl (.inl rfl))) (rs_cons (rs_if (r_tcmp (orp_eq hr.un250) om_eq (r_call C.c14 t.k14 hr (by rfl) 2 rfl (ra_cons (r_var 1 rfl (.inl rfl)) (ra_cons r_int ra_nil))) r_int (nomark _)) (rs_cons (rs_asg (r_ix ix_seq om_ix (r_lst (ra_cons (r_tup (ra_cons r_str (ra_cons r_int (ra_cons (r_tup (ra_cons r_int (ra_cons r_int (ra_cons r_int (ra_cons r_int ra_nil))))) ra_nil)))) (ra_cons (r_tup (ra_cons r_str (ra_cons r_int (ra_cons (r_tup (ra_cons r_int (ra_cons r_int (ra_cons r_int (ra_cons r_int (ra_cons r_int (ra_cons r_int (ra_cons r_int (ra_cons r_int ra_nil))))))))) ra_nil)))) (ra_cons (r_tup (ra_cons r_str (ra_cons r_int (ra_cons (r_tup (ra_cons r_int (ra_cons r_int ra_nil))) ra_nil)))) (ra_cons (r_tup (ra_cons r_str (ra_cons r_int (ra_cons (r_tup (ra_cons r_int (ra_cons r_int (ra_cons r_int (ra_cons r_int ra_nil))))) ra_nil)))) ra_nil))))) (r_call C.c14 t.k14 hr (by rfl) 2 rfl (ra_cons (r_var 1 rfl (.inl rfl)) (ra_cons r_int ra_nil))) (fun _ _ => rfl)) (rg_name 3 S.nd rfl (.inl rfl))) rs_nil) rs_nil) (rs_cons (rs_if (r_tcmp orp_not om_isNot (r_call C.c1 t.k1 hr (by rfl) 1 rfl (ra_cons (r_var 3 rfl (.inl rfl)) ra_nil)) r_bl (nomark _)) (rs_cons (rs_ret r_bl) rs_nil) rs_nil) (rs_cons (rs_for PassesOwn.never rfl (rw_any (r_lst (ra_cons r_str (ra_cons r_str (ra_cons r_str (ra_cons r_str (ra_cons r_str ra_nil))))))) (rg_name 4 S.nd rfl (.inl rfl)) (rs_cons (rs_if (r_not (r_tru (r_call C.c15 t.k15 hr (by rfl) 2 rfl (ra_cons (r_call C.c9 t.k9 hr (by rfl) 2 rfl (ra_cons (r_var 3 rfl (.inl rfl)) (ra_cons (r_var 4 rfl (.inl rfl)) ra_nil))) (ra_cons (r_call C.c16 t.k16 hr (by rfl) 2 rfl (ra_cons (r_var 3 rfl (.inl rfl)) (ra_cons (r_var 4 rfl (.inl rfl)) ra_nil))) ra_nil))) (fun _ => rfl))) (rs_cons (rs_ret r_bl) rs_nil) rs_nil) rs_nil)) (rs_cons (rs_asg (r_lst (ra_cons r_non (ra_cons (r_sl (r_var 3 rfl (.inl rfl)) ro_none (ro_some r_int)) (ra_cons (r_op orp_plus om_plus (r_tup (ra_cons r_str ra_nil)) (r_sl (r_var 3 rfl (.inl rfl)) (ro_some r_int) ro_none)) (ra_cons (r_tup (ra_cons r_str (ra_cons (r_ix ix_seq om_ix (r_var 3 rfl (.inl rfl)) r_int (fun _ _ => rfl)) (ra_cons (r_op orp_plus om_plus (r_ix ix_seq om_ix (r_var 3 rfl (.inl rfl)) r_int (fun _ _ => rfl)) (r_tup (ra_cons r_int ra_nil))) ra_nil)))) (ra_cons (r_tup (ra_cons r_str (ra_cons (r_ix ix_seq om_ix (r_var 3 rfl (.inl rfl)) r_int (fun _ _ => rfl)) (ra_cons (r_op orp_plus om_plus (r_tup (ra_cons r_int ra_nil)) (r_sl (r_ix ix_seq om_ix (r_var 3 rfl (.inl rfl)) r_int (fun _ _ => rfl)) (ro_some r_int) ro_none)) ra_nil)))) ra_nil)))))) (rg_name 5 S.nd rfl (.inl rfl))) (rs_cons (rs_asg (r_op orp_plus om_plus (r_var 5 rfl (.inl rfl)) (r_lst (ra_cons (r_tup (ra_cons r_str (ra_cons r_bl (ra_cons (r_tup (ra_cons r_int (ra_cons r_int ra_nil))) ra_nil)))) (ra_cons (r_tup (ra_cons r_str (ra_cons r_int (ra_cons (r_lst (ra_cons r_int (ra_cons r_int ra_nil))) ra_nil)))) (ra_cons (r_tup (ra_cons r_str (ra_cons r_int (ra_cons (r_tup (ra_cons r_bl (ra_cons r_int ra_nil))) ra_nil)))) ra_nil))))) (rg_name 5 S.nd rfl (.inl rfl))) (rs_cons (rs_if (r_tcmp orp_not om_isNot (r_call C.c1 t.k1 hr (by rfl) 1 rfl (ra_cons (r_ix ix_seq om_ix (r_var 5 rfl (.inl rfl)) (r_call C.c14 t.k14 hr (by rfl) 2 rfl (ra_cons (r_var 1 rfl (.inl rfl)) (ra_cons r_int ra_nil))) (fun _ _ => rfl)) ra_nil)) r_bl (nomark _)) (rs_cons (rs_ret r_bl) rs_nil) rs_nil) rs_nil)))))))) (rs_cons (rs_ret r_bl) rs_nil))) rfl rfl
theorem all_ok (t : Defs K mg) (B : Tbs t base) : ∀ n, CallsOk t P w base n (run n)
  | 0 => ⟨.none, .none, .none, .none, .none, .none, .none, .none, .none, .none, .none, .none, .none, .none, .none, .none, .none, .none, .none⟩
  | n + 1 => by
    have C := all_ok t B n
    exact ⟨ok0 t C, ok1 t C B.b1, ok2 t C, ok3 t C, ok4 t C, ok5 t C, ok6 t C B.b6, ok7 t C B.b7, ok8 t C, ok9 t C, ok10 t C, ok11 t C, ok12 t C, ok13 t C, ok14 t C, ok15 t C, ok16 t C, ok17 t C, ok18 t C⟩
end
theorem all_mk {K : PySem.W.Frag} {h : Heap} {mg : Str → Option Value} (X : K.In h) (G0 : h.Ns mainGlobals mg)
    {od0 an0 : Option Addr} {sl0 : Array (Option Value)} {oc0 kV0 dc0 pm0 cd0 ct0 : Value} {f0 : Addr} {od1 an1 : Option Addr} {sl1 : Array (Option Value)} {oc1 kV1 dc1 pm1 cd1 ct1 : Value} {f1 : Addr} {od2 an2 : Option Addr} {sl2 : Array (Option Value)} {oc2 kV2 dc2 pm2 cd2 ct2 : Value} {f2 : Addr} {od3 an3 : Option Addr} {sl3 : Array (Option Value)} {oc3 kV3 dc3 pm3 cd3 ct3 : Value} {f3 : Addr} {od4 an4 : Option Addr} {sl4 : Array (Option Value)} {oc4 kV4 dc4 pm4 cd4 ct4 : Value} {f4 : Addr} {od5 an5 : Option Addr} {sl5 : Array (Option Value)} {oc5 kV5 dc5 pm5 cd5 ct5 : Value} {f5 : Addr} {od6 an6 : Option Addr} {sl6 : Array (Option Value)} {oc6 kV6 dc6 pm6 cd6 ct6 : Value} {f6 : Addr} {od7 an7 : Option Addr} {sl7 : Array (Option Value)} {oc7 kV7 dc7 pm7 cd7 ct7 : Value} {f7 : Addr} {od8 an8 : Option Addr} {sl8 : Array (Option Value)} {oc8 kV8 dc8 pm8 cd8 ct8 : Value} {f8 : Addr} {od9 an9 : Option Addr} {sl9 : Array (Option Value)} {oc9 kV9 dc9 pm9 cd9 ct9 : Value} {f9 : Addr} {od10 an10 : Option Addr} {sl10 : Array (Option Value)} {oc10 kV10 dc10 pm10 cd10 ct10 : Value} {f10 : Addr} {od11 an11 : Option Addr} {sl11 : Array (Option Value)} {oc11 kV11 dc11 pm11 cd11 ct11 : Value} {f11 : Addr} {od12 an12 : Option Addr} {sl12 : Array (Option Value)} {oc12 kV12 dc12 pm12 cd12 ct12 : Value} {f12 : Addr} {od13 an13 : Option Addr} {sl13 : Array (Option Value)} {oc13 kV13 dc13 pm13 cd13 ct13 : Value} {f13 : Addr} {od14 an14 : Option Addr} {sl14 : Array (Option Value)} {oc14 kV14 dc14 pm14 cd14 ct14 : Value} {f14 : Addr} {od15 an15 : Option Addr} {sl15 : Array (Option Value)} {oc15 kV15 dc15 pm15 cd15 ct15 : Value} {f15 : Addr} {od16 an16 : Option Addr} {sl16 : Array (Option Value)} {oc16 kV16 dc16 pm16 cd16 ct16 : Value} {f16 : Addr} {od17 an17 : Option Addr} {sl17 : Array (Option Value)} {oc17 kV17 dc17 pm17 cd17 ct17 : Value} {f17 : Addr} {od18 an18 : Option Addr} {sl18 : Array (Option Value)} {oc18 kV18 dc18 pm18 cd18 ct18 : Value} {f18 : Addr}
    (a0 : PySem.W.nsIn K mainGlobals "is_number" = some (some (.ref f0))) (l0 : K.lookup f0 = some ⟨oc0, od0, .func (PySem.W.fnOf "is_number" "is_number" (defArgs s0) (defBody s0) (defScope s0) .none kV0 dc0 pm0 an0 cd0 ct0), sl0⟩) (e0 : PySem.W.codeIn K cd0 "is_number" = true)
    (a1 : PySem.W.nsIn K mainGlobals "is_gate" = some (some (.ref f1))) (l1 : K.lookup f1 = some ⟨oc1, od1, .func (PySem.W.fnOf "is_gate" "is_gate" (defArgs s1) (defBody s1) (defScope s1) .none kV1 dc1 pm1 an1 cd1 ct1), sl1⟩) (e1 : PySem.W.codeIn K cd1 "is_gate" = true)
    (a2 : PySem.W.nsIn K mainGlobals "size_of" = some (some (.ref f2))) (l2 : K.lookup f2 = some ⟨oc2, od2, .func (PySem.W.fnOf "size_of" "size_of" (defArgs s2) (defBody s2) (defScope s2) .none kV2 dc2 pm2 an2 cd2 ct2), sl2⟩) (e2 : PySem.W.codeIn K cd2 "size_of" = true)
    (a3 : PySem.W.nsIn K mainGlobals "place_of" = some (some (.ref f3))) (l3 : K.lookup f3 = some ⟨oc3, od3, .func (PySem.W.fnOf "place_of" "place_of" (defArgs s3) (defBody s3) (defScope s3) .none kV3 dc3 pm3 an3 cd3 ct3), sl3⟩) (e3 : PySem.W.codeIn K cd3 "place_of" = true)
    (a4 : PySem.W.nsIn K mainGlobals "inputs_of" = some (some (.ref f4))) (l4 : K.lookup f4 = some ⟨oc4, od4, .func (PySem.W.fnOf "inputs_of" "inputs_of" (defArgs s4) (defBody s4) (defScope s4) .none kV4 dc4 pm4 an4 cd4 ct4), sl4⟩) (e4 : PySem.W.codeIn K cd4 "inputs_of" = true)
    (a5 : PySem.W.nsIn K mainGlobals "output" = some (some (.ref f5))) (l5 : K.lookup f5 = some ⟨oc5, od5, .func (PySem.W.fnOf "output" "output" (defArgs s5) (defBody s5) (defScope s5) .none kV5 dc5 pm5 an5 cd5 ct5), sl5⟩) (e5 : PySem.W.codeIn K cd5 "output" = true)
    (a6 : PySem.W.nsIn K mainGlobals "keeps_rising" = some (some (.ref f6))) (l6 : K.lookup f6 = some ⟨oc6, od6, .func (PySem.W.fnOf "keeps_rising" "keeps_rising" (defArgs s6) (defBody s6) (defScope s6) .none kV6 dc6 pm6 an6 cd6 ct6), sl6⟩) (e6 : PySem.W.codeIn K cd6 "keeps_rising" = true)
    (a7 : PySem.W.nsIn K mainGlobals "keeps_turned" = some (some (.ref f7))) (l7 : K.lookup f7 = some ⟨oc7, od7, .func (PySem.W.fnOf "keeps_turned" "keeps_turned" (defArgs s7) (defBody s7) (defScope s7) .none kV7 dc7 pm7 an7 cd7 ct7), sl7⟩) (e7 : PySem.W.codeIn K cd7 "keeps_turned" = true)
    (a8 : PySem.W.nsIn K mainGlobals "keeps_even" = some (some (.ref f8))) (l8 : K.lookup f8 = some ⟨oc8, od8, .func (PySem.W.fnOf "keeps_even" "keeps_even" (defArgs s8) (defBody s8) (defScope s8) .none kV8 dc8 pm8 an8 cd8 ct8), sl8⟩) (e8 : PySem.W.codeIn K cd8 "keeps_even" = true)
    (a9 : PySem.W.nsIn K mainGlobals "keeps" = some (some (.ref f9))) (l9 : K.lookup f9 = some ⟨oc9, od9, .func (PySem.W.fnOf "keeps" "keeps" (defArgs s9) (defBody s9) (defScope s9) .none kV9 dc9 pm9 an9 cd9 ct9), sl9⟩) (e9 : PySem.W.codeIn K cd9 "keeps" = true)
    (a10 : PySem.W.nsIn K mainGlobals "_law_box" = some (some (.ref f10))) (l10 : K.lookup f10 = some ⟨oc10, od10, .func (PySem.W.fnOf "_law_box" "_law_box" (defArgs s10) (defBody s10) (defScope s10) .none kV10 dc10 pm10 an10 cd10 ct10), sl10⟩) (e10 : PySem.W.codeIn K cd10 "_law_box" = true)
    (a11 : PySem.W.nsIn K mainGlobals "_law_digits" = some (some (.ref f11))) (l11 : K.lookup f11 = some ⟨oc11, od11, .func (PySem.W.fnOf "_law_digits" "_law_digits" (defArgs s11) (defBody s11) (defScope s11) .none kV11 dc11 pm11 an11 cd11 ct11), sl11⟩) (e11 : PySem.W.codeIn K cd11 "_law_digits" = true)
    (a12 : PySem.W.nsIn K mainGlobals "_law_cell" = some (some (.ref f12))) (l12 : K.lookup f12 = some ⟨oc12, od12, .func (PySem.W.fnOf "_law_cell" "_law_cell" (defArgs s12) (defBody s12) (defScope s12) .none kV12 dc12 pm12 an12 cd12 ct12), sl12⟩) (e12 : PySem.W.codeIn K cd12 "_law_cell" = true)
    (a13 : PySem.W.nsIn K mainGlobals "_law_gate" = some (some (.ref f13))) (l13 : K.lookup f13 = some ⟨oc13, od13, .func (PySem.W.fnOf "_law_gate" "_law_gate" (defArgs s13) (defBody s13) (defScope s13) .none kV13 dc13 pm13 an13 cd13 ct13), sl13⟩) (e13 : PySem.W.codeIn K cd13 "_law_gate" = true)
    (a14 : PySem.W.nsIn K mainGlobals "_law_draw" = some (some (.ref f14))) (l14 : K.lookup f14 = some ⟨oc14, od14, .func (PySem.W.fnOf "_law_draw" "_law_draw" (defArgs s14) (defBody s14) (defScope s14) .none kV14 dc14 pm14 an14 cd14 ct14), sl14⟩) (e14 : PySem.W.codeIn K cd14 "_law_draw" = true)
    (a15 : PySem.W.nsIn K mainGlobals "_law_same" = some (some (.ref f15))) (l15 : K.lookup f15 = some ⟨oc15, od15, .func (PySem.W.fnOf "_law_same" "_law_same" (defArgs s15) (defBody s15) (defScope s15) .none kV15 dc15 pm15 an15 cd15 ct15), sl15⟩) (e15 : PySem.W.codeIn K cd15 "_law_same" = true)
    (a16 : PySem.W.nsIn K mainGlobals "_law_keeps" = some (some (.ref f16))) (l16 : K.lookup f16 = some ⟨oc16, od16, .func (PySem.W.fnOf "_law_keeps" "_law_keeps" (defArgs s16) (defBody s16) (defScope s16) .none kV16 dc16 pm16 an16 cd16 ct16), sl16⟩) (e16 : PySem.W.codeIn K cd16 "_law_keeps" = true)
    (a17 : PySem.W.nsIn K mainGlobals "_law_inputs" = some (some (.ref f17))) (l17 : K.lookup f17 = some ⟨oc17, od17, .func (PySem.W.fnOf "_law_inputs" "_law_inputs" (defArgs s17) (defBody s17) (defScope s17) .none kV17 dc17 pm17 an17 cd17 ct17), sl17⟩) (e17 : PySem.W.codeIn K cd17 "_law_inputs" = true)
    (a18 : PySem.W.nsIn K mainGlobals "law" = some (some (.ref f18))) (l18 : K.lookup f18 = some ⟨oc18, od18, .func (PySem.W.fnOf "law" "law" (defArgs s18) (defBody s18) (defScope s18) .none kV18 dc18 pm18 an18 cd18 ct18), sl18⟩) (e18 : PySem.W.codeIn K cd18 "law" = true)
    (z_all : PySem.W.nsIn K mainGlobals "all" = some none)
    (z_bool : PySem.W.nsIn K mainGlobals "bool" = some none)
    (z_int : PySem.W.nsIn K mainGlobals "int" = some none)
    (z_isinstance : PySem.W.nsIn K mainGlobals "isinstance" = some none)
    (z_len : PySem.W.nsIn K mainGlobals "len" = some none)
    (z_range : PySem.W.nsIn K mainGlobals "range" = some none)
    (z_set : PySem.W.nsIn K mainGlobals "set" = some none)
    (z_str : PySem.W.nsIn K mainGlobals "str" = some none)
    (z_tuple : PySem.W.nsIn K mainGlobals "tuple" = some none)
    (z_zip : PySem.W.nsIn K mainGlobals "zip" = some none)
    : ∃ t : Defs (noTab K) mg, t.f18 = f18 ∧ ∀ (s : Shared) (v : Value), BindsTo s t.d18 ⟨[v], []⟩ [("script", v)] := by
  have F0 := fun_mk (st := s0) (noTab_func l0) (noTab_code e0) (noTab_keep l0)
  have B0 := F0.binds (ps := ["value"]) fun _ _ _ _ _ _ us hl => match us, hl with | [_], _ => rfl
  have F1 := fun_mk (st := s1) (noTab_func l1) (noTab_code e1) (noTab_keep l1)
  have B1 := F1.binds (ps := ["value"]) fun _ _ _ _ _ _ us hl => match us, hl with | [_], _ => rfl
  have F2 := fun_mk (st := s2) (noTab_func l2) (noTab_code e2) (noTab_keep l2)
  have B2 := F2.binds (ps := ["many"]) fun _ _ _ _ _ _ us hl => match us, hl with | [_], _ => rfl
  have F3 := fun_mk (st := s3) (noTab_func l3) (noTab_code e3) (noTab_keep l3)
  have B3 := F3.binds (ps := ["inputs"]) fun _ _ _ _ _ _ us hl => match us, hl with | [_], _ => rfl
  have F4 := fun_mk (st := s4) (noTab_func l4) (noTab_code e4) (noTab_keep l4)
  have B4 := F4.binds (ps := ["many", "place"]) fun _ _ _ _ _ _ us hl => match us, hl with | [_, _], _ => rfl
  have F5 := fun_mk (st := s5) (noTab_func l5) (noTab_code e5) (noTab_keep l5)
  have B5 := F5.binds (ps := ["gate", "inputs"]) fun _ _ _ _ _ _ us hl => match us, hl with | [_, _], _ => rfl
  have F6 := fun_mk (st := s6) (noTab_func l6) (noTab_code e6) (noTab_keep l6)
  have B6 := F6.binds (ps := ["gate"]) fun _ _ _ _ _ _ us hl => match us, hl with | [_], _ => rfl
  have F7 := fun_mk (st := s7) (noTab_func l7) (noTab_code e7) (noTab_keep l7)
  have B7 := F7.binds (ps := ["gate"]) fun _ _ _ _ _ _ us hl => match us, hl with | [_], _ => rfl
  have F8 := fun_mk (st := s8) (noTab_func l8) (noTab_code e8) (noTab_keep l8)
  have B8 := F8.binds (ps := ["gate"]) fun _ _ _ _ _ _ us hl => match us, hl with | [_], _ => rfl
  have F9 := fun_mk (st := s9) (noTab_func l9) (noTab_code e9) (noTab_keep l9)
  have B9 := F9.binds (ps := ["gate", "word"]) fun _ _ _ _ _ _ us hl => match us, hl with | [_, _], _ => rfl
  have F10 := fun_mk (st := s10) (noTab_func l10) (noTab_code e10) (noTab_keep l10)
  have B10 := F10.binds (ps := ["script", "first", "last"]) fun _ _ _ _ _ _ us hl => match us, hl with | [_, _, _], _ => rfl
  have F11 := fun_mk (st := s11) (noTab_func l11) (noTab_code e11) (noTab_keep l11)
  have B11 := F11.binds (ps := ["script", "first", "last"]) fun _ _ _ _ _ _ us hl => match us, hl with | [_, _, _], _ => rfl
  have F12 := fun_mk (st := s12) (noTab_func l12) (noTab_code e12) (noTab_keep l12)
  have B12 := F12.binds (ps := ["script", "k"]) fun _ _ _ _ _ _ us hl => match us, hl with | [_, _], _ => rfl
  have F13 := fun_mk (st := s13) (noTab_func l13) (noTab_code e13) (noTab_keep l13)
  have B13 := F13.binds (ps := ["box", "most"]) fun _ _ _ _ _ _ us hl => match us, hl with | [_, _], _ => rfl
  have F14 := fun_mk (st := s14) (noTab_func l14) (noTab_code e14) (noTab_keep l14)
  have B14 := F14.binds (ps := ["box", "many"]) fun _ _ _ _ _ _ us hl => match us, hl with | [_, _], _ => rfl
  have F15 := fun_mk (st := s15) (noTab_func l15) (noTab_code e15) (noTab_keep l15)
  have B15 := F15.binds (ps := ["actual", "expected"]) fun _ _ _ _ _ _ us hl => match us, hl with | [_, _], _ => rfl
  have F16 := fun_mk (st := s16) (noTab_func l16) (noTab_code e16) (noTab_keep l16)
  have B16 := F16.binds (ps := ["gate", "word"]) fun _ _ _ _ _ _ us hl => match us, hl with | [_, _], _ => rfl
  have F17 := fun_mk (st := s17) (noTab_func l17) (noTab_code e17) (noTab_keep l17)
  have B17 := F17.binds (ps := ["many"]) fun _ _ _ _ _ _ us hl => match us, hl with | [_], _ => rfl
  have F18 := fun_mk (st := s18) (noTab_func l18) (noTab_code e18) (noTab_keep l18)
  have B18 := F18.binds (ps := ["script"]) fun _ _ _ _ _ _ us hl => match us, hl with | [_], _ => rfl
  exact ⟨⟨f0, _, F0, ⟨PySem.W.mg_of X G0 a0, noTab_keep l0, B0⟩, f1, _, F1, ⟨PySem.W.mg_of X G0 a1, noTab_keep l1, B1⟩, f2, _, F2, ⟨PySem.W.mg_of X G0 a2, noTab_keep l2, B2⟩, f3, _, F3, ⟨PySem.W.mg_of X G0 a3, noTab_keep l3, B3⟩, f4, _, F4, ⟨PySem.W.mg_of X G0 a4, noTab_keep l4, B4⟩, f5, _, F5, ⟨PySem.W.mg_of X G0 a5, noTab_keep l5, B5⟩, f6, _, F6, ⟨PySem.W.mg_of X G0 a6, noTab_keep l6, B6⟩, f7, _, F7, ⟨PySem.W.mg_of X G0 a7, noTab_keep l7, B7⟩, f8, _, F8, ⟨PySem.W.mg_of X G0 a8, noTab_keep l8, B8⟩, f9, _, F9, ⟨PySem.W.mg_of X G0 a9, noTab_keep l9, B9⟩, f10, _, F10, ⟨PySem.W.mg_of X G0 a10, noTab_keep l10, B10⟩, f11, _, F11, ⟨PySem.W.mg_of X G0 a11, noTab_keep l11, B11⟩, f12, _, F12, ⟨PySem.W.mg_of X G0 a12, noTab_keep l12, B12⟩, f13, _, F13, ⟨PySem.W.mg_of X G0 a13, noTab_keep l13, B13⟩, f14, _, F14, ⟨PySem.W.mg_of X G0 a14, noTab_keep l14, B14⟩, f15, _, F15, ⟨PySem.W.mg_of X G0 a15, noTab_keep l15, B15⟩, f16, _, F16, ⟨PySem.W.mg_of X G0 a16, noTab_keep l16, B16⟩, f17, _, F17, ⟨PySem.W.mg_of X G0 a17, noTab_keep l17, B17⟩, f18, _, F18, ⟨PySem.W.mg_of X G0 a18, noTab_keep l18, B18⟩, PySem.W.mg_none_of X G0 z_all, PySem.W.mg_none_of X G0 z_bool, PySem.W.mg_none_of X G0 z_int, PySem.W.mg_none_of X G0 z_isinstance, PySem.W.mg_none_of X G0 z_len, PySem.W.mg_none_of X G0 z_range, PySem.W.mg_none_of X G0 z_set, PySem.W.mg_none_of X G0 z_str, PySem.W.mg_none_of X G0 z_tuple, PySem.W.mg_none_of X G0 z_zip⟩, rfl, fun s v => .of_eq rfl⟩
theorem walk {l : PySem.W.OpenLaw} {q : Program} {loose : List Str} {XP : (Str → Option Value) → Heap → Prop} {YP : World → Heap → Prop} {d : DefRec} {K : Params → PySem.W.Frag} (hn : l.most = some 63) (hdf : d.params.defaults = []) (hdn : d.name = "law")
    (hrec : ((["is_gate", "keeps_rising", "keeps_turned"] : List Str).all fun y => (recsOf q).any fun e => e.name == y) = true) (hY : ∀ (w : World) (h : Heap), YP w h → (K w.params).In h)
    (hm : ∀ (ns : List Int) (o : O), ns.length ≤ 63 → o = .lst (ns.map D.int) ∨ o = .frz (ns.map D.int) → ∃ S', run 165 18 [.loc 0] [o] = some (.bl true, S'))
    (F : ∀ (w : World) (mg : Str → Option Value) (fa : Addr) (h : Heap), (K w.params).In h → h.Ns mainGlobals mg → mg d.name = some (.ref fa) → ∃ t : Defs (noTab (K w.params)) mg, (∃ x, x = t.f18) ∧ ∀ (s : Shared) (v : Value), BindsTo s t.d18 ⟨[v], []⟩ [("script", v)]) :
    PySem.W.WalkO q loose XP YP l.row.toRowW d [] (fun f vs => PySem.call f vs) := by
  refine walk_tab (k := 231) (x := "script") ["is_gate", "keeps_rising", "keeps_turned"] hn hdf ⟨rfl, by decide, by decide⟩ hrec hY fun w mg fa h KX G0 hmg => ?_
  obtain ⟨t, _, hb⟩ := F w mg fa h KX G0 hmg
  have e := t.k18.at_
  rw [hdn] at hmg
  have ef : fa = t.f18 := by have q := hmg.symm.trans e; cases q; rfl
  subst ef
  refine ⟨t.d18, hb, fun cs hcs base hk hg hTB => ?_⟩
  letI : Tabs := tabsOf cs
  have B : Tbs t base := ⟨tb_of t.F1 t.k1.at_ (hcs "is_gate" (by decide)) hTB, tb_of t.F6 t.k6.at_ (hcs "keeps_rising" (by decide)) hTB, tb_of t.F7 t.k7.at_ (hcs "keeps_turned" (by decide)) hTB⟩
  exact law_ok (c := 3) (n := 165) (k := 230) (N := 63) (all_ok t B 165).c18 (by decide) (by decide) hm
end K24
end
section
set_option maxHeartbeats 4000000
namespace K24
open PySem Mini
def v0 (V : Nat → List W → Tape → Option (W × Tape)) : US := (tSeq (tRet (uAnd (uIsi .int (uVar 0)) (uAnd (uNot (uIsi .bool (uVar 0))) (uOp wGe (uVar 0) (uC (.int 0)))))) tNil)
def v1 (V : Nat → List W → Tape → Option (W × Tape)) : US := (tSeq (tIf (cOr (cNot (cTru (uIsi .tuple (uVar 0)))) (cOr (cVal (uOp wNe (uAll wLen (uCons (uVar 0) uNil)) (uC (.int 3)))) (cOr (cNot (cTru (uIsi .str (uOp wIx (uVar 0) (uC (.int 0)))))) (cVal (uOp wNe (uOp wIx (uVar 0) (uC (.int 0))) (uC (.str "gate"))))))) (tSeq (tRet (uC (.bl false))) tNil) tNil) (tSeq (tIf (cOr (cNot (cTru (uCallP 1 (V 0) (uCons (uOp wIx (uVar 0) (uC (.int 1))) uNil)))) (cOr (cVal (uOp wGtA (uOp wIx (uVar 0) (uC (.int 1))) (uC (.int 8)))) (cOr (cNot (cTru (uIsi .tuple (uOp wIx (uVar 0) (uC (.int 2)))))) (cVal (uOp wNe (uAll wLen (uCons (uOp wIx (uVar 0) (uC (.int 2))) uNil)) (uCallP 1 (V 2) (uCons (uOp wIx (uVar 0) (uC (.int 1))) uNil))))))) (tSeq (tRet (uC (.bl false))) tNil) tNil) (tSeq (tRet (uQ true (uAny (uOp wIx (uVar 0) (uC (.int 2)))) [1] (vgN 1) cYes (uAnd (uCallP 1 (V 0) (uCons (uVar 1) uNil)) (uOp wLtA (uVar 1) (uC (.int 2)))))) tNil)))
def v2 (V : Nat → List W → Tape → Option (W × Tape)) : US := (tSeq (tSet 1 (uC (.int 1))) (tSeq (tFor (uRng1 (uVar 0)) (vgN 2) (tSeq (tSet 1 (uOp wMul (uVar 1) (uC (.int 2)))) tNil)) (tSeq (tRet (uVar 1)) tNil)))
def v3 (V : Nat → List W → Tape → Option (W × Tape)) : US := (tSeq (tSet 1 (uC (.int 0))) (tSeq (tFor (uAny (uVar 0)) (vgN 2) (tSeq (tSet 1 (uOp wAdd (uOp wMul (uC (.int 2)) (uVar 1)) (uVar 2))) tNil)) (tSeq (tRet (uVar 1)) tNil)))
def v4 (V : Nat → List W → Tape → Option (W × Tape)) : US := (tSeq (tSet 2 (uAll wLstL uNil)) (tSeq (tFor (uRng1 (uVar 0)) (vgN 3) (tSeq (tApp 2 (uOp wMod (uVar 1) (uC (.int 2)))) (tSeq (tAsg (uOp wDiv (uVar 1) (uC (.int 2))) (vgN 1)) tNil))) (tSeq (tRet (uAll wTupC (uCons (uRev (uVar 2)) uNil))) tNil)))
def v5 (V : Nat → List W → Tape → Option (W × Tape)) : US := (tSeq (tRet (uOp wIx (uOp wIx (uVar 0) (uC (.int 2))) (uCallP 1 (V 3) (uCons (uVar 1) uNil)))) tNil)
def v6 (V : Nat → List W → Tape → Option (W × Tape)) : US := (tSeq (tSet 1 (uLc (uRng1 (uAll wLen (uCons (uOp wIx (uVar 0) (uC (.int 2))) uNil))) [2] (vgN 2) cYes (uCallP 2 (V 4) (uCons (uOp wIx (uVar 0) (uC (.int 1))) (uCons (uVar 2) uNil))))) (tSeq (tRet (uBoolN true (uOp wLe (uOp wIx (uOp wIx (uVar 0) (uC (.int 2))) (uVar 3)) (uOp wIx (uOp wIx (uVar 0) (uC (.int 2))) (uVar 4))) [⟨(uRng1 (uAll wLen (uCons (uVar 1) uNil))), [3, 4], (vgN 3), cYes⟩, ⟨(uRng1 (uAll wLen (uCons (uVar 1) uNil))), [4], (vgN 4), (cTru (uQ true (uZip (uOp wIx (uVar 1) (uVar 3)) (uOp wIx (uVar 1) (uVar 4))) [5, 6] (vgT 2 (vgsC (vgN 5) (vgsC (vgN 6) vgsN))) cYes (uOp wLe (uVar 5) (uVar 6))))⟩])) tNil))
def v7 (V : Nat → List W → Tape → Option (W × Tape)) : US := (tSeq (tRet (uQ true (uRng1 (uAll wLen (uCons (uOp wIx (uVar 0) (uC (.int 2))) uNil))) [1] (vgN 1) cYes (uOp wNe (uOp wIx (uOp wIx (uVar 0) (uC (.int 2))) (uVar 1)) (uOp wIx (uOp wIx (uVar 0) (uC (.int 2))) (uOp wSub (uOp wSub (uAll wLen (uCons (uOp wIx (uVar 0) (uC (.int 2))) uNil)) (uC (.int 1))) (uVar 1)))))) tNil)
def v8 (V : Nat → List W → Tape → Option (W × Tape)) : US := (tSeq (tAsg (uOp wIx (uVar 0) (uC (.int 1))) (vgN 1)) (tSeq (tFor (uRng1 (uVar 1)) (vgN 2) (tSeq (tSet 3 (uAll wLstL uNil)) (tSeq (tFor (uRng1 (uAll wLen (uCons (uOp wIx (uVar 0) (uC (.int 2))) uNil))) (vgN 4) (tSeq (tSet 5 (uCallP 2 (V 4) (uCons (uVar 1) (uCons (uVar 4) uNil)))) (tSeq (tSet 6 (uOp wPlus (uOp wPlus (uSl (uVar 5) uoN (uoS (uVar 2))) (uAll wTupL (uCons (uOp wSub (uC (.int 1)) (uOp wIx (uVar 5) (uVar 2))) uNil))) (uSl (uVar 5) (uoS (uOp wAdd (uVar 2) (uC (.int 1)))) uoN))) (tSeq (tApp 3 (uOp wNe (uOp wIx (uOp wIx (uVar 0) (uC (.int 2))) (uVar 4)) (uCallP 2 (V 5) (uCons (uVar 0) (uCons (uVar 6) uNil))))) tNil)))) (tSeq (tIf (cVal (uOp wGtA (uLenSetBo (uVar 3)) (uC (.int 1)))) (tSeq (tRet (uC (.bl false))) tNil) tNil) tNil)))) (tSeq (tRet (uC (.bl true))) tNil)))
def v9 (V : Nat → List W → Tape → Option (W × Tape)) : US := (tSeq (tIf (cVal (uOp wEq (uVar 1) (uC (.str "zero")))) (tSeq (tRet (uOp wEq (uOp wIx (uOp wIx (uVar 0) (uC (.int 2))) (uC (.int 0))) (uC (.int 0)))) tNil) tNil) (tSeq (tIf (cVal (uOp wEq (uVar 1) (uC (.str "one")))) (tSeq (tRet (uOp wEq (uOp wIx (uOp wIx (uVar 0) (uC (.int 2))) (uUn wNeg (uC (.int 1)))) (uC (.int 1)))) tNil) tNil) (tSeq (tIf (cVal (uOp wEq (uVar 1) (uC (.str "rising")))) (tSeq (tRet (uCallP 1 (V 6) (uCons (uVar 0) uNil))) tNil) tNil) (tSeq (tRet (uIf (cVal (uOp wEq (uVar 1) (uC (.str "turned")))) (uCallP 1 (V 7) (uCons (uVar 0) uNil)) (uCallP 1 (V 8) (uCons (uVar 0) uNil)))) tNil))))
def v13 (V : Nat → List W → Tape → Option (W × Tape)) : US := (tSeq (tSet 2 (uCall 2 (V 14) (uCons (uVar 0) (uCons (uOp wAdd (uVar 1) (uC (.int 1))) uNil)))) (tSeq (tSet 3 (uOp wIx (uAll wLstL (uCons (uC (.int 1)) (uCons (uC (.int 2)) (uCons (uC (.int 4)) (uCons (uC (.int 8)) uNil))))) (uVar 2))) (tSeq (tRet (uAll wTupL (uCons (uC (.str "gate")) (uCons (uVar 2) (uCons (uAll wTupC (uCons (uLc (uRng1 (uVar 3)) [4] (vgN 4) cYes (uCall 2 (V 14) (uCons (uVar 0) (uCons (uC (.int 2)) uNil)))) uNil)) uNil))))) tNil)))
def v15 (V : Nat → List W → Tape → Option (W × Tape)) : US := (tSeq (tIf (cTru (uIsi .tuple (uVar 1))) (tSeq (tIf (cOr (cNot (cTru (uIsi .tuple (uVar 0)))) (cVal (uOp wNe (uAll wLen (uCons (uVar 0) uNil)) (uAll wLen (uCons (uVar 1) uNil))))) (tSeq (tRet (uC (.bl false))) tNil) tNil) (tSeq (tFor (uRng1 (uAll wLen (uCons (uVar 1) uNil))) (vgN 2) (tSeq (tIf (cNot (cTru (uCallP 2 (V 15) (uCons (uOp wIx (uVar 0) (uVar 2)) (uCons (uOp wIx (uVar 1) (uVar 2)) uNil))))) (tSeq (tRet (uC (.bl false))) tNil) tNil) tNil)) (tSeq (tRet (uC (.bl true))) tNil))) tNil) (tSeq (tIf (cVal (uOp wIs (uVar 1) (uC .non))) (tSeq (tRet (uOp wIs (uVar 0) (uC .non))) tNil) tNil) (tSeq (tIf (cTru (uIsi .bool (uVar 1))) (tSeq (tRet (uAnd (uIsi .bool (uVar 0)) (uOp wEq (uVar 0) (uVar 1)))) tNil) tNil) (tSeq (tIf (cTru (uIsi .int (uVar 1))) (tSeq (tRet (uAnd (uIsi .int (uVar 0)) (uAnd (uNot (uIsi .bool (uVar 0))) (uOp wEq (uVar 0) (uVar 1))))) tNil) tNil) (tSeq (tRet (uAnd (uIsi .str (uVar 0)) (uOp wEq (uVar 0) (uVar 1)))) tNil)))))
def v16 (V : Nat → List W → Tape → Option (W × Tape)) : US := (tSeq (tSet 2 (uCallP 1 (V 17) (uCons (uOp wIx (uVar 0) (uC (.int 1))) uNil))) (tSeq (tAsg (uOp wIx (uVar 0) (uC (.int 2))) (vgN 3)) (tSeq (tIf (cVal (uOp wEq (uVar 1) (uC (.str "zero")))) (tSeq (tRet (uOp wEq (uOp wIx (uVar 3) (uC (.int 0))) (uC (.int 0)))) tNil) tNil) (tSeq (tIf (cVal (uOp wEq (uVar 1) (uC (.str "one")))) (tSeq (tRet (uOp wEq (uOp wIx (uVar 3) (uOp wSub (uAll wLen (uCons (uVar 3) uNil)) (uC (.int 1)))) (uC (.int 1)))) tNil) tNil) (tSeq (tFor (uRng1 (uAll wLen (uCons (uVar 2) uNil))) (vgN 4) (tSeq (tFor (uRng1 (uAll wLen (uCons (uVar 2) uNil))) (vgN 5) (tSeq (tIf (cAnd (cVal (uOp wEq (uVar 1) (uC (.str "rising")))) (cAnd (cVal (uOp wEq (uAll wLen (uCons (uLc (uRng1 (uOp wIx (uVar 0) (uC (.int 1)))) [6] (vgN 6) (cVal (uOp wGtA (uOp wIx (uOp wIx (uVar 2) (uVar 4)) (uVar 6)) (uOp wIx (uOp wIx (uVar 2) (uVar 5)) (uVar 6)))) (uVar 6)) uNil)) (uC (.int 0)))) (cVal (uOp wGtA (uOp wIx (uVar 3) (uVar 4)) (uOp wIx (uVar 3) (uVar 5)))))) (tSeq (tRet (uC (.bl false))) tNil) tNil) (tSeq (tIf (cAnd (cVal (uOp wEq (uVar 1) (uC (.str "turned")))) (cAnd (cVal (uOp wEq (uOp wIx (uVar 2) (uVar 5)) (uAll wTupC (uCons (uLc (uAny (uOp wIx (uVar 2) (uVar 4))) [9] (vgN 9) cYes (uOp wSub (uC (.int 1)) (uVar 9))) uNil)))) (cVal (uOp wEq (uOp wIx (uVar 3) (uVar 4)) (uOp wIx (uVar 3) (uVar 5)))))) (tSeq (tRet (uC (.bl false))) tNil) tNil) tNil))) tNil)) (tSeq (tIf (cVal (uOp wEq (uVar 1) (uC (.str "even")))) (tSeq (tFor (uRng1 (uOp wIx (uVar 0) (uC (.int 1)))) (vgN 6) (tSeq (tSet 7 (uAll wLstL uNil)) (tSeq (tFor (uRng1 (uAll wLen (uCons (uVar 2) uNil))) (vgN 4) (tSeq (tSet 8 (uOp wPlus (uOp wPlus (uSl (uOp wIx (uVar 2) (uVar 4)) uoN (uoS (uVar 6))) (uAll wTupL (uCons (uOp wSub (uC (.int 1)) (uOp wIx (uOp wIx (uVar 2) (uVar 4)) (uVar 6))) uNil))) (uSl (uOp wIx (uVar 2) (uVar 4)) (uoS (uOp wAdd (uVar 6) (uC (.int 1)))) uoN))) (tSeq (tApp 7 (uOp wNe (uOp wIx (uVar 3) (uVar 4)) (uOp wIx (uVar 3) (uMt wIdx (uVar 2) (uVar 8))))) tNil))) (tSeq (tIf (cVal (uOp wGtA (uLenSetBo (uVar 7)) (uC (.int 1)))) (tSeq (tRet (uC (.bl false))) tNil) tNil) tNil)))) tNil) tNil) (tSeq (tRet (uC (.bl true))) tNil)))))))
def v17 (V : Nat → List W → Tape → Option (W × Tape)) : US := (tSeq (tSet 1 (uAll wLstL (uCons (uAll wTupL uNil) uNil))) (tSeq (tFor (uRng1 (uVar 0)) (vgN 2) (tSeq (tSet 3 (uAll wLstL uNil)) (tSeq (tFor (uAny (uVar 1)) (vgN 4) (tSeq (tSet 3 (uOp wPlus (uVar 3) (uAll wLstL (uCons (uOp wPlus (uVar 4) (uAll wTupL (uCons (uC (.int 0)) uNil))) (uCons (uOp wPlus (uVar 4) (uAll wTupL (uCons (uC (.int 1)) uNil))) uNil))))) tNil)) (tSeq (tMov 3 1) tNil)))) (tSeq (tRet (uVar 1)) tNil)))
def vLaw (V : Nat → List W → Tape → Option (W × Tape)) : US := (tSeq (tFor (uRng1 (uC (.int 4))) (vgN 2) (tSeq (tSet 3 (uCall 2 (V 13) (uCons (uVar 1) (uCons (uC (.int 3)) uNil)))) (tSeq (tIf (cVal (uOp wEq (uCall 2 (V 14) (uCons (uVar 1) (uCons (uC (.int 3)) uNil))) (uC (.int 0)))) (tSeq (tSet 3 (uOp wIx (uAll wLstL (uCons (uAll wTupL (uCons (uC (.str "gate")) (uCons (uC (.int 2)) (uCons (uAll wTupL (uCons (uC (.int 0)) (uCons (uC (.int 1)) (uCons (uC (.int 1)) (uCons (uC (.int 0)) uNil))))) uNil)))) (uCons (uAll wTupL (uCons (uC (.str "gate")) (uCons (uC (.int 3)) (uCons (uAll wTupL (uCons (uC (.int 0)) (uCons (uC (.int 0)) (uCons (uC (.int 0)) (uCons (uC (.int 1)) (uCons (uC (.int 0)) (uCons (uC (.int 1)) (uCons (uC (.int 1)) (uCons (uC (.int 1)) uNil))))))))) uNil)))) (uCons (uAll wTupL (uCons (uC (.str "gate")) (uCons (uC (.int 1)) (uCons (uAll wTupL (uCons (uC (.int 1)) (uCons (uC (.int 0)) uNil))) uNil)))) (uCons (uAll wTupL (uCons (uC (.str "gate")) (uCons (uC (.int 2)) (uCons (uAll wTupL (uCons (uC (.int 0)) (uCons (uC (.int 0)) (uCons (uC (.int 0)) (uCons (uC (.int 1)) uNil))))) uNil)))) uNil))))) (uCall 2 (V 14) (uCons (uVar 1) (uCons (uC (.int 4)) uNil))))) tNil) tNil) (tSeq (tIf (cVal (uOp wIsNot (uCallP 1 (V 1) (uCons (uVar 3) uNil)) (uC (.bl true)))) (tSeq (tRet (uC (.bl false))) tNil) tNil) (tSeq (tFor (uAny (uAll wLstL (uCons (uC (.str "zero")) (uCons (uC (.str "one")) (uCons (uC (.str "rising")) (uCons (uC (.str "turned")) (uCons (uC (.str "even")) uNil))))))) (vgN 4) (tSeq (tIf (cNot (cTru (uCallP 2 (V 15) (uCons (uCallP 2 (V 9) (uCons (uVar 3) (uCons (uVar 4) uNil))) (uCons (uCallP 2 (V 16) (uCons (uVar 3) (uCons (uVar 4) uNil))) uNil))))) (tSeq (tRet (uC (.bl false))) tNil) tNil) tNil)) (tSeq (tSet 5 (uAll wLstL (uCons (uC .non) (uCons (uSl (uVar 3) uoN (uoS (uC (.int 2)))) (uCons (uOp wPlus (uAll wTupL (uCons (uC (.str "gates")) uNil)) (uSl (uVar 3) (uoS (uC (.int 1))) uoN)) (uCons (uAll wTupL (uCons (uC (.str "gate")) (uCons (uOp wIx (uVar 3) (uC (.int 1))) (uCons (uOp wPlus (uOp wIx (uVar 3) (uC (.int 2))) (uAll wTupL (uCons (uC (.int 0)) uNil))) uNil)))) (uCons (uAll wTupL (uCons (uC (.str "gate")) (uCons (uOp wIx (uVar 3) (uC (.int 1))) (uCons (uOp wPlus (uAll wTupL (uCons (uC (.int 2)) uNil)) (uSl (uOp wIx (uVar 3) (uC (.int 2))) (uoS (uC (.int 1))) uoN)) uNil)))) uNil))))))) (tSeq (tSet 5 (uPlusM (uVar 5) (uAll wLstM (uCons (uPl (uAll wTupL (uCons (uC (.str "gate")) (uCons (uC (.bl true)) (uCons (uAll wTupL (uCons (uC (.int 0)) (uCons (uC (.int 1)) uNil))) uNil))))) (uCons (uAll wTupM (uCons (uPl (uC (.str "gate"))) (uCons (uPl (uC (.int 1))) (uCons (uAll wLstL (uCons (uC (.int 0)) (uCons (uC (.int 1)) uNil))) uNil)))) (uCons (uPl (uAll wTupL (uCons (uC (.str "gate")) (uCons (uC (.int 1)) (uCons (uAll wTupL (uCons (uC (.bl false)) (uCons (uC (.int 1)) uNil))) uNil))))) uNil)))))) (tSeq (tIf (cVal (uOp wIsNot (uCallP 1 (V 1) (uCons (uOp wIx (uVar 5) (uCall 2 (V 14) (uCons (uVar 1) (uCons (uC (.int 8)) uNil)))) uNil)) (uC (.bl false)))) (tSeq (tRet (uC (.bl false))) tNil) tNil) tNil)))))))) (tSeq (tRet (uC (.bl true))) tNil))
def mLaw (T : Nat → List D → Sto → Option (D × Sto)) : XS := (sSeq (sFor (wRng1 (xC (.int 4))) (gN 2) (sSeq (sAsg (xCall 2 (T 13) (xCons (xVar 1) (xCons (xC (.int 3)) xNil))) (gN 3)) (sSeq (sIf (bVal (xOp fEq (xCall 2 (T 14) (xCons (xVar 1) (xCons (xC (.int 3)) xNil))) (xC (.int 0)))) (sSeq (sAsg (xOp fIx (xAll mkLst (xCons (xAll mkTup (xCons (xC (.str "gate")) (xCons (xC (.int 2)) (xCons (xAll mkTup (xCons (xC (.int 0)) (xCons (xC (.int 1)) (xCons (xC (.int 1)) (xCons (xC (.int 0)) xNil))))) xNil)))) (xCons (xAll mkTup (xCons (xC (.str "gate")) (xCons (xC (.int 3)) (xCons (xAll mkTup (xCons (xC (.int 0)) (xCons (xC (.int 0)) (xCons (xC (.int 0)) (xCons (xC (.int 1)) (xCons (xC (.int 0)) (xCons (xC (.int 1)) (xCons (xC (.int 1)) (xCons (xC (.int 1)) xNil))))))))) xNil)))) (xCons (xAll mkTup (xCons (xC (.str "gate")) (xCons (xC (.int 1)) (xCons (xAll mkTup (xCons (xC (.int 1)) (xCons (xC (.int 0)) xNil))) xNil)))) (xCons (xAll mkTup (xCons (xC (.str "gate")) (xCons (xC (.int 2)) (xCons (xAll mkTup (xCons (xC (.int 0)) (xCons (xC (.int 0)) (xCons (xC (.int 0)) (xCons (xC (.int 1)) xNil))))) xNil)))) xNil))))) (xCall 2 (T 14) (xCons (xVar 1) (xCons (xC (.int 4)) xNil)))) (gN 3)) sNil) sNil) (sSeq (sIf (bVal (xOp fIsNot (xCall 1 (T 1) (xCons (xVar 3) xNil)) (xC (.bl true)))) (sSeq (sRet (xC (.bl false))) sNil) sNil) (sSeq (sFor (wAny (xAll mkLst (xCons (xC (.str "zero")) (xCons (xC (.str "one")) (xCons (xC (.str "rising")) (xCons (xC (.str "turned")) (xCons (xC (.str "even")) xNil))))))) (gN 4) (sSeq (sIf (bNot (bTru (xCall 2 (T 15) (xCons (xCall 2 (T 9) (xCons (xVar 3) (xCons (xVar 4) xNil))) (xCons (xCall 2 (T 16) (xCons (xVar 3) (xCons (xVar 4) xNil))) xNil))))) (sSeq (sRet (xC (.bl false))) sNil) sNil) sNil)) (sSeq (sAsg (xAll mkLst (xCons (xC .non) (xCons (xSl (xVar 3) xoN (xoS (xC (.int 2)))) (xCons (xOp fPlus (xAll mkTup (xCons (xC (.str "gates")) xNil)) (xSl (xVar 3) (xoS (xC (.int 1))) xoN)) (xCons (xAll mkTup (xCons (xC (.str "gate")) (xCons (xOp fIx (xVar 3) (xC (.int 1))) (xCons (xOp fPlus (xOp fIx (xVar 3) (xC (.int 2))) (xAll mkTup (xCons (xC (.int 0)) xNil))) xNil)))) (xCons (xAll mkTup (xCons (xC (.str "gate")) (xCons (xOp fIx (xVar 3) (xC (.int 1))) (xCons (xOp fPlus (xAll mkTup (xCons (xC (.int 2)) xNil)) (xSl (xOp fIx (xVar 3) (xC (.int 2))) (xoS (xC (.int 1))) xoN)) xNil)))) xNil)))))) (gN 5)) (sSeq (sAsg (xOp fPlus (xVar 5) (xAll mkLst (xCons (xAll mkTup (xCons (xC (.str "gate")) (xCons (xC (.bl true)) (xCons (xAll mkTup (xCons (xC (.int 0)) (xCons (xC (.int 1)) xNil))) xNil)))) (xCons (xAll mkTup (xCons (xC (.str "gate")) (xCons (xC (.int 1)) (xCons (xAll mkLst (xCons (xC (.int 0)) (xCons (xC (.int 1)) xNil))) xNil)))) (xCons (xAll mkTup (xCons (xC (.str "gate")) (xCons (xC (.int 1)) (xCons (xAll mkTup (xCons (xC (.bl false)) (xCons (xC (.int 1)) xNil))) xNil)))) xNil))))) (gN 5)) (sSeq (sIf (bVal (xOp fIsNot (xCall 1 (T 1) (xCons (xOp fIx (xVar 5) (xCall 2 (T 14) (xCons (xVar 1) (xCons (xC (.int 8)) xNil)))) xNil)) (xC (.bl false)))) (sSeq (sRet (xC (.bl false))) sNil) sNil) sNil)))))))) (sSeq (sRet (xC (.bl true))) sNil))
def vrun : Nat → Nat → List W → Tape → Option (W × Tape)
  | 0, _ => fun _ _ => none
  | n + 1, i => match i with
    | 0 => uFn 1 1 (v0 (vrun n))
    | 1 => uFn 1 2 (v1 (vrun n))
    | 2 => uFn 1 3 (v2 (vrun n))
    | 3 => uFn 1 3 (v3 (vrun n))
    | 4 => uFn 2 4 (v4 (vrun n))
    | 5 => uFn 2 2 (v5 (vrun n))
    | 6 => uFn 1 7 (v6 (vrun n))
    | 7 => uFn 1 2 (v7 (vrun n))
    | 8 => uFn 1 7 (v8 (vrun n))
    | 9 => uFn 2 2 (v9 (vrun n))
    | 13 => uFn 2 5 (v13 (vrun n))
    | 14 => uDraw
    | 15 => uFn 2 3 (v15 (vrun n))
    | 16 => uFn 2 10 (v16 (vrun n))
    | 17 => uFn 1 5 (v17 (vrun n))
    | _ => fun _ _ => none
theorem vrun_0 {n : Nat} {x0 : W} {τ : Tape} : vrun (n + 1) 0 [x0] τ = uends (v0 (vrun n) [some x0] τ) := rfl
theorem vrun_1 {n : Nat} {x0 : W} {τ : Tape} : vrun (n + 1) 1 [x0] τ = uends (v1 (vrun n) [some x0, none] τ) := rfl
theorem vrun_2 {n : Nat} {x0 : W} {τ : Tape} : vrun (n + 1) 2 [x0] τ = uends (v2 (vrun n) [some x0, none, none] τ) := rfl
theorem vrun_3 {n : Nat} {x0 : W} {τ : Tape} : vrun (n + 1) 3 [x0] τ = uends (v3 (vrun n) [some x0, none, none] τ) := rfl
theorem vrun_4 {n : Nat} {x0 x1 : W} {τ : Tape} : vrun (n + 1) 4 [x0, x1] τ = uends (v4 (vrun n) [some x0, some x1, none, none] τ) := rfl
theorem vrun_5 {n : Nat} {x0 x1 : W} {τ : Tape} : vrun (n + 1) 5 [x0, x1] τ = uends (v5 (vrun n) [some x0, some x1] τ) := rfl
theorem vrun_6 {n : Nat} {x0 : W} {τ : Tape} : vrun (n + 1) 6 [x0] τ = uends (v6 (vrun n) [some x0, none, none, none, none, none, none] τ) := rfl
theorem vrun_7 {n : Nat} {x0 : W} {τ : Tape} : vrun (n + 1) 7 [x0] τ = uends (v7 (vrun n) [some x0, none] τ) := rfl
theorem vrun_8 {n : Nat} {x0 : W} {τ : Tape} : vrun (n + 1) 8 [x0] τ = uends (v8 (vrun n) [some x0, none, none, none, none, none, none] τ) := rfl
theorem vrun_9 {n : Nat} {x0 x1 : W} {τ : Tape} : vrun (n + 1) 9 [x0, x1] τ = uends (v9 (vrun n) [some x0, some x1] τ) := rfl
theorem vrun_13 {n : Nat} {x0 x1 : W} {τ : Tape} : vrun (n + 1) 13 [x0, x1] τ = uends (v13 (vrun n) [some x0, some x1, none, none, none] τ) := rfl
theorem vrun_14 {n : Nat} {ws : List W} {τ : Tape} : vrun (n + 1) 14 ws τ = uDraw ws τ := rfl
theorem vrun_15 {n : Nat} {x0 x1 : W} {τ : Tape} : vrun (n + 1) 15 [x0, x1] τ = uends (v15 (vrun n) [some x0, some x1, none] τ) := rfl
theorem vrun_16 {n : Nat} {x0 x1 : W} {τ : Tape} : vrun (n + 1) 16 [x0, x1] τ = uends (v16 (vrun n) [some x0, some x1, none, none, none, none, none, none, none, none] τ) := rfl
theorem vrun_17 {n : Nat} {x0 : W} {τ : Tape} : vrun (n + 1) 17 [x0] τ = uends (v17 (vrun n) [some x0, none, none, none, none] τ) := rfl
structure Sims (T : Nat → List D → Sto → Option (D × Sto)) (V : Nat → List W → Tape → Option (W × Tape)) : Prop where
  s0 : SFn true (T 0) (V 0)
  s1 : SFn true (T 1) (V 1)
  s2 : SFn true (T 2) (V 2)
  s3 : SFn true (T 3) (V 3)
  s4 : SFn true (T 4) (V 4)
  s5 : SFn false (T 5) (V 5)
  s6 : SFn true (T 6) (V 6)
  s7 : SFn true (T 7) (V 7)
  s8 : SFn true (T 8) (V 8)
  s9 : SFn true (T 9) (V 9)
  s13 : SFn true (T 13) (V 13)
  s14 : SFn true (T 14) (V 14)
  s15 : SFn true (T 15) (V 15)
  s16 : SFn true (T 16) (V 16)
  s17 : SFn true (T 17) (V 17)
theorem sv0 {T : Nat → List D → Sto → Option (D × Sto)} {V : Nat → List W → Tape → Option (W × Tape)} (D : Sims T V) : SS [0] [] true (m0 T) (v0 V) := (ss_seq (ss_ret (se_and (se_isi .int (se_var 0)) (se_and (se_not (se_isi .bool (se_var 0))) (se_opF op_ge'.v (se_var 0) (se_c (d := (.int 0)) True.intro))))) ss_nil)
theorem sv1 {T : Nat → List D → Sto → Option (D × Sto)} {V : Nat → List W → Tape → Option (W × Tape)} (D : Sims T V) : SS [0] [] true (m1 T) (v1 V) := (ss_seq (ss_if (sb_or (sb_not (sb_tru (se_isi .tuple (se_var 0)))) (sb_or (sb_val (se_opF op_ne'.v (se_allF av_len (sl_cons (se_var 0) sl_nil)) (se_c (d := (.int 3)) True.intro))) (sb_or (sb_not (sb_tru (se_isi .str (se_opT op_ix' (se_var 0) (se_c (d := (.int 0)) True.intro))))) (sb_val (se_opF op_ne'.v (se_opT op_ix' (se_var 0) (se_c (d := (.int 0)) True.intro)) (se_c (d := (.str "gate")) (show PyData.strOk "gate" = true by decide +kernel))))))) (ss_seq (ss_ret (se_c (d := (.bl false)) True.intro)) ss_nil) ss_nil) (ss_seq (ss_if (sb_or (sb_not (sb_tru (se_callPF 1 D.s0 (sl_cons (se_opT op_ix' (se_var 0) (se_c (d := (.int 1)) True.intro)) sl_nil)))) (sb_or (sb_val (se_opF op_gtA'.v (se_opT op_ix' (se_var 0) (se_c (d := (.int 1)) True.intro)) (se_c (d := (.int 8)) True.intro))) (sb_or (sb_not (sb_tru (se_isi .tuple (se_opT op_ix' (se_var 0) (se_c (d := (.int 2)) True.intro))))) (sb_val (se_opF op_ne'.v (se_allF av_len (sl_cons (se_opT op_ix' (se_var 0) (se_c (d := (.int 2)) True.intro)) sl_nil)) (se_callPF 1 D.s2 (sl_cons (se_opT op_ix' (se_var 0) (se_c (d := (.int 1)) True.intro)) sl_nil))))))) (ss_seq (ss_ret (se_c (d := (.bl false)) True.intro)) ss_nil) ss_nil) (ss_seq (ss_ret (se_q (sw_any (se_opT op_ix' (se_var 0) (se_c (d := (.int 2)) True.intro))) (sc_n 1) sb_yes (se_and (se_callPF 1 D.s0 (sl_cons (se_var 1) sl_nil)) (se_opF op_ltA'.v (se_var 1) (se_c (d := (.int 2)) True.intro))))) ss_nil)))
theorem sv2 {T : Nat → List D → Sto → Option (D × Sto)} {V : Nat → List W → Tape → Option (W × Tape)} (D : Sims T V) : SS [0] [] true (m2 T) (v2 V) := (ss_seq (ss_set 1 (se_c (d := (.int 1)) True.intro)) (ss_seq (ss_for (sw_rng1 (se_var 0)) (sg_n 2) (ss_seq (ss_set 1 (se_opF op_mul'.v (se_var 1) (se_c (d := (.int 2)) True.intro))) ss_nil)) (ss_seq (ss_ret (se_var 1)) ss_nil)))
theorem sv3 {T : Nat → List D → Sto → Option (D × Sto)} {V : Nat → List W → Tape → Option (W × Tape)} (D : Sims T V) : SS [0] [] true (m3 T) (v3 V) := (ss_seq (ss_set 1 (se_c (d := (.int 0)) True.intro)) (ss_seq (ss_for (sw_any (se_var 0)) (sg_n 2) (ss_seq (ss_set 1 (se_opF op_add'.v (se_opF op_mul'.v (se_c (d := (.int 2)) True.intro) (se_var 1)) (se_var 2))) ss_nil)) (ss_seq (ss_ret (se_var 1)) ss_nil)))
theorem sv4 {T : Nat → List D → Sto → Option (D × Sto)} {V : Nat → List W → Tape → Option (W × Tape)} (D : Sims T V) : SS [0, 1] [] true (m4 T) (v4 V) := (ss_seq (ss_set 2 (se_allF av_lstL sl_nil)) (ss_seq (ss_for (sw_rng1 (se_var 0)) (sg_n 3) (ss_seq (ss_app 2 (se_opF op_mod'.v (se_var 1) (se_c (d := (.int 2)) True.intro))) (ss_seq (ss_asg (se_opF op_div'.v (se_var 1) (se_c (d := (.int 2)) True.intro)) (sg_n 1)) ss_nil))) (ss_seq (ss_ret (se_allF av_tup (sl_cons (se_rev (se_var 2)) sl_nil))) ss_nil)))
theorem sv5 {T : Nat → List D → Sto → Option (D × Sto)} {V : Nat → List W → Tape → Option (W × Tape)} (D : Sims T V) : SS [0, 1] [] false (m5 T) (v5 V) := (ss_seq (ss_ret (se_opT op_ix' (se_opT op_ix' (se_var 0) (se_c (d := (.int 2)) True.intro)) (se_callPF 1 D.s3 (sl_cons (se_var 1) sl_nil)))) ss_nil)
theorem sv6 {T : Nat → List D → Sto → Option (D × Sto)} {V : Nat → List W → Tape → Option (W × Tape)} (D : Sims T V) : SS [0] [] true (m6 T) (v6 V) := (ss_seq (ss_set 1 (se_lc (sw_rng1 (se_allF av_len (sl_cons (se_opT op_ix' (se_var 0) (se_c (d := (.int 2)) True.intro)) sl_nil))) (sc_n 2) sb_yes (se_callPF 2 D.s4 (sl_cons (se_opT op_ix' (se_var 0) (se_c (d := (.int 1)) True.intro)) (sl_cons (se_var 2) sl_nil))))) (ss_seq (ss_ret (se_boolN (se_opF op_le'.v (se_opT op_ix' (se_opT op_ix' (se_var 0) (se_c (d := (.int 2)) True.intro)) (se_var 3)) (se_opT op_ix' (se_opT op_ix' (se_var 0) (se_c (d := (.int 2)) True.intro)) (se_var 4))) (VCx.cons (sw_rng1 (se_allF av_len (sl_cons (se_var 1) sl_nil))) rfl (sc_n 3) sb_yes (VCx.cons (sw_rng1 (se_allF av_len (sl_cons (se_var 1) sl_nil))) rfl (sc_n 4) (sb_tru (se_q (sw_zip (se_opT op_ix' (se_var 1) (se_var 3)) (se_opT op_ix' (se_var 1) (se_var 4))) (sc_t 2 (scs_c (sc_n 5) (scs_c (sc_n 6) scs_n))) sb_yes (se_opF op_le'.v (se_var 5) (se_var 6)))) VCx.nil)))) ss_nil))
theorem sv7 {T : Nat → List D → Sto → Option (D × Sto)} {V : Nat → List W → Tape → Option (W × Tape)} (D : Sims T V) : SS [0] [] true (m7 T) (v7 V) := (ss_seq (ss_ret (se_q (sw_rng1 (se_allF av_len (sl_cons (se_opT op_ix' (se_var 0) (se_c (d := (.int 2)) True.intro)) sl_nil))) (sc_n 1) sb_yes (se_opF op_ne'.v (se_opT op_ix' (se_opT op_ix' (se_var 0) (se_c (d := (.int 2)) True.intro)) (se_var 1)) (se_opT op_ix' (se_opT op_ix' (se_var 0) (se_c (d := (.int 2)) True.intro)) (se_opF op_sub'.v (se_opF op_sub'.v (se_allF av_len (sl_cons (se_opT op_ix' (se_var 0) (se_c (d := (.int 2)) True.intro)) sl_nil)) (se_c (d := (.int 1)) True.intro)) (se_var 1)))))) ss_nil)
theorem sv8 {T : Nat → List D → Sto → Option (D × Sto)} {V : Nat → List W → Tape → Option (W × Tape)} (D : Sims T V) : SS [0] [] true (m8 T) (v8 V) := (ss_seq (ss_asg (se_opT op_ix' (se_var 0) (se_c (d := (.int 1)) True.intro)) (sg_n 1)) (ss_seq (ss_for (sw_rng1 (se_var 1)) (sg_n 2) (ss_seq (ss_set 3 (se_allF av_lstL sl_nil)) (ss_seq (ss_for (sw_rng1 (se_allF av_len (sl_cons (se_opT op_ix' (se_var 0) (se_c (d := (.int 2)) True.intro)) sl_nil))) (sg_n 4) (ss_seq (ss_set 5 (se_callPF 2 D.s4 (sl_cons (se_var 1) (sl_cons (se_var 4) sl_nil)))) (ss_seq (ss_set 6 (se_opF op_plus' (se_opF op_plus' (se_sl (se_var 5) so_n (so_s (se_var 2))) (se_allF av_tupL (sl_cons (se_opF op_sub'.v (se_c (d := (.int 1)) True.intro) (se_opT op_ix' (se_var 5) (se_var 2))) sl_nil))) (se_sl (se_var 5) (so_s (se_opF op_add'.v (se_var 2) (se_c (d := (.int 1)) True.intro))) so_n))) (ss_seq (ss_app 3 (se_opF op_ne'.v (se_opT op_ix' (se_opT op_ix' (se_var 0) (se_c (d := (.int 2)) True.intro)) (se_var 4)) (se_callPA 2 D.s5 (sl_cons (se_var 0) (sl_cons (se_var 6) sl_nil))))) ss_nil)))) (ss_seq (ss_if (sb_val (se_opF op_gtA'.v (se_lenSetBo (se_var 3)) (se_c (d := (.int 1)) True.intro))) (ss_seq (ss_ret (se_c (d := (.bl false)) True.intro)) ss_nil) ss_nil) ss_nil)))) (ss_seq (ss_ret (se_c (d := (.bl true)) True.intro)) ss_nil)))
theorem sv9 {T : Nat → List D → Sto → Option (D × Sto)} {V : Nat → List W → Tape → Option (W × Tape)} (D : Sims T V) : SS [0, 1] [] true (m9 T) (v9 V) := (ss_seq (ss_if (sb_val (se_opF op_eq'.v (se_var 1) (se_c (d := (.str "zero")) (show PyData.strOk "zero" = true by decide +kernel)))) (ss_seq (ss_ret (se_opF op_eq'.v (se_opT op_ix' (se_opT op_ix' (se_var 0) (se_c (d := (.int 2)) True.intro)) (se_c (d := (.int 0)) True.intro)) (se_c (d := (.int 0)) True.intro))) ss_nil) ss_nil) (ss_seq (ss_if (sb_val (se_opF op_eq'.v (se_var 1) (se_c (d := (.str "one")) (show PyData.strOk "one" = true by decide +kernel)))) (ss_seq (ss_ret (se_opF op_eq'.v (se_opT op_ix' (se_opT op_ix' (se_var 0) (se_c (d := (.int 2)) True.intro)) (se_un un_neg' (se_c (d := (.int 1)) True.intro))) (se_c (d := (.int 1)) True.intro))) ss_nil) ss_nil) (ss_seq (ss_if (sb_val (se_opF op_eq'.v (se_var 1) (se_c (d := (.str "rising")) (show PyData.strOk "rising" = true by decide +kernel)))) (ss_seq (ss_ret (se_callPF 1 D.s6 (sl_cons (se_var 0) sl_nil))) ss_nil) ss_nil) (ss_seq (ss_ret (se_if (sb_val (se_opF op_eq'.v (se_var 1) (se_c (d := (.str "turned")) (show PyData.strOk "turned" = true by decide +kernel)))) (se_callPF 1 D.s7 (sl_cons (se_var 0) sl_nil)) (se_callPF 1 D.s8 (sl_cons (se_var 0) sl_nil)))) ss_nil))))
theorem sv13 {T : Nat → List D → Sto → Option (D × Sto)} {V : Nat → List W → Tape → Option (W × Tape)} (D : Sims T V) : SS [0, 1] [] true (m13 T) (v13 V) := (ss_seq (ss_set 2 (se_callF 2 D.s14 (sl_cons (se_var 0) (sl_cons (se_opF op_add'.v (se_var 1) (se_c (d := (.int 1)) True.intro)) sl_nil)))) (ss_seq (ss_set 3 (se_opT op_ix' (se_allF av_lstL (sl_cons (se_c (d := (.int 1)) True.intro) (sl_cons (se_c (d := (.int 2)) True.intro) (sl_cons (se_c (d := (.int 4)) True.intro) (sl_cons (se_c (d := (.int 8)) True.intro) sl_nil))))) (se_var 2))) (ss_seq (ss_ret (se_allF av_tupL (sl_cons (se_c (d := (.str "gate")) (show PyData.strOk "gate" = true by decide +kernel)) (sl_cons (se_var 2) (sl_cons (se_allF av_tup (sl_cons (se_lc (sw_rng1 (se_var 3)) (sc_n 4) sb_yes (se_callF 2 D.s14 (sl_cons (se_var 0) (sl_cons (se_c (d := (.int 2)) True.intro) sl_nil)))) sl_nil)) sl_nil))))) ss_nil)))
theorem sv15 {T : Nat → List D → Sto → Option (D × Sto)} {V : Nat → List W → Tape → Option (W × Tape)} (D : Sims T V) : SS [0, 1] [] true (m15 T) (v15 V) := (ss_seq (ss_if (sb_tru (se_isi .tuple (se_var 1))) (ss_seq (ss_if (sb_or (sb_not (sb_tru (se_isi .tuple (se_var 0)))) (sb_val (se_opF op_ne'.v (se_allF av_len (sl_cons (se_var 0) sl_nil)) (se_allF av_len (sl_cons (se_var 1) sl_nil))))) (ss_seq (ss_ret (se_c (d := (.bl false)) True.intro)) ss_nil) ss_nil) (ss_seq (ss_for (sw_rng1 (se_allF av_len (sl_cons (se_var 1) sl_nil))) (sg_n 2) (ss_seq (ss_if (sb_not (sb_tru (se_callPF 2 D.s15 (sl_cons (se_opT op_ix' (se_var 0) (se_var 2)) (sl_cons (se_opT op_ix' (se_var 1) (se_var 2)) sl_nil))))) (ss_seq (ss_ret (se_c (d := (.bl false)) True.intro)) ss_nil) ss_nil) ss_nil)) (ss_seq (ss_ret (se_c (d := (.bl true)) True.intro)) ss_nil))) ss_nil) (ss_seq (ss_if (sb_val (se_opF op_is'.v (se_var 1) (se_c (d := .non) True.intro))) (ss_seq (ss_ret (se_opF op_is'.v (se_var 0) (se_c (d := .non) True.intro))) ss_nil) ss_nil) (ss_seq (ss_if (sb_tru (se_isi .bool (se_var 1))) (ss_seq (ss_ret (se_and (se_isi .bool (se_var 0)) (se_opF op_eq'.v (se_var 0) (se_var 1)))) ss_nil) ss_nil) (ss_seq (ss_if (sb_tru (se_isi .int (se_var 1))) (ss_seq (ss_ret (se_and (se_isi .int (se_var 0)) (se_and (se_not (se_isi .bool (se_var 0))) (se_opF op_eq'.v (se_var 0) (se_var 1))))) ss_nil) ss_nil) (ss_seq (ss_ret (se_and (se_isi .str (se_var 0)) (se_opF op_eq'.v (se_var 0) (se_var 1)))) ss_nil)))))
theorem sv16 {T : Nat → List D → Sto → Option (D × Sto)} {V : Nat → List W → Tape → Option (W × Tape)} (D : Sims T V) : SS [0, 1] [] true (m16 T) (v16 V) := (ss_seq (ss_set 2 (se_callPF 1 D.s17 (sl_cons (se_opT op_ix' (se_var 0) (se_c (d := (.int 1)) True.intro)) sl_nil))) (ss_seq (ss_asg (se_opT op_ix' (se_var 0) (se_c (d := (.int 2)) True.intro)) (sg_n 3)) (ss_seq (ss_if (sb_val (se_opF op_eq'.v (se_var 1) (se_c (d := (.str "zero")) (show PyData.strOk "zero" = true by decide +kernel)))) (ss_seq (ss_ret (se_opF op_eq'.v (se_opT op_ix' (se_var 3) (se_c (d := (.int 0)) True.intro)) (se_c (d := (.int 0)) True.intro))) ss_nil) ss_nil) (ss_seq (ss_if (sb_val (se_opF op_eq'.v (se_var 1) (se_c (d := (.str "one")) (show PyData.strOk "one" = true by decide +kernel)))) (ss_seq (ss_ret (se_opF op_eq'.v (se_opT op_ix' (se_var 3) (se_opF op_sub'.v (se_allF av_len (sl_cons (se_var 3) sl_nil)) (se_c (d := (.int 1)) True.intro))) (se_c (d := (.int 1)) True.intro))) ss_nil) ss_nil) (ss_seq (ss_for (sw_rng1 (se_allF av_len (sl_cons (se_var 2) sl_nil))) (sg_n 4) (ss_seq (ss_for (sw_rng1 (se_allF av_len (sl_cons (se_var 2) sl_nil))) (sg_n 5) (ss_seq (ss_if (sb_and (sb_val (se_opF op_eq'.v (se_var 1) (se_c (d := (.str "rising")) (show PyData.strOk "rising" = true by decide +kernel)))) (sb_and (sb_val (se_opF op_eq'.v (se_allF av_len (sl_cons (se_lc (sw_rng1 (se_opT op_ix' (se_var 0) (se_c (d := (.int 1)) True.intro))) (sc_n 6) (sb_val (se_opF op_gtA'.v (se_opT op_ix' (se_opT op_ix' (se_var 2) (se_var 4)) (se_var 6)) (se_opT op_ix' (se_opT op_ix' (se_var 2) (se_var 5)) (se_var 6)))) (se_var 6)) sl_nil)) (se_c (d := (.int 0)) True.intro))) (sb_val (se_opF op_gtA'.v (se_opT op_ix' (se_var 3) (se_var 4)) (se_opT op_ix' (se_var 3) (se_var 5)))))) (ss_seq (ss_ret (se_c (d := (.bl false)) True.intro)) ss_nil) ss_nil) (ss_seq (ss_if (sb_and (sb_val (se_opF op_eq'.v (se_var 1) (se_c (d := (.str "turned")) (show PyData.strOk "turned" = true by decide +kernel)))) (sb_and (sb_val (se_opF op_eq'.v (se_opT op_ix' (se_var 2) (se_var 5)) (se_allF av_tup (sl_cons (se_lc (sw_any (se_opT op_ix' (se_var 2) (se_var 4))) (sc_n 9) sb_yes (se_opF op_sub'.v (se_c (d := (.int 1)) True.intro) (se_var 9))) sl_nil)))) (sb_val (se_opF op_eq'.v (se_opT op_ix' (se_var 3) (se_var 4)) (se_opT op_ix' (se_var 3) (se_var 5)))))) (ss_seq (ss_ret (se_c (d := (.bl false)) True.intro)) ss_nil) ss_nil) ss_nil))) ss_nil)) (ss_seq (ss_if (sb_val (se_opF op_eq'.v (se_var 1) (se_c (d := (.str "even")) (show PyData.strOk "even" = true by decide +kernel)))) (ss_seq (ss_for (sw_rng1 (se_opT op_ix' (se_var 0) (se_c (d := (.int 1)) True.intro))) (sg_n 6) (ss_seq (ss_set 7 (se_allF av_lstL sl_nil)) (ss_seq (ss_for (sw_rng1 (se_allF av_len (sl_cons (se_var 2) sl_nil))) (sg_n 4) (ss_seq (ss_set 8 (se_opF op_plus' (se_opF op_plus' (se_sl (se_opT op_ix' (se_var 2) (se_var 4)) so_n (so_s (se_var 6))) (se_allF av_tupL (sl_cons (se_opF op_sub'.v (se_c (d := (.int 1)) True.intro) (se_opT op_ix' (se_opT op_ix' (se_var 2) (se_var 4)) (se_var 6))) sl_nil))) (se_sl (se_opT op_ix' (se_var 2) (se_var 4)) (so_s (se_opF op_add'.v (se_var 6) (se_c (d := (.int 1)) True.intro))) so_n))) (ss_seq (ss_app 7 (se_opF op_ne'.v (se_opT op_ix' (se_var 3) (se_var 4)) (se_opT op_ix' (se_var 3) (se_mt mv_idx (se_var 2) (se_var 8))))) ss_nil))) (ss_seq (ss_if (sb_val (se_opF op_gtA'.v (se_lenSetBo (se_var 7)) (se_c (d := (.int 1)) True.intro))) (ss_seq (ss_ret (se_c (d := (.bl false)) True.intro)) ss_nil) ss_nil) ss_nil)))) ss_nil) ss_nil) (ss_seq (ss_ret (se_c (d := (.bl true)) True.intro)) ss_nil)))))))
theorem sv17 {T : Nat → List D → Sto → Option (D × Sto)} {V : Nat → List W → Tape → Option (W × Tape)} (D : Sims T V) : SS [0] [] true (m17 T) (v17 V) := (ss_seq (ss_set 1 (se_allF av_lstL (sl_cons (se_allF av_tupL sl_nil) sl_nil))) (ss_seq (ss_for (sw_rng1 (se_var 0)) (sg_n 2) (ss_seq (ss_set 3 (se_allF av_lstL sl_nil)) (ss_seq (ss_for (sw_any (se_var 1)) (sg_n 4) (ss_seq (ss_set 3 (se_opF op_plus' (se_var 3) (se_allF av_lstL (sl_cons (se_opF op_plus' (se_var 4) (se_allF av_tupL (sl_cons (se_c (d := (.int 0)) True.intro) sl_nil))) (sl_cons (se_opF op_plus' (se_var 4) (se_allF av_tupL (sl_cons (se_c (d := (.int 1)) True.intro) sl_nil))) sl_nil))))) ss_nil)) (ss_seq (ss_mov 3 1) ss_nil)))) (ss_seq (ss_ret (se_var 1)) ss_nil)))
theorem sLaw {T : Nat → List D → Sto → Option (D × Sto)} {V : Nat → List W → Tape → Option (W × Tape)} (D : Sims T V) : SS [0] [] false (mLaw T) (vLaw V) := (ss_seq (ss_for (sw_rng1 (se_c (d := (.int 4)) True.intro)) (sg_n 2) (ss_seq (ss_set 3 (se_callF 2 D.s13 (sl_cons (se_var 1) (sl_cons (se_c (d := (.int 3)) True.intro) sl_nil)))) (ss_seq (ss_if (sb_val (se_opF op_eq'.v (se_callF 2 D.s14 (sl_cons (se_var 1) (sl_cons (se_c (d := (.int 3)) True.intro) sl_nil))) (se_c (d := (.int 0)) True.intro))) (ss_seq (ss_set 3 (se_opT op_ix' (se_allF av_lstL (sl_cons (se_allF av_tupL (sl_cons (se_c (d := (.str "gate")) (show PyData.strOk "gate" = true by decide +kernel)) (sl_cons (se_c (d := (.int 2)) True.intro) (sl_cons (se_allF av_tupL (sl_cons (se_c (d := (.int 0)) True.intro) (sl_cons (se_c (d := (.int 1)) True.intro) (sl_cons (se_c (d := (.int 1)) True.intro) (sl_cons (se_c (d := (.int 0)) True.intro) sl_nil))))) sl_nil)))) (sl_cons (se_allF av_tupL (sl_cons (se_c (d := (.str "gate")) (show PyData.strOk "gate" = true by decide +kernel)) (sl_cons (se_c (d := (.int 3)) True.intro) (sl_cons (se_allF av_tupL (sl_cons (se_c (d := (.int 0)) True.intro) (sl_cons (se_c (d := (.int 0)) True.intro) (sl_cons (se_c (d := (.int 0)) True.intro) (sl_cons (se_c (d := (.int 1)) True.intro) (sl_cons (se_c (d := (.int 0)) True.intro) (sl_cons (se_c (d := (.int 1)) True.intro) (sl_cons (se_c (d := (.int 1)) True.intro) (sl_cons (se_c (d := (.int 1)) True.intro) sl_nil))))))))) sl_nil)))) (sl_cons (se_allF av_tupL (sl_cons (se_c (d := (.str "gate")) (show PyData.strOk "gate" = true by decide +kernel)) (sl_cons (se_c (d := (.int 1)) True.intro) (sl_cons (se_allF av_tupL (sl_cons (se_c (d := (.int 1)) True.intro) (sl_cons (se_c (d := (.int 0)) True.intro) sl_nil))) sl_nil)))) (sl_cons (se_allF av_tupL (sl_cons (se_c (d := (.str "gate")) (show PyData.strOk "gate" = true by decide +kernel)) (sl_cons (se_c (d := (.int 2)) True.intro) (sl_cons (se_allF av_tupL (sl_cons (se_c (d := (.int 0)) True.intro) (sl_cons (se_c (d := (.int 0)) True.intro) (sl_cons (se_c (d := (.int 0)) True.intro) (sl_cons (se_c (d := (.int 1)) True.intro) sl_nil))))) sl_nil)))) sl_nil))))) (se_callF 2 D.s14 (sl_cons (se_var 1) (sl_cons (se_c (d := (.int 4)) True.intro) sl_nil))))) ss_nil) ss_nil) (ss_seq (ss_if (sb_val (se_opF op_isNot'.v (se_callPF 1 D.s1 (sl_cons (se_var 3) sl_nil)) (se_c (d := (.bl true)) True.intro))) (ss_seq (ss_ret (se_c (d := (.bl false)) True.intro)) ss_nil) ss_nil) (ss_seq (ss_for (sw_any (se_allF av_lstL (sl_cons (se_c (d := (.str "zero")) (show PyData.strOk "zero" = true by decide +kernel)) (sl_cons (se_c (d := (.str "one")) (show PyData.strOk "one" = true by decide +kernel)) (sl_cons (se_c (d := (.str "rising")) (show PyData.strOk "rising" = true by decide +kernel)) (sl_cons (se_c (d := (.str "turned")) (show PyData.strOk "turned" = true by decide +kernel)) (sl_cons (se_c (d := (.str "even")) (show PyData.strOk "even" = true by decide +kernel)) sl_nil))))))) (sg_n 4) (ss_seq (ss_if (sb_not (sb_tru (se_callPF 2 D.s15 (sl_cons (se_callPF 2 D.s9 (sl_cons (se_var 3) (sl_cons (se_var 4) sl_nil))) (sl_cons (se_callPF 2 D.s16 (sl_cons (se_var 3) (sl_cons (se_var 4) sl_nil))) sl_nil))))) (ss_seq (ss_ret (se_c (d := (.bl false)) True.intro)) ss_nil) ss_nil) ss_nil)) (ss_seq (ss_set 5 (se_allF av_lstL (sl_cons (se_c (d := .non) True.intro) (sl_cons (se_sl (se_var 3) so_n (so_s (se_c (d := (.int 2)) True.intro))) (sl_cons (se_opF op_plus' (se_allF av_tupL (sl_cons (se_c (d := (.str "gates")) (show PyData.strOk "gates" = true by decide +kernel)) sl_nil)) (se_sl (se_var 3) (so_s (se_c (d := (.int 1)) True.intro)) so_n)) (sl_cons (se_allF av_tupL (sl_cons (se_c (d := (.str "gate")) (show PyData.strOk "gate" = true by decide +kernel)) (sl_cons (se_opT op_ix' (se_var 3) (se_c (d := (.int 1)) True.intro)) (sl_cons (se_opF op_plus' (se_opT op_ix' (se_var 3) (se_c (d := (.int 2)) True.intro)) (se_allF av_tupL (sl_cons (se_c (d := (.int 0)) True.intro) sl_nil))) sl_nil)))) (sl_cons (se_allF av_tupL (sl_cons (se_c (d := (.str "gate")) (show PyData.strOk "gate" = true by decide +kernel)) (sl_cons (se_opT op_ix' (se_var 3) (se_c (d := (.int 1)) True.intro)) (sl_cons (se_opF op_plus' (se_allF av_tupL (sl_cons (se_c (d := (.int 2)) True.intro) sl_nil)) (se_sl (se_opT op_ix' (se_var 3) (se_c (d := (.int 2)) True.intro)) (so_s (se_c (d := (.int 1)) True.intro)) so_n)) sl_nil)))) sl_nil))))))) (ss_seq (ss_set 5 (se_plusM (se_var 5) (se_allM av_lstM (sl_cons (se_pl (vs := []) (se_allF av_tupL (sl_cons (se_c (d := (.str "gate")) (show PyData.strOk "gate" = true by decide +kernel)) (sl_cons (se_c (d := (.bl true)) True.intro) (sl_cons (se_allF av_tupL (sl_cons (se_c (d := (.int 0)) True.intro) (sl_cons (se_c (d := (.int 1)) True.intro) sl_nil))) sl_nil))))) (sl_cons (se_allM av_tupM (sl_cons (se_pl (vs := []) (se_c (d := (.str "gate")) (show PyData.strOk "gate" = true by decide +kernel))) (sl_cons (se_pl (vs := []) (se_c (d := (.int 1)) True.intro)) (sl_cons (se_allF av_lstL (sl_cons (se_c (d := (.int 0)) True.intro) (sl_cons (se_c (d := (.int 1)) True.intro) sl_nil))) sl_nil)))) (sl_cons (se_pl (vs := []) (se_allF av_tupL (sl_cons (se_c (d := (.str "gate")) (show PyData.strOk "gate" = true by decide +kernel)) (sl_cons (se_c (d := (.int 1)) True.intro) (sl_cons (se_allF av_tupL (sl_cons (se_c (d := (.bl false)) True.intro) (sl_cons (se_c (d := (.int 1)) True.intro) sl_nil))) sl_nil))))) sl_nil)))))) (ss_seq (ss_if (sb_val (se_opF op_isNot'.v (se_callPF 1 D.s1 (sl_cons (se_opT op_ix' (se_var 5) (se_callF 2 D.s14 (sl_cons (se_var 1) (sl_cons (se_c (d := (.int 8)) True.intro) sl_nil)))) sl_nil)) (se_c (d := (.bl false)) True.intro))) (ss_seq (ss_ret (se_c (d := (.bl false)) True.intro)) ss_nil) ss_nil) ss_nil)))))))) (ss_seq (ss_ret (se_c (d := (.bl true)) True.intro)) ss_nil))
theorem sims : ∀ n, Sims (run n) (vrun n)
  | 0 => ⟨.none, .none, .none, .none, .none, .none, .none, .none, .none, .none, .none, .none, .none, .none, .none⟩
  | n + 1 => by
    have D := sims n
    exact ⟨sfn_of _ (sv0 D), sfn_of _ (sv1 D), sfn_of _ (sv2 D), sfn_of _ (sv3 D), sfn_of _ (sv4 D), sfn_of _ (sv5 D), sfn_of _ (sv6 D), sfn_of _ (sv7 D), sfn_of _ (sv8 D), sfn_of _ (sv9 D), sfn_of _ (sv13 D), sfn_draw, sfn_of _ (sv15 D), sfn_of _ (sv16 D), sfn_of _ (sv17 D)⟩
theorem of_values (hv : ∀ ds : List Int, ∃ τ, vLaw (vrun 164) (none :: some .bx :: List.replicate 4 none) (some ds) = some (.rt (.p (.bl true)) τ)) : ∀ (ns : List Int) (o : O), ns.length ≤ 63 → o = .lst (ns.map D.int) ∨ o = .frz (ns.map D.int) → ∃ S', run 165 18 [.loc 0] [o] = some (.bl true, S') := fun ns o hl ho => by
  have hb : ∃ S', run 164 10 [.loc 0, .int 0, .int ((62 : Nat) : Int)] [o] = some (.loc 2, S') ∧ Box S' 2 ∧ S'.length = 3 ∧ [o] <+: S' := box_ok (last := 62) (ns := ns) (run 164 10) (run 163 11) (run 162 12) (fun _ _ => rfl) (fun _ _ => rfl) (fun _ _ => rfl) (by rcases ho with rfl | rfl <;> rfl) (by omega) (by decide)
  exact law_start (N := 4) (last := 62) [0] ho hb (sLaw (sims 164)) hv
end K24
end
section
set_option maxHeartbeats 4000000
namespace K24
open PySem Mini
open L2 (atI)
theorem okdraw {n : Nat} {m x : Int} {t t2 : List Int} (hn : 1 ≤ n) (h : drw m t = some (x, t2)) : vrun n 14 [.bx, .p (.int m)] (some t) = some (.p (.int x), some t2) := by
  obtain ⟨k, rfl⟩ : ∃ k, n = k + 1 := ⟨n - 1, by omega⟩
  rw [vrun_14]; exact uDraw_ok h
def T_is_number (a_value : D) : Option Bool := obn (isiD .int a_value) fun x2 => obn (if x2 = true then obn (isiD .bool a_value) fun x3 => obn (if (!x3) = true then obn (asI a_value) fun x4 => some (decide ((0 : Int) ≤ x4)) else some false) fun x8 => some x8 else some false) fun x13 => (some x13)
theorem ok_T_is_number {n : Nat} (hn : 1 ≤ n) {a_value : D}   {r : Bool} (h : T_is_number a_value = some r) : vrun n 0 [(W.p (eD a_value))] none = some ((fun x => W.p (D.bl x)) r, none) := by
  obtain ⟨n, rfl⟩ : ∃ m, n = m + 1 := ⟨n - 1, by omega⟩
  have key : PO (FnP (fun x => W.p (D.bl x)) none) (T_is_number a_value) (v0 (vrun n) [some (W.p (eD a_value))] none) := by
    unfold v0
    unfold T_is_number
    exact (po_obn fun x2 hx2 => (po_obn fun x13 hx13 => (po_some (f_ret (R := (fun x => W.p (D.bl x))) (u_andO (u_isiD rfl hx2) (fun _ y10 h9 => (obn_e h9 fun x3 hx3 h11 => (obn_e h11 fun x8 hx8 h12 => (by cases h12; exact (u_andO (u_not (u_isiD rfl hx3) rfl) (fun _ y6 h5 => (obn_e h5 fun x4 hx4 h7 => (by cases h7; exact (u_op (co_w (congrArg W.p (asI_ok hx4)) rfl) u_c rfl)))) hx8))))) hx13)))))
  rw [vrun_0]
  exact key _ h
def T_size_of (a_many : D) : Option Int := lett (1 : Int) fun (found16 : Int) => obn (asI a_many) fun x17 => obn (rngO 0 x17) fun x18 => lett (List.foldl (fun (s19 : Int) (x21 : Int) => lett (s19 * (2 : Int)) fun (found22 : Int) => found22) found16 x18) fun (s19 : Int) => (some s19)
theorem ok_T_size_of {n : Nat} (hn : 1 ≤ n) {a_many : D}   {r : Int} (h : T_size_of a_many = some r) : vrun n 2 [(W.p (eD a_many))] none = some ((fun x => W.p (D.int x)) r, none) := by
  obtain ⟨n, rfl⟩ : ∃ m, n = m + 1 := ⟨n - 1, by omega⟩
  have key : PO (FnP (fun x => W.p (D.int x)) none) (T_size_of a_many) (v2 (vrun n) [some (W.p (eD a_many)), none, none] none) := by
    unfold v2
    unfold T_size_of
    exact (p_set (R := (fun x => W.p (D.int x))) u_c (fun found16 _ => (po_obn fun x17 hx17 => (po_obn fun x18 hx18 => (p_fold (k := D.int) (E := ((fun s19 u20 => [some (W.p (eD a_many)), some (W.p (D.int s19)), u20]) : Int → Option W → VEnv)) (st0 := found16) (u0 := none) (w_rngT1 (co_w (congrArg W.p (asI_ok hx17)) rfl) hx18) rfl (fun x21 _ s19 u20 => ⟨[some (W.p (eD a_many)), some (W.p (D.int s19)), some (W.p (D.int x21))], rfl, (p_set (R := (fun x => W.p (D.int x))) (u_op rfl u_c (wMul_2)) (fun found22 _ => (l_nx (some (W.p (D.int x21))))))⟩) (fun s19 u20 _ => (po_some (f_ret (R := (fun x => W.p (D.int x))) rfl))))))))
  rw [vrun_2]
  exact key _ h
def T_is_gate (a_value : D) : Option Bool := obn (isiD .tuple a_value) fun x24 => obn (if (!x24) = true then some true else obn (itD a_value) fun x25 => obn (if (!decide ((x25.length : Int) = (3 : Int))) = true then some true else obn (ixD a_value (0 : Int)) fun x26 => obn (isiD .str x26) fun x27 => obn (if (!x27) = true then some true else obn (ixD a_value (0 : Int)) fun x28 => obn (eqV x28 (D.str ("gate" : Str))) fun x29 => some (!x29)) fun x34 => some x34) fun x40 => some x40) fun x45 => if x45 = true then (some false) else obn (ixD a_value (1 : Int)) fun x46 => obn (T_is_number x46) fun x47 => obn (if (!x47) = true then some true else obn (ixD a_value (1 : Int)) fun x48 => obn (asI x48) fun x49 => obn (if (decide ((8 : Int) < x49)) = true then some true else obn (ixD a_value (2 : Int)) fun x50 => obn (isiD .tuple x50) fun x51 => obn (if (!x51) = true then some true else obn (ixD a_value (2 : Int)) fun x52 => obn (itD x52) fun x53 => obn (ixD a_value (1 : Int)) fun x54 => obn (T_size_of x54) fun x55 => some (!decide ((x53.length : Int) = x55))) fun x62 => some x62) fun x68 => some x68) fun x74 => if x74 = true then (some false) else obn (ixD a_value (2 : Int)) fun x75 => obn (itD x75) fun x76 => obn (allO (fun (x77 : D) => obn (T_is_number x77) fun x79 => obn (if x79 = true then obn (asI x77) fun x80 => some (decide (x80 < (2 : Int))) else some false) fun x84 => some x84) x76) fun x89 => (some x89)
theorem ok_T_is_gate {n : Nat} (hn : 2 ≤ n) {a_value : D}   {r : Bool} (h : T_is_gate a_value = some r) : vrun n 1 [(W.p (eD a_value))] none = some ((fun x => W.p (D.bl x)) r, none) := by
  obtain ⟨n, rfl⟩ : ∃ m, n = m + 1 := ⟨n - 1, by omega⟩
  have key : PO (FnP (fun x => W.p (D.bl x)) none) (T_is_gate a_value) (v1 (vrun n) [some (W.p (eD a_value)), none] none) := by
    unfold v1
    unfold T_is_gate
    exact (po_obn fun x24 hx24 => (po_obn fun x45 hx45 => (p_if (c_orO (c_not (c_tru (u_isiD rfl hx24) rfl)) (fun _ y42 h41 => (obn_e h41 fun x25 hx25 h43 => (obn_e h43 fun x40 hx40 h44 => (by cases h44; exact (c_orO (c_val (u_op (u_all (u_cons (co_w (congrArg W.p (itD_ok hx25)) rfl) u_nil) (wLen_q (rfl : itemsW (W.p ((eT eD) x25)) = some (List.map eD x25)))) u_c (wNe_em D.int (a := (x25.length : Int)) (b := (3 : Int))))) (fun _ y36 h35 => (obn_e h35 fun x26 hx26 h37 => (obn_e h37 fun x27 hx27 h38 => (obn_e h38 fun x34 hx34 h39 => (by cases h39; exact (c_orO (c_not (c_tru (u_isiD (u_op rfl u_c (wIx_d hx26)) hx27) rfl)) (fun _ y31 h30 => (obn_e h30 fun x28 hx28 h32 => (obn_e h32 fun x29 hx29 h33 => (by cases h33; exact (c_val (u_op (u_op rfl u_c (wIx_d hx28)) u_c (wNe_d hx29))))))) hx34)))))) hx40))))) hx45) (fun _ => (p_seqs (po_some (f_ret (R := (fun x => W.p (D.bl x))) u_c)))) (fun _ => (p_nils (po_obn fun x46 hx46 => (po_obn fun x47 hx47 => (po_obn fun x74 hx74 => (p_if (c_orO (c_not (c_tru (u_callP (u_cons (u_op rfl u_c (wIx_d hx46)) u_nil) rfl (ok_T_is_number (by omega) (a_value := x46) hx47)) rfl)) (fun _ y70 h69 => (obn_e h69 fun x48 hx48 h71 => (obn_e h71 fun x49 hx49 h72 => (obn_e h72 fun x68 hx68 h73 => (by cases h73; exact (c_orO (c_val (u_op (co_w (congrArg W.p (asI_ok hx49)) (u_op rfl u_c (wIx_d hx48))) u_c rfl)) (fun _ y64 h63 => (obn_e h63 fun x50 hx50 h65 => (obn_e h65 fun x51 hx51 h66 => (obn_e h66 fun x62 hx62 h67 => (by cases h67; exact (c_orO (c_not (c_tru (u_isiD (u_op rfl u_c (wIx_d hx50)) hx51) rfl)) (fun _ y57 h56 => (obn_e h56 fun x52 hx52 h58 => (obn_e h58 fun x53 hx53 h59 => (obn_e h59 fun x54 hx54 h60 => (obn_e h60 fun x55 hx55 h61 => (by cases h61; exact (c_val (u_op (u_all (u_cons (co_w (congrArg W.p (itD_ok hx53)) (u_op rfl u_c (wIx_d hx52))) u_nil) (wLen_q (rfl : itemsW (W.p ((eT eD) x53)) = some (List.map eD x53)))) (u_callP (u_cons (u_op rfl u_c (wIx_d hx54)) u_nil) rfl (ok_T_size_of (by omega) (a_many := x54) hx55)) (wNe_em D.int (a := (x53.length : Int)) (b := x55)))))))))) hx62)))))) hx68)))))) hx74) (fun _ => (p_seqs (po_some (f_ret (R := (fun x => W.p (D.bl x))) u_c)))) (fun _ => (p_nils (po_obn fun x75 hx75 => (po_obn fun x76 hx76 => (po_obn fun x89 hx89 => (po_some (f_ret (R := (fun x => W.p (D.bl x))) (u_q (w_any (u_op rfl u_c (wIx_d hx75)) (itemsW_d hx76)) (ql_allO (e := eD) (k := fun (x77 : D) => obn (T_is_number x77) fun x79 => obn (if x79 = true then obn (asI x77) fun x80 => some (decide (x80 < (2 : Int))) else some false) fun x84 => some x84) (fun x77 _ y86 h85 => (obn_e h85 fun x79 hx79 h87 => (obn_e h87 fun x84 hx84 h88 => (by cases h88; exact .inr (one_q (ε1 := [some (W.p (eD a_value)), some (W.p (eD x77))]) rfl (u_andO (u_callP (u_cons rfl u_nil) rfl (ok_T_is_number (by omega) (a_value := x77) hx79)) (fun _ y82 h81 => (obn_e h81 fun x80 hx80 h83 => (by cases h83; exact (u_op (co_w (congrArg W.p (asI_ok hx80)) rfl) u_c rfl)))) hx84)))))) hx89))))))))))))))))))
  rw [vrun_1]
  exact key _ h
def TW_is_gate (a_value : W) : Option Bool := match a_value with
  | .p d => T_is_gate d
  | .m [.str s, .int i] _ [] => if (decide (s = ("gate" : Str)) && decide (i = 1)) = true then some false else none
  | _ => none
theorem nobx_TW_is_gate {a_value : W} {r : Bool} (h : TW_is_gate a_value = some r) : W.nobx a_value = true := by
  cases a_value with
  | bx => cases h
  | n ws => cases h
  | _ => rfl
theorem ok_TW_is_gate {n : Nat} (hn : 2 ≤ n) {a_value : W} {r : Bool} (h : TW_is_gate a_value = some r) : vrun n 1 [a_value] none = some (W.p (D.bl r), none) := by
  unfold TW_is_gate at h
  split at h
  · exact ok_T_is_gate hn h
  · split at h
    · rename_i s i _ c
      cases h
      rw [Bool.and_eq_true] at c
      obtain rfl := of_decide_eq_true c.1
      obtain rfl := of_decide_eq_true c.2
      obtain ⟨n, rfl⟩ : ∃ m, n = m + 2 := ⟨n - 2, by omega⟩
      rw [vrun_1]
      rfl
    · cases h
  · cases h

def T_place_of (a_inputs : (List Int)) : Int := lett (0 : Int) fun (found90 : Int) => lett (List.foldl (fun (s91 : Int) (x93 : Int) => lett (((2 : Int) * s91) + x93) fun (found94 : Int) => found94) found90 a_inputs) fun (s91 : Int) => s91
theorem ok_T_place_of {n : Nat} (hn : 1 ≤ n) {a_inputs : (List Int)}   : vrun n 3 [(W.p ((eT D.int) a_inputs))] none = some ((fun x => W.p (D.int x)) (T_place_of a_inputs), none) := by
  obtain ⟨n, rfl⟩ : ∃ m, n = m + 1 := ⟨n - 1, by omega⟩
  have key : FnP (fun x => W.p (D.int x)) none (T_place_of a_inputs) (v3 (vrun n) [some (W.p ((eT D.int) a_inputs)), none, none] none) := by
    unfold v3
    unfold T_place_of
    exact (p_set (R := (fun x => W.p (D.int x))) u_c (fun found90 _ => (p_fold (k := D.int) (E := ((fun s91 u92 => [some (W.p ((eT D.int) a_inputs)), some (W.p (D.int s91)), u92]) : Int → Option W → VEnv)) (st0 := found90) (u0 := none) (w_any rfl (rfl : itemsW (W.p ((eT D.int) a_inputs)) = some (List.map D.int a_inputs))) rfl (fun x93 _ s91 u92 => ⟨[some (W.p ((eT D.int) a_inputs)), some (W.p (D.int s91)), some (W.p (D.int x93))], rfl, (p_set (R := (fun x => W.p (D.int x))) (u_op (u_op u_c rfl (wMul_1)) rfl rfl) (fun found94 _ => (l_nx (some (W.p (D.int x93))))))⟩) (fun s91 u92 _ => (f_ret (R := (fun x => W.p (D.int x))) rfl)))))
  rw [vrun_3]
  exact key
def T_inputs_of (a_many : Int) (a_place : Int) : Option (List Int) := lett ([] : (List Int)) fun (found97 : (List Int)) => obn (rngO 0 a_many) fun x98 => obn (foldO (fun (s99 : (List Int) × Int) (x101 : Int) => obn (apnO s99.1 (s99.2 % (2 : Int))) fun l102 => lett (s99.2 / (2 : Int)) fun (place103 : Int) => (some (l102, place103))) x98 (found97, a_place)) fun (s99 : (List Int) × Int) => (some s99.1.reverse)
theorem ok_T_inputs_of {n : Nat} (hn : 1 ≤ n) {a_many : Int} {a_place : Int}   {r : (List Int)} (h : T_inputs_of a_many a_place = some r) : vrun n 4 [(W.p (D.int a_many)), (W.p (D.int a_place))] none = some ((fun x => W.p ((eT D.int) x)) r, none) := by
  obtain ⟨n, rfl⟩ : ∃ m, n = m + 1 := ⟨n - 1, by omega⟩
  have key : PO (FnP (fun x => W.p ((eT D.int) x)) none) (T_inputs_of a_many a_place) (v4 (vrun n) [some (W.p (D.int a_many)), some (W.p (D.int a_place)), none, none] none) := by
    unfold v4
    unfold T_inputs_of
    exact (p_set (R := (fun x => W.l (List.map D.int x))) (u_all u_nil rfl) (fun found97 _ => (po_obn fun x98 hx98 => (p_foldO (k := D.int) (E := ((fun s99 u100 => [some (W.p (D.int a_many)), some (W.p (D.int s99.2)), some (W.l (List.map D.int s99.1)), u100]) : (List Int) × Int → Option W → VEnv)) (st0 := (found97, a_place)) (u0 := none) (w_rngT1 rfl hx98) rfl (fun x101 _ s99 u100 => ⟨[some (W.p (D.int a_many)), some (W.p (D.int s99.2)), some (W.l (List.map D.int s99.1)), some (W.p (D.int x101))], rfl, (p_app (e := D.int) rfl (u_op rfl u_c (wMod_c)) (fun l102 _ => (p_asgN (R := D.int) (u_op rfl u_c (wDiv_c)) (fun place103 _ => (po_some (l_nx (some (W.p (D.int x101)))))))))⟩) (fun s99 u100 _ => (po_some (f_ret (R := (fun x => W.p ((eT D.int) x))) (u_all (u_cons (u_revT (e := D.int) rfl) u_nil) (wTupC_q (rfl : itemsW (W.l (List.map D.int s99.1.reverse)) = some (List.map D.int s99.1.reverse)))))))))))
  rw [vrun_4]
  exact key _ h
def T_output (a_gate : (Str × Int × (List Int))) (a_inputs : (List Int)) : Option Int := obn (atI a_gate.2.2 (T_place_of a_inputs)) fun x105 => (some x105)
theorem ok_T_output {n : Nat} (hn : 2 ≤ n) {a_gate : (Str × Int × (List Int))} {a_inputs : (List Int)}   {r : Int} (h : T_output a_gate a_inputs = some r) : vrun n 5 [(W.p ((eP3 D.str D.int (eT D.int)) a_gate)), (W.p ((eT D.int) a_inputs))] none = some ((fun x => W.p (D.int x)) r, none) := by
  obtain ⟨n, rfl⟩ : ∃ m, n = m + 1 := ⟨n - 1, by omega⟩
  have key : PO (FnP (fun x => W.p (D.int x)) none) (T_output a_gate a_inputs) (v5 (vrun n) [some (W.p ((eP3 D.str D.int (eT D.int)) a_gate)), some (W.p ((eT D.int) a_inputs))] none) := by
    unfold v5
    unfold T_output
    exact (po_obn fun x105 hx105 => (po_some (f_ret (R := (fun x => W.p (D.int x))) (u_op (u_op rfl u_c rfl) (u_callP (u_cons rfl u_nil) rfl (ok_T_place_of (by omega) (a_inputs := a_inputs))) (wIx_T D.int hx105)))))
  rw [vrun_5]
  exact key _ h
def T_keeps_rising (a_gate : (Str × Int × (List Int))) : Option Bool := obn (rngO 0 (a_gate.2.2.length : Int)) fun x107 => obn (mapO (fun (x108 : Int) => obn (T_inputs_of a_gate.2.1 x108) fun x110 => some x110) x107) fun x115 => lett x115 fun (rows116 : (List (List Int))) => obn (rngO 0 (rows116.length : Int)) fun x117 => obn (allO (fun (x118 : Int) => obn (rngO 0 (rows116.length : Int)) fun x119 => allO (fun (x120 : Int) => obn (atI rows116 x118) fun x121 => obn (atI rows116 x120) fun x122 => if (List.all (List.zip x121 x122) fun (x123 : (Int × Int)) => (decide (x123.1 ≤ x123.2))) = true then obn (atI a_gate.2.2 x118) fun x124 => obn (atI a_gate.2.2 x120) fun x125 => some (decide (x124 ≤ x125)) else some true) x119) x117) fun x128 => (some x128)
theorem ok_T_keeps_rising {n : Nat} (hn : 2 ≤ n) {a_gate : (Str × Int × (List Int))}   {r : Bool} (h : T_keeps_rising a_gate = some r) : vrun n 6 [(W.p ((eP3 D.str D.int (eT D.int)) a_gate))] none = some ((fun x => W.p (D.bl x)) r, none) := by
  obtain ⟨n, rfl⟩ : ∃ m, n = m + 1 := ⟨n - 1, by omega⟩
  have key : PO (FnP (fun x => W.p (D.bl x)) none) (T_keeps_rising a_gate) (v6 (vrun n) [some (W.p ((eP3 D.str D.int (eT D.int)) a_gate)), none, none, none, none, none, none] none) := by
    unfold v6
    unfold T_keeps_rising
    exact (po_obn fun x107 hx107 => (po_obn fun x115 hx115 => (p_set (R := (fun x => W.l (List.map (eT D.int) x))) (u_lc (w_rngT1 (u_all (u_cons (u_op rfl u_c rfl) u_nil) (wLen_q (rfl : itemsW (W.p ((eT D.int) a_gate.2.2)) = some (List.map D.int a_gate.2.2)))) hx107) (lcl_MO (e := D.int) (f := (eT D.int)) (k := fun (x108 : Int) => obn (T_inputs_of a_gate.2.1 x108) fun x110 => some x110) (fun x108 _ y111 h112 => (obn_e h112 fun x110 hx110 h114 => (by cases h114; exact ⟨[some (W.p ((eP3 D.str D.int (eT D.int)) a_gate)), none, some (W.p (D.int x108)), none, none, none, none], rfl, (u_callP (u_cons (u_op rfl u_c rfl) (u_cons rfl u_nil)) rfl (ok_T_inputs_of (by omega) (a_many := a_gate.2.1) (a_place := x108) hx110))⟩))) hx115)) (fun rows116 _ => (po_obn fun x117 hx117 => (po_obn fun x128 hx128 => (po_some (f_ret (R := (fun x => W.p (D.bl x))) (u_bN (ni_c (w_rngT1 (u_all (u_cons rfl u_nil) (wLen_q (rfl : itemsW (W.l (List.map (eT D.int) rows116)) = some (List.map (eT D.int) rows116)))) hx117) (nl_allO (e := D.int) (f := fun (x118 : Int) => obn (rngO 0 (rows116.length : Int)) fun x119 => allO (fun (x120 : Int) => obn (atI rows116 x118) fun x121 => obn (atI rows116 x120) fun x122 => if (List.all (List.zip x121 x122) fun (x123 : (Int × Int)) => (decide (x123.1 ≤ x123.2))) = true then obn (atI a_gate.2.2 x118) fun x124 => obn (atI a_gate.2.2 x120) fun x125 => some (decide (x124 ≤ x125)) else some true) x119) (fun x118 _ y127 h126 => (obn_e h126 fun x119 hx119 h129 => (no_m (ε1 := [some (W.p ((eP3 D.str D.int (eT D.int)) a_gate)), some (W.l (List.map (eT D.int) rows116)), none, some (W.p (D.int x118)), none, none, none]) rfl (ni_c (w_rngT1 (u_all (u_cons rfl u_nil) (wLen_q (rfl : itemsW (W.l (List.map (eT D.int) rows116)) = some (List.map (eT D.int) rows116)))) hx119) (nl_allO (e := D.int) (f := fun (x120 : Int) => obn (atI rows116 x118) fun x121 => obn (atI rows116 x120) fun x122 => if (List.all (List.zip x121 x122) fun (x123 : (Int × Int)) => (decide (x123.1 ≤ x123.2))) = true then obn (atI a_gate.2.2 x118) fun x124 => obn (atI a_gate.2.2 x120) fun x125 => some (decide (x124 ≤ x125)) else some true) (fun x120 _ y130 h131 => (obn_e h131 fun x121 hx121 h132 => (obn_e h132 fun x122 hx122 h133 => (ite_e h133 (fun q135 h134 => (obn_e h134 fun x124 hx124 h136 => (obn_e h136 fun x125 hx125 h137 => (by cases h137; exact no_y (ε1 := [some (W.p ((eP3 D.str D.int (eT D.int)) a_gate)), some (W.l (List.map (eT D.int) rows116)), none, some (W.p (D.int x118)), some (W.p (D.int x120)), none, none]) rfl (c_tru (u_q (w_zipT (e := D.int) (f := D.int) (l := x121) (m := x122) (u_op rfl rfl (wIx_lT (eT D.int) hx121)) (u_op rfl rfl (wIx_lT (eT D.int) hx122))) (ql_allP (e := (eP2 D.int D.int)) (q := fun (x123 : (Int × Int)) => (decide (x123.1 ≤ x123.2))) (fun x123 _ => ⟨[some (W.p ((eP3 D.str D.int (eT D.int)) a_gate)), some (W.l (List.map (eT D.int) rows116)), none, some (W.p (D.int x118)), some (W.p (D.int x120)), some (W.p (D.int x123.1)), some (W.p (D.int x123.2))], rfl, (u_op rfl rfl rfl)⟩))) rfl) q135 (ni_nil (u_op (u_op (u_op rfl u_c rfl) rfl (wIx_T D.int hx124)) (u_op (u_op rfl u_c rfl) rfl (wIx_T D.int hx125)) rfl)))))) (fun q135 h134 => (by cases h134; exact no_n (ε1 := [some (W.p ((eP3 D.str D.int (eT D.int)) a_gate)), some (W.l (List.map (eT D.int) rows116)), none, some (W.p (D.int x118)), some (W.p (D.int x120)), none, none]) rfl (c_tru (u_q (w_zipT (e := D.int) (f := D.int) (l := x121) (m := x122) (u_op rfl rfl (wIx_lT (eT D.int) hx121)) (u_op rfl rfl (wIx_lT (eT D.int) hx122))) (ql_allP (e := (eP2 D.int D.int)) (q := fun (x123 : (Int × Int)) => (decide (x123.1 ≤ x123.2))) (fun x123 _ => ⟨[some (W.p ((eP3 D.str D.int (eT D.int)) a_gate)), some (W.l (List.map (eT D.int) rows116)), none, some (W.p (D.int x118)), some (W.p (D.int x120)), some (W.p (D.int x123.1)), some (W.p (D.int x123.2))], rfl, (u_op rfl rfl rfl)⟩))) rfl) (Bool.eq_false_iff.mpr q135))))))) h129))))) hx128)))))))))))
  rw [vrun_6]
  exact key _ h
def T_keeps_turned (a_gate : (Str × Int × (List Int))) : Option Bool := obn (rngO 0 (a_gate.2.2.length : Int)) fun x139 => obn (allO (fun (x140 : Int) => obn (atI a_gate.2.2 x140) fun x142 => obn (atI a_gate.2.2 (((a_gate.2.2.length : Int) - (1 : Int)) - x140)) fun x143 => some (!decide (x142 = x143))) x139) fun x148 => (some x148)
theorem ok_T_keeps_turned {n : Nat} (hn : 1 ≤ n) {a_gate : (Str × Int × (List Int))}   {r : Bool} (h : T_keeps_turned a_gate = some r) : vrun n 7 [(W.p ((eP3 D.str D.int (eT D.int)) a_gate))] none = some ((fun x => W.p (D.bl x)) r, none) := by
  obtain ⟨n, rfl⟩ : ∃ m, n = m + 1 := ⟨n - 1, by omega⟩
  have key : PO (FnP (fun x => W.p (D.bl x)) none) (T_keeps_turned a_gate) (v7 (vrun n) [some (W.p ((eP3 D.str D.int (eT D.int)) a_gate)), none] none) := by
    unfold v7
    unfold T_keeps_turned
    exact (po_obn fun x139 hx139 => (po_obn fun x148 hx148 => (po_some (f_ret (R := (fun x => W.p (D.bl x))) (u_q (w_rngT1 (u_all (u_cons (u_op rfl u_c rfl) u_nil) (wLen_q (rfl : itemsW (W.p ((eT D.int) a_gate.2.2)) = some (List.map D.int a_gate.2.2)))) hx139) (ql_allO (e := D.int) (k := fun (x140 : Int) => obn (atI a_gate.2.2 x140) fun x142 => obn (atI a_gate.2.2 (((a_gate.2.2.length : Int) - (1 : Int)) - x140)) fun x143 => some (!decide (x142 = x143))) (fun x140 _ y145 h144 => (obn_e h144 fun x142 hx142 h146 => (obn_e h146 fun x143 hx143 h147 => (by cases h147; exact .inr (one_q (ε1 := [some (W.p ((eP3 D.str D.int (eT D.int)) a_gate)), some (W.p (D.int x140))]) rfl (u_op (u_op (u_op rfl u_c rfl) rfl (wIx_T D.int hx142)) (u_op (u_op rfl u_c rfl) (u_op (u_op (u_all (u_cons (u_op rfl u_c rfl) u_nil) (wLen_q (rfl : itemsW (W.p ((eT D.int) a_gate.2.2)) = some (List.map D.int a_gate.2.2)))) u_c rfl) rfl rfl) (wIx_T D.int hx143)) (wNe_em D.int (a := x142) (b := x143)))))))) hx148))))))
  rw [vrun_7]
  exact key _ h
def T_keeps_even (a_gate : (Str × Int × (List Int))) : Option Bool := lett a_gate.2.1 fun (many151 : Int) => obn (rngO 0 many151) fun x152 => obn (loopO (fun (s153 : Unit) (x155 : Int) => lett ([] : (List Bool)) fun (turns158 : (List Bool)) => obn (rngO 0 (a_gate.2.2.length : Int)) fun x159 => obn (foldO (fun (s160 : (List Bool)) (x162 : Int) => obn (T_inputs_of many151 x162) fun x164 => lett x164 fun (row165 : (List Int)) => obn (atI row165 x155) fun x166 => obn (appO (cutD row165 none (some x155)) ([((1 : Int) - x166)] : (List Int))) fun x167 => obn (appO x167 (cutD row165 (some (x155 + (1 : Int))) none)) fun x168 => lett x168 fun (other169 : (List Int)) => obn (atI a_gate.2.2 x162) fun x170 => obn (T_output a_gate other169) fun x171 => obn (apnO s160 (!decide (x170 = x171))) fun l172 => (some l172)) x159 turns158) fun (s160 : (List Bool)) => obn (setNB s160) fun x173 => if (decide ((1 : Int) < x173)) = true then (some (LR.rt false)) else (some (LR.nx ()))) x152 ()) fun o => lrk o (fun (s153 : Unit) => (some true)) (fun (r174 : Bool) => (some r174))
theorem ok_T_keeps_even {n : Nat} (hn : 3 ≤ n) {a_gate : (Str × Int × (List Int))}   {r : Bool} (h : T_keeps_even a_gate = some r) : vrun n 8 [(W.p ((eP3 D.str D.int (eT D.int)) a_gate))] none = some ((fun x => W.p (D.bl x)) r, none) := by
  obtain ⟨n, rfl⟩ : ∃ m, n = m + 1 := ⟨n - 1, by omega⟩
  have key : PO (FnP (fun x => W.p (D.bl x)) none) (T_keeps_even a_gate) (v8 (vrun n) [some (W.p ((eP3 D.str D.int (eT D.int)) a_gate)), none, none, none, none, none, none] none) := by
    unfold v8
    unfold T_keeps_even
    exact (p_asgN (R := D.int) (u_op rfl u_c rfl) (fun many151 _ => (po_obn fun x152 hx152 => (p_loopO (R := (fun x => W.p (D.bl x))) (k := D.int) (E := ((fun s153 u154 => [some (W.p ((eP3 D.str D.int (eT D.int)) a_gate)), some (W.p (D.int many151)), u154.2.2.1, u154.2.2.2.2, u154.1, u154.2.2.2.1, u154.2.1]) : Unit → Option W × Option W × Option W × Option W × Option W → VEnv)) (st0 := ()) (u0 := (none, none, none, none, none)) (w_rngT1 rfl hx152) rfl (fun x155 _ s153 u154 => ⟨[some (W.p ((eP3 D.str D.int (eT D.int)) a_gate)), some (W.p (D.int many151)), some (W.p (D.int x155)), u154.2.2.2.2, u154.1, u154.2.2.2.1, u154.2.1], rfl, (p_set (R := (fun x => W.l (List.map D.bl x))) (u_all u_nil rfl) (fun turns158 _ => (po_obn fun x159 hx159 => (p_foldO (k := D.int) (E := ((fun s160 u161 => [some (W.p ((eP3 D.str D.int (eT D.int)) a_gate)), some (W.p (D.int many151)), some (W.p (D.int x155)), some (W.l (List.map D.bl s160)), u161.1, u161.2.2, u161.2.1]) : (List Bool) → Option W × Option W × Option W → VEnv)) (st0 := turns158) (u0 := (u154.1, u154.2.1, u154.2.2.2.1)) (w_rngT1 (u_all (u_cons (u_op rfl u_c rfl) u_nil) (wLen_q (rfl : itemsW (W.p ((eT D.int) a_gate.2.2)) = some (List.map D.int a_gate.2.2)))) hx159) rfl (fun x162 _ s160 u161 => ⟨[some (W.p ((eP3 D.str D.int (eT D.int)) a_gate)), some (W.p (D.int many151)), some (W.p (D.int x155)), some (W.l (List.map D.bl s160)), some (W.p (D.int x162)), u161.2.2, u161.2.1], rfl, (po_obn fun x164 hx164 => (p_set (R := (fun x => W.p ((eT D.int) x))) (u_callP (u_cons rfl (u_cons rfl u_nil)) rfl (ok_T_inputs_of (by omega) (a_many := many151) (a_place := x162) hx164)) (fun row165 _ => (po_obn fun x166 hx166 => (po_obn fun x167 hx167 => (po_obn fun x168 hx168 => (p_set (R := (fun x => W.p ((eT D.int) x))) (u_op (u_op (u_slT rfl uo_n (uo_s rfl) (wSl_t (l := row165) D.int)) (u_all (u_cons (u_op u_c (u_op rfl rfl (wIx_T D.int hx166)) rfl) u_nil) rfl) (wPlus_t D.int hx167)) (u_slT rfl (uo_s (u_op rfl u_c rfl)) uo_n (wSl_t (l := row165) D.int)) (wPlus_t D.int hx168)) (fun other169 _ => (po_obn fun x170 hx170 => (po_obn fun x171 hx171 => (p_app (e := D.bl) rfl (u_op (u_op (u_op rfl u_c rfl) rfl (wIx_T D.int hx170)) (u_callP (u_cons rfl (u_cons rfl u_nil)) rfl (ok_T_output (by omega) (a_gate := a_gate) (a_inputs := other169) hx171)) (wNe_em D.int (a := x170) (b := x171))) (fun l172 _ => (po_some (l_nx (some (W.p (D.int x162)), some (W.p ((eT D.int) other169)), some (W.p ((eT D.int) row165)))))))))))))))))⟩) (fun s160 u161 _ => (po_obn fun x173 hx173 => (p_if (c_val (u_op (u_lenBo rfl hx173) u_c rfl)) (fun _ => (p_seqs (po_some (x_rt (R := (fun x => W.p (D.bl x))) u_c)))) (fun _ => (p_nils (po_some (x_nx (u161.1, u161.2.1, some (W.p (D.int x155)), u161.2.2, some (W.l (List.map D.bl s160))))))))))))))⟩) (fun s153 u154 => (po_some (f_ret (R := (fun x => W.p (D.bl x))) u_c))) (fun r174 => (po_some rfl))))))
  rw [vrun_8]
  exact key _ h
def T_keeps (a_gate : (Str × Int × (List Int))) (a_word : Str) : Option Bool := if (decide (a_word = ("zero" : Str))) = true then obn (atI a_gate.2.2 (0 : Int)) fun x176 => (some (decide (x176 = (0 : Int)))) else if (decide (a_word = ("one" : Str))) = true then obn (atI a_gate.2.2 (-(1 : Int))) fun x177 => (some (decide (x177 = (1 : Int)))) else if (decide (a_word = ("rising" : Str))) = true then obn (T_keeps_rising a_gate) fun x178 => (some x178) else obn (if (decide (a_word = ("turned" : Str))) = true then obn (T_keeps_turned a_gate) fun x179 => some x179 else obn (T_keeps_even a_gate) fun x180 => some x180) fun x185 => (some x185)
theorem ok_T_keeps {n : Nat} (hn : 4 ≤ n) {a_gate : (Str × Int × (List Int))} {a_word : Str}   {r : Bool} (h : T_keeps a_gate a_word = some r) : vrun n 9 [(W.p ((eP3 D.str D.int (eT D.int)) a_gate)), (W.p (D.str a_word))] none = some ((fun x => W.p (D.bl x)) r, none) := by
  obtain ⟨n, rfl⟩ : ∃ m, n = m + 1 := ⟨n - 1, by omega⟩
  have key : PO (FnP (fun x => W.p (D.bl x)) none) (T_keeps a_gate a_word) (v9 (vrun n) [some (W.p ((eP3 D.str D.int (eT D.int)) a_gate)), some (W.p (D.str a_word))] none) := by
    unfold v9
    unfold T_keeps
    exact (p_if (c_val (u_op rfl u_c (wEq_em D.str (a := a_word) (b := ("zero" : Str))))) (fun _ => (p_seqs (po_obn fun x176 hx176 => (po_some (f_ret (R := (fun x => W.p (D.bl x))) (u_op (u_op (u_op rfl u_c rfl) u_c (wIx_T D.int hx176)) u_c (wEq_em D.int (a := x176) (b := (0 : Int))))))))) (fun _ => (p_nils (p_if (c_val (u_op rfl u_c (wEq_em D.str (a := a_word) (b := ("one" : Str))))) (fun _ => (p_seqs (po_obn fun x177 hx177 => (po_some (f_ret (R := (fun x => W.p (D.bl x))) (u_op (u_op (u_op rfl u_c rfl) (u_un u_c rfl) (wIx_T D.int hx177)) u_c (wEq_em D.int (a := x177) (b := (1 : Int))))))))) (fun _ => (p_nils (p_if (c_val (u_op rfl u_c (wEq_em D.str (a := a_word) (b := ("rising" : Str))))) (fun _ => (p_seqs (po_obn fun x178 hx178 => (po_some (f_ret (R := (fun x => W.p (D.bl x))) (u_callP (u_cons rfl u_nil) rfl (ok_T_keeps_rising (by omega) (a_gate := a_gate) hx178))))))) (fun _ => (p_nils (po_obn fun x185 hx185 => (po_some (f_ret (R := (fun x => W.p (D.bl x))) (u_ifO (R := (fun x => W.p (D.bl x))) (c_val (u_op rfl u_c (wEq_em D.str (a := a_word) (b := ("turned" : Str))))) (fun _ y182 h181 => (obn_e h181 fun x179 hx179 h183 => (by cases h183; exact (u_callP (u_cons rfl u_nil) rfl (ok_T_keeps_turned (by omega) (a_gate := a_gate) hx179))))) (fun _ y182 h181 => (obn_e h181 fun x180 hx180 h184 => (by cases h184; exact (u_callP (u_cons rfl u_nil) rfl (ok_T_keeps_even (by omega) (a_gate := a_gate) hx180))))) hx185)))))))))))))
  rw [vrun_9]
  exact key _ h
def T_law_gate (a_most : Int) (t0 : List Int) : Option ((Str × Int × (List Int)) × List Int) := tbn (drw (a_most + (1 : Int)) t0) fun d186 t187 => lett d186 fun (many188 : Int) => obn (atI ([(1 : Int), (2 : Int), (4 : Int), (8 : Int)] : (List Int)) many188) fun x189 => lett x189 fun (size190 : Int) => obn (rngO 0 size190) fun x191 => tbn (mapT (fun (x192 : Int) t197 => tbn (drw (2 : Int) t197) fun d198 t199 => some (d198, t199)) x191 t187) fun x204 t205 => (some ((("gate" : Str), many188, x204), t205))
theorem ok_T_law_gate {n : Nat} (hn : 2 ≤ n) {a_most : Int}   {t0 t9 : List Int} {r : (Str × Int × (List Int))} (h : T_law_gate a_most t0 = some (r, t9)) : vrun n 13 [W.bx, (W.p (D.int a_most))] (some t0) = some ((fun x => W.p ((eP3 D.str D.int (eT D.int)) x)) r, some t9) := by
  obtain ⟨n, rfl⟩ : ∃ m, n = m + 1 := ⟨n - 1, by omega⟩
  have key : PO (FnT (fun x => W.p ((eP3 D.str D.int (eT D.int)) x))) (T_law_gate a_most t0) (v13 (vrun n) [some W.bx, some (W.p (D.int a_most)), none, none, none] (some t0)) := by
    unfold v13
    unfold T_law_gate
    exact (po_tbn fun d186 t187 hd186 => (p_set (R := (fun x => W.p (D.int x))) (u_call (u_cons rfl (u_cons (u_op rfl u_c rfl) u_nil)) rfl (okdraw (by omega) hd186)) (fun many188 _ => (po_obn fun x189 hx189 => (p_set (R := (fun x => W.p (D.int x))) (u_op (u_all (u_cons u_c (u_cons u_c (u_cons u_c (u_cons u_c u_nil)))) rfl) rfl (wIx_lT D.int hx189)) (fun size190 _ => (po_obn fun x191 hx191 => (po_tbn fun x204 t205 hx204 => (po_some (f_retT (R := (fun x => W.p ((eP3 D.str D.int (eT D.int)) x))) (u_all (u_cons u_c (u_cons rfl (u_cons (u_all (u_cons (u_lc (w_rngT1 rfl hx191) (lcl_MT (e := D.int) (f := D.int) (k := fun (x192 : Int) t197 => tbn (drw (2 : Int) t197) fun d198 t199 => some (d198, t199)) (fun x192 _ t197 y200 t202 h201 => (tbn_e h201 fun d198 t199 hd198 h203 => (by cases h203; exact ⟨[some W.bx, some (W.p (D.int a_most)), some (W.p (D.int many188)), some (W.p (D.int size190)), some (W.p (D.int x192))], rfl, (u_call (u_cons rfl (u_cons u_c u_nil)) rfl (okdraw (by omega) hd198))⟩))) hx204)) u_nil) (wTupC_q (rfl : itemsW (W.l (List.map D.int x204)) = some (List.map D.int x204)))) u_nil))) rfl)))))))))))
  rw [vrun_13]
  exact key _ h
def T_law_same : Nat → D → D → Option Bool
  | 0, _, _ => none
  | N + 1, a_actual, a_expected => obn (isiD .tuple a_expected) fun x206 => if x206 = true then obn (isiD .tuple a_actual) fun x207 => obn (if (!x207) = true then some true else obn (itD a_actual) fun x208 => obn (itD a_expected) fun x209 => some (!decide ((x208.length : Int) = (x209.length : Int)))) fun x214 => if x214 = true then (some false) else obn (itD a_expected) fun x215 => obn (rngO 0 (x215.length : Int)) fun x216 => obn (loopO (fun (s217 : Unit) (x219 : Int) => obn (ixD a_actual x219) fun x221 => obn (ixD a_expected x219) fun x222 => obn (T_law_same N x221 x222) fun x223 => if (!x223) = true then (some (LR.rt false)) else (some (LR.nx ()))) x216 ()) fun o => lrk o (fun (s217 : Unit) => (some true)) (fun (r224 : Bool) => (some r224)) else obn (isF a_expected .non) fun x225 => if x225 = true then obn (isF a_actual .non) fun x226 => (some x226) else obn (isiD .bool a_expected) fun x227 => if x227 = true then obn (isiD .bool a_actual) fun x228 => obn (if x228 = true then obn (eqV a_actual a_expected) fun x229 => some x229 else some false) fun x233 => (some x233) else obn (isiD .int a_expected) fun x234 => if x234 = true then obn (isiD .int a_actual) fun x235 => obn (if x235 = true then obn (isiD .bool a_actual) fun x236 => obn (if (!x236) = true then obn (eqV a_actual a_expected) fun x237 => some x237 else some false) fun x241 => some x241 else some false) fun x246 => (some x246) else obn (isiD .str a_actual) fun x247 => obn (if x247 = true then obn (eqV a_actual a_expected) fun x248 => some x248 else some false) fun x252 => (some x252)
theorem ok_T_law_same : ∀ {N n : Nat} (hn : N + 1 ≤ n) {a_actual : D} {a_expected : D}   {r : Bool}, T_law_same N a_actual a_expected = some r → vrun n 15 [(W.p (eD a_actual)), (W.p (eD a_expected))] none = some ((fun x => W.p (D.bl x)) r, none)
  | 0, n, hn, a_actual, a_expected, r, h => by cases h
  | N + 1, n, hn, a_actual, a_expected, r, h => by
    obtain ⟨n, rfl⟩ : ∃ m, n = m + 1 := ⟨n - 1, by omega⟩
    have key : PO (FnP (fun x => W.p (D.bl x)) none) (T_law_same (N + 1) a_actual a_expected) (v15 (vrun n) [some (W.p (eD a_actual)), some (W.p (eD a_expected)), none] none) := by
      unfold v15
      unfold T_law_same
      exact (po_obn fun x206 hx206 => (p_if (c_tru (u_isiD rfl hx206) rfl) (fun _ => (p_seqs (po_obn fun x207 hx207 => (po_obn fun x214 hx214 => (p_if (c_orO (c_not (c_tru (u_isiD rfl hx207) rfl)) (fun _ y211 h210 => (obn_e h210 fun x208 hx208 h212 => (obn_e h212 fun x209 hx209 h213 => (by cases h213; exact (c_val (u_op (u_all (u_cons (co_w (congrArg W.p (itD_ok hx208)) rfl) u_nil) (wLen_q (rfl : itemsW (W.p ((eT eD) x208)) = some (List.map eD x208)))) (u_all (u_cons (co_w (congrArg W.p (itD_ok hx209)) rfl) u_nil) (wLen_q (rfl : itemsW (W.p ((eT eD) x209)) = some (List.map eD x209)))) (wNe_em D.int (a := (x208.length : Int)) (b := (x209.length : Int))))))))) hx214) (fun _ => (p_seqs (po_some (f_ret (R := (fun x => W.p (D.bl x))) u_c)))) (fun _ => (p_nils (p_seqs (po_obn fun x215 hx215 => (po_obn fun x216 hx216 => (p_loopO (R := (fun x => W.p (D.bl x))) (k := D.int) (E := ((fun s217 u218 => [some (W.p (eD a_actual)), some (W.p (eD a_expected)), u218]) : Unit → Option W → VEnv)) (st0 := ()) (u0 := none) (w_rngT1 (u_all (u_cons (co_w (congrArg W.p (itD_ok hx215)) rfl) u_nil) (wLen_q (rfl : itemsW (W.p ((eT eD) x215)) = some (List.map eD x215)))) hx216) rfl (fun x219 _ s217 u218 => ⟨[some (W.p (eD a_actual)), some (W.p (eD a_expected)), some (W.p (D.int x219))], rfl, (po_obn fun x221 hx221 => (po_obn fun x222 hx222 => (po_obn fun x223 hx223 => (p_if (c_not (c_tru (u_callP (u_cons (u_op rfl rfl (wIx_d hx221)) (u_cons (u_op rfl rfl (wIx_d hx222)) u_nil)) rfl (ok_T_law_same (by omega) (a_actual := x221) (a_expected := x222) hx223)) rfl)) (fun _ => (p_seqs (po_some (x_rt (R := (fun x => W.p (D.bl x))) u_c)))) (fun _ => (p_nils (po_some (x_nx (some (W.p (D.int x219)))))))))))⟩) (fun s217 u218 => (p_seqs (po_some (f_ret (R := (fun x => W.p (D.bl x))) u_c)))) (fun r224 => (po_some rfl))))))))))))) (fun _ => (p_nils (po_obn fun x225 hx225 => (p_if (c_val (u_op rfl u_c (wIs_d hx225))) (fun _ => (p_seqs (po_obn fun x226 hx226 => (po_some (f_ret (R := (fun x => W.p (D.bl x))) (u_op rfl u_c (wIs_d hx226))))))) (fun _ => (p_nils (po_obn fun x227 hx227 => (p_if (c_tru (u_isiD rfl hx227) rfl) (fun _ => (p_seqs (po_obn fun x228 hx228 => (po_obn fun x233 hx233 => (po_some (f_ret (R := (fun x => W.p (D.bl x))) (u_andO (u_isiD rfl hx228) (fun _ y231 h230 => (obn_e h230 fun x229 hx229 h232 => (by cases h232; exact (u_op rfl rfl (wEq_d hx229))))) hx233))))))) (fun _ => (p_nils (po_obn fun x234 hx234 => (p_if (c_tru (u_isiD rfl hx234) rfl) (fun _ => (p_seqs (po_obn fun x235 hx235 => (po_obn fun x246 hx246 => (po_some (f_ret (R := (fun x => W.p (D.bl x))) (u_andO (u_isiD rfl hx235) (fun _ y243 h242 => (obn_e h242 fun x236 hx236 h244 => (obn_e h244 fun x241 hx241 h245 => (by cases h245; exact (u_andO (u_not (u_isiD rfl hx236) rfl) (fun _ y239 h238 => (obn_e h238 fun x237 hx237 h240 => (by cases h240; exact (u_op rfl rfl (wEq_d hx237))))) hx241))))) hx246))))))) (fun _ => (p_nils (po_obn fun x247 hx247 => (po_obn fun x252 hx252 => (po_some (f_ret (R := (fun x => W.p (D.bl x))) (u_andO (u_isiD rfl hx247) (fun _ y250 h249 => (obn_e h249 fun x248 hx248 h251 => (by cases h251; exact (u_op rfl rfl (wEq_d hx248))))) hx252)))))))))))))))))))))
    rw [vrun_15]
    exact key _ h
def T_law_inputs (a_many : Int) : Option (List (List Int)) := lett ([([] : (List Int))] : (List (List Int))) fun (rows255 : (List (List Int))) => obn (rngO 0 a_many) fun x256 => obn (foldO (fun (s257 : (List (List Int))) (x259 : Int) => lett ([] : (List (List Int))) fun (longer265 : (List (List Int))) => obn (foldO (fun (s266 : (List (List Int))) (x268 : (List Int)) => obn (appO x268 ([(0 : Int)] : (List Int))) fun x270 => obn (appO x268 ([(1 : Int)] : (List Int))) fun x271 => obn (appO s266 ([x270, x271] : (List (List Int)))) fun x272 => lett x272 fun (longer273 : (List (List Int))) => (some longer273)) s257 longer265) fun (s266 : (List (List Int))) => (some s266)) x256 rows255) fun (s257 : (List (List Int))) => (some s257)
theorem ok_T_law_inputs {n : Nat} (hn : 1 ≤ n) {a_many : Int}   {r : (List (List Int))} (h : T_law_inputs a_many = some r) : vrun n 17 [(W.p (D.int a_many))] none = some ((fun x => W.l (List.map (eT D.int) x)) r, none) := by
  obtain ⟨n, rfl⟩ : ∃ m, n = m + 1 := ⟨n - 1, by omega⟩
  have key : PO (FnP (fun x => W.l (List.map (eT D.int) x)) none) (T_law_inputs a_many) (v17 (vrun n) [some (W.p (D.int a_many)), none, none, none, none] none) := by
    unfold v17
    unfold T_law_inputs
    exact (p_set (R := (fun x => W.l (List.map (eT D.int) x))) (u_all (u_cons (u_all u_nil rfl) u_nil) rfl) (fun rows255 _ => (po_obn fun x256 hx256 => (p_foldO (k := D.int) (E := ((fun s257 u258 => [some (W.p (D.int a_many)), some (W.l (List.map (eT D.int) s257)), u258.1, u258.2.1, u258.2.2]) : (List (List Int)) → Option W × Option W × Option W → VEnv)) (st0 := rows255) (u0 := (none, none, none)) (w_rngT1 rfl hx256) rfl (fun x259 _ s257 u258 => ⟨[some (W.p (D.int a_many)), some (W.l (List.map (eT D.int) s257)), some (W.p (D.int x259)), u258.2.1, u258.2.2], rfl, (p_set (R := (fun x => W.l (List.map (eT D.int) x))) (u_all u_nil rfl) (fun longer265 _ => (p_foldO (k := (eT D.int)) (E := ((fun s266 u267 => [some (W.p (D.int a_many)), some (W.l (List.map (eT D.int) s257)), some (W.p (D.int x259)), some (W.l (List.map (eT D.int) s266)), u267]) : (List (List Int)) → Option W → VEnv)) (st0 := longer265) (u0 := u258.2.2) (w_any rfl (rfl : itemsW (W.l (List.map (eT D.int) s257)) = some (List.map (eT D.int) s257))) rfl (fun x268 _ s266 u267 => ⟨[some (W.p (D.int a_many)), some (W.l (List.map (eT D.int) s257)), some (W.p (D.int x259)), some (W.l (List.map (eT D.int) s266)), some (W.p ((eT D.int) x268))], rfl, (po_obn fun x270 hx270 => (po_obn fun x271 hx271 => (po_obn fun x272 hx272 => (p_set (R := (fun x => W.l (List.map (eT D.int) x))) (u_op rfl (u_all (u_cons (u_op rfl (u_all (u_cons u_c u_nil) rfl) (wPlus_t D.int hx270)) (u_cons (u_op rfl (u_all (u_cons u_c u_nil) rfl) (wPlus_t D.int hx271)) u_nil)) rfl) (wPlus_lT (eT D.int) hx272)) (fun longer273 _ => (po_some (l_nx (some (W.p ((eT D.int) x268))))))))))⟩) (fun s266 u267 _ => (p_mov rfl (po_some (l_nx (some (W.p (D.int x259)), none, u267))))))))⟩) (fun s257 u258 _ => (po_some (f_ret (R := (fun x => W.l (List.map (eT D.int) x))) rfl)))))))
  rw [vrun_17]
  exact key _ h
def T_law_keeps (a_gate : (Str × Int × (List Int))) (a_word : Str) : Option Bool := obn (T_law_inputs a_gate.2.1) fun x275 => lett x275 fun (rows276 : (List (List Int))) => lett a_gate.2.2 fun (bits277 : (List Int)) => if (decide (a_word = ("zero" : Str))) = true then obn (atI bits277 (0 : Int)) fun x278 => (some (decide (x278 = (0 : Int)))) else if (decide (a_word = ("one" : Str))) = true then obn (atI bits277 ((bits277.length : Int) - (1 : Int))) fun x279 => (some (decide (x279 = (1 : Int)))) else obn (rngO 0 (rows276.length : Int)) fun x280 => obn (loopO (fun (s281 : Unit) (x283 : Int) => obn (rngO 0 (rows276.length : Int)) fun x285 => obn (loopO (fun (s286 : Unit) (x288 : Int) => obn (if (decide (a_word = ("rising" : Str))) = true then obn (rngO 0 a_gate.2.1) fun x290 => obn (cmpO (fun (x291 : Int) => obn (atI rows276 x283) fun x293 => obn (atI x293 x291) fun x294 => obn (atI rows276 x288) fun x295 => obn (atI x295 x291) fun x296 => if (decide (x296 < x294)) = true then some (some x291) else some (none : Option Int)) x290) fun x306 => obn (if (decide ((x306.length : Int) = (0 : Int))) = true then obn (atI bits277 x283) fun x307 => obn (atI bits277 x288) fun x308 => some (decide (x308 < x307)) else some false) fun x313 => some x313 else some false) fun x319 => if x319 = true then (some (LR.rt false)) else obn (if (decide (a_word = ("turned" : Str))) = true then obn (atI rows276 x288) fun x320 => obn (atI rows276 x283) fun x321 => obn (if (decide (x320 = (List.map (fun (x322 : Int) => ((1 : Int) - x322)) x321))) = true then obn (atI bits277 x283) fun x323 => obn (atI bits277 x288) fun x324 => some (decide (x323 = x324)) else some false) fun x329 => some x329 else some false) fun x335 => if x335 = true then (some (LR.rt false)) else (some (LR.nx ()))) x285 ()) fun o => lrk o (fun (s286 : Unit) => (some (LR.nx ()))) (fun (r336 : Bool) => (some (LR.rt r336)))) x280 ()) fun o => lrk o (fun (s281 : Unit) => jpt (fun (s337 : Unit) => (some true)) fun j339 => if (decide (a_word = ("even" : Str))) = true then obn (rngO 0 a_gate.2.1) fun x342 => obn (loopO (fun (s343 : Unit) (x345 : Int) => lett ([] : (List Bool)) fun (turns348 : (List Bool)) => obn (rngO 0 (rows276.length : Int)) fun x349 => obn (foldO (fun (s350 : (List Bool)) (x352 : Int) => obn (atI rows276 x352) fun x354 => obn (atI rows276 x352) fun x355 => obn (atI x355 x345) fun x356 => obn (appO (cutD x354 none (some x345)) ([((1 : Int) - x356)] : (List Int))) fun x357 => obn (atI rows276 x352) fun x358 => obn (appO x357 (cutD x358 (some (x345 + (1 : Int))) none)) fun x359 => lett x359 fun (other360 : (List Int)) => obn (atI bits277 x352) fun x361 => obn (idxO other360 rows276) fun x362 => obn (atI bits277 x362) fun x363 => obn (apnO s350 (!decide (x361 = x363))) fun l364 => (some l364)) x349 turns348) fun (s350 : (List Bool)) => obn (setNB s350) fun x365 => if (decide ((1 : Int) < x365)) = true then (some (LR.rt false)) else (some (LR.nx ()))) x342 ()) fun o => lrk o (fun (s343 : Unit) => j339 ()) (fun (r366 : Bool) => (some r366)) else j339 ()) (fun (r367 : Bool) => (some r367))
theorem ok_T_law_keeps {n : Nat} (hn : 2 ≤ n) {a_gate : (Str × Int × (List Int))} {a_word : Str}   {r : Bool} (h : T_law_keeps a_gate a_word = some r) : vrun n 16 [(W.p ((eP3 D.str D.int (eT D.int)) a_gate)), (W.p (D.str a_word))] none = some ((fun x => W.p (D.bl x)) r, none) := by
  obtain ⟨n, rfl⟩ : ∃ m, n = m + 1 := ⟨n - 1, by omega⟩
  have key : PO (FnP (fun x => W.p (D.bl x)) none) (T_law_keeps a_gate a_word) (v16 (vrun n) [some (W.p ((eP3 D.str D.int (eT D.int)) a_gate)), some (W.p (D.str a_word)), none, none, none, none, none, none, none, none] none) := by
    unfold v16
    unfold T_law_keeps
    exact (po_obn fun x275 hx275 => (p_set (R := (fun x => W.l (List.map (eT D.int) x))) (u_callP (u_cons (u_op rfl u_c rfl) u_nil) rfl (ok_T_law_inputs (by omega) (a_many := a_gate.2.1) hx275)) (fun rows276 _ => (p_asgN (R := (eT D.int)) (u_op rfl u_c rfl) (fun bits277 _ => (p_if (c_val (u_op rfl u_c (wEq_em D.str (a := a_word) (b := ("zero" : Str))))) (fun _ => (p_seqs (po_obn fun x278 hx278 => (po_some (f_ret (R := (fun x => W.p (D.bl x))) (u_op (u_op rfl u_c (wIx_T D.int hx278)) u_c (wEq_em D.int (a := x278) (b := (0 : Int))))))))) (fun _ => (p_nils (p_if (c_val (u_op rfl u_c (wEq_em D.str (a := a_word) (b := ("one" : Str))))) (fun _ => (p_seqs (po_obn fun x279 hx279 => (po_some (f_ret (R := (fun x => W.p (D.bl x))) (u_op (u_op rfl (u_op (u_all (u_cons rfl u_nil) (wLen_q (rfl : itemsW (W.p ((eT D.int) bits277)) = some (List.map D.int bits277)))) u_c rfl) (wIx_T D.int hx279)) u_c (wEq_em D.int (a := x279) (b := (1 : Int))))))))) (fun _ => (p_nils (po_obn fun x280 hx280 => (p_loopO (R := (fun x => W.p (D.bl x))) (k := D.int) (E := ((fun s281 u282 => [some (W.p ((eP3 D.str D.int (eT D.int)) a_gate)), some (W.p (D.str a_word)), some (W.l (List.map (eT D.int) rows276)), some (W.p ((eT D.int) bits277)), u282.1, u282.2, none, none, none, none]) : Unit → Option W × Option W → VEnv)) (st0 := ()) (u0 := (none, none)) (w_rngT1 (u_all (u_cons rfl u_nil) (wLen_q (rfl : itemsW (W.l (List.map (eT D.int) rows276)) = some (List.map (eT D.int) rows276)))) hx280) rfl (fun x283 _ s281 u282 => ⟨[some (W.p ((eP3 D.str D.int (eT D.int)) a_gate)), some (W.p (D.str a_word)), some (W.l (List.map (eT D.int) rows276)), some (W.p ((eT D.int) bits277)), some (W.p (D.int x283)), u282.2, none, none, none, none], rfl, (po_obn fun x285 hx285 => (p_loopO (R := (fun x => W.p (D.bl x))) (k := D.int) (E := ((fun s286 u287 => [some (W.p ((eP3 D.str D.int (eT D.int)) a_gate)), some (W.p (D.str a_word)), some (W.l (List.map (eT D.int) rows276)), some (W.p ((eT D.int) bits277)), some (W.p (D.int x283)), u287, none, none, none, none]) : Unit → Option W → VEnv)) (st0 := ()) (u0 := u282.2) (w_rngT1 (u_all (u_cons rfl u_nil) (wLen_q (rfl : itemsW (W.l (List.map (eT D.int) rows276)) = some (List.map (eT D.int) rows276)))) hx285) rfl (fun x288 _ s286 u287 => ⟨[some (W.p ((eP3 D.str D.int (eT D.int)) a_gate)), some (W.p (D.str a_word)), some (W.l (List.map (eT D.int) rows276)), some (W.p ((eT D.int) bits277)), some (W.p (D.int x283)), some (W.p (D.int x288)), none, none, none, none], rfl, (po_obn fun x319 hx319 => (p_if (c_andO (c_val (u_op rfl u_c (wEq_em D.str (a := a_word) (b := ("rising" : Str))))) (fun _ y315 h314 => (obn_e h314 fun x290 hx290 h316 => (obn_e h316 fun x306 hx306 h317 => (obn_e h317 fun x313 hx313 h318 => (by cases h318; exact (c_andO (c_val (u_op (u_all (u_cons (u_lc (w_rngT1 (u_op rfl u_c rfl) hx290) (lcl_O (e := D.int) (f := D.int) (k := fun (x291 : Int) => obn (atI rows276 x283) fun x293 => obn (atI x293 x291) fun x294 => obn (atI rows276 x288) fun x295 => obn (atI x295 x291) fun x296 => if (decide (x296 < x294)) = true then some (some x291) else some (none : Option Int)) (fun x291 _ y297 h298 => (obn_e h298 fun x293 hx293 h300 => (obn_e h300 fun x294 hx294 h301 => (obn_e h301 fun x295 hx295 h302 => (obn_e h302 fun x296 hx296 h303 => (ite_e h303 (fun q305 h304 => (by cases h304; exact one_of (e := D.int) (f := D.int) (ε1 := [some (W.p ((eP3 D.str D.int (eT D.int)) a_gate)), some (W.p (D.str a_word)), some (W.l (List.map (eT D.int) rows276)), some (W.p ((eT D.int) bits277)), some (W.p (D.int x283)), some (W.p (D.int x288)), some (W.p (D.int x291)), none, none, none]) rfl (c_val (u_op (u_op (u_op rfl rfl (wIx_lT (eT D.int) hx293)) rfl (wIx_T D.int hx294)) (u_op (u_op rfl rfl (wIx_lT (eT D.int) hx295)) rfl (wIx_T D.int hx296)) rfl)) (.inl ⟨q305, _, rfl, rfl⟩))) (fun q305 h304 => (by cases h304; exact one_of (e := D.int) (f := D.int) (ε1 := [some (W.p ((eP3 D.str D.int (eT D.int)) a_gate)), some (W.p (D.str a_word)), some (W.l (List.map (eT D.int) rows276)), some (W.p ((eT D.int) bits277)), some (W.p (D.int x283)), some (W.p (D.int x288)), some (W.p (D.int x291)), none, none, none]) rfl (c_val (u_op (u_op (u_op rfl rfl (wIx_lT (eT D.int) hx293)) rfl (wIx_T D.int hx294)) (u_op (u_op rfl rfl (wIx_lT (eT D.int) hx295)) rfl (wIx_T D.int hx296)) rfl)) (.inr ⟨Bool.eq_false_iff.mpr q305, rfl, rfl⟩))))))))) hx306)) u_nil) (wLen_q (rfl : itemsW (W.l (List.map D.int x306)) = some (List.map D.int x306)))) u_c (wEq_em D.int (a := (x306.length : Int)) (b := (0 : Int))))) (fun _ y310 h309 => (obn_e h309 fun x307 hx307 h311 => (obn_e h311 fun x308 hx308 h312 => (by cases h312; exact (c_val (u_op (u_op rfl rfl (wIx_T D.int hx307)) (u_op rfl rfl (wIx_T D.int hx308)) rfl)))))) hx313)))))) hx319) (fun _ => (p_seqs (po_some (x_rt (R := (fun x => W.p (D.bl x))) u_c)))) (fun _ => (p_nils (po_obn fun x335 hx335 => (p_if (c_andO (c_val (u_op rfl u_c (wEq_em D.str (a := a_word) (b := ("turned" : Str))))) (fun _ y331 h330 => (obn_e h330 fun x320 hx320 h332 => (obn_e h332 fun x321 hx321 h333 => (obn_e h333 fun x329 hx329 h334 => (by cases h334; exact (c_andO (c_val (u_op (u_op rfl rfl (wIx_lT (eT D.int) hx320)) (u_all (u_cons (u_lc (w_any (u_op rfl rfl (wIx_lT (eT D.int) hx321)) (rfl : itemsW (W.p ((eT D.int) x321)) = some (List.map D.int x321))) (lcl_M (e := D.int) (f := D.int) (k := fun (x322 : Int) => ((1 : Int) - x322)) (fun x322 _ => ⟨[some (W.p ((eP3 D.str D.int (eT D.int)) a_gate)), some (W.p (D.str a_word)), some (W.l (List.map (eT D.int) rows276)), some (W.p ((eT D.int) bits277)), some (W.p (D.int x283)), some (W.p (D.int x288)), none, none, none, some (W.p (D.int x322))], rfl, (u_op u_c rfl rfl)⟩))) u_nil) (wTupC_q (rfl : itemsW (W.l (List.map D.int (List.map (fun (x322 : Int) => ((1 : Int) - x322)) x321))) = some (List.map D.int (List.map (fun (x322 : Int) => ((1 : Int) - x322)) x321))))) (wEq_em (eT D.int) (a := x320) (b := (List.map (fun (x322 : Int) => ((1 : Int) - x322)) x321))))) (fun _ y326 h325 => (obn_e h325 fun x323 hx323 h327 => (obn_e h327 fun x324 hx324 h328 => (by cases h328; exact (c_val (u_op (u_op rfl rfl (wIx_T D.int hx323)) (u_op rfl rfl (wIx_T D.int hx324)) (wEq_em D.int (a := x323) (b := x324)))))))) hx329)))))) hx335) (fun _ => (p_seqs (po_some (x_rt (R := (fun x => W.p (D.bl x))) u_c)))) (fun _ => (p_nils (po_some (x_nx (some (W.p (D.int x288)))))))))))))⟩) (fun s286 u287 => (po_some (x_nx (some (W.p (D.int x283)), u287)))) (fun r336 => (po_some rfl))))⟩) (fun s281 u282 => (p_jp (E := ((fun s337 u338 => [some (W.p ((eP3 D.str D.int (eT D.int)) a_gate)), some (W.p (D.str a_word)), some (W.l (List.map (eT D.int) rows276)), some (W.p ((eT D.int) bits277)), u338.2.2.2, u282.2, u338.1, u338.2.2.1, u338.2.1, none]) : Unit → Option W × Option W × Option W × Option W → VEnv)) (fun hJ341 => (p_if (c_val (u_op rfl u_c (wEq_em D.str (a := a_word) (b := ("even" : Str))))) (fun _ => (p_seqs (po_obn fun x342 hx342 => (p_loopO (R := (fun x => W.p (D.bl x))) (k := D.int) (E := ((fun s343 u344 => [some (W.p ((eP3 D.str D.int (eT D.int)) a_gate)), some (W.p (D.str a_word)), some (W.l (List.map (eT D.int) rows276)), some (W.p ((eT D.int) bits277)), u344.2.2.2, u282.2, u344.1, u344.2.2.1, u344.2.1, none]) : Unit → Option W × Option W × Option W × Option W → VEnv)) (st0 := ()) (u0 := (none, none, none, u282.1)) (w_rngT1 (u_op rfl u_c rfl) hx342) rfl (fun x345 _ s343 u344 => ⟨[some (W.p ((eP3 D.str D.int (eT D.int)) a_gate)), some (W.p (D.str a_word)), some (W.l (List.map (eT D.int) rows276)), some (W.p ((eT D.int) bits277)), u344.2.2.2, u282.2, some (W.p (D.int x345)), u344.2.2.1, u344.2.1, none], rfl, (p_set (R := (fun x => W.l (List.map D.bl x))) (u_all u_nil rfl) (fun turns348 _ => (po_obn fun x349 hx349 => (p_foldO (k := D.int) (E := ((fun s350 u351 => [some (W.p ((eP3 D.str D.int (eT D.int)) a_gate)), some (W.p (D.str a_word)), some (W.l (List.map (eT D.int) rows276)), some (W.p ((eT D.int) bits277)), u351.2, u282.2, some (W.p (D.int x345)), some (W.l (List.map D.bl s350)), u351.1, none]) : (List Bool) → Option W × Option W → VEnv)) (st0 := turns348) (u0 := (u344.2.1, u344.2.2.2)) (w_rngT1 (u_all (u_cons rfl u_nil) (wLen_q (rfl : itemsW (W.l (List.map (eT D.int) rows276)) = some (List.map (eT D.int) rows276)))) hx349) rfl (fun x352 _ s350 u351 => ⟨[some (W.p ((eP3 D.str D.int (eT D.int)) a_gate)), some (W.p (D.str a_word)), some (W.l (List.map (eT D.int) rows276)), some (W.p ((eT D.int) bits277)), some (W.p (D.int x352)), u282.2, some (W.p (D.int x345)), some (W.l (List.map D.bl s350)), u351.1, none], rfl, (po_obn fun x354 hx354 => (po_obn fun x355 hx355 => (po_obn fun x356 hx356 => (po_obn fun x357 hx357 => (po_obn fun x358 hx358 => (po_obn fun x359 hx359 => (p_set (R := (fun x => W.p ((eT D.int) x))) (u_op (u_op (u_slT (u_op rfl rfl (wIx_lT (eT D.int) hx354)) uo_n (uo_s rfl) (wSl_t (l := x354) D.int)) (u_all (u_cons (u_op u_c (u_op (u_op rfl rfl (wIx_lT (eT D.int) hx355)) rfl (wIx_T D.int hx356)) rfl) u_nil) rfl) (wPlus_t D.int hx357)) (u_slT (u_op rfl rfl (wIx_lT (eT D.int) hx358)) (uo_s (u_op rfl u_c rfl)) uo_n (wSl_t (l := x358) D.int)) (wPlus_t D.int hx359)) (fun other360 _ => (po_obn fun x361 hx361 => (po_obn fun x362 hx362 => (po_obn fun x363 hx363 => (p_app (e := D.bl) rfl (u_op (u_op rfl rfl (wIx_T D.int hx361)) (u_op rfl (u_idxT (eT D.int) rfl rfl hx362) (wIx_T D.int hx363)) (wNe_em D.int (a := x361) (b := x363))) (fun l364 _ => (po_some (l_nx (some (W.p ((eT D.int) other360)), some (W.p (D.int x352))))))))))))))))))⟩) (fun s350 u351 _ => (po_obn fun x365 hx365 => (p_if (c_val (u_op (u_lenBo rfl hx365) u_c rfl)) (fun _ => (p_seqs (po_some (x_rt (R := (fun x => W.p (D.bl x))) u_c)))) (fun _ => (p_nils (po_some (x_nx (some (W.p (D.int x345)), u351.1, some (W.l (List.map D.bl s350)), u351.2))))))))))))⟩) (fun s343 u344 => (p_nils (hJ341 () (u344.1, u344.2.1, u344.2.2.1, u344.2.2.2)))) (fun r366 => (po_some rfl)))))) (fun _ => (p_nils (hJ341 () (none, none, none, u282.1)))))) (fun s337 u338 => (po_some (f_ret (R := (fun x => W.p (D.bl x))) u_c))))) (fun r367 => (po_some rfl)))))))))))))))
  rw [vrun_16]
  exact key _ h
def T_law (N : Nat) (t0 : List Int) : Option (Bool × List Int) := tbn (loopT (fun (s368 : Unit) (x370 : Int) (t375 : List Int) => tbn (T_law_gate (3 : Int) t375) fun x376 t377 => lett x376 fun (gate378 : (Str × Int × (List Int))) => tbn (drw (3 : Int) t377) fun d379 t380 => jpt (fun (q : ((Str × Int × (List Int))) × List Int) => (fun (s381 : (Str × Int × (List Int))) (t384 : List Int) => obn (T_is_gate ((eP3 D.str D.int (eT D.int)) s381)) fun x390 => if (x390 != true) = true then (some ((LR.rt false), t384)) else obn (loopO (fun (s391 : Unit) (x393 : Str) => obn (T_keeps s381 x393) fun x395 => obn (T_law_keeps s381 x393) fun x396 => obn (T_law_same N (D.bl x395) (D.bl x396)) fun x397 => if (!x397) = true then (some (LR.rt false)) else (some (LR.nx ()))) ([("zero" : Str), ("one" : Str), ("rising" : Str), ("turned" : Str), ("even" : Str)] : (List Str)) ()) fun o => lrk o (fun (s391 : Unit) => obn (appO ([(D.str ("gates" : Str))] : (List D)) (cutD ([(D.str s381.1), (D.int s381.2.1), ((eT D.int) s381.2.2)] : (List D)) (some (1 : Int)) none)) fun x398 => obn (appO s381.2.2 ([(0 : Int)] : (List Int))) fun x399 => obn (appO ([(2 : Int)] : (List Int)) (cutD s381.2.2 (some (1 : Int)) none)) fun x400 => lett ([(none : (Option (List D))), (some (cutD ([(D.str s381.1), (D.int s381.2.1), ((eT D.int) s381.2.2)] : (List D)) none (some (2 : Int)))), (some x398), (some ([(D.str ((("gate" : Str), s381.2.1, x399).1)), (D.int ((("gate" : Str), s381.2.1, x399).2.1)), ((eT D.int) ((("gate" : Str), s381.2.1, x399).2.2))] : (List D))), (some ([(D.str ((("gate" : Str), s381.2.1, x400).1)), (D.int ((("gate" : Str), s381.2.1, x400).2.1)), ((eT D.int) ((("gate" : Str), s381.2.1, x400).2.2))] : (List D)))] : (List (Option (List D)))) fun (wrong401 : (List (Option (List D)))) => obn (plusMO (List.map (eO (eT eD)) wrong401) ([(W.p ((eP3 D.str D.bl (eP2 D.int D.int)) (("gate" : Str), true, ((0 : Int), (1 : Int))))), (W.m [D.str ("gate" : Str), D.int (1 : Int)] (List.map D.int ([(0 : Int), (1 : Int)] : (List Int))) []), (W.p ((eP3 D.str D.int (eP2 D.bl D.int)) (("gate" : Str), (1 : Int), (false, (1 : Int)))))] : List W)) fun x402 => lett x402 fun (wrong403 : (List W)) => tbn (drw (8 : Int) t384) fun d404 t405 => obn (atI wrong403 d404) fun x406 => obn (TW_is_gate x406) fun x407 => if (x407 != false) = true then (some ((LR.rt false), t405)) else (some ((LR.nx ()), t405))) (fun (r408 : Bool) => (some ((LR.rt r408), t384)))) q.1 q.2) fun j383 => if (decide (d379 = (0 : Int))) = true then tbn (drw (4 : Int) t380) fun d386 t387 => obn (atI ([(("gate" : Str), (2 : Int), ([(0 : Int), (1 : Int), (1 : Int), (0 : Int)] : (List Int))), (("gate" : Str), (3 : Int), ([(0 : Int), (0 : Int), (0 : Int), (1 : Int), (0 : Int), (1 : Int), (1 : Int), (1 : Int)] : (List Int))), (("gate" : Str), (1 : Int), ([(1 : Int), (0 : Int)] : (List Int))), (("gate" : Str), (2 : Int), ([(0 : Int), (0 : Int), (0 : Int), (1 : Int)] : (List Int)))] : (List (Str × Int × (List Int)))) d386) fun x388 => lett x388 fun (gate389 : (Str × Int × (List Int))) => j383 (gate389, t387) else j383 (gate378, t380)) (rngT 0 (4 : Int)) () t0) fun o t409 => lrk o (fun (s368 : Unit) => (some (true, t409))) (fun (r410 : Bool) => (some (r410, t409)))
theorem ok_law {N n : Nat} (hn : N + 4 ≤ n) {t0 t9 : List Int} {r : Bool} (h : T_law N t0 = some (r, t9)) : vLaw (vrun n) [none, some W.bx, none, none, none, none] (some t0) = some (.rt (.p (.bl r)) (some t9)) := by
  have key : PO (FnT (fun x => W.p (D.bl x))) (T_law N t0) (vLaw (vrun n) [none, some W.bx, none, none, none, none] (some t0)) := by
    unfold vLaw
    unfold T_law
    exact (p_loopT (R := (fun x => W.p (D.bl x))) (k := D.int) (E := ((fun s368 u369 => [none, some W.bx, u369.2.1, u369.1, u369.2.2.1, u369.2.2.2]) : Unit → Option W × Option W × Option W × Option W → VEnv)) (st0 := ()) (u0 := (none, none, none, none)) (w_rngC1 u_c) rfl (fun x370 _ s368 t375 u369 => ⟨[none, some W.bx, some (W.p (D.int x370)), u369.1, u369.2.2.1, u369.2.2.2], rfl, (po_tbn fun x376 t377 hx376 => (p_set (R := (fun x => W.p ((eP3 D.str D.int (eT D.int)) x))) (u_call (u_cons rfl (u_cons u_c u_nil)) rfl (ok_T_law_gate (by omega) (a_most := (3 : Int)) hx376)) (fun gate378 _ => (po_tbn fun d379 t380 hd379 => (p_jpT (E := ((fun s381 u382 => [none, some W.bx, some (W.p (D.int x370)), some (W.p ((eP3 D.str D.int (eT D.int)) s381)), u369.2.2.1, u369.2.2.2]) : (Str × Int × (List Int)) → Unit → VEnv)) (fun hJ385 => (p_if (c_val (u_op (u_call (u_cons rfl (u_cons u_c u_nil)) rfl (okdraw (by omega) hd379)) u_c (wEq_em D.int (a := d379) (b := (0 : Int))))) (fun _ => (p_seqs (po_tbn fun d386 t387 hd386 => (po_obn fun x388 hx388 => (p_set (R := (fun x => W.p ((eP3 D.str D.int (eT D.int)) x))) (u_op (u_all (u_cons (u_all (u_cons u_c (u_cons u_c (u_cons (u_all (u_cons u_c (u_cons u_c (u_cons u_c (u_cons u_c u_nil)))) rfl) u_nil))) rfl) (u_cons (u_all (u_cons u_c (u_cons u_c (u_cons (u_all (u_cons u_c (u_cons u_c (u_cons u_c (u_cons u_c (u_cons u_c (u_cons u_c (u_cons u_c (u_cons u_c u_nil)))))))) rfl) u_nil))) rfl) (u_cons (u_all (u_cons u_c (u_cons u_c (u_cons (u_all (u_cons u_c (u_cons u_c u_nil)) rfl) u_nil))) rfl) (u_cons (u_all (u_cons u_c (u_cons u_c (u_cons (u_all (u_cons u_c (u_cons u_c (u_cons u_c (u_cons u_c u_nil)))) rfl) u_nil))) rfl) u_nil)))) rfl) (u_call (u_cons rfl (u_cons u_c u_nil)) rfl (okdraw (by omega) hd386)) (wIx_lT (eP3 D.str D.int (eT D.int)) hx388)) (fun gate389 _ => (p_nils (hJ385 gate389 t387 ())))))))) (fun _ => (p_nils (hJ385 gate378 t380 ()))))) (fun s381 t384 u382 => (po_obn fun x390 hx390 => (p_if (c_val (u_op (u_callP (u_cons rfl u_nil) rfl (ok_T_is_gate (by omega) (a_value := ((eP3 D.str D.int (eT D.int)) s381)) hx390)) u_c (wIsNot_b))) (fun _ => (p_seqs (po_some (x_rtT (R := (fun x => W.p (D.bl x))) u_c)))) (fun _ => (p_nils (p_loopO (R := (fun x => W.p (D.bl x))) (k := D.str) (E := ((fun s391 u392 => [none, some W.bx, some (W.p (D.int x370)), some (W.p ((eP3 D.str D.int (eT D.int)) s381)), u392, u369.2.2.2]) : Unit → Option W → VEnv)) (st0 := ()) (u0 := u369.2.2.1) (w_any (u_all (u_cons u_c (u_cons u_c (u_cons u_c (u_cons u_c (u_cons u_c u_nil))))) rfl) (rfl : itemsW (W.l (List.map D.str ([("zero" : Str), ("one" : Str), ("rising" : Str), ("turned" : Str), ("even" : Str)] : (List Str)))) = some (List.map D.str ([("zero" : Str), ("one" : Str), ("rising" : Str), ("turned" : Str), ("even" : Str)] : (List Str))))) rfl (fun x393 _ s391 u392 => ⟨[none, some W.bx, some (W.p (D.int x370)), some (W.p ((eP3 D.str D.int (eT D.int)) s381)), some (W.p (D.str x393)), u369.2.2.2], rfl, (po_obn fun x395 hx395 => (po_obn fun x396 hx396 => (po_obn fun x397 hx397 => (p_if (c_not (c_tru (u_callP (u_cons (u_callP (u_cons rfl (u_cons rfl u_nil)) rfl (ok_T_keeps (by omega) (a_gate := s381) (a_word := x393) hx395)) (u_cons (u_callP (u_cons rfl (u_cons rfl u_nil)) rfl (ok_T_law_keeps (by omega) (a_gate := s381) (a_word := x393) hx396)) u_nil)) rfl (ok_T_law_same (by omega) (a_actual := (D.bl x395)) (a_expected := (D.bl x396)) hx397)) rfl)) (fun _ => (p_seqs (po_some (x_rt (R := (fun x => W.p (D.bl x))) u_c)))) (fun _ => (p_nils (po_some (x_nx (some (W.p (D.str x393)))))))))))⟩) (fun s391 u392 => (po_obn fun x398 hx398 => (po_obn fun x399 hx399 => (po_obn fun x400 hx400 => (p_set (R := (fun x => W.l (List.map (eO (eT eD)) x))) (u_all (u_cons u_c (u_cons (u_slT rfl uo_n (uo_s u_c) (wSl_t (l := ([(D.str s381.1), (D.int s381.2.1), ((eT D.int) s381.2.2)] : (List D))) eD)) (u_cons (u_op (u_all (u_cons u_c u_nil) rfl) (u_slT rfl (uo_s u_c) uo_n (wSl_t (l := ([(D.str s381.1), (D.int s381.2.1), ((eT D.int) s381.2.2)] : (List D))) eD)) (wPlus_t eD hx398)) (u_cons (u_all (u_cons u_c (u_cons (u_op rfl u_c rfl) (u_cons (u_op (u_op rfl u_c rfl) (u_all (u_cons u_c u_nil) rfl) (wPlus_t D.int hx399)) u_nil))) rfl) (u_cons (u_all (u_cons u_c (u_cons (u_op rfl u_c rfl) (u_cons (u_op (u_all (u_cons u_c u_nil) rfl) (u_slT (u_op rfl u_c rfl) (uo_s u_c) uo_n (wSl_t (l := s381.2.2) D.int)) (wPlus_t D.int hx400)) u_nil))) rfl) u_nil))))) rfl) (fun wrong401 _ => (po_obn fun x402 hx402 => (p_set (R := (fun x => W.n x)) (u_plusM rfl (u_all (u_cons (u_plT (u_all (u_cons u_c (u_cons u_c (u_cons (u_all (u_cons u_c (u_cons u_c u_nil)) rfl) u_nil))) rfl)) (u_cons (u_all (u_cons (u_plT u_c) (u_cons (u_plT u_c) (u_cons (u_all (u_cons u_c (u_cons u_c u_nil)) rfl) u_nil))) rfl) (u_cons (u_plT (u_all (u_cons u_c (u_cons u_c (u_cons (u_all (u_cons u_c (u_cons u_c u_nil)) rfl) u_nil))) rfl)) u_nil))) rfl) hx402) (fun wrong403 _ => (po_tbn fun d404 t405 hd404 => (po_obn fun x406 hx406 => (po_obn fun x407 hx407 => (p_if (c_val (u_op (u_callP (u_cons (u_op rfl (u_call (u_cons rfl (u_cons u_c u_nil)) rfl (okdraw (by omega) hd404)) (wIx_W hx406)) u_nil) (by simp only [W.nobxs, W.nobx, nobx_TW_is_gate hx407]; rfl) (ok_TW_is_gate (by omega) (a_value := x406) hx407)) u_c (wIsNot_b))) (fun _ => (p_seqs (po_some (x_rtT (R := (fun x => W.p (D.bl x))) u_c)))) (fun _ => (p_nils (po_some (x_nxT (some (W.p ((eP3 D.str D.int (eT D.int)) s381)), some (W.p (D.int x370)), u392, some (W.n wrong403))))))))))))))))))) (fun r408 => (po_some rfl)))))))))))))⟩) (fun s368 t409 u369 => (po_some (f_retT (R := (fun x => W.p (D.bl x))) u_c))) (fun r410 t409 => (po_some rfl)))
  exact fnT_rt (key _ h)
theorem law_end {N : Nat} (hn : N + 4 ≤ 164) (hv : ∀ t, ∃ t2, T_law N t = some (true, t2)) : ∀ (ns : List Int) (o : O), ns.length ≤ 63 → o = .lst (ns.map D.int) ∨ o = .frz (ns.map D.int) → ∃ S2, run 165 18 [.loc 0] [o] = some (.bl true, S2) :=
  of_values fun ds => let ⟨t2, h⟩ := hv ds; ⟨some t2, ok_law hn h⟩
end K24
end
section
namespace Mini
open PySem L2
inductive Fm where
  | at (x : Str) | no (f : Fm) | im (f g : Fm)
  deriving DecidableEq
def Fm.d : Fm → D
  | .at x => .tup [.str "letter", .str x]
  | .no f => .tup [.str "not", f.d]
  | .im f g => .tup [.str "if", f.d, g.d]
def Fm.size : Fm → Nat
  | .at _ => 1
  | .no f => f.size + 1
  | .im f g => f.size + g.size + 1
def Fm.ls : Fm → List Str
  | .at x => [x]
  | .no f => f.ls
  | .im f g => f.ls ++ g.ls
def Fm.ok (f : Fm) : Prop := ∀ x ∈ f.ls, PyData.strOk x = true
def ev : Fm → List Str → Bool
  | .at x, r => decide (x ∈ r)
  | .no f, r => !ev f r
  | .im f g, r => ev g r || !ev f r
def okS (l : List Str) : Prop := ∀ x ∈ l, PyData.strOk x = true
theorem okS.app {l m : List Str} (h : okS l) (k : okS m) : okS (l ++ m) := fun x hx => (List.mem_append.mp hx).elim (h x) (k x)
theorem okS.sub {l m : List Str} (h : okS m) (s : ∀ x ∈ l, x ∈ m) : okS l := fun x hx => h x (s x hx)
def names (f : Fm) : List Str := usS f.ls
def lt : Fm → List Str
  | .at x => [x]
  | .no f => usS (lt f)
  | .im f g => usS (lt f ++ lt g)
def cut (l r : List Str) : List Str := l.filter fun x => decide (x ∈ r)
def sub : Fm → List Fm
  | .at x => [.at x]
  | .no f => .no f :: sub f
  | .im f g => .im f g :: (sub f ++ sub g)
end Mini
end
section
namespace Mini
open PySem L2
section
variable {a b c d e : D} {l m : List D}
theorem atI_nat {α : Type} {l : List α} {k : Nat} {x : α} (h : l[k]? = some x) : atI l (k : Int) = some x := by
  have hk : k < l.length := (List.getElem?_eq_some_iff.mp h).1
  unfold atI
  rw [ixN_nat hk]
  exact h
theorem at0 {α : Type} {x : α} {l : List α} : atI (x :: l) 0 = some x := atI_nat (k := 0) rfl
theorem at1 {α : Type} {x y : α} {l : List α} : atI (x :: y :: l) 1 = some y := atI_nat (k := 1) rfl
theorem at2 {α : Type} {x y z : α} {l : List α} : atI (x :: y :: z :: l) 2 = some z := atI_nat (k := 2) rfl
theorem at3 {α : Type} {x y z w : α} {l : List α} : atI (x :: y :: z :: w :: l) 3 = some w := atI_nat (k := 3) rfl
theorem iff' {α : Type} {x y : α} : (if (false = true) then x else y) = y := rfl
end
theorem atI_some {α : Type} {l : List α} {i : Int} (h : 0 ≤ i) (h2 : i < l.length) : ∃ x ∈ l, atI l i = some x := by
  have hk : i.toNat < l.length := by omega
  refine ⟨l[i.toNat], List.getElem_mem _, ?_⟩
  rw [← atI_nat (l := l) (k := i.toNat) (List.getElem?_eq_getElem hk)]
  congr 1
  omega
theorem rngO_len {n : Nat} (h : n ≤ 400000) : rngO 0 (n : Int) = some (rngT 0 n) := by
  unfold rngO
  rw [if_pos]
  unfold smallL
  simp only [Bool.and_eq_true, decide_eq_true_eq]
  try omega
end Mini
end
section
namespace Mini
open PySem L2
abbrev eLt : Str × Bool → D := eP2 D.str D.bl
def nOrd (c : List (Str × Bool)) : Prop := (c.map (·.1)).Pairwise fun a b => ltS a b = true
theorem nOrd.nodup {c : List (Str × Bool)} (h : nOrd c) : (c.map (·.1)).Nodup := by
  haveI : Tabs := ⟨fun _ => False⟩
  exact h.imp fun h e => by subst e; exact ltS_irr _ h
theorem nOrd.nd {c : List (Str × Bool)} (h : nOrd c) : c.Nodup := by
  have := h.nodup
  rw [List.Nodup, List.pairwise_map] at this
  exact this.imp fun h e => h (by rw [e])
def wide (l : List (List (Str × Bool))) : List (List (Str × Bool)) := (srtE (eT eLt) (dedE l)).filter fun c => (srtE (eT eLt) (dedE l)).all fun o => !(!decide (o = c) && o.all fun y => inL y c)
end Mini
end
section
set_option maxHeartbeats 4000000
namespace K24
open PySem Mini
open L2 (atI)
abbrev Gt := Str × Int × List Int
def chk (s381 : Gt) : Option (List W) := obn (T_is_gate ((eP3 D.str D.int (eT D.int)) s381)) fun x390 => if (x390 != true) = true then none else obn (loopO (fun (s391 : Unit) (x393 : Str) => obn (T_keeps s381 x393) fun x395 => obn (T_law_keeps s381 x393) fun x396 => obn (T_law_same 60 (D.bl x395) (D.bl x396)) fun x397 => if (!x397) = true then (some (LR.rt false)) else (some (LR.nx ()))) ([("zero" : Str), ("one" : Str), ("rising" : Str), ("turned" : Str), ("even" : Str)] : (List Str)) ()) fun o => lrk o (fun (s391 : Unit) => obn (appO ([(D.str ("gates" : Str))] : (List D)) (cutD ([(D.str s381.1), (D.int s381.2.1), ((eT D.int) s381.2.2)] : (List D)) (some (1 : Int)) none)) fun x398 => obn (appO s381.2.2 ([(0 : Int)] : (List Int))) fun x399 => obn (appO ([(2 : Int)] : (List Int)) (cutD s381.2.2 (some (1 : Int)) none)) fun x400 => lett ([(none : (Option (List D))), (some (cutD ([(D.str s381.1), (D.int s381.2.1), ((eT D.int) s381.2.2)] : (List D)) none (some (2 : Int)))), (some x398), (some ([(D.str ((("gate" : Str), s381.2.1, x399).1)), (D.int ((("gate" : Str), s381.2.1, x399).2.1)), ((eT D.int) ((("gate" : Str), s381.2.1, x399).2.2))] : (List D))), (some ([(D.str ((("gate" : Str), s381.2.1, x400).1)), (D.int ((("gate" : Str), s381.2.1, x400).2.1)), ((eT D.int) ((("gate" : Str), s381.2.1, x400).2.2))] : (List D)))] : (List (Option (List D)))) fun (wrong401 : (List (Option (List D)))) => obn (plusMO (List.map (eO (eT eD)) wrong401) ([(W.p ((eP3 D.str D.bl (eP2 D.int D.int)) (("gate" : Str), true, ((0 : Int), (1 : Int))))), (W.m [D.str ("gate" : Str), D.int (1 : Int)] (List.map D.int ([(0 : Int), (1 : Int)] : (List Int))) []), (W.p ((eP3 D.str D.int (eP2 D.bl D.int)) (("gate" : Str), (1 : Int), (false, (1 : Int)))))] : List W)) fun x402 => lett x402 fun (wrong403 : (List W)) => some wrong403) (fun (_ : Bool) => none)
def okG (g : Gt) : Bool := match chk g with
  | some ws => decide (ws.length = 8) && ws.all fun w => decide (TW_is_gate w = some false)
  | none => false
def allI : Nat → List (List Int)
  | 0 => [[]]
  | n + 1 => (allI n).map ((0 : Int) :: ·) ++ (allI n).map ((1 : Int) :: ·)
theorem mem_allI : ∀ {n : Nat} {l : List Int}, l.length = n → (∀ x ∈ l, x = 0 ∨ x = 1) → l ∈ allI n
  | 0, [], _, _ => List.mem_singleton.mpr rfl
  | n + 1, b :: l, h, k => by
    have ih := mem_allI (n := n) (l := l) (by simpa using h) fun x hx => k x (List.mem_cons_of_mem _ hx)
    rcases k b List.mem_cons_self with rfl | rfl
    · exact List.mem_append_left _ (List.mem_map.mpr ⟨l, ih, rfl⟩)
    · exact List.mem_append_right _ (List.mem_map.mpr ⟨l, ih, rfl⟩)
theorem fin0 : ((allI 1).all fun b => okG ("gate", 0, b)) = true := by decide +kernel
theorem fin1 : ((allI 2).all fun b => okG ("gate", 1, b)) = true := by decide +kernel
theorem fin2 : ((allI 4).all fun b => okG ("gate", 2, b)) = true := by decide +kernel
theorem fin3 : ((allI 8).all fun b => okG ("gate", 3, b)) = true := by decide +kernel
def isG (g : Gt) : Prop := okG g = true
theorem gate_ok (t : List Int) : TT (T_law_gate 3 t) isG := by
  unfold T_law_gate
  refine tt_tbn (tt_drw (by omega)) fun d t1 h1 => tt_lett ?_
  have key : ∀ (n : Nat) (m : Int), n ≤ 8 → ((allI n).all fun b => okG ("gate", m, b)) = true → ∀ t, TT (obn (rngO 0 (n : Int)) fun x191 => tbn (mapT (fun (x192 : Int) t197 => tbn (drw (2 : Int) t197) fun d198 t199 => some (d198, t199)) x191 t) fun x204 t205 => (some ((("gate" : Str), m, x204), t205))) isG := fun n m hn hf t => by
    refine tt_eq (rngO_len (by omega)) ?_
    refine tt_tbn (tt_map (R := fun _ y => y = 0 ∨ y = 1) fun x hx t => tt_tbn (tt_drw (by omega)) fun d t1 h1 => tt_some (by omega)) fun r t2 h => ?_
    have hl : r.length = n := by rw [← h.length]; unfold rngT; simp
    exact tt_some (List.all_eq_true.mp hf r (mem_allI hl fun x hx => let ⟨_, _, q⟩ := h.right x hx; q))
  obtain rfl | rfl | rfl | rfl : d = 0 ∨ d = 1 ∨ d = 2 ∨ d = 3 := by omega
  · exact tt_eq at0 (tt_lett (key 1 0 (by decide) fin0 t1))
  · exact tt_eq at1 (tt_lett (key 2 1 (by decide) fin1 t1))
  · exact tt_eq at2 (tt_lett (key 4 2 (by decide) fin2 t1))
  · exact tt_eq at3 (tt_lett (key 8 3 (by decide) fin3 t1))
theorem fixed : (["x"].all fun _ => [(("gate" : Str), (2 : Int), ([(0 : Int), (1 : Int), (1 : Int), (0 : Int)] : (List Int))), (("gate" : Str), (3 : Int), ([(0 : Int), (0 : Int), (0 : Int), (1 : Int), (0 : Int), (1 : Int), (1 : Int), (1 : Int)] : (List Int))), (("gate" : Str), (1 : Int), ([(1 : Int), (0 : Int)] : (List Int))), (("gate" : Str), (2 : Int), ([(0 : Int), (0 : Int), (0 : Int), (1 : Int)] : (List Int)))].all okG) = true := by decide +kernel
theorem tt_jp {α β : Type} {F : α × List Int → Option (β × List Int)} {B : (α × List Int → Option (β × List Int)) → Option (β × List Int)} {I : α → Prop} {Q : β → Prop} (h : ∀ q, I q.1 → TT (F q) Q) (k : ∀ j : α × List Int → Option (β × List Int), (∀ q, I q.1 → TT (j q) Q) → TT (B j) Q) : TT (jpt F B) Q := k F h
theorem if_none {α : Type} {c : Bool} {b : Option α} {r : α} (h : (if c = true then none else b) = some r) : c = false ∧ b = some r := by
  cases c with
  | true => cases h
  | false => exact ⟨rfl, h⟩
theorem law_true : ∀ t, ∃ t2, T_law 60 t = some (true, t2) := fun t => by
  unfold T_law
  refine end_of (tt_lrk_nx (I := fun _ => True) (tt_loop (I := fun _ => True) (fun s x t _ _ => ?_) trivial) fun s t _ => tt_some rfl)
  refine tt_tbn (gate_ok t) fun g0 t1 hg0 => tt_lett ?_
  refine tt_tbn (tt_drw (by omega)) fun d1 t2 h1 => ?_
  refine tt_jp (I := fun q => isG q) (fun q hq => ?_) fun j hj => ?_
  · obtain ⟨g, t⟩ := q
    dsimp only at hq ⊢
    unfold isG okG at hq
    split at hq
    rotate_left
    · cases hq
    rename_i ws hc
    rw [Bool.and_eq_true] at hq
    obtain ⟨hl, hw⟩ := hq
    have hl := of_decide_eq_true hl
    unfold chk at hc
    dsimp only [lett] at hc ⊢
    obtain ⟨x1, e1, hc⟩ := obn_ex hc
    refine tt_eq e1 ?_
    obtain ⟨c1, hc⟩ := if_none hc
    rw [if_neg (by rw [c1]; decide)]
    obtain ⟨x2, e2, hc⟩ := obn_ex hc
    refine tt_eq e2 ?_
    cases x2 with
    | rt r => cases hc
    | nx s => 
      dsimp only [lrk] at hc ⊢
      obtain ⟨y1, q1, hc⟩ := obn_ex hc
      refine tt_eq q1 ?_
      obtain ⟨y2, q2, hc⟩ := obn_ex hc
      refine tt_eq q2 ?_
      obtain ⟨y3, q3, hc⟩ := obn_ex hc
      refine tt_eq q3 ?_
      obtain ⟨y4, q4, hc⟩ := obn_ex hc
      refine tt_eq q4 ?_
      cases hc
      refine tt_tbn (tt_drw (by omega)) fun d3 t4 h3 => ?_
      obtain ⟨w, hw1, hw2⟩ := atI_some (l := ws) (i := d3) h3.1 (by rw [hl]; exact h3.2)
      refine tt_eq hw2 (tt_eq (of_decide_eq_true (List.all_eq_true.mp hw w hw1)) ?_)
      rw [show (false != false) = false from rfl, iff']
      exact tt_some ⟨(), rfl, trivial⟩
    | bk s => 
      dsimp only [lrk] at hc ⊢
      obtain ⟨y1, q1, hc⟩ := obn_ex hc
      refine tt_eq q1 ?_
      obtain ⟨y2, q2, hc⟩ := obn_ex hc
      refine tt_eq q2 ?_
      obtain ⟨y3, q3, hc⟩ := obn_ex hc
      refine tt_eq q3 ?_
      obtain ⟨y4, q4, hc⟩ := obn_ex hc
      refine tt_eq q4 ?_
      cases hc
      refine tt_tbn (tt_drw (by omega)) fun d3 t4 h3 => ?_
      obtain ⟨w, hw1, hw2⟩ := atI_some (l := ws) (i := d3) h3.1 (by rw [hl]; exact h3.2)
      refine tt_eq hw2 (tt_eq (of_decide_eq_true (List.all_eq_true.mp hw w hw1)) ?_)
      rw [show (false != false) = false from rfl, iff']
      exact tt_some ⟨(), rfl, trivial⟩
  · refine tt_if (fun _ => ?_) fun _ => hj (g0, t2) hg0
    refine tt_tbn (tt_drw (by omega)) fun d2 t3 h2 => ?_
    have hf := List.all_eq_true.mp fixed "x" (by simp)
    obtain ⟨y, hy, e⟩ := atI_some (l := [(("gate" : Str), (2 : Int), ([(0 : Int), (1 : Int), (1 : Int), (0 : Int)] : (List Int))), (("gate" : Str), (3 : Int), ([(0 : Int), (0 : Int), (0 : Int), (1 : Int), (0 : Int), (1 : Int), (1 : Int), (1 : Int)] : (List Int))), (("gate" : Str), (1 : Int), ([(1 : Int), (0 : Int)] : (List Int))), (("gate" : Str), (2 : Int), ([(0 : Int), (0 : Int), (0 : Int), (1 : Int)] : (List Int)))]) (i := d2) h2.1 (by simpa using h2.2)
    exact tt_eq e (tt_lett (hj (y, t3) (List.all_eq_true.mp hf y hy)))
end K24
end
open PySem PySem.W PyProof.Rows
set_option maxRecDepth 100000 in
set_option maxHeartbeats 0 in
theorem PySem.Challenge.cw_proofabode_k24_classes_of_gates_holds : PySem.Challenge.rw_proofabode_k24_classes_of_gates.Holds := by
  w_on; o_law; k_head; (case hw => w_witness2)
  k_fill
  refine K24.walk (l := PySem.Challenge.rw_proofabode_k24_classes_of_gates) rfl rfl rfl (by decide +kernel) (fun w h Y => PySem.W.kIn_of Y) (K24.law_end (by decide) K24.law_true) ?F
  case F =>
    intro w mg fa h KX G hmg
    refine' Exists.imp (fun t q => ⟨⟨_, rfl⟩, q.2⟩) (K24.all_mk KX G ?a0 ?l0 ?e0 ?a1 ?l1 ?e1 ?a2 ?l2 ?e2 ?a3 ?l3 ?e3 ?a4 ?l4 ?e4 ?a5 ?l5 ?e5 ?a6 ?l6 ?e6 ?a7 ?l7 ?e7 ?a8 ?l8 ?e8 ?a9 ?l9 ?e9 ?a10 ?l10 ?e10 ?a11 ?l11 ?e11 ?a12 ?l12 ?e12 ?a13 ?l13 ?e13 ?a14 ?l14 ?e14 ?a15 ?l15 ?e15 ?a16 ?l16 ?e16 ?a17 ?l17 ?e17 ?a18 ?l18 ?e18 ?z_all ?z_bool ?z_int ?z_isinstance ?z_len ?z_range ?z_set ?z_str ?z_tuple ?z_zip)
    (case a0 => k_is)
    (case l0 => k_is)
    (case e0 => k_is)
    (case a1 => k_is)
    (case l1 => k_is)
    (case e1 => k_is)
    (case a2 => k_is)
    (case l2 => k_is)
    (case e2 => k_is)
    (case a3 => k_is)
    (case l3 => k_is)
    (case e3 => k_is)
    (case a4 => k_is)
    (case l4 => k_is)
    (case e4 => k_is)
    (case a5 => k_is)
    (case l5 => k_is)
    (case e5 => k_is)
    (case a6 => k_is)
    (case l6 => k_is)
    (case e6 => k_is)
    (case a7 => k_is)
    (case l7 => k_is)
    (case e7 => k_is)
    (case a8 => k_is)
    (case l8 => k_is)
    (case e8 => k_is)
    (case a9 => k_is)
    (case l9 => k_is)
    (case e9 => k_is)
    (case a10 => k_is)
    (case l10 => k_is)
    (case e10 => k_is)
    (case a11 => k_is)
    (case l11 => k_is)
    (case e11 => k_is)
    (case a12 => k_is)
    (case l12 => k_is)
    (case e12 => k_is)
    (case a13 => k_is)
    (case l13 => k_is)
    (case e13 => k_is)
    (case a14 => k_is)
    (case l14 => k_is)
    (case e14 => k_is)
    (case a15 => k_is)
    (case l15 => k_is)
    (case e15 => k_is)
    (case a16 => k_is)
    (case l16 => k_is)
    (case e16 => k_is)
    (case a17 => k_is)
    (case l17 => k_is)
    (case e17 => k_is)
    (case a18 => k_is)
    (case l18 => k_is)
    (case e18 => k_is)
    (case z_all => k_is)
    (case z_bool => k_is)
    (case z_int => k_is)
    (case z_isinstance => k_is)
    (case z_len => k_is)
    (case z_range => k_is)
    (case z_set => k_is)
    (case z_str => k_is)
    (case z_tuple => k_is)
    (case z_zip => k_is)
